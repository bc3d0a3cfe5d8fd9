import Derived.Test.YthnefnknoahbkaaC18n24
namespace Go.Proofs.Ythnefnknoahbkaa.Q
open Go Go.RowKit
set_option linter.unusedVariables false
set_option linter.unusedSimpArgs false
set_option maxRecDepth 100000
set_option maxHeartbeats 4000000
section
variable (f:Int) (u:Int) (L:List aE) (id:Int) (st:Int) (E:aE) (ws:List X6) (done:List Xj) (e:aE) (k:Nat)
abbrev Zep:List SV:=[dI e.X4,dU e.X9]
abbrev Zeq:HS:=.live (.box 106 [dB true,dI f,dI u,.own 1 (kE false).sz 0 L.length])
abbrev Zer:HS:=.live (Xe 48 (kE false) L)
abbrev Zes:SV:=dI id
abbrev Zet:SV:=dI st
abbrev Zeu:SV:=dI E.X4
abbrev Zev:SV:=dU E.X9
abbrev Zew:HS:=.live (.box 70 [.ptr 0 0,(Zes id),(Zet st),dB true,(Zeu E),(Zev E),.own 3 (X0 false).sz 0 ws.length,.own 4 (X5 false).sz 0 done.length])
abbrev Zex:HS:=.live (Xe 116 (X0 false) ws)
abbrev Zey:HS:=.live (Xe 78 (X5 false) done)
abbrev Zez:HS:=.live (.box 48 (Zep e))
abbrev Zf0:SV:=dI (Y6 e.X9).X1.Xs
abbrev Zf1:SV:=dI (Y6 e.X9).X1.Xo
abbrev Zf2:HS:=.live (.box 42 [dI (Y6 e.X9).X3,dI (Y6 e.X9).Xt,dI (Y6 e.X9).Xy,dI (Y6 e.X9).Xb,dI (Y6 e.X9).Xv,dS (Y6 e.X9).Xc,dU (Y6 e.X9).Xk,(Zf0 e),(Zf1 e),.d (dsl false false (kE false) (Y6 e.X9).Xf),.d (dsl false false (kE false) (Y6 e.X9).Xr),.d (dsl false false (kC false) (Y6 e.X9).X7)])
abbrev Zf3:HS:=.live (Xe 116 (X0 false) ([]:List X6))
abbrev Zf4:AV:=Y3 7 (X0 false) 0 (Yy ws e.X4 k).length
abbrev Zf5:AV:=vI ((Wb ws e k:Nat):Int)
abbrev Zf6:List HS:=[(Zeq f u L),(Zer L),(Zew id st E ws done),(Zex ws),(Zey done),(Zez e),(Zf2 e),.live (Xe 116 (X0 false) (Yy ws e.X4 k))]
abbrev Zf8:DV:=.val (.int .i64 (ws.getD k Xp).X4)
abbrev Zf9:SV:=dI (ws.getD k Xp).X1.Xs
abbrev Zfa:SV:=dI (ws.getD k Xp).X1.Xo
abbrev Zfb:AV:=vI ((k+1:Nat):Int)
abbrev Zfd:List HS:=[(Zeq f u L),(Zer L),(Zew id st E ws done),(Zex ws),(Zey done),(Zez e),(Zf2 e),.live (Xe 116 (X0 false) (Yy ws e.X4 (k+1)))]
abbrev Zfe:List AV:=[pv 2 0,aa,aa,pv 5 0,pv 6 0,aa,Y3 9 (X0 false) 0 (Yy ws e.X4 (k+1)).length,vI ((Wb ws e (k+1):Nat):Int),(Zfb k)]
abbrev Zff:AV:=vB (decide (((k:Nat):Int)<((ws.length:Nat):Int)))
abbrev Zfg:List AV:=[pv 2 0,aa,aa,pv 5 0,pv 6 0,aa,Y3 7 (X0 false) 0 (Yy ws e.X4 ws.length).length,vI ((Wb ws e ws.length:Nat):Int),aa,aa,aa,aa,aa,aa,aa,aa,aa,aa,aa,aa,aa,aa,aa,aa,aa,aa,aa,aa,aa,aa,aa,aa,aa,aa,aa,aa,aa,aa,aa,aa,aa,aa,aa,aa,aa,aa,aa,aa,aa,aa,aa,aa,aa,aa,aa,aa,aa,aa,aa,aa,aa,aa,aa,aa,aa,aa,aa,aa,aa,aa,(Zff ws k)]
abbrev Zfh:List HS:=[(Zeq f u L),(Zer L),(Zew id st E ws done),(Zex ws),(Zey done),(Zez e),(Zf2 e),.live (Xe 116 (X0 false) (Yy ws e.X4 ws.length))]
abbrev Zfi:=(X6.mk e.X4 (Y6 e.X9).X1)
abbrev Zfj:HS:=.live (Xe 116 (X0 false) [(Zfi e)])
abbrev Zfk:=(Xj.mk id st (Y6 e.X9).X1)
abbrev Zfl:List AV:=[pv 2 0,aa,aa,pv 5 0,pv 6 0,aa,Y3 7 (X0 false) 0 (Yy ws e.X4 ws.length).length,vI ((Wb ws e ws.length:Nat):Int),aa,aa,aa,aa,aa,aa,aa,aa,aa,aa,aa,aa,aa,aa,aa,aa,aa,aa,aa,aa,aa,aa,aa,aa,aa,aa,aa,aa,aa,aa,aa,aa,aa,aa,aa,aa,aa,aa,aa,aa,aa,aa,aa,aa,aa,aa,aa,aa,aa,aa,aa,aa,aa,aa,aa,aa,aa,aa,aa,aa,aa,aa,(Zff ws k),aa,aa,aa,aa,aa,aa,aa,aa,aa,aa,aa,aa,aa,aa,aa,aa,aa,aa,aa,aa,aa,aa,aa,aa,aa,aa,aa,aa,aa,aa,aa,aa,aa,aa,aa,aa,aa,aa,aa,aa,aa,aa,aa,aa,aa,aa,aa,aa,aa,aa,aa,aa,aa,vB (decide (((Wb ws e ws.length:Nat):Int)≥(f+1)))]
end
theorem X63 (f:Int) (u:Int) (L:List aE) (id:Int) (st:Int) (E:aE) (ws:List X6) (done:List Xj) (e:aE) (hf:0≤f∧f≤2) (hu:0≤u∧u≤8) (hs:-9223372036854775808≤e.X4∧e.X4≤9223372036854775807) (hb:e.X9.length≤100000000) (hLl:L.length≤1000000) (hwl:ws.length≤1000000) (hdl:done.length≤1000000) (hd:Fz (Wr f u L) f id st ws e):Holds Try.prog 30 ⟨[pv 2 0,.tv (.agg [dI e.X4,dU e.X9])],[.box 106 [dB true,dI f,dI u,.own 1 (kE false).sz 0 L.length],Xe 48 (kE false) L,.box 70 [.ptr 0 0,dI id,dI st,dB true,dI E.X4,dU E.X9,.own 3 (X0 false).sz 0 ws.length,.own 4 (X5 false).sz 0 done.length],Xe 116 (X0 false) ws,Xe 78 (X5 false) done],.tup [],[.live (.box 106 [dB true,dI f,dI u,.own 1 (kE false).sz 0 L.length]),.live (Xe 48 (kE false) L),.live (.box 70 [.ptr 0 0,dI id,dI st,dB false,dI E.X4,dU E.X9,.own 5 (X0 false).sz 0 ([]:List X6).length,.own 6 (X5 false).sz 0 (done++[(Xj.mk id st (Jt e))]).length]),.dead,.dead,.live (Xe 116 (X0 false) ([]:List X6)),.live (Xe 78 (X5 false) (done++[(Xj.mk id st (Jt e))]))]⟩:=by
 refine Holds.of Try.func30 rfl (N:=151) Try.ntmps30 rfl fun w0 B0 S0 U0=>?_
 show T _ (Xz 151 5 w0 S0 U0 B0) ⟨[pv 2 0,.tv (.agg (Zep e))],[(Zeq f u L),(Zer L),(Zew id st E ws done),(Zex ws),(Zey done)]⟩ _ _
 have hol9:=X0p (ws:=ws) (s:=e.X4) (k:=ws.length)
 refine sR [] (T.seq ?_)
 by_cases hq1:(Wr f u L e)≠0
 ·exact absurd hd.1.2.1 hq1
 have g2:=Classical.not_not.1 hq1
 by_cases hq2:Vl f e.X4
 rotate_left
 ·exact absurd hd.1.1 hq2
 have g1:=hq2
 refine sD [[],[0],[0,1],[0,1,2],[],[0,1,2,3,4],[0,1,2,3,4,5],[0,1,2,3,4,5,6],[0,1,2,3,4,5,6,7],[0,1,2,3,4,5,6,7,8],[0,1,2,3,4,5,6,7,8,9],[0,1,2,3,4,5,6,7,8,9,10],[0,1,2,3,4,5,6,7],[0,1,2,3,4,5,6,7,12],[0,1,2,3,4,5,6,7,8,9,10,11,12,13],[0,1,2,3,4,5,6,7,8,9,10,11,12,13,14],[0,1,2,3,4,5,6,7,8,9,10,11,12,13,14,15],[0,1,2,3,4,5,6,7,8,9,10,11,12,13,14,15,16],[0,1,2,3,4,5,6,7,8,9,10,11,12,13,14,15,16,17],[0,1,2,3,4,5,6,7,8,9,10,11,12,13,14,15,16,17,18],[0,1,2,3,4,5,6,7,8,9,10,11,12,13,14,15,16,17,18,19],[0,1,2,3,4,5,6,7,8,9,10,11,12,13,14,15,16,17,18,19,20],[0,1,2,3,4,5,6,7,8,9,10,11,12,13,14,15,16,17,18,19,20,21],[0,1,2,3,4,5,6,7,8,9,10,11,12,13,14,15,16,17,18,19,20,21,22]] (hR 5 rfl rfl (rCa (Jg f u L false e ‹_› ‹_› ‹_› (by omega)) Try.func54 [0,1] [(.tmp 12,pv 0 0),(.tmp 13,.tv (.agg (Zep e)))] 2 2)::(Xl (hY · (dF hq1)) [8,9,10,11,12,13] (hS 14 (oY rfl rfl rfl rfl (X8 rfl) (dF hq1) (rCa (Uj f u L e.X4 ‹_› ‹_›) Try.func55 [0,1] [(.tmp 20,pv 0 0),(.tmp 22,vI e.X4)] 2 2))::(hY 15 (dF hq1)::(hP 16 (dF hq1)::(Xl (hY · (cn (dT hq2))) [18,19,20,21,22] (hP 23 (cn (dT hq2))::[]))))))) ?_
 refine cF (b:=(!true)) rfl (T.skip (nT (sR [hR 2 rfl rfl (rCa (H9 e.X9 (by omega)) Try.func14 [] [(.tmp 35,slV false false kU8 e.X9)] 0 0)] (T.seq ?_))))
 by_cases hq3:(E0 e.X9)≠0
 ·exact absurd hd.1.2.2.1 hq3
 have g3:=Classical.not_not.1 hq3
 by_cases hq4:(Y6 e.X9).X3≠8
 ·exact absurd hd.1.2.2.2.1 hq4
 have g4:=Classical.not_not.1 hq4
 by_cases hq5:(Y6 e.X9).Xb≠id
 ·exact absurd hd.1.2.2.2.2.1 hq5
 have g5:=Classical.not_not.1 hq5
 refine sD [[],[0],[0,1],[0,1,2],[0,1,2,3],[0,1,2,3,4],[0,1,2,3,4,5],[0,1,2,3,4,5,6],[0,1,2,3,4,5,6,7],[0,1,2,3,4,5,6,7,8],[0,1,2,3,4,5,6,7],[0,1,2,3,4,5,6,7,10],[0,1,2,3,4,5,6,7,10,11],[0,1,2,3,4,5,6,7,10,11,12],[0,1,2,3,4,5,6,7,8,9,10,11,12,13],[0,1,2,3,4,5,6,7,8,9,10,11,12,13,14],[0,1,2,3,4,5,6,7,8,9,10,11,12,13,14,15],[0,1,2,3,4,5,6,7,8,9,10,11,12,13,14,15,16],[0,1,2,3,4,5,6,7,8,9,10,11,12,13,14,15,16,17],[0,1,2,3,4,5,6,7,8,9,10,11,12,13,14,15,16],[0,1,2,3,4,5,6,7,8,9,10,11,12,13,14,15,16,19],[0,1,2,3,4,5,6,7,8,9,10,11,12,13,14,15,16,19,20],[0,1,2,3,4,5,6,7,8,9,10,11,12,13,14,15,16,19,20,21],[0,1,2,3,4,5,6,7,8,9,10,11,12,13,14,15,16,17,18,19,20,21,22],[0,1,2,3,4,5,6,7,8,9,10,11,12,13,14,15,16,17,18,19,20,21,22,23]] (Xl (hY · (dF hq3)) [3,4,5] (hP 6 (dF hq3)::(Xl (hY · (dF hq4)) [8,9,10,11,12,13,14] (hP 15 (dF hq4)::(Xl (hY · (dF hq5)) [17,18,19,20,21,22,23] (hP 24 (dF hq5)::[])))))) ?_
 by_cases hq6:(Y6 e.X9).Xv≠st
 ·exact absurd hd.1.2.2.2.2.2 hq6
 have hh:V1 (Wr f u L) f id st e:=⟨g1,g2,g3,g4,g5,Classical.not_not.1 hq6⟩
 refine cF (dF hq6) (T.skip (nT (sR [] (sR [] (T.seq (sR [] (T.block ?_)))))))
 refine tN ⟨[pv 2 0,.tv (.agg (Zep e)),aa,pv 5 0,pv 6 0,vI (E0 e.X9),dv (.slice none 0 0),vI 1,vI 0,aa,aa,aa,aa,aa,aa,aa,aa,aa,aa,aa,aa,aa,aa,aa,aa,aa,aa,aa,aa,aa,aa,aa,vB (!true),aa,aa,aa,aa,aa,aa,aa,aa,aa,aa,aa,aa,aa,aa,aa,aa,aa,aa,aa,aa,aa,aa,aa,aa,aa,aa,aa,aa,aa,aa,vB (decide ((Y6 e.X9).Xv≠st))],[(Zeq f u L),(Zer L),(Zew id st E ws done),(Zex ws),(Zey done),(Zez e),(Zf2 e)]⟩ ?_
 refine Vh (s':=⟨[pv 2 0,.tv (.agg (Zep e)),aa,pv 5 0,pv 6 0,vI (E0 e.X9),Y3 7 (X0 false) 0 0,vI 1,vI 0,aa,aa,aa,aa,aa,aa,aa,aa,aa,aa,aa,aa,aa,aa,aa,aa,aa,aa,aa,aa,aa,aa,aa,vB (!true),aa,aa,aa,aa,aa,aa,aa,aa,aa,aa,aa,aa,aa,aa,aa,aa,aa,aa,aa,aa,aa,aa,aa,aa,aa,aa,aa,aa,aa,aa,vB (decide ((Y6 e.X9).Xv≠st))],[(Zeq f u L),(Zer L),(Zew id st E ws done),(Zex ws),(Zey done),(Zez e),(Zf2 e),Zf3]⟩) (fun _ _ hG=>J9 7 6 116 (X0 false) rfl rfl hG) ?_
 refine T.loop (ι:=Nat) (fun (k:Nat)=>⟨[pv 2 0,aa,aa,pv 5 0,pv 6 0,aa,(Zf4 ws e k),(Zf5 ws e k),vI ((k:Nat):Int)],(Zf6 f u L id st E ws done e k)⟩) (fun (k:Nat)=>(k≤ws.length)) (fun (k:Nat)=>ws.length-k) (0) (Nat.zero_le _) (fun _ _ hG=>Yc [0,1,2,3,4,5,6,7] (bm 9 473) (t2:=[pv 2 0,aa,aa,pv 5 0,pv 6 0,aa,Y3 7 (X0 false) 0 0,vI 1,vI 0]) (h2:=[(Zeq f u L),(Zer L),(Zew id st E ws done),(Zex ws),(Zey done),(Zez e),(Zf2 e),Zf3]) (cg2 (fun (q1:Nat) (q2:Int)=>([pv 2 0,aa,aa,pv 5 0,pv 6 0,aa,Y3 7 (X0 false) 0 q1,vI q2,vI 0]:List AV)) (by rfl) (by rfl)) (congrArg (fun (q1:List X6)=>([(Zeq f u L),(Zer L),(Zew id st E ws done),(Zex ws),(Zey done),(Zez e),(Zf2 e),.live (Xe 116 (X0 false) q1)]:List HS)) (by rfl)) hG) ?_
 rintro k hk
 show T _ _ ⟨[pv 2 0,aa,aa,pv 5 0,pv 6 0,aa,(Zf4 ws e k),(Zf5 ws e k),vI ((k:Nat):Int)],(Zf6 f u L id st E ws done e k)⟩ _ _
 replace hk:k≤ws.length:=hk
 have hol:=X0p (ws:=ws) (s:=e.X4) (k:=k)
 have hcl:=Xed (ws:=ws) (e:=e) (k:=k)
 refine T.seq (sR [] ?_)
 by_cases hq7:((k:Nat):Int)<((ws.length:Nat):Int)
 ·have hkl:k<ws.length:=(by omega)
  refine cT (dT hq7) (T.skip (nT (T.seq (T.block ?_))))
  refine sD [[],[0],[0,1],[0,1,2],[],[0,1,2,3,4],[0,1,2,3,4,5],[0,1,2,3,4,5,6],[],[8],[0,1,2,3,4,5,6,7,8,9]] [hR 5 rfl rfl (Ih (k:=.i64) (l:=3) (sz:=(X0 false).sz) (off:=0) (n:=ws.length) (i:=((k:Nat):Int)) (m:=k) (o':=k*(X0 false).sz+0) Try.underlying68 Jo rfl rfl ‹_› (by simp) (X8 rfl) trivial),hR 7 rfl rfl (X2k (l:=3) (off:=k*(X0 false).sz+0) (i:=k) (j:=0) (T:=116) (sz:=(X0 false).sz) (n:=ws.length) (el:=We (X0 false) ws) (c:=(Zf8 ws k)) X91 rfl ‹_› (by decide) rfl (X8 rfl) trivial)] ?_
  by_cases hq8:(ws.getD k Xp).X4≠e.X4
  ·have ho9:=X4z hkl hq8;have ho8:=hq8
   refine cT (dT hq8) ?_
   refine sR [hR 6 rfl rfl (Ih (k:=.i64) (l:=3) (sz:=(X0 false).sz) (off:=0) (n:=ws.length) (i:=((k:Nat):Int)) (m:=k) (o':=k*(X0 false).sz+0) Try.underlying68 Jo rfl rfl ‹_› (by simp) (X8 rfl) trivial),hR 7 rfl rfl (X2j (l:=3) (off:=k*(X0 false).sz+0) (i:=k) (j:=0) (T:=116) (sz:=(X0 false).sz) (n:=ws.length) (el:=We (X0 false) ws) (ds:=[.d ((Zf8 ws k)),(Zf9 ws k),(Zfa ws k)]) Xa8 rfl ‹_› (by decide) rfl (X8 rfl) trivial),hR 8 rfl rfl (Yd 8 116 (X0 false) (W9 false) [(ws.getD k Xp)] [⟨0,.tmp 91,.agg [.d ((Zf8 ws k)),(Zf9 ws k),(Zfa ws k)],0⟩] (cs:=[.d ((Zf8 ws k)),(Zf9 ws k),(Zfa ws k)]) Try.underlying68 Jo rfl X22 rfl rfl rfl pf (Ws rfl rfl pf Wn) pZ4 (Vz pZ4) (X8 rfl) trivial),hR 9 rfl rfl (W4 7 9 116 24 (X0 false) (W9 false) (Yy ws e.X4 k) [(ws.getD k Xp)] ((Yy ws e.X4 k)++[(ws.getD k Xp)]) (Yy ws e.X4 k).length (sy:=(.own 8 (X0 false).sz 0 [(ws.getD k Xp)].length)) (rhs:=[(8,.live (Xe 116 (X0 false) [(ws.getD k Xp)]))]) X52 (by omega) (Up 8 116 (X0 false) [(ws.getD k Xp)]) p1p (by (simp [maxLen,-List.getD_eq_getElem?_getD]<;>omega)) (by (simp [maxLen,-List.getD_eq_getElem?_getD]<;>omega)) (X8 rfl) trivial)] ?_
   refine sD [[],[0],[0,1],[0,1,2],[],[0,1,2,3,4],[0,1,2,3,4,5],[0,1,2,3,4,5,6],[],[8],[0,1,2,3,4,5,6,7,8,9]] [hR 5 rfl rfl (Ih (k:=.i64) (l:=3) (sz:=(X0 false).sz) (off:=0) (n:=ws.length) (i:=((k:Nat):Int)) (m:=k) (o':=k*(X0 false).sz+0) Try.underlying68 Jo rfl rfl ‹_› (by simp) (X8 rfl) trivial),hR 7 rfl rfl (X2j (l:=3) (off:=k*(X0 false).sz+1) (i:=k) (j:=1) (T:=116) (sz:=(X0 false).sz) (n:=ws.length) (el:=We (X0 false) ws) (ds:=[(Zf9 ws k),(Zfa ws k)]) Xdc rfl ‹_› (by decide) rfl (X8 rfl) trivial),hR 10 rfl rfl (X6d (ax:=.tv (.agg [(Zf9 ws k),(Zfa ws k)])) (ay:=.tv (.agg [(Zf0 e),(Zf1 e)])) (a:=(ws.getD k Xp).X1) (b:=(Y6 e.X9).X1) Ui ⟨[.int .i64 (ws.getD k Xp).X1.Xs,.int .i64 (ws.getD k Xp).X1.Xo],rfl,rfl⟩ ⟨[.int .i64 (Y6 e.X9).X1.Xs,.int .i64 (Y6 e.X9).X1.Xo],rfl,rfl⟩ (X8 rfl) trivial)] ?_
   by_cases hq9:(ws.getD k Xp).X1=(Y6 e.X9).X1
   ·have hc9:=cntW_1 (e:=e) hkl ho8 hq9
    refine cT (dT hq9) (xK [hR 1 rfl rfl (Y9 (u1:=.int .i64 ((Wb ws e k:Nat):Int)) (u2:=.int .i64 1) (v:=.int .i64 (((Wb ws e k)+1:Nat):Int)) (W6 pZ5) (X8 rfl) ⟨rfl,trivial⟩)] (nB (nT (xK [hR 1 rfl rfl (Y9 (u1:=.int .i64 ((k:Nat):Int)) (u2:=.int .i64 1) (v:=.int .i64 ((k+1:Nat):Int)) (W6 pZ5) (X8 rfl) ⟨rfl,trivial⟩)] ?_))))
    refine nL (k+1) (show (k+1)≤ws.length from (by omega)) (show (ws.length-(k+1):Nat)<ws.length-k from (by omega)) (fun _ _ hG=>Wp [0,1,2,3,4,5,6,9] (bm 9 473) (t1:=(Zfe ws e k)) (t2:=[pv 2 0,aa,aa,pv 5 0,pv 6 0,aa,Y3 9 (X0 false) 0 ((Yy ws e.X4 k)++[(ws.getD k Xp)]).length,vI (((Wb ws e k)+1:Nat):Int),(Zfb k)]) (h1:=(Zfd f u L id st E ws done e k)) (h2:=[(Zeq f u L),(Zer L),(Zew id st E ws done),(Zex ws),(Zey done),(Zez e),(Zf2 e),.live (Xe 116 (X0 false) ((Yy ws e.X4 k)++[(ws.getD k Xp)]))]) (by have e1:((Yy ws e.X4 (k+1)).length:Nat)=((Yy ws e.X4 k)++[(ws.getD k Xp)]).length:=p41;have e2:(((Wb ws e (k+1):Nat):Int):Int)=(((Wb ws e k)+1:Nat):Int):=p43;have hE:=congr p39 e2;exact hE) p1g hG)
   have hc9:=cntW_2 (e:=e) hkl ho8 hq9
   refine cF (dF hq9) (T.skip (nB (nT (xK [hR 1 rfl rfl (Y9 (u1:=.int .i64 ((k:Nat):Int)) (u2:=.int .i64 1) (v:=.int .i64 ((k+1:Nat):Int)) (W6 pZ5) (X8 rfl) ⟨rfl,trivial⟩)] ?_))))
   refine nL (k+1) (show (k+1)≤ws.length from (by omega)) (show (ws.length-(k+1):Nat)<ws.length-k from (by omega)) (fun _ _ hG=>Wp [0,1,2,3,4,5,6,9] (bm 9 473) (t1:=(Zfe ws e k)) (t2:=[pv 2 0,aa,aa,pv 5 0,pv 6 0,aa,Y3 9 (X0 false) 0 ((Yy ws e.X4 k)++[(ws.getD k Xp)]).length,(Zf5 ws e k),(Zfb k)]) (h1:=(Zfd f u L id st E ws done e k)) (h2:=[(Zeq f u L),(Zer L),(Zew id st E ws done),(Zex ws),(Zey done),(Zez e),(Zf2 e),.live (Xe 116 (X0 false) ((Yy ws e.X4 k)++[(ws.getD k Xp)]))]) (by have e1:((Yy ws e.X4 (k+1)).length:Nat)=((Yy ws e.X4 k)++[(ws.getD k Xp)]).length:=p41;have e2:(((Wb ws e (k+1):Nat):Int):Int)=((Wb ws e k:Nat):Int):=p43;have hE:=congr p39 e2;exact hE) p1g hG)
  have ho9:=Xci hkl hq8;have hc9:=Xec (e:=e) hkl hq8
  refine cF (dF hq8) (T.skip (nB (nT (xK [hR 1 rfl rfl (Y9 (u1:=.int .i64 ((k:Nat):Int)) (u2:=.int .i64 1) (v:=.int .i64 ((k+1:Nat):Int)) (W6 pZ5) (X8 rfl) ⟨rfl,trivial⟩)] ?_))))
  refine nL (k+1) (show (k+1)≤ws.length from (by omega)) (show (ws.length-(k+1):Nat)<ws.length-k from (by omega)) (fun _ _ hG=>Yc [0,1,2,3,4,5,6,7] (bm 9 473) (t2:=[pv 2 0,aa,aa,pv 5 0,pv 6 0,aa,(Zf4 ws e k),(Zf5 ws e k),(Zfb k)]) (h2:=(Zf6 f u L id st E ws done e k)) (by have e1:((Yy ws e.X4 (k+1)).length:Nat)=(Yy ws e.X4 k).length:=p41;have e2:(((Wb ws e (k+1):Nat):Int):Int)=((Wb ws e k:Nat):Int):=p43;have hE:=congr (congrArg (fun (q1:Nat) (q2:Int)=>([pv 2 0,aa,aa,pv 5 0,pv 6 0,aa,Y3 7 (X0 false) 0 q1,vI q2,(Zfb k)]:List AV)) e1) e2;exact hE) p1g hG)
 have hke:k=ws.length:=(by omega)
 refine cF (dF hq7) (T.exit (xT (xT (xH (nT ?_)))))
 refine tN ⟨[pv 2 0,aa,aa,pv 5 0,pv 6 0,aa,(Zf4 ws e k),(Zf5 ws e k),vI ((k:Nat):Int),aa,aa,aa,aa,aa,aa,aa,aa,aa,aa,aa,aa,aa,aa,aa,aa,aa,aa,aa,aa,aa,aa,aa,aa,aa,aa,aa,aa,aa,aa,aa,aa,aa,aa,aa,aa,aa,aa,aa,aa,aa,aa,aa,aa,aa,aa,aa,aa,aa,aa,aa,aa,aa,aa,aa,aa,aa,aa,aa,aa,aa,(Zff ws k)],(Zf6 f u L id st E ws done e k)⟩ ?_
 refine Vh (s':=⟨(Zfg ws e k),(Zfh f u L id st E ws done e)⟩) (fun _ _ hG=>Yc [0,1,2,3,4,5,6,7] (bm 71 1180591620717411303641) (t2:=[pv 2 0,aa,aa,pv 5 0,pv 6 0,aa,(Zf4 ws e k),(Zf5 ws e k),aa,aa,aa,aa,aa,aa,aa,aa,aa,aa,aa,aa,aa,aa,aa,aa,aa,aa,aa,aa,aa,aa,aa,aa,aa,aa,aa,aa,aa,aa,aa,aa,aa,aa,aa,aa,aa,aa,aa,aa,aa,aa,aa,aa,aa,aa,aa,aa,aa,aa,aa,aa,aa,aa,aa,aa,aa,aa,aa,aa,aa,aa,(Zff ws k)]) (h2:=(Zf6 f u L id st E ws done e k)) (by have e1:((Yy ws e.X4 ws.length).length:Nat)=(Yy ws e.X4 k).length:=p42;have e2:(((Wb ws e ws.length:Nat):Int):Int)=((Wb ws e k:Nat):Int):=p42;have hE:=congr (congrArg (fun (q1:Nat) (q2:Int)=>([pv 2 0,aa,aa,pv 5 0,pv 6 0,aa,Y3 7 (X0 false) 0 q1,vI q2,aa,aa,aa,aa,aa,aa,aa,aa,aa,aa,aa,aa,aa,aa,aa,aa,aa,aa,aa,aa,aa,aa,aa,aa,aa,aa,aa,aa,aa,aa,aa,aa,aa,aa,aa,aa,aa,aa,aa,aa,aa,aa,aa,aa,aa,aa,aa,aa,aa,aa,aa,aa,aa,aa,aa,aa,aa,aa,aa,aa,aa,aa,(Zff ws k)]:List AV)) e1) e2;exact hE) (by have e1:((Yy ws e.X4 ws.length):List X6)=(Yy ws e.X4 k):=p42;have hE:=congrArg (fun (q1:List X6)=>([(Zeq f u L),(Zer L),(Zew id st E ws done),(Zex ws),(Zey done),(Zez e),(Zf2 e),.live (Xe 116 (X0 false) q1)]:List HS)) e1;exact hE) hG) ?_
 refine sR [hR 7 rfl rfl (Yd 8 116 (X0 false) (W9 false) [(X6.mk e.X4 (Y6 e.X9).X1)] [⟨0,.tmp 113,.agg [dI e.X4,(Zf0 e),(Zf1 e)],0⟩] (cs:=[dI e.X4,(Zf0 e),(Zf1 e)]) Try.underlying68 Jo rfl X22 rfl rfl rfl pf (Ws rfl rfl pf Wn) pZ4 (Vz pZ4) (X8 rfl) trivial),hR 8 rfl rfl (W4 7 9 116 24 (X0 false) (W9 false) (Yy ws e.X4 ws.length) [(X6.mk e.X4 (Y6 e.X9).X1)] ((Yy ws e.X4 ws.length)++[(X6.mk e.X4 (Y6 e.X9).X1)]) (Yy ws e.X4 ws.length).length (sy:=(.own 8 (X0 false).sz 0 [(Zfi e)].length)) (rhs:=[(8,(Zfj e))]) X52 (by omega) (Up 8 116 (X0 false) [(X6.mk e.X4 (Y6 e.X9).X1)]) p1p (by (simp [maxLen,-List.getD_eq_getElem?_getD]<;>omega)) (by (simp [maxLen,-List.getD_eq_getElem?_getD]<;>omega)) (X8 rfl) trivial)] ?_
 refine sR [hR 5 rfl rfl (rCa (X64 f u L ‹_› ‹_›) Try.func56 [0,1] [(.tmp 122,pv 0 0)] 2 2)] ?_
 by_cases hq10:((Wb ws e ws.length:Nat):Int)≥(f+1)
 ·refine cT (dT hq10) (sR [] (sR [] ?_))
  refine xD [[],[],[1],[1,2],[1,2,3],[],[5],[5,6],[5,6,7],[],[9],[9,10],[9,10,11],[],[13],[5,6,7,8,9,10,11,12,13,14],[5,6,7,8,9,10,11,12,13,14,15],[1,2,3,4,5,6,7,8,9,10,11,12,13,14,15,16],[0,1,2,3,4,5,6,7,8,9,10,11,12,13,14,15,16,17],[0,1,2,3,4,5,6,7,8,9,10,11,12,13,14,15,16,17,18],[0,1,2,3,4,5,6,7,8,9,10,11,12,13,14,15,16,17,18,19]] [hR 16 rfl rfl (Yd 10 78 (X5 false) (U1 false) [(Xj.mk id st (Y6 e.X9).X1)] [⟨0,.tmp 146,.agg [(Zes id),(Zet st),(Zf0 e),(Zf1 e)],0⟩] (cs:=[(Zes id),(Zet st),(Zf0 e),(Zf1 e)]) Try.underlying51 Fx rfl X4q rfl rfl rfl pf (Ws rfl rfl pf Wn) pZ4 (Vz pZ4) (X8 rfl) trivial),hR 17 rfl rfl (W4 4 11 78 32 (X5 false) (U1 false) done [(Xj.mk id st (Y6 e.X9).X1)] (done++[(Xj.mk id st (Y6 e.X9).X1)]) done.length (sy:=(.own 10 (X5 false).sz 0 [(Zfk id st e)].length)) (rhs:=[(10,.live (Xe 78 (X5 false) [(Zfk id st e)]))]) X53 (by omega) (Up 10 78 (X5 false) [(Xj.mk id st (Y6 e.X9).X1)]) p1p (by (simp [maxLen,-List.getD_eq_getElem?_getD]<;>omega)) (by (simp [maxLen,-List.getD_eq_getElem?_getD]<;>omega)) (X8 rfl) trivial)] pZ4 pZ4 pZ4 pZ4 pZ4 pZ4 ?_
  refine eN ⟨(Zfl f ws e k),[(Zeq f u L),(Zer L),.live (.box 70 [.ptr 0 0,(Zes id),(Zet st),dB false,(Zeu E),(Zev E),.d (.val (.slice none 0 0)),.own 11 (X5 false).sz 0 (done++[(Zfk id st e)]).length]),(Zex ws),.dead,(Zez e),(Zf2 e),.dead,(Zfj e),.live (Xe 116 (X0 false) ((Yy ws e.X4 ws.length)++[(Zfi e)])),.live (Xe 78 (X5 false) [(Zfk id st e)]),.live (Xe 78 (X5 false) (done++[(Zfk id st e)]))]⟩ ?_
  refine Xm (s':=⟨(Zfl f ws e k),[(Zeq f u L),(Zer L),.live (.box 70 [.ptr 0 0,(Zes id),(Zet st),dB false,(Zeu E),(Zev E),.own 12 (X0 false).sz 0 0,.own 11 (X5 false).sz 0 (done++[(Zfk id st e)]).length]),(Zex ws),.dead,(Zez e),(Zf2 e),.dead,(Zfj e),.live (Xe 116 (X0 false) ((Yy ws e.X4 ws.length)++[(Zfi e)])),.live (Xe 78 (X5 false) [(Zfk id st e)]),.live (Xe 78 (X5 false) (done++[(Zfk id st e)])),Zf3]⟩) (fun _ _ hG=>I7 12 2 6 116 (X0 false) (Tb:=70) (cs:=[.ptr 0 0,(Zes id),(Zet st),dB false,(Zeu E),(Zev E),.d (.val (.slice none 0 0)),.own 11 (X5 false).sz 0 (done++[(Zfk id st e)]).length]) rfl rfl rfl hG) ?_
  exact tE (.inr rfl) [] trivial [0,1,2,3,4,12,11] rfl rfl rfl rfl rfl rfl (ix (ix ⟨⟨rfl,(by have e1:(0:Nat)=([]:List X6).length:=(by rfl);have e2:((done++[(Xj.mk id st (Y6 e.X9).X1)]).length:Nat)=(done++[(Xj.mk id st (Jt e))]).length:=(by rfl);have hE:=congr (congrArg (fun (q1:Nat) (q2:Nat)=>(.live (.box 70 [.ptr 0 0,(Zes id),(Zet st),dB false,(Zeu E),(Zev E),.own 12 (X0 false).sz 0 q1,.own 11 (X5 false).sz 0 q2]):HS)) e1) e2;exact Eq.trans pZ4 hE)⟩,(ix ⟨⟨rfl,pZ27⟩,trivial⟩)⟩))
 exact absurd hd.2 hq10
theorem seq_78:SEq Try.prog 78 (fun x:Xj=>.agg #[.int .i64 x.Xb,.int .i64 x.Xv,.int .i64 x.X1.Xs,.int .i64 x.X1.Xo]):=seq_ofG (g:=fun x:Xj=>#[.int .i64 x.Xb,.int .i64 x.Xv,.int .i64 x.X1.Xs,.int .i64 x.X1.Xo]) (bs':=fun a b=>[decide (a.Xb=b.Xb),decide (a.Xv=b.Xv),decide (a.X1=b.X1)]) Try.underlying78 pZ4 pZ4 (fun a b=>⟨by decide,fG_sc rfl rfl (.int Try.underlying3),⟨by decide,fG_sc rfl rfl (.int Try.underlying3),⟨by decide,fG_st (us:=#[.int .i64 a.X1.Xs,.int .i64 a.X1.Xo]) (vs:=#[.int .i64 b.X1.Xs,.int .i64 b.X1.Xo]) (bs:=[decide (a.X1.Xs=b.X1.Xs),decide (a.X1.Xo=b.X1.Xo)]) iat_38 Try.underlying38 pZ4 pZ4 pZ4 ⟨by decide,⟨_,_,rfl,rfl,.int Try.underlying36⟩,⟨by decide,⟨_,_,rfl,rfl,.int Try.underlying3⟩,trivial⟩⟩ (by rw [Bool.eq_iff_iff];simp [X0e]),trivial⟩⟩⟩) (fun a b=>by rw [Bool.eq_iff_iff];simp [Xa4])
abbrev Zfm (a:List Xj) (b:List Xj):AV:=vB (decide (((a.length:Nat):Int)≠((b.length:Nat):Int)))
theorem X60 (ta:Bool) (na:Bool) (sa:Bool) (tb:Bool) (nb:Bool) (sb:Bool) (a:List Xj) (b:List Xj) (hl:a.length≤9223372036854775807):Holds Try.prog 31 ⟨[slV ta na (X5 sa) a,slV tb nb (X5 sb) b],[],vB (decide (a=b)),[]⟩:=by
 refine Holds.of Try.func31 rfl (N:=26) Try.ntmps31 rfl fun w0 B0 S0 U0=>?_
 show T _ (Xz 26 0 w0 S0 U0 B0) ⟨[slV ta na (X5 sa) a,slV tb nb (X5 sb) b],[]⟩ _ _
 refine sR [] (T.seq (sR [] ?_))
 by_cases hq1:((a.length:Nat):Int)≠((b.length:Nat):Int)
 ·refine cT (dT hq1) (sR [] (T.ret (rT ?_)))
  exact eRt 4 (.one (dB false)) [] p34 trivial
 refine cF (dF hq1) (T.skip (nT (T.seq (sR [] (T.block ?_)))))
 refine T.loop (ι:=Nat) (fun (k:Nat)=>⟨[slV ta na (X5 sa) a,slV tb nb (X5 sb) b,aa,aa,vB false,vI ((k:Nat):Int),aa,aa,aa,aa,(Zfm a b)],[]⟩) (fun (k:Nat)=>(k≤a.length)∧(a.length=b.length)∧(∀ j,j<k→a.getD j Yl=b.getD j Yl)) (fun (k:Nat)=>a.length-k) (0) ⟨(Nat.zero_le _),(by omega),(fun j hj=>absurd hj (Nat.not_lt_zero _))⟩ (fun _ _ hG=>Yc [] (bm 11 1075) rfl rfl hG) ?_
 rintro k ⟨hk,hab,hb⟩
 show T _ _ ⟨[slV ta na (X5 sa) a,slV tb nb (X5 sb) b,aa,aa,vB false,vI ((k:Nat):Int),aa,aa,aa,aa,(Zfm a b)],[]⟩ _ _
 replace hk:k≤a.length:=hk
 replace hab:a.length=b.length:=hab
 replace hb:∀ j,j<k→a.getD j Yl=b.getD j Yl:=hb
 refine T.seq (sR [] ?_)
 by_cases hq2:((k:Nat):Int)<((a.length:Nat):Int)
 ·refine cT (dT hq2) (T.skip (nT (T.seq (T.block ?_))))
  refine sD [[],[],[0,1],[0,1,2],[],[],[4,5],[4,5,6],[0,1,2,3,4,5,6,7]] [hR 2 rfl rfl (Wc ta na (X5 sa) a k (k:=.i64) (i:=((k:Nat):Int)) Try.underlying51 Fx rfl rfl (by omega) (X8 rfl) trivial),hR 6 rfl rfl (Wc tb nb (X5 sb) b k (k:=.i64) (i:=((k:Nat):Int)) Try.underlying51 Fx rfl rfl (by omega) (X8 rfl) trivial),hR 8 rfl rfl (Ji (ax:=.tv (.agg [dI (a.getD k Yl).Xb,dI (a.getD k Yl).Xv,dI (a.getD k Yl).X1.Xs,dI (a.getD k Yl).X1.Xo])) (ay:=.tv (.agg [dI (b.getD k Yl).Xb,dI (b.getD k Yl).Xv,dI (b.getD k Yl).X1.Xs,dI (b.getD k Yl).X1.Xo])) (a:=(a.getD k Yl)) (b:=(b.getD k Yl)) seq_78 ⟨[.int .i64 (a.getD k Yl).Xb,.int .i64 (a.getD k Yl).Xv,.int .i64 (a.getD k Yl).X1.Xs,.int .i64 (a.getD k Yl).X1.Xo],rfl,rfl⟩ ⟨[.int .i64 (b.getD k Yl).Xb,.int .i64 (b.getD k Yl).Xv,.int .i64 (b.getD k Yl).X1.Xs,.int .i64 (b.getD k Yl).X1.Xo],rfl,rfl⟩ (X8 rfl) trivial)] ?_
  by_cases hq3:(a.getD k Yl)≠(b.getD k Yl)
  ·refine cT (dT hq3) (sR [] (T.ret (rB (rT (rT (rB (rT ?_)))))))
   exact eRt 4 (.one (dB false)) [] (by have e1:((decide (a=b)):Bool)=false:=(by exact dF (fun e=>by have h9:a.getD k Yl≠b.getD k Yl:=‹_›;exact h9 (by rw [e])));have hE:=cB e1;exact hE) trivial
  refine cF (dF hq3) (T.skip (nB (nT (xK [hR 1 rfl rfl (Y9 (u1:=.int .i64 ((k:Nat):Int)) (u2:=.int .i64 1) (v:=.int .i64 ((k+1:Nat):Int)) (W6 pZ5) (X8 rfl) ⟨rfl,trivial⟩)] ?_))))
  refine nL (k+1) ⟨(show (k+1)≤a.length from (by omega)),(show a.length=b.length from hab),(show ∀ j,j<(k+1)→a.getD j Yl=b.getD j Yl from (Jy hb pZ21))⟩ (show (a.length-(k+1):Nat)<a.length-k from (by omega)) (fun _ _ hG=>Yc [] (bm 11 1075) rfl rfl hG)
 refine cF (dF hq2) (T.exit (xT (xT (xH (nT (sR [] (T.ret ?_)))))))
 exact eRt 4 (.one (dB true)) [] (cB (by exact dT (Xdf (z:=Yl) (k:=k) hab (by omega) hb))) trivial
abbrev Zfn:TV:=.one (dB false)
abbrev Zfo (a:List Y7) (b:List Y7):AV:=vB (decide (((a.length:Nat):Int)≠((b.length:Nat):Int)))
theorem Hf (ta:Bool) (na:Bool) (sa:Bool) (tb:Bool) (nb:Bool) (sb:Bool) (a:List Y7) (b:List Y7) (hl:a.length≤9223372036854775807):Holds Try.prog 25 ⟨[slV ta na (Y0 sa) a,slV tb nb (Y0 sb) b],[],vB (decide (a=b)),[]⟩:=by
 refine Holds.of Try.func25 rfl (N:=42) Try.ntmps25 rfl fun w0 B0 S0 U0=>?_
 show T _ (Xz 42 0 w0 S0 U0 B0) ⟨[slV ta na (Y0 sa) a,slV tb nb (Y0 sb) b],[]⟩ _ _
 refine sR [] (T.seq (sR [] ?_))
 by_cases hq1:((a.length:Nat):Int)≠((b.length:Nat):Int)
 ·refine cT (dT hq1) (sR [] (T.ret (rT ?_)))
  exact eRt 4 (Zfn) [] p34 trivial
 refine cF (dF hq1) (T.skip (nT (T.seq (sR [] (T.block ?_)))))
 refine T.loop (ι:=Nat) (fun (k:Nat)=>⟨[slV ta na (Y0 sa) a,slV tb nb (Y0 sb) b,aa,aa,vB false,vI ((k:Nat):Int),aa,aa,aa,aa,(Zfo a b)],[]⟩) (fun (k:Nat)=>(k≤a.length)∧(a.length=b.length)∧(∀ j,j<k→a.getD j Yv=b.getD j Yv)) (fun (k:Nat)=>a.length-k) (0) ⟨(Nat.zero_le _),(by omega),(fun j hj=>absurd hj (Nat.not_lt_zero _))⟩ (fun _ _ hG=>Yc [] (bm 11 1075) rfl rfl hG) ?_
 rintro k ⟨hk,hab,hb⟩
 show T _ _ ⟨[slV ta na (Y0 sa) a,slV tb nb (Y0 sb) b,aa,aa,vB false,vI ((k:Nat):Int),aa,aa,aa,aa,(Zfo a b)],[]⟩ _ _
 replace hk:k≤a.length:=hk
 replace hab:a.length=b.length:=hab
 replace hb:∀ j,j<k→a.getD j Yv=b.getD j Yv:=hb
 refine T.seq (sR [] ?_)
 by_cases hq2:((k:Nat):Int)<((a.length:Nat):Int)
 rotate_left
 ·refine cF (dF hq2) (T.exit (xT (xT (xH (nT (sR [] (T.ret ?_)))))))
  exact eRt 4 (.one (dB true)) [] (cB (by exact dT (Xdf (z:=Yv) (k:=k) hab (by omega) hb))) trivial
 refine cT (dT hq2) (T.skip (nT (T.seq (T.block ?_))))
 by_cases hq3:(a.getD k Yv).f_To≠(b.getD k Yv).f_To
 ·have h9:(a.getD k Yv)≠(b.getD k Yv):=fun w=>hq3 (by rw [w])
  refine sD [[],[],[0,1],[0,1,2],[0,1,2,3],[],[],[5,6],[5,6,7],[5,6,7,8],[0,1,2,3,4,5,6,7,8,9],[0,1,2,3,4,5,6,7,8,9,10],[0,1,2,3,4,5,6,7,8,9,10,11],[0,1,2,3,4,5,6,7,8,9,10,11],[0,1,2,3,4,5,6,7,8,9,10,11,12,13],[0,1,2,3,4,5,6,7,8,9,10,11,12,13,14],[0,1,2,3,4,5,6,7,8,9,10,11,12,13,14,15],[0,1,2,3,4,5,6,7,8,9,10,11],[0,1,2,3,4,5,6,7,8,9,10,11],[0,1,2,3,4,5,6,7,8,9,10,11,17,18],[0,1,2,3,4,5,6,7,8,9,10,11,17,18,19],[0,1,2,3,4,5,6,7,8,9,10,11,17,18,19,20],[0,1,2,3,4,5,6,7,8,9,10,11,12,13,14,15,16,17,18,19,20,21],[0,1,2,3,4,5,6,7,8,9,10,11,12,13,14,15,16,17,18,19,20,21,22],[0,1,2,3,4,5,6,7,8,9,10,11,12,13,14,15,16,17,18,19,20,21,22,23]] (hR 2 rfl rfl (Wc ta na (Y0 sa) a k (k:=.i64) (i:=((k:Nat):Int)) Try.underlying57 Fa rfl rfl (by omega) (X8 rfl) trivial)::(hR 7 rfl rfl (Wc tb nb (Y0 sb) b k (k:=.i64) (i:=((k:Nat):Int)) Try.underlying57 Fa rfl rfl (by omega) (X8 rfl) trivial)::(Xl (hN · false (dT hq3)) [12,13,14,15,16,17,18,19,20,21,22,23] (hP 24 (dT hq3)::[])))) ?_
  refine cT (b:=true) rfl (sR [] (T.ret (rB (rT (rT (rB (rT ?_)))))))
  exact eRt 4 (Zfn) [] p3i trivial
 have g1:=Classical.not_not.1 hq3
 refine sD [[],[],[0,1],[0,1,2],[0,1,2,3],[],[],[5,6],[5,6,7],[5,6,7,8],[0,1,2,3,4,5,6,7,8,9],[0,1,2,3,4,5,6,7,8,9,10],[0,1,2,3,4,5,6,7,8,9,10,11],[0,1,2,3,4,5,6,7,8,9,10,11],[0,1,2,3,4,5,6,7,8,9,10,11,12,13],[0,1,2,3,4,5,6,7,8,9,10,11,12,13,14],[0,1,2,3,4,5,6,7,8,9,10,11,12,13,14,15],[0,1,2,3,4,5,6,7,8,9,10,11],[0,1,2,3,4,5,6,7,8,9,10,11],[0,1,2,3,4,5,6,7,8,9,10,11,17,18],[0,1,2,3,4,5,6,7,8,9,10,11,17,18,19],[0,1,2,3,4,5,6,7,8,9,10,11,17,18,19,20],[0,1,2,3,4,5,6,7,8,9,10,11,12,13,14,15,16,17,18,19,20,21],[0,1,2,3,4,5,6,7,8,9,10,11,12,13,14,15,16,17,18,19,20,21,22],[0,1,2,3,4,5,6,7,8,9,10,11,12,13,14,15,16,17,18,19,20,21,22,23]] (hR 2 rfl rfl (Wc ta na (Y0 sa) a k (k:=.i64) (i:=((k:Nat):Int)) Try.underlying57 Fa rfl rfl (by omega) (X8 rfl) trivial)::(hR 7 rfl rfl (Wc tb nb (Y0 sb) b k (k:=.i64) (i:=((k:Nat):Int)) Try.underlying57 Fa rfl rfl (by omega) (X8 rfl) trivial)::(hY 12 (dF hq3)::(hY 13 (dF hq3)::(hS 14 (oY rfl rfl rfl rfl (X8 rfl) (dF hq3) (Wc ta na (Y0 sa) a k (k:=.i64) (i:=((k:Nat):Int)) Try.underlying57 Fa rfl rfl (by omega) (X8 rfl) p1n))::(Xl (hY · (dF hq3)) [15,16,17,18] (hS 19 (oY rfl rfl rfl rfl (X8 rfl) (dF hq3) (Wc tb nb (Y0 sb) b k (k:=.i64) (i:=((k:Nat):Int)) Try.underlying57 Fa rfl rfl (by omega) (X8 rfl) p1n))::(hY 20 (dF hq3)::(hY 21 (dF hq3)::(hS 22 (oY rfl rfl rfl rfl (X8 rfl) (dF hq3) (rCa (X1m sa sb (a.getD k Yv).E9 (b.getD k Yv).E9 ) Try.func16 [] [(.tmp 33,.tv (.agg [dI (a.getD k Yv).E9.X4,.d (dsl sa false kU8 (a.getD k Yv).E9.X9)])),(.tmp 38,.tv (.agg [dI (b.getD k Yv).E9.X4,.d (dsl sb false kU8 (b.getD k Yv).E9.X9)]))] 0 0))::(hY 23 (dF hq3)::(hP 24 (dF hq3)::[])))))))))))) ?_
 by_cases hq4:(a.getD k Yv).E9=(b.getD k Yv).E9
 ·have h8:(a.getD k Yv)=(b.getD k Yv):=Xc8 g1 hq4
  refine cF (cn (dT hq4)) (T.skip (nB (nT (xK [hR 1 rfl rfl (Y9 (u1:=.int .i64 ((k:Nat):Int)) (u2:=.int .i64 1) (v:=.int .i64 ((k+1:Nat):Int)) (W6 pZ5) (X8 rfl) ⟨rfl,trivial⟩)] ?_))))
  refine nL (k+1) ⟨(show (k+1)≤a.length from (by omega)),(show a.length=b.length from hab),(show ∀ j,j<(k+1)→a.getD j Yv=b.getD j Yv from (Jy hb h8))⟩ (show (a.length-(k+1):Nat)<a.length-k from (by omega)) (fun _ _ hG=>Yc [] (bm 11 1075) rfl rfl hG)
 have h9:(a.getD k Yv)≠(b.getD k Yv):=fun w=>hq4 (by rw [w])
 refine cT (cn (dF hq4)) (sR [] (T.ret (rB (rT (rT (rB (rT ?_)))))))
 exact eRt 4 (Zfn) [] p3i trivial
end Go.Proofs.Ythnefnknoahbkaa.Q
namespace Go.Proofs.Ythnefnknoahbkaa.Q
set_option linter.unusedVariables false
set_option linter.unusedSimpArgs false
set_option maxRecDepth 100000
def Jk (a:Xn):Prop:=a.Ys.length≤5000∧a.Ya.Xk.length+a.Ya.Xc.length≤1000∧a.Ya.Xf=[]∧a.Ya.Xr=[]∧a.Ya.X7=[]
def X19 (l:List Xn):Prop:=l.length≤60∧∀ a,a∈l→Jk a
instance (a:Xn):Decidable (Jk a):=inferInstanceAs (Decidable (_∧_))
instance (l:List Xn):Decidable (X19 l):=inferInstanceAs (Decidable (_∧_))
def E4 (a:Xn):Prop:=Un a.X4∧Un a.Wv∧(a.Ys.length≤140737488355328∧a.Ya.Xk.length≤140737488355328∧a.Ya.Xc.length≤140737488355328∧a.Ya.Xf.length≤140737488355328∧a.Ya.Xr.length≤140737488355328∧a.Ya.X7.length≤140737488355328)∧Un a.Ya.X1.Xs∧Un a.Ya.X1.Xo∧Un a.X1.Xs∧Un a.X1.Xo
theorem X6u {l:List Xn} {k:Nat} (hk:k<l.length) (h:¬Jk (l.getD k X2)):¬X19 l:=fun w=>h (w.2 _ (Vt hk))
theorem Xfq {l:List Xn} {k:Nat} (h1:¬((l.length:Nat):Int)>60) (hb:∀ j,j<k→Jk (l.getD j X2)) (hk:l.length≤k):X19 l:=⟨by omega,fun a ha=>by
  obtain ⟨j,hj,rfl⟩:=List.getElem_of_mem ha
  have:=hb j (by omega)
  rwa [List.getD_eq_getElem?_getD,List.getElem?_eq_getElem hj] at this⟩
theorem Fk {l:List Xn} (h:X19 l) {k:Nat} (hk:k<l.length):Jk (l.getD k X2):=h.2 _ (Vt hk)
theorem Hc (c:Int):Yr (cOf (max 1 c)) 1000:=by unfold Yr cOf;omega
theorem X49 (f u:Int) (l:List aE):Wy f u (Yt l)=Wr f u l:=funext fun e=>X8u f u l e
abbrev rep18 (y:Xn) (st:Int):aM:=⟨8,0,0,1000,st+Int.tmod y.Wv 3,[],[],y.X1,[],[],[]⟩
def Y1 (y:Xn) (st:Int):aM:=if y.X3=3 then rep18 y st else y.Ya
theorem msg_318 {y:Xn} {st:Int} (h:y.X3=3):Y1 y st=rep18 y st:=if_pos h
theorem msg_no18 {y:Xn} {st:Int} (h:¬y.X3=3):Y1 y st=y.Ya:=if_neg h
def Xbh (y:Xn) (st:Int):aE:=⟨y.X4,Yh (Y1 y st)⟩
theorem X25 (a:Int):-2≤a.tmod 3∧a.tmod 3≤2:=by
  rcases Int.le_total 0 a with h|h
  · rw [Int.tmod_eq_emod_of_nonneg h];omega
  · have e:a.tmod 3=-((-a).tmod 3):=by rw [Int.neg_tmod,Int.neg_neg]
    rw [e,Int.tmod_eq_emod_of_nonneg (by omega)];omega
def U4 (y:Xn):Prop:=y.X3=2∨y.X3=3
instance (y:Xn):Decidable (U4 y):=inferInstanceAs (Decidable (_∨_))
def Ef (y:Xn):Prop:=y.X3=0∧¬((y.Ys.length:Nat):Int)>4096
instance (y:Xn):Decidable (Ef y):=inferInstanceAs (Decidable (_∧_))
def Wh (f u:Int) (L:List aE) (y:Xn) (st:Int):List aE:=if y.Yn=true then L else Wz f u L y.X4 (Yh (Y1 y st))
theorem Xde {f u st:Int} {L:List aE} {y:Xn} (h:y.Yn=true):Wh f u L y st=L:=if_pos h
theorem Xah {f u st:Int} {L:List aE} {y:Xn} (h:¬y.Yn=true):Wh f u L y st=Wz f u L y.X4 (Yh (Y1 y st)):=if_neg h
theorem Eg (f u:Int) (L:List aE) (y:Xn) (st:Int):(Wh f u L y st).length≤L.length+1:=by
  unfold Wh;split
  · omega
  · exact X80 _ _ _ _ _
def Yj (f u:Int) (L:List aE) (y:Xn) (st:Int):List aE:=if U4 y then Wh f u L y st else L
theorem Xf8 (f u:Int) (L:List aE) (y:Xn) (st:Int):(Yj f u L y st).length≤L.length+1:=by
  unfold Yj;split
  · exact Eg _ _ _ _ _
  · omega
theorem X0m {f u st:Int} {L:List aE} {y:Xn} (h:U4 y):Yj f u L y st=Wh f u L y st:=if_pos h
theorem Fh {f u st:Int} {L:List aE} {y:Xn} (h:¬U4 y):Yj f u L y st=L:=if_neg h
def U9 (f u:Int) (L:List aE) (y:Xn) (st:Int):List aE:=Wz f u L 1000 (Yh (Yi 1000 (st+1) y.Ys))
def Wt (f u:Int) (y:Xn) (st:Int):aE:=W2 f u 1000 (Yh (Yi 1000 (st+1) y.Ys))
def CL18 (f u:Int) (L:List aE) (y:Xn) (st:Int):aE→Int:=Wr f u (Wh f u L y st)
def V0 (f u:Int) (L:List aE) (st:Int) (told:Vd) (y:Xn):Vd:=if U4 y then Id (CL18 f u L y st) f 1000 st told (Xbh y st) else told
def Wu (f u:Int) (L:List aE) (st:Int) (ws:List X6) (y:Xn):List X6:=if U4 y then Uo (CL18 f u L y st) f 1000 st ws (Xbh y st) else ws
def It (f u:Int) (L:List aE) (st:Int) (told:Vd) (y:Xn):Prop:=U4 y∧Fb (CL18 f u L y st) f 1000 st told (Xbh y st)
instance (f u:Int) (L:List aE) (st:Int) (told:Vd) (y:Xn):Decidable (It f u L st told y):=inferInstanceAs (Decidable (_∧_))
def Ua (st:Int) (y:Xn):Xj:=⟨1000,st,Jt (Xbh y st)⟩
section
variable {f u st:Int} {L:List aE} {y:Xn} {told:Vd} {ws:List X6}
theorem Xc3 (h:¬U4 y):V0 f u L st told y=told:=if_neg h
theorem Xa9 (h:U4 y):Id (Wy f u (Yt (Wh f u L y st))) f 1000 st told ⟨y.X4,Yh (Y1 y st)⟩=V0 f u L st told y:=by
  unfold V0 CL18;rw [if_pos h,X49];rfl
theorem X1g (h:¬U4 y):Wu f u L st ws y=ws:=if_neg h
theorem X3v (h:U4 y):Uo (Wr f u (Wh f u L y st)) f 1000 st ws ⟨y.X4,Yh (Y1 y st)⟩=Wu f u L st ws y:=by
  unfold Wu CL18;rw [if_pos h];rfl
theorem Xea (h:U4 y):Fb (Wy f u (Yt (Wh f u L y st))) f 1000 st told ⟨y.X4,Yh (Y1 y st)⟩↔It f u L st told y:=by
  rw [X49];exact ⟨fun w=>⟨h,w⟩,fun w=>w.2⟩
theorem Xe9 (h:U4 y) (hR:Vj told ws):Fz (Wr f u (Wh f u L y st)) f 1000 st ws ⟨y.X4,Yh (Y1 y st)⟩↔It f u L st told y :=
  ⟨fun w=>⟨h,(Xdh hR).2 w⟩,fun w=>(Xdh hR).1 w.2⟩
theorem X5z (hR:Vj told ws):Vj (V0 f u L st told y) (Wu f u L st ws y):=by
  unfold V0 Wu;split
  · exact rel_told hR
  · exact hR
theorem X5d:(V0 f u L st told y).length≤told.length+1:=by
  unfold V0;split
  · unfold Id;split
    · exact X1r _ _ _
    · omega
  · omega
theorem X5a:(Wu f u L st ws y).length≤ws.length+1:=by
  unfold Wu;split
  · unfold Uo;split
    · unfold X33;rw [List.length_append,List.length_singleton];have:=X0p (ws:=ws) (s:=(Xbh y st).X4) (k:=ws.length);omega
    · omega
  · omega
end
theorem Xe7 {y:Xn} (h:Jk y) (st:Int):(Xq (Y1 y st) 9).length≤3000:=by
  have h2:(W5 ([]:List aE)).length=4:=by rw [Hl];rfl
  have h3:(Jl ([]:List aC)).length=4:=by rw [X0v];rfl
  unfold Y1
  split
  · have h1:=X1z (rep18 y st)
    simp only [h2,h3,List.length_nil] at h1
    omega
  · have h1:=X1z y.Ya
    obtain ⟨_,a2,a3,a4,a5⟩:=h
    rw [a3,a4,a5,h2,h3] at h1
    omega
theorem V2 {y:Xn} (h:Jk y) (st:Int):(Xq (Y1 y st) 9).length≤1000000000∧(Y1 y st).Xf.length≤9223372036854775807∧(Y1 y st).Xr.length≤9223372036854775807∧(Y1 y st).X7.length≤9223372036854775807∧(Y1 y st).Xk.length≤9223372036854775807∧(Y1 y st).Xc.length≤9223372036854775807:=by
  have h1:=Xe7 h st
  refine ⟨by omega,?_⟩
  unfold Y1
  obtain ⟨_,a2,a3,a4,a5⟩:=h
  split
  · exact ⟨Nat.zero_le _,Nat.zero_le _,Nat.zero_le _,Nat.zero_le _,Nat.zero_le _⟩
  · rw [a3,a4,a5];exact ⟨Nat.zero_le _,Nat.zero_le _,Nat.zero_le _,by omega,by omega⟩
theorem X2s {y:Xn} (h:Jk y) (st:Int):(Yh (Y1 y st)).length≤3000:=Nat.le_trans (Xbj _) (Xe7 h st)
theorem X35 {f u:Int} {y:Xn} {st:Int} (h:Yr u 1000) (hs:Ef y):Wt f u y st=⟨1000,Yh (Yi 1000 (st+1) y.Ys)⟩:=by
  have h1:=Fg 1000 (st+1) y.Ys hs.2
  have h2:Ix f u 1000 (Yh (Yi 1000 (st+1) y.Ys))=0:=by
    unfold Ix;rw [if_pos (.inr h),if_neg (by omega)]
  unfold Wt W2;rw [if_pos h2]
end Go.Proofs.Ythnefnknoahbkaa.Q
namespace Go.Proofs.Ythnefnknoahbkaa.Q
open Go Go.RowKit
set_option linter.unusedVariables false
set_option linter.unusedSimpArgs false
set_option maxRecDepth 100000
set_option maxHeartbeats 4000000
theorem Jr:Try.prog.info? 44=some Try.t44:=by kernel_rfl
abbrev Zfp:TV:=.one (dB false)
abbrev Zfq (l:List Xn):AV:=vB (decide (((l.length:Nat):Int)>60))
theorem X0r (tl:Bool) (nl:Bool) (sl_:Bool) (l:List Xn) (hl:l.length≤9223372036854775807) (hr:∀ a,a∈l→E4 a):Holds Try.prog 7 ⟨[slV tl nl (Y2 sl_) l],[],vB (decide (X19 l)),[]⟩:=by
 refine Holds.of Try.func7 rfl (N:=50) Try.ntmps7 rfl fun w0 B0 S0 U0=>?_
 show T _ (Xz 50 0 w0 S0 U0 B0) ⟨[slV tl nl (Y2 sl_) l],[]⟩ _ _
 refine sR [] (T.seq (sR [] ?_))
 by_cases hq1:((l.length:Nat):Int)>60
 ·have hno:¬X19 l:=(fun w=>by have h9:=w.1;omega)
  refine cT (dT hq1) (sR [] (T.ret (rT ?_)))
  exact eRt 2 (Zfp) [] (cB (by exact dF hno)) trivial
 have hl60:=hq1
 refine cF (dF hq1) (T.skip (nT (T.seq (sR [] (T.block ?_)))))
 refine T.loop (ι:=Nat) (fun (k:Nat)=>⟨[slV tl nl (Y2 sl_) l,aa,vB false,vI ((k:Nat):Int),aa,aa,aa,(Zfq l)],[]⟩) (fun (k:Nat)=>(k≤l.length)∧(∀ j,j<k→Jk (l.getD j X2))) (fun (k:Nat)=>l.length-k) (0) ⟨(Nat.zero_le _),(fun j hj=>absurd hj (Nat.not_lt_zero _))⟩ (fun _ _ hG=>Yc [] (bm 8 141) rfl rfl hG) ?_
 rintro k ⟨hk,hb⟩
 show T _ _ ⟨[slV tl nl (Y2 sl_) l,aa,vB false,vI ((k:Nat):Int),aa,aa,aa,(Zfq l)],[]⟩ _ _
 replace hk:k≤l.length:=hk
 replace hb:∀ j,j<k→Jk (l.getD j X2):=hb
 refine T.seq (sR [] ?_)
 by_cases hq2:((k:Nat):Int)<((l.length:Nat):Int)
 rotate_left
 ·have hyes:=Xfq hl60 hb (by omega)
  refine cF (dF hq2) (T.exit (xT (xT (xH (nT (sR [] (T.ret ?_)))))))
  exact eRt 2 (.one (dB true)) [] (cB (by exact dT hyes)) trivial
 have hr9:=hr _ (Vt (z:=X2) (show k<l.length by omega));obtain ⟨_,_,⟨hr1,hr2,hr3,hr4,hr5,hr6⟩,_⟩:=hr9
 refine cT (dT hq2) (T.skip (nT (T.seq (T.block (sR [hR 2 rfl rfl (Wc tl nl (Y2 sl_) l k (k:=.i64) (i:=((k:Nat):Int)) Try.underlying24 Jr rfl rfl (by omega) (X8 rfl) trivial)] ?_)))))
 by_cases hq3:(((l.getD k X2).Ys.length:Nat):Int)>5000
 ·have hno:=X6u (l:=l) (k:=k) (by omega) (fun w=>by have h9:=w.1;omega)
  refine sR (hR 2 rfl rfl (Wc tl nl (Y2 sl_) l k (k:=.i64) (i:=((k:Nat):Int)) Try.underlying24 Jr rfl rfl (by omega) (X8 rfl) trivial)::(Xl (hN · false (dT hq3)) [8,9,10,11,12,13,14,15] (hP 16 (dT hq3)::(Xl hN0 [18,19,20,21,22,23,24,25,26,27,28,29] (hP1 30::[]))))) (cT (b:=true) rfl (sR [] (T.ret (rB (rT (rT (rB (rT ?_))))))))
  exact eRt 2 (Zfp) [] (cB (by exact dF hno)) trivial
 have h10:=hq3
 by_cases hq4:(((l.getD k X2).Ya.Xk.length+(l.getD k X2).Ya.Xc.length:Nat):Int)>1000
 ·have hno:=X6u (l:=l) (k:=k) (by omega) (fun w=>by have h9:=w.2.1;omega)
  refine sR (hR 2 rfl rfl (Wc tl nl (Y2 sl_) l k (k:=.i64) (i:=((k:Nat):Int)) Try.underlying24 Jr rfl rfl (by omega) (X8 rfl) trivial)::(Xl (hY · (dF hq3)) [8,9,10,11,12,13] (hS 14 (oY rfl rfl rfl rfl (X8 rfl) (dF hq3) (Y9 (u1:=.int .i64 (((l.getD k X2).Ya.Xk.length:Nat):Int)) (u2:=.int .i64 (((l.getD k X2).Ya.Xc.length:Nat):Int)) (v:=.int .i64 (((l.getD k X2).Ya.Xk.length+(l.getD k X2).Ya.Xc.length:Nat):Int)) (W6 pZ5) (X8 rfl) p1n))::(hY 15 (dF hq3)::(hP 16 (dF hq3)::(Xl (hN · false (dT hq4)) [18,19,20,21,22,23,24,25,26,27,28,29] (hP 30 (dT hq4)::[]))))))) (cT (b:=true) rfl (sR [] (T.ret (rB (rT (rT (rB (rT ?_))))))))
  exact eRt 2 (Zfp) [] (cB (by exact dF hno)) trivial
 have h11:=hq4
 refine sR (hR 2 rfl rfl (Wc tl nl (Y2 sl_) l k (k:=.i64) (i:=((k:Nat):Int)) Try.underlying24 Jr rfl rfl (by omega) (X8 rfl) trivial)::(Xl (hY · (dF hq3)) [8,9,10,11,12,13] (hS 14 (oY rfl rfl rfl rfl (X8 rfl) (dF hq3) (Y9 (u1:=.int .i64 (((l.getD k X2).Ya.Xk.length:Nat):Int)) (u2:=.int .i64 (((l.getD k X2).Ya.Xc.length:Nat):Int)) (v:=.int .i64 (((l.getD k X2).Ya.Xk.length+(l.getD k X2).Ya.Xc.length:Nat):Int)) (W6 pZ5) (X8 rfl) p1n))::(hY 15 (dF hq3)::(hP 16 (dF hq3)::(Xl (hY · (dF hq4)) [18,19,20,21,22,23] (hS 24 (oY rfl rfl rfl rfl (X8 rfl) (dF hq4) (Y9 (u1:=.int .i64 (((l.getD k X2).Ya.Xf.length:Nat):Int)) (u2:=.int .i64 (((l.getD k X2).Ya.Xr.length:Nat):Int)) (v:=.int .i64 (((l.getD k X2).Ya.Xf.length+(l.getD k X2).Ya.Xr.length:Nat):Int)) (W6 pZ5) (X8 rfl) p1n))::(Xl (hY · (dF hq4)) [25,26,27] (hS 28 (oY rfl rfl rfl rfl (X8 rfl) (dF hq4) (Y9 (u1:=.int .i64 (((l.getD k X2).Ya.Xf.length+(l.getD k X2).Ya.Xr.length:Nat):Int)) (u2:=.int .i64 (((l.getD k X2).Ya.X7.length:Nat):Int)) (v:=.int .i64 ((((l.getD k X2).Ya.Xf.length+(l.getD k X2).Ya.Xr.length)+(l.getD k X2).Ya.X7.length:Nat):Int)) (W6 pZ5) (X8 rfl) p1n))::(hY 29 (dF hq4)::(hP 30 (dF hq4)::[]))))))))))) ?_
 by_cases hq5:((((l.getD k X2).Ya.Xf.length+(l.getD k X2).Ya.Xr.length)+(l.getD k X2).Ya.X7.length:Nat):Int)>0
 ·have hno:=X6u (l:=l) (k:=k) (by omega) (fun w=>by have h9:=hq5;rw [w.2.2.1,w.2.2.2.1,w.2.2.2.2] at h9;exact absurd h9 (by decide))
  refine cT (dT hq5) (sR [] (T.ret (rB (rT (rT (rB (rT ?_)))))))
  exact eRt 2 (Zfp) [] (cB (by exact dF hno)) trivial
 have h12:Jk (l.getD k X2):=⟨by omega,by omega,List.eq_nil_of_length_eq_zero (by omega),List.eq_nil_of_length_eq_zero (by omega),List.eq_nil_of_length_eq_zero (by omega)⟩
 refine cF (dF hq5) (T.skip (nB (nT (xK [hR 1 rfl rfl (Y9 (u1:=.int .i64 ((k:Nat):Int)) (u2:=.int .i64 1) (v:=.int .i64 ((k+1:Nat):Int)) (W6 pZ5) (X8 rfl) ⟨rfl,trivial⟩)] ?_))))
 refine nL (k+1) ⟨(show (k+1)≤l.length from (by omega)),(show ∀ j,j<(k+1)→Jk (l.getD j X2) from (Jy hb h12))⟩ (show (l.length-(k+1):Nat)<l.length-k from (by omega)) (fun _ _ hG=>Yc [] (bm 8 141) rfl rfl hG)
theorem iat_31:Try.prog.info? 31=some Try.t31:=by kernel_rfl
theorem wide_31:Wide Try.prog 31 (some 4):=⟨_,_,Try.underlying31,.inl ⟨_,rfl⟩,iat_31,rfl⟩
theorem Hw (x:Yx):Holds Try.prog 8 ⟨[.tv (.agg [dI x.Wj,dI x.Xg])],[],.tv (.agg [.ptr 0 0,.ptr 5 0,.ptr 2 0,.ptr 7 0]),[.live (.box 99 [dI (3*(fOf x.Wj)+1),dI (cOf (max 1 x.Xg)),.mref 1]),.live (mpK Xa Y5 ([]:List (Xw×Bool))),.live (.box 82 [.ptr 0 0,dI 1000,dI 0,.d (.val (.pointer none)),.mref 3,.own 4 (X5 false).sz 0 ([]:List Xj).length]),.live (mpK (W0 .i64) (Xi false) ([]:List (Int×Xd))),.live (Xe 78 (X5 false) ([]:List Xj)),.live (.box 106 [dB true,dI (fOf x.Wj),dI (cOf (max 1 x.Xg)),.own 6 (kE false).sz 0 ([]:List aE).length]),.live (Xe 48 (kE false) ([]:List aE)),.live (.box 70 [.ptr 5 0,dI 1000,dI 0,dB false,dI zE.X4,dU zE.X9,.own 8 (X0 false).sz 0 ([]:List X6).length,.own 9 (X5 false).sz 0 ([]:List Xj).length]),.live (Xe 116 (X0 false) ([]:List X6)),.live (Xe 78 (X5 false) ([]:List Xj))]⟩:=by
 refine Holds.of Try.func8 rfl (N:=24) Try.ntmps8 rfl fun w0 B0 S0 U0=>?_
 show T _ (Xz 24 0 w0 S0 U0 B0) ⟨[.tv (.agg [dI x.Wj,dI x.Xg])],[]⟩ _ _
 have hfx:=X3o x.Wj
 have hux:=X3t (max 1 x.Xg)
 have hcl:=Hc x.Xg
 refine sR [] (sR [hR 2 rfl rfl (Er (k:=.i64) (a:=1) (b:=x.Xg) (X8 rfl) ⟨rfl,trivial⟩)] ?_)
 refine sD [[],[0],[],[0,1,2],[],[4],[],[0,1,2,3,4,5,6],[0,1,2,3,4,5,6,7],[0,1,2,3,4,5,6,7,8]] [hR 3 rfl rfl (rCa (X3u x.Wj (max 1 x.Xg) ) Try.func19 [2,3] [(.tmp 10,vI x.Wj),(.tmp 11,vI (max 1 x.Xg))] 0 2),hR 7 rfl rfl (rCa (Xf7 x.Wj (max 1 x.Xg) ) Try.func22 [4,5] [(.tmp 14,vI x.Wj),(.tmp 15,vI (max 1 x.Xg))] 0 2)] ?_
 by_cases hq1:Yr (cOf (max 1 x.Xg)) 1000
 ·refine sR [hR 3 rfl rfl (rCa (X71 (fOf x.Wj) (cOf (max 1 x.Xg)) ([]:List (Xw×Bool)) 1000 ‹_› ‹_› (by omega) ‹_›) Try.func18 [2,3,6,7,8] [(.tmp 19,pv 2 0),(.const (.int .i64 1000),vI 1000)] 2 5),hR 5 rfl rfl (rCa (Xf5 (fOf x.Wj) (cOf (max 1 x.Xg)) ([]:List aE) 1000 ‹_› ‹_› (by omega) ‹_›) Try.func23 [4,5,9,10,11] [(.tmp 21,pv 4 0),(.const (.int .i64 1000),vI 1000)] 2 5)] (T.ret ?_)
  exact eX [.c 2 1 31 0 31 [.ptr 2 0,.ptr 4 0,.ptr 6 0,.ptr 9 0] (.agg [.ptr 2 0,.ptr 4 0,.ptr 6 0,.ptr 9 0])] ⟨⟨rfl,rfl,by kernel_rfl,by kernel_rfl,.inl ⟨4,wide_31,rfl,Nat.le_of_ble_eq_true rfl⟩⟩,trivial⟩ [2,3,6,7,8,4,5,9,10,11] rfl (ix (ix (ix (ix (ix (ix (ix (ix (ix (ix trivial))))))))))
 exact absurd (Hc _) hq1
section
variable (f:Int) (u:Int) (rows:List (Xw×Bool)) (L:List aE) (st:Int) (told:List (Int×Xd)) (ws:List X6) (done:List Xj) (RE:aE) (y:Xn)
abbrev Zfr:AV:=.tv (.agg [.ptr 0 0,.ptr 5 0,.ptr 2 0,.ptr 7 0])
abbrev Zfs:List SV:=[dI y.X3,dI y.X4,dI y.Wv,dU y.Ys,dI y.Ya.X3,dI y.Ya.Xt,dI y.Ya.Xy,dI y.Ya.Xb,dI y.Ya.Xv,dS y.Ya.Xc,dU y.Ya.Xk,dI y.Ya.X1.Xs,dI y.Ya.X1.Xo,.d (dsl false false (kE false) y.Ya.Xf),.d (dsl false false (kE false) y.Ya.Xr),.d (dsl false false (kC false) y.Ya.X7),dI y.X1.Xs,dI y.X1.Xo,dB y.Yn]
abbrev Zft:HS:=.live (.box 99 [dI (3*f+1),dI u,.mref 1])
abbrev Zfu:HS:=.live (mpK Xa Y5 rows)
abbrev Zfv:SV:=dI 1000
abbrev Zfw:HS:=.live (.box 82 [.ptr 0 0,Zfv,dI st,.d (.val (.pointer none)),.mref 3,.own 4 (X5 false).sz 0 done.length])
abbrev Zfx:HS:=.live (mpK (W0 .i64) (Xi false) told)
abbrev Zfy:HS:=.live (Xe 78 (X5 false) done)
abbrev Zfz:HS:=.live (.box 106 [dB true,dI f,dI u,.own 6 (kE false).sz 0 L.length])
abbrev Zg0:HObj:=Xe 48 (kE false) L
abbrev Zg1:HS:=.live ((Zg0 L))
abbrev Zg2:HS:=.live (.box 70 [.ptr 5 0,Zfv,dI st,dB false,dI RE.X4,dU RE.X9,.own 8 (X0 false).sz 0 ws.length,.own 9 (X5 false).sz 0 done.length])
abbrev Zg3:HS:=.live (Xe 116 (X0 false) ws)
abbrev Zg4:AV:=slV false false (Y0 false) ([]:List Y7)
abbrev Zg5:AV:=vB (decide (y.X3=0))
abbrev Zg6:List AV:=[Zfr,.tv (.agg (Zfs y)),pv 10 0,pv 11 0,vB true,Zg4,vI 11,Zg4,vI 11,aa,aa,aa,vI y.X3,(Zg5 y)]
abbrev Zg7:HS:=.live (.box 31 [.ptr 0 0,.ptr 5 0,.ptr 2 0,.ptr 7 0])
abbrev Zg8:HS:=.live (.box 44 (Zfs y))
abbrev Zg9:HS:=.live (.box 106 [dB true,dI f,dI u,.own 14 (kE false).sz 0 L.length])
abbrev Zga:TV:=.one (dB true)
abbrev Zgb:List AV:=[Zfr,.tv (.agg (Zfs y)),pv 10 0,pv 11 0,vB (decide (([]:List Y7)=([]:List Y7))),aa,aa,aa,aa,aa,aa,aa,vI y.X3,(Zg5 y),aa,aa,aa,aa,aa,aa,aa,aa,aa,aa,aa,aa,aa,aa,aa,aa,aa,aa,aa,aa,aa,aa,aa,aa,aa,aa,aa,vB (decide (y.X3=1))]
abbrev Zgc:List HS:=[(Zft f u),(Zfu rows),(Zfw st done),(Zfx told),(Zfy done),(Zfz f u L),(Zg1 L),(Zg2 st ws done RE),(Zg3 ws),(Zfy done),Zg7,(Zg8 y)]
abbrev Zgd:HS:=.live (.box 106 [dB true,dI f,dI u,.own 12 (kE false).sz 0 L.length])
abbrev Zge:List AV:=[aa,aa,pv 10 0,pv 11 0,vB false,aa,aa,aa,aa,aa,aa,aa,aa,aa,aa,aa,aa,aa,aa,aa,aa,aa,aa,aa,aa,aa,aa,aa,aa,aa,aa,aa,aa,aa,aa,aa,aa,aa,aa,aa,aa,aa,aa,aa,aa,aa,aa,aa,aa,aa,vB (decide (U4 y))]
abbrev Zgf:List AV:=[aa,aa,pv 10 0,pv 11 0,vB false,aa,aa,aa,aa,pv 12 0]
abbrev Zgg:List SV:=[dI (Y1 y st).X3,dI (Y1 y st).Xt,dI (Y1 y st).Xy,dI (Y1 y st).Xb,dI (Y1 y st).Xv,dS (Y1 y st).Xc,dU (Y1 y st).Xk,dI (Y1 y st).X1.Xs,dI (Y1 y st).X1.Xo,.d (dsl false false (kE false) (Y1 y st).Xf),.d (dsl false false (kE false) (Y1 y st).Xr),.d (dsl false false (kC false) (Y1 y st).X7)]
abbrev Zgh:HS:=.live (.box 42 (Zgg st y))
abbrev Zgi:List HS:=[(Zft f u),(Zfu rows),(Zfw st done),(Zfx told),(Zfy done),(Zfz f u L),(Zg1 L),(Zg2 st ws done RE),(Zg3 ws),(Zfy done),Zg7,(Zg8 y),(Zgh st y)]
abbrev Zgj:List AV:=[aa,aa,pv 10 0,pv 11 0,vB false,aa,aa,aa,aa,pv 12 0,aa,aa,aa,aa,aa,aa,aa,aa,aa,aa,aa,aa,aa,aa,aa,aa,aa,aa,aa,aa,aa,aa,aa,aa,aa,aa,aa,aa,aa,aa,aa,aa,aa,aa,aa,aa,aa,aa,aa,aa,vB (decide (U4 y)),aa,aa,aa,aa,aa,aa,vB (decide (y.X3=3))]
abbrev Zgk:SV:=.d (.val (.slice none 0 0))
abbrev Zgl:HS:=.live (.box 42 [dI 8,dI 0,dI 0,Zfv,dI (st+(Int.tmod y.Wv 3)),dS [],Zgk,dI y.X1.Xs,dI y.X1.Xo,Zgk,Zgk,Zgk])
abbrev Zgm:HS:=.live (.box 42 [dI 8,dI 0,dI 0,Zfv,dI (st+(Int.tmod y.Wv 3)),dS [],dU ([]:List UInt8),dI y.X1.Xs,dI y.X1.Xo,.d (dsl false false (kE false) ([]:List aE)),.d (dsl false false (kE false) ([]:List aE)),.d (dsl false false (kC false) ([]:List aC))])
abbrev Zgn:HS:=.live (.box 42 [dI y.Ya.X3,dI y.Ya.Xt,dI y.Ya.Xy,dI y.Ya.Xb,dI y.Ya.Xv,dS y.Ya.Xc,dU y.Ya.Xk,dI y.Ya.X1.Xs,dI y.Ya.X1.Xo,.d (dsl false false (kE false) y.Ya.Xf),.d (dsl false false (kE false) y.Ya.Xr),.d (dsl false false (kC false) y.Ya.X7)])
abbrev Zgo:List AV:=[aa,aa,pv 10 0,pv 11 0,vB false,aa,aa,aa,aa,pv 12 0,pv 13 0]
abbrev Zgp:List SV:=[dI y.X4,dU (Yh (Y1 y st))]
abbrev Zgq:HS:=.live (.box 48 (Zgp st y))
abbrev Zgr:List HS:=[(Zft f u),.live (mpK Xa Y5 (Yt (Wh f u L y st))),(Zfw st done),(Zfx told),(Zfy done),.live (.box 106 [dB true,dI f,dI u,.own 14 (kE false).sz 0 (Wh f u L y st).length]),.dead,(Zg2 st ws done RE),(Zg3 ws),(Zfy done),Zg7,(Zg8 y),(Zgh st y),(Zgq st y),.live (Xe 48 (kE false) (Wh f u L y st))]
abbrev Zgs:List AV:=[aa,aa,pv 10 0,pv 11 0,vB false,aa,aa,aa,aa,pv 12 0,pv 13 0,aa,aa,aa,aa,aa,aa,aa,aa,aa,aa,aa,aa,aa,aa,aa,aa,aa,aa,aa,aa,aa,aa,aa,aa,aa,aa,aa,aa,aa,aa,aa,aa,aa,aa,aa,aa,aa,aa,aa,aa,aa,aa,aa,aa,aa,aa,aa,aa,aa,aa,aa,aa,aa,aa,aa,aa,aa,aa,aa,aa,aa,aa,aa,aa,aa,aa,vB (!y.Yn)]
abbrev Zgt:List HS:=[(Zft f u),.live (mpK Xa Y5 (Ik f u rows y.X4 (Yh (Y1 y st)))),(Zfw st done),(Zfx told),(Zfy done),.live (.box 106 [dB true,dI f,dI u,.own 14 (kE false).sz 0 (Wz f u L y.X4 (Yh (Y1 y st))).length]),.dead,(Zg2 st ws done RE),(Zg3 ws),(Zfy done),Zg7,(Zg8 y),(Zgh st y),(Zgq st y),.live (Xe 48 (kE false) (Wz f u L y.X4 (Yh (Y1 y st))))]
abbrev Zgu:List AV:=[aa,aa,pv 10 0,pv 11 0,vB true,aa,aa,aa,aa,aa,aa,aa,aa,aa,aa,aa,aa,aa,aa,aa,aa,aa,aa,aa,aa,aa,aa,aa,aa,aa,aa,aa,aa,aa,aa,aa,aa,aa,aa,aa,aa,aa,aa,aa,aa,aa,aa,aa,aa,aa,vB (decide (U4 y))]
end
theorem X1s (f:Int) (u:Int) (rows:List (Xw×Bool)) (L:List aE) (st:Int) (told:List (Int×Xd)) (ws:List X6) (done:List Xj) (RE:aE) (y:Xn) (hf:0≤f∧f≤2) (hu:0≤u∧u≤8) (hrl:rows=Yt L) (hLl:L.length≤100000) (hst:0≤st∧st≤100000) (htl:told.length≤100000) (hwl:ws.length≤100000) (hdl:done.length≤100000) (hrw:Vj told ws) (hc:Yr u 1000) (hy:E4 y) (hf9:Jk y) (hsb:¬Ef y):Holds Try.prog 9 ⟨[.tv (.agg [.ptr 0 0,.ptr 5 0,.ptr 2 0,.ptr 7 0]),.tv (.agg [dI y.X3,dI y.X4,dI y.Wv,dU y.Ys,dI y.Ya.X3,dI y.Ya.Xt,dI y.Ya.Xy,dI y.Ya.Xb,dI y.Ya.Xv,dS y.Ya.Xc,dU y.Ya.Xk,dI y.Ya.X1.Xs,dI y.Ya.X1.Xo,.d (dsl false false (kE false) y.Ya.Xf),.d (dsl false false (kE false) y.Ya.Xr),.d (dsl false false (kC false) y.Ya.X7),dI y.X1.Xs,dI y.X1.Xo,dB y.Yn])],[.box 99 [dI (3*f+1),dI u,.mref 1],mpK Xa Y5 rows,.box 82 [.ptr 0 0,dI 1000,dI st,.d (.val (.pointer none)),.mref 3,.own 4 (X5 false).sz 0 done.length],mpK (W0 .i64) (Xi false) told,Xe 78 (X5 false) done,.box 106 [dB true,dI f,dI u,.own 6 (kE false).sz 0 L.length],Xe 48 (kE false) L,.box 70 [.ptr 5 0,dI 1000,dI st,dB false,dI RE.X4,dU RE.X9,.own 8 (X0 false).sz 0 ws.length,.own 9 (X5 false).sz 0 done.length],Xe 116 (X0 false) ws,Xe 78 (X5 false) done],vB true,[.live (.box 99 [dI (3*f+1),dI u,.mref 1]),.live (mpK Xa Y5 (Yt (Yj f u L y st))),.live (.box 82 [.ptr 0 0,dI 1000,dI st,.d (.val (.pointer none)),.mref 3,.own 4 (X5 false).sz 0 done.length]),.live (mpK (W0 .i64) (Xi false) told),.live (Xe 78 (X5 false) done),.live (.box 106 [dB true,dI f,dI u,.own 10 (kE false).sz 0 (Yj f u L y st).length]),.dead,.live (.box 70 [.ptr 5 0,dI 1000,dI st,dB false,dI RE.X4,dU RE.X9,.own 8 (X0 false).sz 0 ws.length,.own 9 (X5 false).sz 0 done.length]),.live (Xe 116 (X0 false) ws),.live (Xe 78 (X5 false) done),.live (Xe 48 (kE false) (Yj f u L y st))]⟩:=by
 refine Holds.of Try.func9 rfl (N:=100) Try.ntmps9 rfl fun w0 B0 S0 U0=>?_
 show T _ (Xz 100 10 w0 S0 U0 B0) ⟨[Zfr,.tv (.agg (Zfs y))],[(Zft f u),(Zfu rows),(Zfw st done),(Zfx told),(Zfy done),(Zfz f u L),(Zg1 L),(Zg2 st ws done RE),(Zg3 ws),(Zfy done)]⟩ _ _
 have hml:=X2s hf9 st
 obtain ⟨hy1,hy2,hy3,hy4⟩:=hy
 have hsl:=Eg f u L y st
 have ht3:=X25 y.Wv
 have hsn:(Vb 1000 (W2 f u 1000 (Yh (Yi 1000 (st+1) y.Ys)))).length=1:=rfl
 refine sR [] (T.seq (sR [] (T.block (sR [] ?_))))
 by_cases hq1:y.X3=0
 ·have hk0:=hq1;have hnr:¬U4 y:=fun w=>by rcases w with w|w<;>omega
  refine cT (dT hq1) ?_
  by_cases hq2:((y.Ys.length:Nat):Int)>4096
  ·refine sD [[],[0],[],[],[3],[2,3,4],[0,1,2,3,4,5],[0,1,2,3,4,5,6],[0,1,2,3,4,5,6,7],[0,1,2,3,4,5,6,7],[0,1,2,3,4,5,6,7,8],[0,1,2,3,4,5,6,7,8,9,10]] [hR 2 rfl rfl (Yd 12 5 kU8 Vc ([]:List UInt8) [] (cs:=[]) Try.underlying34 Ut rfl I4 rfl rfl rfl pf Wn pZ4 (Vz pZ4) (X8 rfl) trivial),hR 5 rfl rfl (W4 12 13 5 1 kU8 Vc ([]:List UInt8) y.Ys y.Ys ([]:List UInt8).length (sy:=(dU y.Ys)) (rhs:=[]) J1 (by omega) (Jb false false kU8 y.Ys) (by simp) (by (simp [maxLen,-List.getD_eq_getElem?_getD]<;>omega)) (by (simp [maxLen,-List.getD_eq_getElem?_getD]<;>omega)) (X8 rfl) trivial),hR 6 rfl rfl (Wm (X6z f u rows 1000 st told done true false y.Ys ‹_›) Try.func20 rfl (by decide) [0,1,2,3,4] [13] (l:=[(.tmp 17,pv 2 0),(.tmp 21,Y3 13 kU8 0 y.Ys.length)]) [(13,.live (Xe 5 kU8 y.Ys))] rfl 5 5 rfl rfl rfl rfl rfl rfl rfl rfl rfl ⟨.inl ⟨rfl,rfl⟩,⟨.inr (.inl ⟨rfl,Um,rfl,rfl,by simp,5,y.Ys.length,We kU8 y.Ys,List.Mem.head _,pe,fun i j=>by rw [Nat.zero_add]⟩),trivial⟩⟩ rfl pZ3 (.inr ⟨(And.intro (X3q (nn:=false) X17) (And.intro trivial trivial)),(And.intro (And.intro trivial (And.intro trivial (And.intro trivial trivial))) (And.intro (X9l Xb8) (And.intro (And.intro trivial (And.intro trivial (And.intro trivial (And.intro trivial (And.intro trivial (And.intro trivial trivial)))))) (And.intro (X9l E7) (And.intro (Xd8 Iv) trivial)))))⟩) (X8 rfl) trivial)] ?_
   refine sR [hR 4 rfl rfl (rCa (X7k f u L 1000 st RE ws done false false y.Ys ‹_›) Try.func24 [5,6,7,8,9] [(.tmp 27,pv 7 0),(.tmp 29,slV false false kU8 y.Ys)] 5 5)] ?_
   refine sR (hR 2 rfl rfl (rCa (Hf false false false false false false ([]:List Y7) ([]:List Y7) (by (simp [maxLen,-List.getD_eq_getElem?_getD]<;>omega))) Try.func25 [] [(.tmp 33,Zg4),(.tmp 34,Zg4)] 0 0)::(Xl (hY · (show decide (([]:List Y7)=([]:List Y7))=true from dT (Eq.refl _))) [4,5,6] (hP 7 (show decide (([]:List Y7)=([]:List Y7))=true from dT (Eq.refl _))::[]))) ?_
   refine T.ret (rB (rT ?_))
   refine eN ⟨(Zg6 y),[(Zft f u),(Zfu rows),(Zfw st done),(Zfx told),(Zfy done),(Zfz f u L),(Zg1 L),(Zg2 st ws done RE),(Zg3 ws),(Zfy done),Zg7,(Zg8 y),.dead,.live (Xe 5 kU8 y.Ys)]⟩ ?_
   refine Xm (s':=⟨(Zg6 y),[(Zft f u),(Zfu rows),(Zfw st done),(Zfx told),(Zfy done),(Zg9 f u L),.dead,(Zg2 st ws done RE),(Zg3 ws),(Zfy done),Zg7,(Zg8 y),.dead,.live (Xe 5 kU8 y.Ys),(Zg1 L)]⟩) (fun _ _ hG=>Gs.move (s:=⟨(Zg6 y),[(Zft f u),(Zfu rows),(Zfw st done),(Zfx told),(Zfy done),(Zfz f u L),(Zg1 L),(Zg2 st ws done RE),(Zg3 ws),(Zfy done),Zg7,(Zg8 y),.dead,.live (Xe 5 kU8 y.Ys)]⟩) 6 14 (o:=(Zg0 L)) rfl rfl rfl (kk2 p2z) ⟨(.inr pZ1),⟨(.inr pZ1),⟨(.inr pZ1),⟨(.inr pZ1),⟨(.inr pZ1),⟨(.inr pk),⟨(.inl ⟨rfl,rfl⟩),⟨(.inr pZ1),⟨(.inr pZ1),⟨(.inr pZ1),⟨(.inr pZ1),⟨(.inr pZ1),⟨(.inr pZ1),⟨(.inr pZ1),⟨(.inr (.inl ⟨rfl,rfl⟩)),trivial⟩⟩⟩⟩⟩⟩⟩⟩⟩⟩⟩⟩⟩⟩⟩ hG) ?_
   exact eRt 4 (Zga) [0,1,2,3,4,5,6,7,8,9,14] rfl (ix ⟨⟨rfl,pZ11⟩,(ix (ix (ix ⟨⟨rfl,(by have e1:(L.length:Nat)=(Yj f u L y st).length:=(by (rw [Fh hnr];done));have hE:=congrArg (fun (q1:Nat)=>(.live (.box 106 [dB true,dI f,dI u,.own 14 (kE false).sz 0 q1]):HS)) e1;exact Eq.trans pZ4 hE)⟩,(ix (ix (ix ⟨⟨rfl,pZ14⟩,trivial⟩)))⟩)))⟩)
  exact absurd ⟨hk0,hq2⟩ hsb
 have hk0:=hq1
 refine cF (dF hq1) (sR [] ?_)
 by_cases hq3:y.X3=1
 ·have hnr:¬U4 y:=fun w=>by rcases w with w|w<;>omega
  refine cT (dT hq3) ?_
  refine sD [[],[0],[0,1],[],[3],[0,1,2,3,4],[0,1,2,3,4,5],[0,1,2,3,4,5,6]] [hR 2 rfl rfl (rCa (X1b f u rows 1000 st told done ) Try.func17 [0,1,2,3,4] [(.tmp 44,pv 2 0)] 5 5),hR 5 rfl rfl (rCa (X95 f u L 1000 st RE ws done ) Try.func26 [5,6,7,8,9] [(.tmp 47,pv 7 0)] 5 5),hR 6 rfl rfl (rCa (Hf false false false false false false ([]:List Y7) ([]:List Y7) (by (simp [maxLen,-List.getD_eq_getElem?_getD]<;>omega))) Try.func25 [] [(.tmp 45,Zg4),(.tmp 48,Zg4)] 0 0)] ?_
  refine T.ret (rB (rT ?_))
  refine eN ⟨(Zgb y),(Zgc f u rows L st told ws done RE y)⟩ ?_
  refine Xm (s':=⟨(Zgb y),[(Zft f u),(Zfu rows),(Zfw st done),(Zfx told),(Zfy done),(Zgd f u L),.dead,(Zg2 st ws done RE),(Zg3 ws),(Zfy done),Zg7,(Zg8 y),(Zg1 L)]⟩) (fun _ _ hG=>Gs.move (s:=⟨(Zgb y),(Zgc f u rows L st told ws done RE y)⟩) 6 12 (o:=(Zg0 L)) rfl rfl rfl (kk2 p4a) ⟨(.inr pZ1),⟨(.inr pZ1),⟨(.inr pZ1),⟨(.inr pZ1),⟨(.inr pZ1),⟨(.inr pk),⟨(.inl ⟨rfl,rfl⟩),⟨(.inr pZ1),⟨(.inr pZ1),⟨(.inr pZ1),⟨(.inr pZ1),⟨(.inr pZ1),⟨(.inr (.inl ⟨rfl,rfl⟩)),trivial⟩⟩⟩⟩⟩⟩⟩⟩⟩⟩⟩⟩⟩ hG) ?_
  exact eRt 4 (.one (dB (decide (([]:List Y7)=([]:List Y7))))) [0,1,2,3,4,5,6,7,8,9,12] (cB (by rfl)) (ix ⟨⟨rfl,pZ11⟩,(ix (ix (ix ⟨⟨rfl,p2h⟩,(ix (ix (ix ⟨⟨rfl,pZ14⟩,trivial⟩)))⟩)))⟩)
 refine cF (dF hq3) ?_
 refine Ve ⟨(Zge y),(Zgc f u rows L st told ws done RE y)⟩ ?_ ?_
 ·refine sR [] ?_
  by_cases hq4:y.X3=2
  ·refine cT (dT hq4) (T.skip ?_)
   refine eN ⟨[Zfr,.tv (.agg (Zfs y)),pv 10 0,pv 11 0,vB false,aa,aa,aa,aa,aa,aa,aa,vI y.X3,(Zg5 y),aa,aa,aa,aa,aa,aa,aa,aa,aa,aa,aa,aa,aa,aa,aa,aa,aa,aa,aa,aa,aa,aa,aa,aa,aa,aa,aa,vB (decide (y.X3=1)),aa,aa,aa,aa,aa,aa,aa,aa,vB (decide (y.X3=2))],(Zgc f u rows L st told ws done RE y)⟩ ?_
   refine Xm (s':=⟨(Zge y),(Zgc f u rows L st told ws done RE y)⟩) (fun _ _ hG=>Yc [0,1,2,3,4,5,6,7,8,9,10,11] (bm 51 1125899906842652) (t2:=[aa,aa,pv 10 0,pv 11 0,vB false,aa,aa,aa,aa,aa,aa,aa,aa,aa,aa,aa,aa,aa,aa,aa,aa,aa,aa,aa,aa,aa,aa,aa,aa,aa,aa,aa,aa,aa,aa,aa,aa,aa,aa,aa,aa,aa,aa,aa,aa,aa,aa,aa,aa,aa,vB (decide (y.X3=2))]) p1w rfl hG) ?_
   exact nJ
  refine cF (dF hq4) (xK [] ?_)
  refine eN ⟨[Zfr,.tv (.agg (Zfs y)),pv 10 0,pv 11 0,vB false,aa,aa,aa,aa,aa,aa,aa,vI y.X3,(Zg5 y),aa,aa,aa,aa,aa,aa,aa,aa,aa,aa,aa,aa,aa,aa,aa,aa,aa,aa,aa,aa,aa,aa,aa,aa,aa,aa,aa,vB (decide (y.X3=1)),aa,aa,aa,aa,aa,aa,aa,aa,vB (decide (y.X3=3))],(Zgc f u rows L st told ws done RE y)⟩ ?_
  refine Xm (s':=⟨(Zge y),(Zgc f u rows L st told ws done RE y)⟩) (fun _ _ hG=>Yc [0,1,2,3,4,5,6,7,8,9,10,11] (bm 51 1125899906842652) (t2:=[aa,aa,pv 10 0,pv 11 0,vB false,aa,aa,aa,aa,aa,aa,aa,aa,aa,aa,aa,aa,aa,aa,aa,aa,aa,aa,aa,aa,aa,aa,aa,aa,aa,aa,aa,aa,aa,aa,aa,aa,aa,aa,aa,aa,aa,aa,aa,aa,aa,aa,aa,aa,aa,vB (decide (y.X3=3))]) p1w rfl hG) ?_
  exact nJ
 by_cases hq5:U4 y
 rotate_left
 ·have hnr:=hq5
  refine cF (dF hq5) (T.skip (nB (nT (sR [] (T.ret ?_)))))
  refine eN ⟨(Zgu y),(Zgc f u rows L st told ws done RE y)⟩ ?_
  refine Xm (s':=⟨(Zgu y),[(Zft f u),(Zfu rows),(Zfw st done),(Zfx told),(Zfy done),(Zgd f u L),.dead,(Zg2 st ws done RE),(Zg3 ws),(Zfy done),Zg7,(Zg8 y),(Zg1 L)]⟩) (fun _ _ hG=>Gs.move (s:=⟨(Zgu y),(Zgc f u rows L st told ws done RE y)⟩) 6 12 (o:=(Zg0 L)) rfl rfl rfl ⟨.inl rfl,(kk2 p3b)⟩ ⟨(.inr pZ1),⟨(.inr pZ1),⟨(.inr pZ1),⟨(.inr pZ1),⟨(.inr pZ1),⟨(.inr pk),⟨(.inl ⟨rfl,rfl⟩),⟨(.inr pZ1),⟨(.inr pZ1),⟨(.inr pZ1),⟨(.inr pZ1),⟨(.inr pZ1),⟨(.inr (.inl ⟨rfl,rfl⟩)),trivial⟩⟩⟩⟩⟩⟩⟩⟩⟩⟩⟩⟩⟩ hG) ?_
  exact eRt 4 (Zga) [0,1,2,3,4,5,6,7,8,9,12] rfl (ix ⟨⟨rfl,pZ11⟩,(ix (ix (ix ⟨⟨rfl,p2h⟩,(ix (ix (ix ⟨⟨rfl,pZ14⟩,trivial⟩)))⟩)))⟩)
 have hrc:=hq5
 refine cT (dT hq5) (sR [] ?_)
 refine Ve ⟨Zgf,(Zgi f u rows L st told ws done RE y)⟩ ?_ ?_
 ·refine sR [] ?_
  by_cases hq6:y.X3=3
  ·refine cT (dT hq6) ?_
   refine xD [[],[0],[0,1],[0,1,2],[0,1,2,3],[],[5],[5,6],[0,1,2,3,4,5,6,7],[],[9],[0,1,2,3,4,5,6,7,8,9,10],[0,1,2,3,4,5,6,7,8,9,10,11]] [hR 7 rfl rfl (Y9 (u1:=.int .i64 y.Wv) (u2:=.int .i64 3) (v:=.int .i64 (Int.tmod y.Wv 3)) (b_rem (by omega) rfl) (X8 rfl) ⟨rfl,trivial⟩),hR 8 rfl rfl (Y9 (u1:=.int .i64 st) (u2:=.int .i64 (Int.tmod y.Wv 3)) (v:=.int .i64 (st+(Int.tmod y.Wv 3))) (W6 pZ5) (X8 rfl) trivial)] pZ4 pZ4 pZ4 pZ4 pZ4 pZ4 ?_
   refine eN ⟨(Zgj y),[(Zft f u),(Zfu rows),(Zfw st done),(Zfx told),(Zfy done),(Zfz f u L),(Zg1 L),(Zg2 st ws done RE),(Zg3 ws),(Zfy done),Zg7,(Zg8 y),(Zgl st y)]⟩ ?_
   refine Xm (s':=⟨(Zgj y),[(Zft f u),(Zfu rows),(Zfw st done),(Zfx told),(Zfy done),(Zfz f u L),(Zg1 L),(Zg2 st ws done RE),(Zg3 ws),(Zfy done),Zg7,(Zg8 y),(Zgm st y)]⟩) (fun _ _ hG=>W7 (s:=⟨(Zgj y),[(Zft f u),(Zfu rows),(Zfw st done),(Zfx told),(Zfy done),(Zfz f u L),(Zg1 L),(Zg2 st ws done RE),(Zg3 ws),(Zfy done),Zg7,(Zg8 y),(Zgl st y)]⟩) (kk2 (kk8 p3b)) (kk4 (kk8 ⟨X3b,trivial⟩)) hG) ?_
   refine Xm (s':=⟨Zgf,(Zgi f u rows L st told ws done RE y)⟩) (fun _ _ hG=>Yc [0,1,2,3,4,5,6,7,8,9,10,11,12] (bm 10 540) (h2:=[(Zft f u),(Zfu rows),(Zfw st done),(Zfx told),(Zfy done),(Zfz f u L),(Zg1 L),(Zg2 st ws done RE),(Zg3 ws),(Zfy done),Zg7,(Zg8 y),(Zgm st y)]) rfl (by have e1:((Y1 y st).X3:Int)=8:=pZl;have e2:((Y1 y st).Xt:Int)=0:=pZl;have e3:((Y1 y st).Xy:Int)=0:=pZl;have e4:((Y1 y st).Xb:Int)=1000:=pZl;have e5:((Y1 y st).Xv:Int)=st+(Int.tmod y.Wv 3):=pZl;have e6:((Y1 y st).Xc:List UInt8)=[]:=pZl;have e7:((Y1 y st).Xk:List UInt8)=([]:List UInt8):=pZl;have e8:((Y1 y st).X1.Xs:Int)=y.X1.Xs:=pZl;have e9:((Y1 y st).X1.Xo:Int)=y.X1.Xo:=pZl;have e10:((Y1 y st).Xf:List aE)=([]:List aE):=pZl;have e11:((Y1 y st).Xr:List aE)=([]:List aE):=pZl;have e12:((Y1 y st).X7:List aC)=([]:List aC):=pZl;have hE:=congr px e12;exact hE) hG) ?_
   exact nJ
  refine cF (dF hq6) (T.skip ?_)
  refine eN ⟨(Zgj y),[(Zft f u),(Zfu rows),(Zfw st done),(Zfx told),(Zfy done),(Zfz f u L),(Zg1 L),(Zg2 st ws done RE),(Zg3 ws),(Zfy done),Zg7,(Zg8 y),(Zgn y)]⟩ ?_
  refine Xm (s':=⟨Zgf,(Zgi f u rows L st told ws done RE y)⟩) (fun _ _ hG=>Yc [0,1,2,3,4,5,6,7,8,9,10,11,12] (bm 10 540) (h2:=[(Zft f u),(Zfu rows),(Zfw st done),(Zfx told),(Zfy done),(Zfz f u L),(Zg1 L),(Zg2 st ws done RE),(Zg3 ws),(Zfy done),Zg7,(Zg8 y),(Zgn y)]) rfl (by have e1:((Y1 y st).X3:Int)=y.Ya.X3:=pi;have e2:((Y1 y st).Xt:Int)=y.Ya.Xt:=pi;have e3:((Y1 y st).Xy:Int)=y.Ya.Xy:=pi;have e4:((Y1 y st).Xb:Int)=y.Ya.Xb:=pi;have e5:((Y1 y st).Xv:Int)=y.Ya.Xv:=pi;have e6:((Y1 y st).Xc:List UInt8)=y.Ya.Xc:=pi;have e7:((Y1 y st).Xk:List UInt8)=y.Ya.Xk:=pi;have e8:((Y1 y st).X1.Xs:Int)=y.Ya.X1.Xs:=pi;have e9:((Y1 y st).X1.Xo:Int)=y.Ya.X1.Xo:=pi;have e10:((Y1 y st).Xf:List aE)=y.Ya.Xf:=pi;have e11:((Y1 y st).Xr:List aE)=y.Ya.Xr:=pi;have e12:((Y1 y st).X7:List aC)=y.Ya.X7:=pi;have hE:=congr px e12;exact hE) hG) ?_
  exact nJ
 refine sD [[],[0],[],[2],[0,1,2,3],[],[0,1,2,3,4,5]] [hR 3 rfl rfl (rCa (H8 false (Y1 y st) (V2 hf9 st).1 (V2 hf9 st).2.1 (V2 hf9 st).2.2.1 (V2 hf9 st).2.2.2.1 (V2 hf9 st).2.2.2.2.1 (V2 hf9 st).2.2.2.2.2) Try.func27 [] [(.tmp 72,.tv (.agg (Zgg st y)))] 0 0)] ?_
 refine Ve ⟨Zgo,(Zgr f u L st told ws done RE y)⟩ ?_ ?_
 ·refine sR [] ?_
  by_cases hq7:y.Yn=true
  ·refine cF (cn hq7) (T.skip ?_)
   refine eN ⟨(Zgs y),[(Zft f u),(Zfu rows),(Zfw st done),(Zfx told),(Zfy done),(Zfz f u L),(Zg1 L),(Zg2 st ws done RE),(Zg3 ws),(Zfy done),Zg7,(Zg8 y),(Zgh st y),(Zgq st y)]⟩ ?_
   refine Xm (s':=⟨(Zgs y),[(Zft f u),(Zfu rows),(Zfw st done),(Zfx told),(Zfy done),(Zg9 f u L),.dead,(Zg2 st ws done RE),(Zg3 ws),(Zfy done),Zg7,(Zg8 y),(Zgh st y),(Zgq st y),(Zg1 L)]⟩) (fun _ _ hG=>Gs.move (s:=⟨(Zgs y),[(Zft f u),(Zfu rows),(Zfw st done),(Zfx told),(Zfy done),(Zfz f u L),(Zg1 L),(Zg2 st ws done RE),(Zg3 ws),(Zfy done),Zg7,(Zg8 y),(Zgh st y),(Zgq st y)]⟩) 6 14 (o:=(Zg0 L)) rfl rfl rfl (kk2 (kk4 (kk8 p2u))) ⟨(.inr pZ1),⟨(.inr pZ1),⟨(.inr pZ1),⟨(.inr pZ1),⟨(.inr pZ1),⟨(.inr pk),⟨(.inl ⟨rfl,rfl⟩),⟨(.inr pZ1),⟨(.inr pZ1),⟨(.inr pZ1),⟨(.inr pZ1),⟨(.inr pZ1),⟨(.inr pZ1),⟨(.inr pZ1),⟨(.inr (.inl ⟨rfl,rfl⟩)),trivial⟩⟩⟩⟩⟩⟩⟩⟩⟩⟩⟩⟩⟩⟩⟩ hG) ?_
   refine Xm (s':=⟨Zgo,(Zgr f u L st told ws done RE y)⟩) (fun _ _ hG=>Yc [0,1,2,3,4,5,6,7,8,9,10,11,12,13,14] (bm 11 1564) (h2:=[(Zft f u),(Zfu rows),(Zfw st done),(Zfx told),(Zfy done),(Zg9 f u L),.dead,(Zg2 st ws done RE),(Zg3 ws),(Zfy done),Zg7,(Zg8 y),(Zgh st y),(Zgq st y),(Zg1 L)]) rfl (by have e1:((Yt (Wh f u L y st)):List (Xw×Bool))=rows:=p4e;have e2:((Wh f u L y st).length:Nat)=L.length:=p38;have e3:((Wh f u L y st):List aE)=L:=p38;have hE:=congr p1o e3;exact hE) hG) ?_
   exact nJ
  replace hq7:=Bool.eq_false_iff.2 hq7
  refine cT (cn hq7) (sR [hR 6 rfl rfl (rCa (E2 f u rows y.X4 false false (Yh (Y1 y st)) ‹_› ‹_› ‹_› (by omega)) Try.func28 [0,1] [(.tmp 79,pv 0 0),(.tmp 81,vI y.X4),(.tmp 83,slV false false kU8 (Yh (Y1 y st)))] 2 2)] (xK [hR 6 rfl rfl (rCa (Fq f u L y.X4 false false (Yh (Y1 y st)) ‹_› ‹_› ‹_› (by omega) (by omega)) Try.func29 [5,6,14] [(.tmp 86,pv 5 0),(.tmp 88,vI y.X4),(.tmp 90,slV false false kU8 (Yh (Y1 y st)))] 2 3)] ?_))
  refine eN ⟨(Zgs y),(Zgt f u rows L st told ws done RE y)⟩ ?_
  refine Xm (s':=⟨Zgo,(Zgr f u L st told ws done RE y)⟩) (fun _ _ hG=>Yc [0,1,2,3,4,5,6,7,8,9,10,11,12,13,14] (bm 11 1564) (h2:=(Zgt f u rows L st told ws done RE y)) rfl (by have e1:((Yt (Wh f u L y st)):List (Xw×Bool))=(Ik f u rows y.X4 (Yh (Y1 y st))):=p3f;have e2:((Wh f u L y st).length:Nat)=(Wz f u L y.X4 (Yh (Y1 y st))).length:=p2i;have e3:((Wh f u L y st):List aE)=(Wz f u L y.X4 (Yh (Y1 y st))):=p2i;have hE:=congr p1o e3;exact hE) hG) ?_
  exact nJ
 refine sR [hR 3 rfl rfl (rCa (X4n f u (Yt (Wh f u L y st)) 1000 st told done false (aE.mk y.X4 (Yh (Y1 y st))) ) Try.func21 [0,1,2,3,4] [(.tmp 93,pv 2 0),(.tmp 94,.tv (.agg (Zgp st y)))] 5 5)] ?_
 refine xK [hR 3 rfl rfl (rCa (X62 f u (Wh f u L y st) 1000 st RE ws done (aE.mk y.X4 (Yh (Y1 y st))) ‹_› ‹_› ‹_› (by (simp [maxLen,-List.getD_eq_getElem?_getD]<;>omega)) (by omega) (by omega)) Try.func30 [5,14,7,8,9] [(.tmp 97,pv 7 0),(.tmp 98,.tv (.agg (Zgp st y)))] 5 5)] ?_
 refine nB (nT (sR [] (T.ret ?_)))
 exact eRt 4 (Zga) [0,1,2,3,4,5,6,7,8,9,14] rfl (ix ⟨⟨rfl,pZ19⟩,(ix (ix (ix ⟨⟨rfl,(by have e1:((Wh f u L y st).length:Nat)=(Yj f u L y st).length:=(by (rw [X0m hrc];done));have hE:=congrArg (fun (q1:Nat)=>(.live (.box 106 [dB true,dI f,dI u,.own 14 (kE false).sz 0 q1]):HS)) e1;exact Eq.trans pZ4 hE)⟩,(ix (ix (ix ⟨⟨rfl,p1i⟩,trivial⟩)))⟩)))⟩)
abbrev Zgv:SV:=dI 1000
theorem X6l (f:Int) (u:Int) (rows:List (Xw×Bool)) (L:List aE) (st:Int) (told:List (Int×Xd)) (ws:List X6) (done:List Xj) (RE:aE) (y:Xn) (hf:0≤f∧f≤2) (hu:0≤u∧u≤8) (hrl:rows=Yt L) (hLl:L.length≤100000) (hst:0≤st∧st≤100000) (htl:told.length≤100000) (hwl:ws.length≤100000) (hdl:done.length≤100000) (hrw:Vj told ws) (hc:Yr u 1000) (hy:E4 y) (hf9:Jk y) (hsb:Ef y):Holds Try.prog 9 ⟨[.tv (.agg [.ptr 0 0,.ptr 5 0,.ptr 2 0,.ptr 7 0]),.tv (.agg [dI y.X3,dI y.X4,dI y.Wv,dU y.Ys,dI y.Ya.X3,dI y.Ya.Xt,dI y.Ya.Xy,dI y.Ya.Xb,dI y.Ya.Xv,dS y.Ya.Xc,dU y.Ya.Xk,dI y.Ya.X1.Xs,dI y.Ya.X1.Xo,.d (dsl false false (kE false) y.Ya.Xf),.d (dsl false false (kE false) y.Ya.Xr),.d (dsl false false (kC false) y.Ya.X7),dI y.X1.Xs,dI y.X1.Xo,dB y.Yn])],[.box 99 [dI (3*f+1),dI u,.mref 1],mpK Xa Y5 rows,.box 82 [.ptr 0 0,dI 1000,dI st,.d (.val (.pointer none)),.mref 3,.own 4 (X5 false).sz 0 done.length],mpK (W0 .i64) (Xi false) told,Xe 78 (X5 false) done,.box 106 [dB true,dI f,dI u,.own 6 (kE false).sz 0 L.length],Xe 48 (kE false) L,.box 70 [.ptr 5 0,dI 1000,dI st,dB false,dI RE.X4,dU RE.X9,.own 8 (X0 false).sz 0 ws.length,.own 9 (X5 false).sz 0 done.length],Xe 116 (X0 false) ws,Xe 78 (X5 false) done],vB true,[.live (.box 99 [dI (3*f+1),dI u,.mref 1]),.live (mpK Xa Y5 (Yt (U9 f u L y st))),.live (.box 82 [.ptr 0 0,dI 1000,dI (st+1),.ptr 12 0,.mref 3,.own 4 (X5 false).sz 0 done.length]),.live (mpK (W0 .i64) (Xi false) told),.live (Xe 78 (X5 false) done),.live (.box 106 [dB true,dI f,dI u,.own 10 (kE false).sz 0 (U9 f u L y st).length]),.dead,.live (.box 70 [.ptr 5 0,dI 1000,dI (st+1),dB true,dI (Wt f u y st).X4,dU (Wt f u y st).X9,.own 11 (X0 false).sz 0 ([]:List X6).length,.own 9 (X5 false).sz 0 done.length]),.dead,.live (Xe 78 (X5 false) done),.live (Xe 48 (kE false) (U9 f u L y st)),.live (Xe 116 (X0 false) ([]:List X6)),.live (.box 48 [dI (Wt f u y st).X4,dU (Wt f u y st).X9])]⟩:=by
 refine Holds.of Try.func9 rfl (N:=100) Try.ntmps9 rfl fun w0 B0 S0 U0=>?_
 show T _ (Xz 100 10 w0 S0 U0 B0) ⟨[.tv (.agg [.ptr 0 0,.ptr 5 0,.ptr 2 0,.ptr 7 0]),.tv (.agg [dI y.X3,dI y.X4,dI y.Wv,dU y.Ys,dI y.Ya.X3,dI y.Ya.Xt,dI y.Ya.Xy,dI y.Ya.Xb,dI y.Ya.Xv,dS y.Ya.Xc,dU y.Ya.Xk,dI y.Ya.X1.Xs,dI y.Ya.X1.Xo,.d (dsl false false (kE false) y.Ya.Xf),.d (dsl false false (kE false) y.Ya.Xr),.d (dsl false false (kC false) y.Ya.X7),dI y.X1.Xs,dI y.X1.Xo,dB y.Yn])],[.live (.box 99 [dI (3*f+1),dI u,.mref 1]),.live (mpK Xa Y5 rows),.live (.box 82 [.ptr 0 0,Zgv,dI st,.d (.val (.pointer none)),.mref 3,.own 4 (X5 false).sz 0 done.length]),.live (mpK (W0 .i64) (Xi false) told),.live (Xe 78 (X5 false) done),.live (.box 106 [dB true,dI f,dI u,.own 6 (kE false).sz 0 L.length]),.live (Xe 48 (kE false) L),.live (.box 70 [.ptr 5 0,Zgv,dI st,dB false,dI RE.X4,dU RE.X9,.own 8 (X0 false).sz 0 ws.length,.own 9 (X5 false).sz 0 done.length]),.live (Xe 116 (X0 false) ws),.live (Xe 78 (X5 false) done)]⟩ _ _
 have hml:=X2s hf9 st
 obtain ⟨hy1,hy2,hy3,hy4⟩:=hy
 have hsl:=Eg f u L y st
 have ht3:=X25 y.Wv
 have hsn:(Vb 1000 (W2 f u 1000 (Yh (Yi 1000 (st+1) y.Ys)))).length=1:=rfl
 refine sR [] (T.seq (sR [] (T.block (sR [] ?_))))
 by_cases hq1:y.X3=0
 ·have hk0:=hq1;have hnr:¬U4 y:=fun w=>by rcases w with w|w<;>omega
  refine cT (dT hq1) ?_
  by_cases hq2:((y.Ys.length:Nat):Int)>4096
  ·exact absurd hq2 hsb.2
  refine sD [[],[0],[],[],[3],[2,3,4],[0,1,2,3,4,5],[0,1,2,3,4,5,6],[0,1,2,3,4,5,6,7],[0,1,2,3,4,5,6,7],[0,1,2,3,4,5,6,7,8],[0,1,2,3,4,5,6,7,8,9,10]] [hR 2 rfl rfl (Yd 12 5 kU8 Vc ([]:List UInt8) [] (cs:=[]) Try.underlying34 Ut rfl I4 rfl rfl rfl pf Wn pZ4 (Vz pZ4) (X8 rfl) trivial),hR 5 rfl rfl (W4 12 13 5 1 kU8 Vc ([]:List UInt8) y.Ys y.Ys ([]:List UInt8).length (sy:=(dU y.Ys)) (rhs:=[]) J1 (by omega) (Jb false false kU8 y.Ys) (by simp) (by (simp [maxLen,-List.getD_eq_getElem?_getD]<;>omega)) (by (simp [maxLen,-List.getD_eq_getElem?_getD]<;>omega)) (X8 rfl) trivial),hR 6 rfl rfl (Wm (X1a f u rows 1000 st told done true false y.Ys ‹_› ‹_› (by omega) (by omega) ‹_›) Try.func20 rfl (by decide) [0,1,2,3,4,14] [13] (l:=[(.tmp 17,pv 2 0),(.tmp 21,Y3 13 kU8 0 y.Ys.length)]) [(13,.live (Xe 5 kU8 y.Ys))] rfl 5 6 rfl rfl rfl rfl rfl rfl rfl rfl rfl ⟨.inl ⟨rfl,rfl⟩,⟨.inr (.inl ⟨rfl,Um,rfl,rfl,by simp,5,y.Ys.length,We kU8 y.Ys,List.Mem.head _,pe,fun i j=>by rw [Nat.zero_add]⟩),trivial⟩⟩ rfl pZ3 p1b (X8 rfl) trivial)] ?_
  refine sR [hR 4 rfl rfl (rCa (X2d f u L 1000 st RE ws done false false y.Ys ‹_› ‹_› (by omega) (by omega) (by omega) ‹_›) Try.func24 [5,6,7,8,9,15,16] [(.tmp 27,pv 7 0),(.tmp 29,slV false false kU8 y.Ys)] 5 7)] ?_
  refine sR (hR 2 rfl rfl (rCa (Hf false false false false false false (Vb 1000 (W2 f u 1000 (Yh (Yi 1000 (st+1) y.Ys)))) (Vb 1000 (W2 f u 1000 (Yh (Yi 1000 (st+1) y.Ys)))) (by omega)) Try.func25 [] [(.tmp 33,slV false false (Y0 false) (Vb 1000 (W2 f u 1000 (Yh (Yi 1000 (st+1) y.Ys))))),(.tmp 34,slV false false (Y0 false) (Vb 1000 (W2 f u 1000 (Yh (Yi 1000 (st+1) y.Ys)))))] 0 0)::(Xl (hY · (show decide ((Vb 1000 (W2 f u 1000 (Yh (Yi 1000 (st+1) y.Ys))))=(Vb 1000 (W2 f u 1000 (Yh (Yi 1000 (st+1) y.Ys)))))=true from dT (Eq.refl _))) [4,5,6] (hP 7 (show decide ((Vb 1000 (W2 f u 1000 (Yh (Yi 1000 (st+1) y.Ys))))=(Vb 1000 (W2 f u 1000 (Yh (Yi 1000 (st+1) y.Ys)))))=true from dT (Eq.refl _))::[]))) ?_
  refine T.ret (rB (rT ?_))
  exact eRt 4 (.one (dB true)) [0,1,2,3,4,5,6,7,8,9,15,16,14] rfl (ix ⟨⟨rfl,(by have e1:((Ik f u rows 1000 (Yh (Yi 1000 (st+1) y.Ys))):List (Xw×Bool))=(Yt (U9 f u L y st)):=(by (rw [hrl,Xag];rfl));have hE:=congrArg (fun (q1:List (Xw×Bool))=>(.live (mpK Xa Y5 q1):HS)) e1;exact Eq.trans pZ4 hE)⟩,(ix (ix (ix ⟨⟨rfl,(by have e1:((Wz f u L 1000 (Yh (Yi 1000 (st+1) y.Ys))).length:Nat)=(U9 f u L y st).length:=(by rfl);have hE:=congrArg (fun (q1:Nat)=>(.live (.box 106 [dB true,dI f,dI u,.own 15 (kE false).sz 0 q1]):HS)) e1;exact Eq.trans pZ4 hE)⟩,⟨⟨rfl,(by have e1:((W2 f u 1000 (Yh (Yi 1000 (st+1) y.Ys))).X4:Int)=(Wt f u y st).X4:=(by rfl);have e2:((W2 f u 1000 (Yh (Yi 1000 (st+1) y.Ys))).X9:List UInt8)=(Wt f u y st).X9:=(by rfl);have hE:=congr (congrArg (fun (q1:Int) (q2:List UInt8)=>(.live (.box 70 [.ptr 5 0,Zgv,dI (st+1),dB true,dI q1,dU q2,.own 16 (X0 false).sz 0 ([]:List X6).length,.own 9 (X5 false).sz 0 done.length]):HS)) e1) e2;exact Eq.trans pZ4 hE)⟩,(ix ⟨⟨rfl,(by have e1:((Wz f u L 1000 (Yh (Yi 1000 (st+1) y.Ys))):List aE)=(U9 f u L y st):=(by rfl);have hE:=congrArg (fun (q1:List aE)=>(.live (Xe 48 (kE false) q1):HS)) e1;exact Eq.trans pZ4 hE)⟩,(ix ⟨⟨rfl,(by have e1:((W2 f u 1000 (Yh (Yi 1000 (st+1) y.Ys))).X4:Int)=(Wt f u y st).X4:=(by rfl);have e2:((W2 f u 1000 (Yh (Yi 1000 (st+1) y.Ys))).X9:List UInt8)=(Wt f u y st).X9:=(by rfl);have hE:=congr p49 e2;exact Eq.trans pZ4 hE)⟩,trivial⟩)⟩)⟩⟩)))⟩)
 exact absurd hsb.1 hq1
section
variable (f:Int) (u:Int) (rows:List (Xw×Bool)) (L:List aE) (st:Int) (told:List (Int×Xd)) (ws:List X6) (done:List Xj) (E:aE) (y:Xn)
abbrev Zgw:AV:=.tv (.agg [.ptr 0 0,.ptr 5 0,.ptr 2 0,.ptr 7 0])
abbrev Zgx:List SV:=[dI y.X3,dI y.X4,dI y.Wv,dU y.Ys,dI y.Ya.X3,dI y.Ya.Xt,dI y.Ya.Xy,dI y.Ya.Xb,dI y.Ya.Xv,dS y.Ya.Xc,dU y.Ya.Xk,dI y.Ya.X1.Xs,dI y.Ya.X1.Xo,.d (dsl false false (kE false) y.Ya.Xf),.d (dsl false false (kE false) y.Ya.Xr),.d (dsl false false (kC false) y.Ya.X7),dI y.X1.Xs,dI y.X1.Xo,dB y.Yn]
abbrev Zgy:HS:=.live (.box 99 [dI (3*f+1),dI u,.mref 1])
abbrev Zgz:HS:=.live (mpK Xa Y5 rows)
abbrev Zh0:SV:=dI 1000
abbrev Zh1:SV:=dI st
abbrev Zh2:HS:=.live (.box 82 [.ptr 0 0,Zh0,(Zh1 st),.ptr 10 0,.mref 3,.own 4 (X5 false).sz 0 done.length])
abbrev Zh3:HS:=.live (mpK (W0 .i64) (Xi false) told)
abbrev Zh4:HS:=.live (Xe 78 (X5 false) done)
abbrev Zh5:HS:=.live (.box 106 [dB true,dI f,dI u,.own 6 (kE false).sz 0 L.length])
abbrev Zh6:HObj:=Xe 48 (kE false) L
abbrev Zh7:HS:=.live ((Zh6 L))
abbrev Zh8:SV:=dI E.X4
abbrev Zh9:SV:=dU E.X9
abbrev Zha:SV:=.own 9 (X5 false).sz 0 done.length
abbrev Zhb:HS:=.live (.box 70 [.ptr 5 0,Zh0,(Zh1 st),dB true,(Zh8 E),(Zh9 E),.own 8 (X0 false).sz 0 ws.length,(Zha done)])
abbrev Zhc:HObj:=Xe 116 (X0 false) ws
abbrev Zhd:HS:=.live ((Zhc ws))
abbrev Zhe:HS:=.live (.box 48 [(Zh8 E),(Zh9 E)])
abbrev Zhf:AV:=slV false false (Y0 false) ([]:List Y7)
abbrev Zhg:AV:=vB (decide (y.X3=0))
abbrev Zhh:List AV:=[Zgw,.tv (.agg (Zgx y)),pv 11 0,pv 12 0,vB (decide ((F6 y.Ys)=(F6 y.Ys))),Zhf,vI (F6 y.Ys),Zhf,vI (F6 y.Ys),aa,aa,aa,vI y.X3,(Zhg y)]
abbrev Zhi:HS:=.live (.box 31 [.ptr 0 0,.ptr 5 0,.ptr 2 0,.ptr 7 0])
abbrev Zhj:HS:=.live (.box 44 (Zgx y))
abbrev Zhk:HS:=.live (.box 106 [dB true,dI f,dI u,.own 15 (kE false).sz 0 L.length])
abbrev Zhl:St:=⟨(Zhh y),[(Zgy f u),(Zgz rows),(Zh2 st done),(Zh3 told),(Zh4 done),(Zhk f u L),.dead,(Zhb st ws done E),(Zhd ws),(Zh4 done),(Zhe E),Zhi,(Zhj y),.dead,.live (Xe 5 kU8 y.Ys),(Zh7 L)]⟩
abbrev Zhm:List AV:=[Zgw,.tv (.agg (Zgx y)),pv 11 0,pv 12 0,vB (decide ((Vb 1000 E)=(Vb 1000 E))),aa,aa,aa,aa,aa,aa,aa,vI y.X3,(Zhg y),aa,aa,aa,aa,aa,aa,aa,aa,aa,aa,aa,aa,aa,aa,aa,aa,aa,aa,aa,aa,aa,aa,aa,aa,aa,aa,aa,vB (decide (y.X3=1))]
abbrev Zhn:List HS:=[(Zgy f u),(Zgz rows),(Zh2 st done),(Zh3 told),(Zh4 done),(Zh5 f u L),(Zh7 L),(Zhb st ws done E),(Zhd ws),(Zh4 done),(Zhe E),Zhi,(Zhj y)]
abbrev Zho:HS:=.live (.box 106 [dB true,dI f,dI u,.own 13 (kE false).sz 0 L.length])
abbrev Zhp:List HS:=[(Zgy f u),(Zgz rows),(Zh2 st done),(Zh3 told),(Zh4 done),(Zho f u L),.dead,(Zhb st ws done E),(Zhd ws),(Zh4 done),(Zhe E),Zhi,(Zhj y),(Zh7 L)]
abbrev Zhq:List AV:=[aa,aa,pv 11 0,pv 12 0,vB false,aa,aa,aa,aa,aa,aa,aa,aa,aa,aa,aa,aa,aa,aa,aa,aa,aa,aa,aa,aa,aa,aa,aa,aa,aa,aa,aa,aa,aa,aa,aa,aa,aa,aa,aa,aa,aa,aa,aa,aa,aa,aa,aa,aa,aa,vB (decide (U4 y))]
abbrev Zhr:List AV:=[aa,aa,pv 11 0,pv 12 0,vB false,aa,aa,aa,aa,pv 13 0]
abbrev Zhs:List SV:=[dI (Y1 y st).X3,dI (Y1 y st).Xt,dI (Y1 y st).Xy,dI (Y1 y st).Xb,dI (Y1 y st).Xv,dS (Y1 y st).Xc,dU (Y1 y st).Xk,dI (Y1 y st).X1.Xs,dI (Y1 y st).X1.Xo,.d (dsl false false (kE false) (Y1 y st).Xf),.d (dsl false false (kE false) (Y1 y st).Xr),.d (dsl false false (kC false) (Y1 y st).X7)]
abbrev Zht:HS:=.live (.box 42 (Zhs st y))
abbrev Zhu:List HS:=[(Zgy f u),(Zgz rows),(Zh2 st done),(Zh3 told),(Zh4 done),(Zh5 f u L),(Zh7 L),(Zhb st ws done E),(Zhd ws),(Zh4 done),(Zhe E),Zhi,(Zhj y),(Zht st y)]
abbrev Zhv:List AV:=[aa,aa,pv 11 0,pv 12 0,vB false,aa,aa,aa,aa,pv 13 0,aa,aa,aa,aa,aa,aa,aa,aa,aa,aa,aa,aa,aa,aa,aa,aa,aa,aa,aa,aa,aa,aa,aa,aa,aa,aa,aa,aa,aa,aa,aa,aa,aa,aa,aa,aa,aa,aa,aa,aa,vB (decide (U4 y)),aa,aa,aa,aa,aa,aa,vB (decide (y.X3=3))]
abbrev Zhw:SV:=.d (.val (.slice none 0 0))
abbrev Zhx:HS:=.live (.box 42 [dI 8,dI 0,dI 0,Zh0,dI (st+(Int.tmod y.Wv 3)),dS [],Zhw,dI y.X1.Xs,dI y.X1.Xo,Zhw,Zhw,Zhw])
abbrev Zhy:HS:=.live (.box 42 [dI 8,dI 0,dI 0,Zh0,dI (st+(Int.tmod y.Wv 3)),dS [],dU ([]:List UInt8),dI y.X1.Xs,dI y.X1.Xo,.d (dsl false false (kE false) ([]:List aE)),.d (dsl false false (kE false) ([]:List aE)),.d (dsl false false (kC false) ([]:List aC))])
abbrev Zhz:HS:=.live (.box 42 [dI y.Ya.X3,dI y.Ya.Xt,dI y.Ya.Xy,dI y.Ya.Xb,dI y.Ya.Xv,dS y.Ya.Xc,dU y.Ya.Xk,dI y.Ya.X1.Xs,dI y.Ya.X1.Xo,.d (dsl false false (kE false) y.Ya.Xf),.d (dsl false false (kE false) y.Ya.Xr),.d (dsl false false (kC false) y.Ya.X7)])
abbrev Zi0:List AV:=[aa,aa,pv 11 0,pv 12 0,vB false,aa,aa,aa,aa,pv 13 0,pv 14 0]
abbrev Zi1:List SV:=[dI y.X4,dU (Yh (Y1 y st))]
abbrev Zi2:HS:=.live (.box 48 (Zi1 st y))
abbrev Zi3:List HS:=[(Zgy f u),.live (mpK Xa Y5 (Yt (Wh f u L y st))),(Zh2 st done),(Zh3 told),(Zh4 done),.live (.box 106 [dB true,dI f,dI u,.own 15 (kE false).sz 0 (Wh f u L y st).length]),.dead,(Zhb st ws done E),(Zhd ws),(Zh4 done),(Zhe E),Zhi,(Zhj y),(Zht st y),(Zi2 st y),.live (Xe 48 (kE false) (Wh f u L y st))]
abbrev Zi4:List AV:=[aa,aa,pv 11 0,pv 12 0,vB false,aa,aa,aa,aa,pv 13 0,pv 14 0,aa,aa,aa,aa,aa,aa,aa,aa,aa,aa,aa,aa,aa,aa,aa,aa,aa,aa,aa,aa,aa,aa,aa,aa,aa,aa,aa,aa,aa,aa,aa,aa,aa,aa,aa,aa,aa,aa,aa,aa,aa,aa,aa,aa,aa,aa,aa,aa,aa,aa,aa,aa,aa,aa,aa,aa,aa,aa,aa,aa,aa,aa,aa,aa,aa,aa,vB (!y.Yn)]
abbrev Zi5:List HS:=[(Zgy f u),.live (mpK Xa Y5 (Ik f u rows y.X4 (Yh (Y1 y st)))),(Zh2 st done),(Zh3 told),(Zh4 done),.live (.box 106 [dB true,dI f,dI u,.own 15 (kE false).sz 0 (Wz f u L y.X4 (Yh (Y1 y st))).length]),.dead,(Zhb st ws done E),(Zhd ws),(Zh4 done),(Zhe E),Zhi,(Zhj y),(Zht st y),(Zi2 st y),.live (Xe 48 (kE false) (Wz f u L y.X4 (Yh (Y1 y st))))]
abbrev Zi6:List AV:=[aa,aa,pv 11 0,pv 12 0,vB true,aa,aa,aa,aa,aa,aa,aa,aa,aa,aa,aa,aa,aa,aa,aa,aa,aa,aa,aa,aa,aa,aa,aa,aa,aa,aa,aa,aa,aa,aa,aa,aa,aa,aa,aa,aa,aa,aa,aa,aa,aa,aa,aa,aa,aa,vB (decide (U4 y))]
end
theorem Fv (f:Int) (u:Int) (rows:List (Xw×Bool)) (L:List aE) (st:Int) (told:List (Int×Xd)) (ws:List X6) (done:List Xj) (E:aE) (y:Xn) (hf:0≤f∧f≤2) (hu:0≤u∧u≤8) (hrl:rows=Yt L) (hLl:L.length≤100000) (hst:0≤st∧st≤100000) (htl:told.length≤100000) (hwl:ws.length≤100000) (hdl:done.length≤100000) (hrw:Vj told ws) (hc:Yr u 1000) (hy:E4 y) (hf9:Jk y) (hEl:E.X9.length≤100000) (hd:¬It f u L st told y):Holds Try.prog 9 ⟨[.tv (.agg [.ptr 0 0,.ptr 5 0,.ptr 2 0,.ptr 7 0]),.tv (.agg [dI y.X3,dI y.X4,dI y.Wv,dU y.Ys,dI y.Ya.X3,dI y.Ya.Xt,dI y.Ya.Xy,dI y.Ya.Xb,dI y.Ya.Xv,dS y.Ya.Xc,dU y.Ya.Xk,dI y.Ya.X1.Xs,dI y.Ya.X1.Xo,.d (dsl false false (kE false) y.Ya.Xf),.d (dsl false false (kE false) y.Ya.Xr),.d (dsl false false (kC false) y.Ya.X7),dI y.X1.Xs,dI y.X1.Xo,dB y.Yn])],[.box 99 [dI (3*f+1),dI u,.mref 1],mpK Xa Y5 rows,.box 82 [.ptr 0 0,dI 1000,dI st,.ptr 10 0,.mref 3,.own 4 (X5 false).sz 0 done.length],mpK (W0 .i64) (Xi false) told,Xe 78 (X5 false) done,.box 106 [dB true,dI f,dI u,.own 6 (kE false).sz 0 L.length],Xe 48 (kE false) L,.box 70 [.ptr 5 0,dI 1000,dI st,dB true,dI E.X4,dU E.X9,.own 8 (X0 false).sz 0 ws.length,.own 9 (X5 false).sz 0 done.length],Xe 116 (X0 false) ws,Xe 78 (X5 false) done,.box 48 [dI E.X4,dU E.X9]],vB true,[.live (.box 99 [dI (3*f+1),dI u,.mref 1]),.live (mpK Xa Y5 (Yt (Yj f u L y st))),.live (.box 82 [.ptr 0 0,dI 1000,dI st,.ptr 10 0,.mref 3,.own 4 (X5 false).sz 0 done.length]),.live (mpK (W0 .i64) (Xi false) (V0 f u L st told y)),.live (Xe 78 (X5 false) done),.live (.box 106 [dB true,dI f,dI u,.own 11 (kE false).sz 0 (Yj f u L y st).length]),.dead,.live (.box 70 [.ptr 5 0,dI 1000,dI st,dB true,dI E.X4,dU E.X9,.own 12 (X0 false).sz 0 (Wu f u L st ws y).length,.own 9 (X5 false).sz 0 done.length]),.dead,.live (Xe 78 (X5 false) done),.live (.box 48 [dI E.X4,dU E.X9]),.live (Xe 48 (kE false) (Yj f u L y st)),.live (Xe 116 (X0 false) (Wu f u L st ws y))]⟩:=by
 refine Holds.of Try.func9 rfl (N:=100) Try.ntmps9 rfl fun w0 B0 S0 U0=>?_
 show T _ (Xz 100 11 w0 S0 U0 B0) ⟨[Zgw,.tv (.agg (Zgx y))],[(Zgy f u),(Zgz rows),(Zh2 st done),(Zh3 told),(Zh4 done),(Zh5 f u L),(Zh7 L),(Zhb st ws done E),(Zhd ws),(Zh4 done),(Zhe E)]⟩ _ _
 have hml:=X2s hf9 st
 obtain ⟨hy1,hy2,hy3,hy4⟩:=hy
 have hsl:=Eg f u L y st
 have ht3:=X25 y.Wv
 have hsn:(Vb 1000 E).length=1:=rfl
 refine sR [] (T.seq (sR [] (T.block (sR [] ?_))))
 by_cases hq1:y.X3=0
 ·have hk0:=hq1;have hnr:¬U4 y:=fun w=>by rcases w with w|w<;>omega
  refine cT (dT hq1) ?_
  refine sD [[],[0],[],[],[3],[2,3,4],[0,1,2,3,4,5],[0,1,2,3,4,5,6],[0,1,2,3,4,5,6,7],[0,1,2,3,4,5,6,7],[0,1,2,3,4,5,6,7,8],[0,1,2,3,4,5,6,7,8,9,10]] [hR 2 rfl rfl (Yd 13 5 kU8 Vc ([]:List UInt8) [] (cs:=[]) Try.underlying34 Ut rfl I4 rfl rfl rfl pf Wn pZ4 (Vz pZ4) (X8 rfl) trivial),hR 5 rfl rfl (W4 13 14 5 1 kU8 Vc ([]:List UInt8) y.Ys y.Ys ([]:List UInt8).length (sy:=(dU y.Ys)) (rhs:=[]) J1 (by omega) (Jb false false kU8 y.Ys) (by simp) (by (simp [maxLen,-List.getD_eq_getElem?_getD]<;>omega)) (by (simp [maxLen,-List.getD_eq_getElem?_getD]<;>omega)) (X8 rfl) trivial),hR 6 rfl rfl (Wm (X70 f u rows 1000 st told done E true false y.Ys ) Try.func20 rfl (by decide) [0,1,2,3,4,10] [14] (l:=[(.tmp 17,pv 2 0),(.tmp 21,Y3 14 kU8 0 y.Ys.length)]) [(14,.live (Xe 5 kU8 y.Ys))] rfl 6 6 rfl rfl rfl rfl rfl rfl rfl rfl rfl ⟨.inl ⟨rfl,rfl⟩,⟨.inr (.inl ⟨rfl,Um,rfl,rfl,by simp,5,y.Ys.length,We kU8 y.Ys,List.Mem.head _,pe,fun i j=>by rw [Nat.zero_add]⟩),trivial⟩⟩ rfl pZ3 p1b (X8 rfl) trivial)] ?_
  refine sR [hR 4 rfl rfl (rCa (X7j f u L 1000 st E ws done false false y.Ys ) Try.func24 [5,6,7,8,9] [(.tmp 27,pv 7 0),(.tmp 29,slV false false kU8 y.Ys)] 5 5)] ?_
  refine sR (hR 2 rfl rfl (rCa (Hf false false false false false false ([]:List Y7) ([]:List Y7) (by (simp [maxLen,-List.getD_eq_getElem?_getD]<;>omega))) Try.func25 [] [(.tmp 33,Zhf),(.tmp 34,Zhf)] 0 0)::(Xl (hY · (show decide (([]:List Y7)=([]:List Y7))=true from dT (Eq.refl _))) [4,5,6] (hP 7 (show decide (([]:List Y7)=([]:List Y7))=true from dT (Eq.refl _))::[]))) ?_
  refine T.ret (rB (rT ?_))
  refine eN ⟨(Zhh y),[(Zgy f u),(Zgz rows),(Zh2 st done),(Zh3 told),(Zh4 done),(Zh5 f u L),(Zh7 L),(Zhb st ws done E),(Zhd ws),(Zh4 done),(Zhe E),Zhi,(Zhj y),.dead,.live (Xe 5 kU8 y.Ys)]⟩ ?_
  refine Xm (s':=(Zhl f u rows L st told ws done E y)) (fun _ _ hG=>Gs.move (s:=⟨(Zhh y),[(Zgy f u),(Zgz rows),(Zh2 st done),(Zh3 told),(Zh4 done),(Zh5 f u L),(Zh7 L),(Zhb st ws done E),(Zhd ws),(Zh4 done),(Zhe E),Zhi,(Zhj y),.dead,.live (Xe 5 kU8 y.Ys)]⟩) 6 15 (o:=(Zh6 L)) rfl rfl rfl (kk2 p2z) ⟨(.inr pZ1),⟨(.inr pZ1),⟨(.inr pZ1),⟨(.inr pZ1),⟨(.inr pZ1),⟨(.inr pk),⟨(.inl ⟨rfl,rfl⟩),⟨(.inr pZ1),⟨(.inr pZ1),⟨(.inr pZ1),⟨(.inr pZ1),⟨(.inr pZ1),⟨(.inr pZ1),⟨(.inr pZ1),⟨(.inr pZ1),⟨(.inr (.inl ⟨rfl,rfl⟩)),trivial⟩⟩⟩⟩⟩⟩⟩⟩⟩⟩⟩⟩⟩⟩⟩⟩ hG) ?_
  refine eN (Zhl f u rows L st told ws done E y) ?_
  refine Xm (s':=⟨(Zhh y),[(Zgy f u),(Zgz rows),(Zh2 st done),(Zh3 told),(Zh4 done),(Zhk f u L),.dead,.live (.box 70 [.ptr 5 0,Zh0,(Zh1 st),dB true,(Zh8 E),(Zh9 E),.own 16 (X0 false).sz 0 ws.length,(Zha done)]),.dead,(Zh4 done),(Zhe E),Zhi,(Zhj y),.dead,.live (Xe 5 kU8 y.Ys),(Zh7 L),(Zhd ws)]⟩) (fun _ _ hG=>Gs.move (s:=(Zhl f u rows L st told ws done E y)) 8 16 (o:=(Zhc ws)) rfl rfl rfl (kk2 p2z) ⟨(.inr pZ1),⟨(.inr pZ1),⟨(.inr pZ1),⟨(.inr pZ1),⟨(.inr pZ1),⟨(.inr pZ1),⟨(.inr pZ1),⟨(.inr pp),⟨(.inl ⟨rfl,rfl⟩),⟨(.inr pZ1),⟨(.inr pZ1),⟨(.inr pZ1),⟨(.inr pZ1),⟨(.inr pZ1),⟨(.inr pZ1),⟨(.inr pZ1),⟨(.inr (.inl ⟨rfl,rfl⟩)),trivial⟩⟩⟩⟩⟩⟩⟩⟩⟩⟩⟩⟩⟩⟩⟩⟩⟩ hG) ?_
  exact eRt 4 (.one (dB (decide ((F6 y.Ys)=(F6 y.Ys))))) [0,1,2,3,4,5,6,7,8,9,10,15,16] p3u (ix ⟨⟨rfl,pZ11⟩,(ix ⟨⟨rfl,p1a⟩,(ix ⟨⟨rfl,(by have e1:(L.length:Nat)=(Yj f u L y st).length:=(by (rw [Fh hnr];done));have hE:=congrArg (fun (q1:Nat)=>(.live (.box 106 [dB true,dI f,dI u,.own 15 (kE false).sz 0 q1]):HS)) e1;exact Eq.trans pZ4 hE)⟩,⟨⟨rfl,(by have e1:(ws.length:Nat)=(Wu f u L st ws y).length:=(by (rw [X1g hnr];done));have hE:=congrArg (fun (q1:Nat)=>(.live (.box 70 [.ptr 5 0,Zh0,(Zh1 st),dB true,(Zh8 E),(Zh9 E),.own 16 (X0 false).sz 0 q1,(Zha done)]):HS)) e1;exact Eq.trans pZ4 hE)⟩,(ix (ix ⟨⟨rfl,pZ14⟩,⟨⟨rfl,p1c⟩,trivial⟩⟩))⟩⟩)⟩)⟩)
 have hk0:=hq1
 refine cF (dF hq1) (sR [] ?_)
 by_cases hq2:y.X3=1
 ·have hnr:¬U4 y:=fun w=>by rcases w with w|w<;>omega
  refine cT (dT hq2) ?_
  refine sD [[],[0],[0,1],[],[3],[0,1,2,3,4],[0,1,2,3,4,5],[0,1,2,3,4,5,6]] [hR 2 rfl rfl (rCa (X1c f u rows 1000 st told done E (by omega)) Try.func17 [0,1,2,3,4,10] [(.tmp 44,pv 2 0)] 6 6),hR 5 rfl rfl (rCa (X2e f u L 1000 st E ws done (by omega)) Try.func26 [5,6,7,8,9] [(.tmp 47,pv 7 0)] 5 5),hR 6 rfl rfl (rCa (Hf false false false false false false (Vb 1000 E) (Vb 1000 E) (by omega)) Try.func25 [] [(.tmp 45,slV false false (Y0 false) (Vb 1000 E)),(.tmp 48,slV false false (Y0 false) (Vb 1000 E))] 0 0)] (T.ret (rB (rT ?_)))
  refine eN ⟨(Zhm E y),(Zhn f u rows L st told ws done E y)⟩ ?_
  refine Xm (s':=⟨(Zhm E y),(Zhp f u rows L st told ws done E y)⟩) (fun _ _ hG=>Gs.move (s:=⟨(Zhm E y),(Zhn f u rows L st told ws done E y)⟩) 6 13 (o:=(Zh6 L)) rfl rfl rfl (kk2 p4a) ⟨(.inr pZ1),⟨(.inr pZ1),⟨(.inr pZ1),⟨(.inr pZ1),⟨(.inr pZ1),⟨(.inr pk),⟨(.inl ⟨rfl,rfl⟩),⟨(.inr pZ1),⟨(.inr pZ1),⟨(.inr pZ1),⟨(.inr pZ1),⟨(.inr pZ1),⟨(.inr pZ1),⟨(.inr (.inl ⟨rfl,rfl⟩)),trivial⟩⟩⟩⟩⟩⟩⟩⟩⟩⟩⟩⟩⟩⟩ hG) ?_
  refine eN ⟨(Zhm E y),(Zhp f u rows L st told ws done E y)⟩ ?_
  refine Xm (s':=⟨(Zhm E y),[(Zgy f u),(Zgz rows),(Zh2 st done),(Zh3 told),(Zh4 done),(Zho f u L),.dead,.live (.box 70 [.ptr 5 0,Zh0,(Zh1 st),dB true,(Zh8 E),(Zh9 E),.own 14 (X0 false).sz 0 ws.length,(Zha done)]),.dead,(Zh4 done),(Zhe E),Zhi,(Zhj y),(Zh7 L),(Zhd ws)]⟩) (fun _ _ hG=>Gs.move (s:=⟨(Zhm E y),(Zhp f u rows L st told ws done E y)⟩) 8 14 (o:=(Zhc ws)) rfl rfl rfl (kk2 p4a) ⟨(.inr pZ1),⟨(.inr pZ1),⟨(.inr pZ1),⟨(.inr pZ1),⟨(.inr pZ1),⟨(.inr pZ1),⟨(.inr pZ1),⟨(.inr pp),⟨(.inl ⟨rfl,rfl⟩),⟨(.inr pZ1),⟨(.inr pZ1),⟨(.inr pZ1),⟨(.inr pZ1),⟨(.inr pZ1),⟨(.inr (.inl ⟨rfl,rfl⟩)),trivial⟩⟩⟩⟩⟩⟩⟩⟩⟩⟩⟩⟩⟩⟩⟩ hG) ?_
  exact eRt 4 (.one (dB (decide ((Vb 1000 E)=(Vb 1000 E))))) [0,1,2,3,4,5,6,7,8,9,10,13,14] p3u (ix ⟨⟨rfl,pZ11⟩,(ix ⟨⟨rfl,p1a⟩,(ix ⟨⟨rfl,p2g⟩,⟨⟨rfl,pZ22⟩,(ix (ix ⟨⟨rfl,pZ14⟩,⟨⟨rfl,p1c⟩,trivial⟩⟩))⟩⟩)⟩)⟩)
 refine cF (dF hq2) ?_
 refine Ve ⟨(Zhq y),(Zhn f u rows L st told ws done E y)⟩ ?_ ?_
 ·refine sR [] ?_
  by_cases hq3:y.X3=2
  ·refine cT (dT hq3) (T.skip ?_)
   refine eN ⟨[Zgw,.tv (.agg (Zgx y)),pv 11 0,pv 12 0,vB false,aa,aa,aa,aa,aa,aa,aa,vI y.X3,(Zhg y),aa,aa,aa,aa,aa,aa,aa,aa,aa,aa,aa,aa,aa,aa,aa,aa,aa,aa,aa,aa,aa,aa,aa,aa,aa,aa,aa,vB (decide (y.X3=1)),aa,aa,aa,aa,aa,aa,aa,aa,vB (decide (y.X3=2))],(Zhn f u rows L st told ws done E y)⟩ ?_
   refine Xm (s':=⟨(Zhq y),(Zhn f u rows L st told ws done E y)⟩) (fun _ _ hG=>Yc [0,1,2,3,4,5,6,7,8,9,10,11,12] (bm 51 1125899906842652) (t2:=[aa,aa,pv 11 0,pv 12 0,vB false,aa,aa,aa,aa,aa,aa,aa,aa,aa,aa,aa,aa,aa,aa,aa,aa,aa,aa,aa,aa,aa,aa,aa,aa,aa,aa,aa,aa,aa,aa,aa,aa,aa,aa,aa,aa,aa,aa,aa,aa,aa,aa,aa,aa,aa,vB (decide (y.X3=2))]) pm rfl hG) ?_
   exact nJ
  refine cF (dF hq3) (xK [] ?_)
  refine eN ⟨[Zgw,.tv (.agg (Zgx y)),pv 11 0,pv 12 0,vB false,aa,aa,aa,aa,aa,aa,aa,vI y.X3,(Zhg y),aa,aa,aa,aa,aa,aa,aa,aa,aa,aa,aa,aa,aa,aa,aa,aa,aa,aa,aa,aa,aa,aa,aa,aa,aa,aa,aa,vB (decide (y.X3=1)),aa,aa,aa,aa,aa,aa,aa,aa,vB (decide (y.X3=3))],(Zhn f u rows L st told ws done E y)⟩ ?_
  refine Xm (s':=⟨(Zhq y),(Zhn f u rows L st told ws done E y)⟩) (fun _ _ hG=>Yc [0,1,2,3,4,5,6,7,8,9,10,11,12] (bm 51 1125899906842652) (t2:=[aa,aa,pv 11 0,pv 12 0,vB false,aa,aa,aa,aa,aa,aa,aa,aa,aa,aa,aa,aa,aa,aa,aa,aa,aa,aa,aa,aa,aa,aa,aa,aa,aa,aa,aa,aa,aa,aa,aa,aa,aa,aa,aa,aa,aa,aa,aa,aa,aa,aa,aa,aa,aa,vB (decide (y.X3=3))]) pm rfl hG) ?_
  exact nJ
 by_cases hq4:U4 y
 rotate_left
 ·have hnr:=hq4
  refine cF (dF hq4) (T.skip (nB (nT (sR [] (T.ret ?_)))))
  refine eN ⟨(Zi6 y),(Zhn f u rows L st told ws done E y)⟩ ?_
  refine Xm (s':=⟨(Zi6 y),(Zhp f u rows L st told ws done E y)⟩) (fun _ _ hG=>Gs.move (s:=⟨(Zi6 y),(Zhn f u rows L st told ws done E y)⟩) 6 13 (o:=(Zh6 L)) rfl rfl rfl ⟨.inl rfl,(kk2 p3b)⟩ ⟨(.inr pZ1),⟨(.inr pZ1),⟨(.inr pZ1),⟨(.inr pZ1),⟨(.inr pZ1),⟨(.inr pk),⟨(.inl ⟨rfl,rfl⟩),⟨(.inr pZ1),⟨(.inr pZ1),⟨(.inr pZ1),⟨(.inr pZ1),⟨(.inr pZ1),⟨(.inr pZ1),⟨(.inr (.inl ⟨rfl,rfl⟩)),trivial⟩⟩⟩⟩⟩⟩⟩⟩⟩⟩⟩⟩⟩⟩ hG) ?_
  refine eN ⟨(Zi6 y),(Zhp f u rows L st told ws done E y)⟩ ?_
  refine Xm (s':=⟨(Zi6 y),[(Zgy f u),(Zgz rows),(Zh2 st done),(Zh3 told),(Zh4 done),(Zho f u L),.dead,.live (.box 70 [.ptr 5 0,Zh0,(Zh1 st),dB true,(Zh8 E),(Zh9 E),.own 14 (X0 false).sz 0 ws.length,(Zha done)]),.dead,(Zh4 done),(Zhe E),Zhi,(Zhj y),(Zh7 L),(Zhd ws)]⟩) (fun _ _ hG=>Gs.move (s:=⟨(Zi6 y),(Zhp f u rows L st told ws done E y)⟩) 8 14 (o:=(Zhc ws)) rfl rfl rfl ⟨.inl rfl,(kk2 p3b)⟩ ⟨(.inr pZ1),⟨(.inr pZ1),⟨(.inr pZ1),⟨(.inr pZ1),⟨(.inr pZ1),⟨(.inr pZ1),⟨(.inr pZ1),⟨(.inr pp),⟨(.inl ⟨rfl,rfl⟩),⟨(.inr pZ1),⟨(.inr pZ1),⟨(.inr pZ1),⟨(.inr pZ1),⟨(.inr pZ1),⟨(.inr (.inl ⟨rfl,rfl⟩)),trivial⟩⟩⟩⟩⟩⟩⟩⟩⟩⟩⟩⟩⟩⟩⟩ hG) ?_
  exact eRt 4 (.one (dB true)) [0,1,2,3,4,5,6,7,8,9,10,13,14] rfl (ix ⟨⟨rfl,pZ11⟩,(ix ⟨⟨rfl,p1a⟩,(ix ⟨⟨rfl,p2g⟩,⟨⟨rfl,pZ22⟩,(ix (ix ⟨⟨rfl,pZ14⟩,⟨⟨rfl,p1c⟩,trivial⟩⟩))⟩⟩)⟩)⟩)
 have hrc:=hq4
 refine cT (dT hq4) (sR [] ?_)
 refine Ve ⟨Zhr,(Zhu f u rows L st told ws done E y)⟩ ?_ ?_
 ·refine sR [] ?_
  by_cases hq5:y.X3=3
  ·refine cT (dT hq5) ?_
   refine xD [[],[0],[0,1],[0,1,2],[0,1,2,3],[],[5],[5,6],[0,1,2,3,4,5,6,7],[],[9],[0,1,2,3,4,5,6,7,8,9,10],[0,1,2,3,4,5,6,7,8,9,10,11]] [hR 7 rfl rfl (Y9 (u1:=.int .i64 y.Wv) (u2:=.int .i64 3) (v:=.int .i64 (Int.tmod y.Wv 3)) (b_rem (by omega) rfl) (X8 rfl) ⟨rfl,trivial⟩),hR 8 rfl rfl (Y9 (u1:=.int .i64 st) (u2:=.int .i64 (Int.tmod y.Wv 3)) (v:=.int .i64 (st+(Int.tmod y.Wv 3))) (W6 pZ5) (X8 rfl) trivial)] pZ4 pZ4 pZ4 pZ4 pZ4 pZ4 ?_
   refine eN ⟨(Zhv y),[(Zgy f u),(Zgz rows),(Zh2 st done),(Zh3 told),(Zh4 done),(Zh5 f u L),(Zh7 L),(Zhb st ws done E),(Zhd ws),(Zh4 done),(Zhe E),Zhi,(Zhj y),(Zhx st y)]⟩ ?_
   refine Xm (s':=⟨(Zhv y),[(Zgy f u),(Zgz rows),(Zh2 st done),(Zh3 told),(Zh4 done),(Zh5 f u L),(Zh7 L),(Zhb st ws done E),(Zhd ws),(Zh4 done),(Zhe E),Zhi,(Zhj y),(Zhy st y)]⟩) (fun _ _ hG=>W7 (s:=⟨(Zhv y),[(Zgy f u),(Zgz rows),(Zh2 st done),(Zh3 told),(Zh4 done),(Zh5 f u L),(Zh7 L),(Zhb st ws done E),(Zhd ws),(Zh4 done),(Zhe E),Zhi,(Zhj y),(Zhx st y)]⟩) (kk2 (kk8 p3b)) ⟨.inl rfl,(kk4 (kk8 ⟨X3b,trivial⟩))⟩ hG) ?_
   refine Xm (s':=⟨Zhr,(Zhu f u rows L st told ws done E y)⟩) (fun _ _ hG=>Yc [0,1,2,3,4,5,6,7,8,9,10,11,12,13] (bm 10 540) (h2:=[(Zgy f u),(Zgz rows),(Zh2 st done),(Zh3 told),(Zh4 done),(Zh5 f u L),(Zh7 L),(Zhb st ws done E),(Zhd ws),(Zh4 done),(Zhe E),Zhi,(Zhj y),(Zhy st y)]) rfl (by have e1:((Y1 y st).X3:Int)=8:=pZl;have e2:((Y1 y st).Xt:Int)=0:=pZl;have e3:((Y1 y st).Xy:Int)=0:=pZl;have e4:((Y1 y st).Xb:Int)=1000:=pZl;have e5:((Y1 y st).Xv:Int)=st+(Int.tmod y.Wv 3):=pZl;have e6:((Y1 y st).Xc:List UInt8)=[]:=pZl;have e7:((Y1 y st).Xk:List UInt8)=([]:List UInt8):=pZl;have e8:((Y1 y st).X1.Xs:Int)=y.X1.Xs:=pZl;have e9:((Y1 y st).X1.Xo:Int)=y.X1.Xo:=pZl;have e10:((Y1 y st).Xf:List aE)=([]:List aE):=pZl;have e11:((Y1 y st).Xr:List aE)=([]:List aE):=pZl;have e12:((Y1 y st).X7:List aC)=([]:List aC):=pZl;have hE:=congr pw e12;exact hE) hG) ?_
   exact nJ
  refine cF (dF hq5) (T.skip ?_)
  refine eN ⟨(Zhv y),[(Zgy f u),(Zgz rows),(Zh2 st done),(Zh3 told),(Zh4 done),(Zh5 f u L),(Zh7 L),(Zhb st ws done E),(Zhd ws),(Zh4 done),(Zhe E),Zhi,(Zhj y),(Zhz y)]⟩ ?_
  refine Xm (s':=⟨Zhr,(Zhu f u rows L st told ws done E y)⟩) (fun _ _ hG=>Yc [0,1,2,3,4,5,6,7,8,9,10,11,12,13] (bm 10 540) (h2:=[(Zgy f u),(Zgz rows),(Zh2 st done),(Zh3 told),(Zh4 done),(Zh5 f u L),(Zh7 L),(Zhb st ws done E),(Zhd ws),(Zh4 done),(Zhe E),Zhi,(Zhj y),(Zhz y)]) rfl (by have e1:((Y1 y st).X3:Int)=y.Ya.X3:=pi;have e2:((Y1 y st).Xt:Int)=y.Ya.Xt:=pi;have e3:((Y1 y st).Xy:Int)=y.Ya.Xy:=pi;have e4:((Y1 y st).Xb:Int)=y.Ya.Xb:=pi;have e5:((Y1 y st).Xv:Int)=y.Ya.Xv:=pi;have e6:((Y1 y st).Xc:List UInt8)=y.Ya.Xc:=pi;have e7:((Y1 y st).Xk:List UInt8)=y.Ya.Xk:=pi;have e8:((Y1 y st).X1.Xs:Int)=y.Ya.X1.Xs:=pi;have e9:((Y1 y st).X1.Xo:Int)=y.Ya.X1.Xo:=pi;have e10:((Y1 y st).Xf:List aE)=y.Ya.Xf:=pi;have e11:((Y1 y st).Xr:List aE)=y.Ya.Xr:=pi;have e12:((Y1 y st).X7:List aC)=y.Ya.X7:=pi;have hE:=congr pw e12;exact hE) hG) ?_
  exact nJ
 refine sD [[],[0],[],[2],[0,1,2,3],[],[0,1,2,3,4,5]] [hR 3 rfl rfl (rCa (H8 false (Y1 y st) (V2 hf9 st).1 (V2 hf9 st).2.1 (V2 hf9 st).2.2.1 (V2 hf9 st).2.2.2.1 (V2 hf9 st).2.2.2.2.1 (V2 hf9 st).2.2.2.2.2) Try.func27 [] [(.tmp 72,.tv (.agg (Zhs st y)))] 0 0)] ?_
 refine Ve ⟨Zi0,(Zi3 f u L st told ws done E y)⟩ ?_ ?_
 ·refine sR [] ?_
  by_cases hq6:y.Yn=true
  ·refine cF (cn hq6) (T.skip ?_)
   refine eN ⟨(Zi4 y),[(Zgy f u),(Zgz rows),(Zh2 st done),(Zh3 told),(Zh4 done),(Zh5 f u L),(Zh7 L),(Zhb st ws done E),(Zhd ws),(Zh4 done),(Zhe E),Zhi,(Zhj y),(Zht st y),(Zi2 st y)]⟩ ?_
   refine Xm (s':=⟨(Zi4 y),[(Zgy f u),(Zgz rows),(Zh2 st done),(Zh3 told),(Zh4 done),(Zhk f u L),.dead,(Zhb st ws done E),(Zhd ws),(Zh4 done),(Zhe E),Zhi,(Zhj y),(Zht st y),(Zi2 st y),(Zh7 L)]⟩) (fun _ _ hG=>Gs.move (s:=⟨(Zi4 y),[(Zgy f u),(Zgz rows),(Zh2 st done),(Zh3 told),(Zh4 done),(Zh5 f u L),(Zh7 L),(Zhb st ws done E),(Zhd ws),(Zh4 done),(Zhe E),Zhi,(Zhj y),(Zht st y),(Zi2 st y)]⟩) 6 15 (o:=(Zh6 L)) rfl rfl rfl (kk2 (kk4 (kk8 p2u))) ⟨(.inr pZ1),⟨(.inr pZ1),⟨(.inr pZ1),⟨(.inr pZ1),⟨(.inr pZ1),⟨(.inr pk),⟨(.inl ⟨rfl,rfl⟩),⟨(.inr pZ1),⟨(.inr pZ1),⟨(.inr pZ1),⟨(.inr pZ1),⟨(.inr pZ1),⟨(.inr pZ1),⟨(.inr pZ1),⟨(.inr pZ1),⟨(.inr (.inl ⟨rfl,rfl⟩)),trivial⟩⟩⟩⟩⟩⟩⟩⟩⟩⟩⟩⟩⟩⟩⟩⟩ hG) ?_
   refine Xm (s':=⟨Zi0,(Zi3 f u L st told ws done E y)⟩) (fun _ _ hG=>Yc [0,1,2,3,4,5,6,7,8,9,10,11,12,13,14,15] (bm 11 1564) (h2:=[(Zgy f u),(Zgz rows),(Zh2 st done),(Zh3 told),(Zh4 done),(Zhk f u L),.dead,(Zhb st ws done E),(Zhd ws),(Zh4 done),(Zhe E),Zhi,(Zhj y),(Zht st y),(Zi2 st y),(Zh7 L)]) rfl (by have e1:((Yt (Wh f u L y st)):List (Xw×Bool))=rows:=p4e;have e2:((Wh f u L y st).length:Nat)=L.length:=p38;have e3:((Wh f u L y st):List aE)=L:=p38;have hE:=congr p1l e3;exact hE) hG) ?_
   exact nJ
  replace hq6:=Bool.eq_false_iff.2 hq6
  refine cT (cn hq6) (sR [hR 6 rfl rfl (rCa (E2 f u rows y.X4 false false (Yh (Y1 y st)) ‹_› ‹_› ‹_› (by omega)) Try.func28 [0,1] [(.tmp 79,pv 0 0),(.tmp 81,vI y.X4),(.tmp 83,slV false false kU8 (Yh (Y1 y st)))] 2 2)] (xK [hR 6 rfl rfl (rCa (Fq f u L y.X4 false false (Yh (Y1 y st)) ‹_› ‹_› ‹_› (by omega) (by omega)) Try.func29 [5,6,15] [(.tmp 86,pv 5 0),(.tmp 88,vI y.X4),(.tmp 90,slV false false kU8 (Yh (Y1 y st)))] 2 3)] ?_))
  refine eN ⟨(Zi4 y),(Zi5 f u rows L st told ws done E y)⟩ ?_
  refine Xm (s':=⟨Zi0,(Zi3 f u L st told ws done E y)⟩) (fun _ _ hG=>Yc [0,1,2,3,4,5,6,7,8,9,10,11,12,13,14,15] (bm 11 1564) (h2:=(Zi5 f u rows L st told ws done E y)) rfl (by have e1:((Yt (Wh f u L y st)):List (Xw×Bool))=(Ik f u rows y.X4 (Yh (Y1 y st))):=p3f;have e2:((Wh f u L y st).length:Nat)=(Wz f u L y.X4 (Yh (Y1 y st))).length:=p2i;have e3:((Wh f u L y st):List aE)=(Wz f u L y.X4 (Yh (Y1 y st))):=p2i;have hE:=congr p1l e3;exact hE) hG) ?_
  exact nJ
 by_cases hq7:Fb (Wy f u (Yt (Wh f u L y st))) f 1000 st told (aE.mk y.X4 (Yh (Y1 y st)))
 ·exact absurd ((Xea hrc).1 hq7) hd
 refine sR [hR 3 rfl rfl (rCa (X4m f u (Yt (Wh f u L y st)) 1000 st told done E false (aE.mk y.X4 (Yh (Y1 y st))) ‹_› ‹_› ‹_› (by (simp [maxLen,-List.getD_eq_getElem?_getD]<;>omega)) (by omega) ‹_›) Try.func21 [0,1,2,3,4,10] [(.tmp 93,pv 2 0),(.tmp 94,.tv (.agg (Zi1 st y)))] 6 6)] ?_
 by_cases hq8:Fz (Wr f u (Wh f u L y st)) f 1000 st ws (aE.mk y.X4 (Yh (Y1 y st)))
 ·exact absurd ((Xe9 hrc hrw).1 hq8) hd
 refine xK [hR 3 rfl rfl (rCa (X61 f u (Wh f u L y st) 1000 st E ws done (aE.mk y.X4 (Yh (Y1 y st))) ‹_› ‹_› ‹_› (by (simp [maxLen,-List.getD_eq_getElem?_getD]<;>omega)) (by omega) (by omega) ‹_›) Try.func30 [5,15,7,8,9,16] [(.tmp 97,pv 7 0),(.tmp 98,.tv (.agg (Zi1 st y)))] 5 6)] ?_
 refine nB (nT (sR [] (T.ret ?_)))
 exact eRt 4 (.one (dB true)) [0,1,2,3,4,5,6,7,8,9,10,15,16] rfl (ix ⟨⟨rfl,pZ19⟩,(ix ⟨⟨rfl,(by have e1:((Id (Wy f u (Yt (Wh f u L y st))) f 1000 st told (aE.mk y.X4 (Yh (Y1 y st)))):List (Int×Xd))=(V0 f u L st told y):=(by exact Xa9 hrc);have hE:=congrArg (fun (q1:List (Int×Xd))=>(.live (mpK (W0 .i64) (Xi false) q1):HS)) e1;exact Eq.trans pZ4 hE)⟩,(ix ⟨⟨rfl,pZ29⟩,⟨⟨rfl,(by have e1:((Uo (Wr f u (Wh f u L y st)) f 1000 st ws (aE.mk y.X4 (Yh (Y1 y st)))).length:Nat)=(Wu f u L st ws y).length:=(by (rw [X3v hrc];done));have hE:=congrArg (fun (q1:Nat)=>(.live (.box 70 [.ptr 5 0,Zh0,(Zh1 st),dB true,(Zh8 E),(Zh9 E),.own 16 (X0 false).sz 0 q1,(Zha done)]):HS)) e1;exact Eq.trans pZ4 hE)⟩,(ix (ix ⟨⟨rfl,p1i⟩,⟨⟨rfl,(by have e1:((Uo (Wr f u (Wh f u L y st)) f 1000 st ws (aE.mk y.X4 (Yh (Y1 y st)))):List X6)=(Wu f u L st ws y):=(by exact X3v hrc);have hE:=congrArg (fun (q1:List X6)=>(.live (Xe 116 (X0 false) q1):HS)) e1;exact Eq.trans pZ4 hE)⟩,trivial⟩⟩))⟩⟩)⟩)⟩)
end Go.Proofs.Ythnefnknoahbkaa.Q
