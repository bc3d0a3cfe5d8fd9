import Derived.Test.YthnefnknoahbkaaGreatC18n25
namespace Go.Proofs.YthnefnknoahbkaaGreat.Q
open Go Go.RowKit
set_option linter.unusedVariables false
set_option linter.unusedSimpArgs false
set_option maxRecDepth 100000
set_option maxHeartbeats 4000000
theorem Jj:Tryz.prog.info? 117=some Tryz.t117:=by kernel_rfl
theorem X9v:Wide Tryz.prog 117 (some 3):=⟨_,_,Tryz.underlying117,.inl ⟨_,rfl⟩,Jj,rfl⟩
theorem X1w:Zero Tryz.prog 117 [.int .i64 0,.int .i64 0,.int .i64 0]:=⟨_,_,Jj,rfl,rfl⟩
theorem X4z:Elem Tryz.prog 69 117 3 24:=⟨Tryz.underlying69,_,_,Jj,rfl,rfl,rfl,rfl,by decide⟩
section
variable (f:Int) (u:Int) (L:List aE) (id:Int) (st:Int) (E:aE) (ws:List X6) (done:List Xo) (e:aE) (k:Nat)
abbrev Zed:AV:=.tv (.agg [dI e.f_Signer,dU e.X7])
abbrev Zee:HS:=.live (.box 49 [dB true,dI f,dI u,.own 1 (kE false).sz 0 L.length])
abbrev Zef:HS:=.live (Xc 53 (kE false) L)
abbrev Zeg:SV:=dI id
abbrev Zeh:SV:=dI st
abbrev Zei:SV:=dI E.f_Signer
abbrev Zej:SV:=dU E.X7
abbrev Zek:SV:=.own 4 (X3 false).sz 0 done.length
abbrev Zel:HS:=.live (.box 71 [.ptr 0 0,(Zeg id),(Zeh st),dB true,(Zei E),(Zej E),.own 3 (X0 false).sz 0 ws.length,(Zek done)])
abbrev Zem:HObj:=Xc 117 (X0 false) ws
abbrev Zen:HS:=.live ((Zem ws))
abbrev Zeo:HS:=.live (Xc 55 (X3 false) done)
abbrev Zep:List AV:=[pv 2 0,(Zed e),aa,pv 5 0,aa,aa,aa,aa,aa,aa,aa,aa,aa,aa,aa,aa,aa,aa,aa,aa,aa,aa,aa,aa,aa,aa,aa,aa,aa,aa,aa,aa,vB true]
abbrev Zeq:HS:=.live (.box 53 [dI e.f_Signer,dU e.X7])
abbrev Zer:AV:=vI (X05 e.X7)
abbrev Zes:List AV:=[pv 2 0,(Zed e),aa,pv 5 0,pv 6 0,(Zer e),aa,aa,aa,aa,aa,aa,aa,aa,aa,aa,aa,aa,aa,aa,aa,aa,aa,aa,aa,aa,aa,aa,aa,aa,aa,aa,vB (!true),aa,aa,aa,aa,aa,aa,aa,aa,aa,aa,aa,aa,aa,aa,aa,aa,aa,aa,aa,aa,aa,aa,aa,aa,aa,aa,aa,aa,aa,aa,vB true]
abbrev Zet:SV:=dI (Y2 e.X7).X1.Xt
abbrev Zeu:SV:=dI (Y2 e.X7).X1.Xn
abbrev Zev:HS:=.live (.box 42 [dI (Y2 e.X7).X2,dI (Y2 e.X7).Xr,dI (Y2 e.X7).Xy,dI (Y2 e.X7).Xa,dI (Y2 e.X7).Xw,dS (Y2 e.X7).Xb,dU (Y2 e.X7).Xi,(Zet e),(Zeu e),.d (dsl false false (kE false) (Y2 e.X7).Xe),.d (dsl false false (kE false) (Y2 e.X7).Xp),.d (dsl false false (kC false) (Y2 e.X7).X5)])
abbrev Zew:List HS:=[(Zee f u L),(Zef L),(Zel id st E ws done),(Zen ws),(Zeo done),(Zeq e),(Zev e)]
abbrev Zex:List HS:=[(Zee f u L),(Zef L),.live (.box 71 [.ptr 0 0,(Zeg id),(Zeh st),dB true,(Zei E),(Zej E),.own 7 (X0 false).sz 0 ws.length,(Zek done)]),.dead,(Zeo done),(Zeq e),(Zev e),(Zen ws)]
abbrev Zey:AV:=vB (decide ((Y2 e.X7).Xw≠st))
abbrev Zez:List AV:=[pv 2 0,(Zed e),aa,pv 5 0,pv 6 0,(Zer e),aa,aa,aa,aa,aa,aa,aa,aa,aa,aa,aa,aa,aa,aa,aa,aa,aa,aa,aa,aa,aa,aa,aa,aa,aa,aa,vB (!true),aa,aa,aa,aa,aa,aa,aa,aa,aa,aa,aa,aa,aa,aa,aa,aa,aa,aa,aa,aa,aa,aa,aa,aa,aa,aa,aa,aa,aa,aa,(Zey st e)]
abbrev Zf0:HS:=.live (Xc 117 (X0 false) ([]:List X6))
abbrev Zf1:AV:=Xx 7 (X0 false) 0 (Yx ws e.f_Signer k).length
abbrev Zf2:AV:=vI ((W6 ws e k:Nat):Int)
abbrev Zf3:List HS:=[(Zee f u L),(Zef L),(Zel id st E ws done),(Zen ws),(Zeo done),(Zeq e),(Zev e),.live (Xc 117 (X0 false) (Yx ws e.f_Signer k))]
abbrev Zf5:DV:=.val (.int .i64 (ws.getD k Xk).f_Signer)
abbrev Zf6:SV:=dI (ws.getD k Xk).X1.Xt
abbrev Zf7:SV:=dI (ws.getD k Xk).X1.Xn
abbrev Zf8:AV:=vI ((k+1:Nat):Int)
abbrev Zfa:List HS:=[(Zee f u L),(Zef L),(Zel id st E ws done),(Zen ws),(Zeo done),(Zeq e),(Zev e),.live (Xc 117 (X0 false) (Yx ws e.f_Signer (k+1)))]
abbrev Zfb:List AV:=[pv 2 0,aa,aa,pv 5 0,pv 6 0,aa,Xx 9 (X0 false) 0 (Yx ws e.f_Signer (k+1)).length,vI ((W6 ws e (k+1):Nat):Int),(Zf8 k)]
abbrev Zfc:AV:=vB (decide (((k:Nat):Int)<((ws.length:Nat):Int)))
abbrev Zfd:List AV:=[pv 2 0,aa,aa,pv 5 0,pv 6 0,aa,Xx 7 (X0 false) 0 (Yx ws e.f_Signer ws.length).length,vI ((W6 ws e ws.length:Nat):Int),aa,aa,aa,aa,aa,aa,aa,aa,aa,aa,aa,aa,aa,aa,aa,aa,aa,aa,aa,aa,aa,aa,aa,aa,aa,aa,aa,aa,aa,aa,aa,aa,aa,aa,aa,aa,aa,aa,aa,aa,aa,aa,aa,aa,aa,aa,aa,aa,aa,aa,aa,aa,aa,aa,aa,aa,aa,aa,aa,aa,aa,aa,(Zfc ws k)]
abbrev Zfe:List HS:=[(Zee f u L),(Zef L),(Zel id st E ws done),(Zen ws),(Zeo done),(Zeq e),(Zev e),.live (Xc 117 (X0 false) (Yx ws e.f_Signer ws.length))]
end
theorem X5u (f:Int) (u:Int) (L:List aE) (id:Int) (st:Int) (E:aE) (ws:List X6) (done:List Xo) (e:aE) (hf:0≤f∧f≤2) (hu:0≤u∧u≤8) (hs:-9223372036854775808≤e.f_Signer∧e.f_Signer≤9223372036854775807) (hb:e.X7.length≤100000000) (hLl:L.length≤1000000) (hwl:ws.length≤1000000) (hd:¬Fx (Wf f u L) f id st ws e):Holds Tryz.prog 25 ⟨[pv 2 0,.tv (.agg [dI e.f_Signer,dU e.X7])],[.box 49 [dB true,dI f,dI u,.own 1 (kE false).sz 0 L.length],Xc 53 (kE false) L,.box 71 [.ptr 0 0,dI id,dI st,dB true,dI E.f_Signer,dU E.X7,.own 3 (X0 false).sz 0 ws.length,.own 4 (X3 false).sz 0 done.length],Xc 117 (X0 false) ws,Xc 55 (X3 false) done],.tup [],[.live (.box 49 [dB true,dI f,dI u,.own 1 (kE false).sz 0 L.length]),.live (Xc 53 (kE false) L),.live (.box 71 [.ptr 0 0,dI id,dI st,dB true,dI E.f_Signer,dU E.X7,.own 5 (X0 false).sz 0 (Um (Wf f u L) f id st ws e).length,.own 4 (X3 false).sz 0 done.length]),.dead,.live (Xc 55 (X3 false) done),.live (Xc 117 (X0 false) (Um (Wf f u L) f id st ws e))]⟩:=by
 refine Holds.of Tryz.func25 rfl (N:=151) Tryz.ntmps25 rfl fun w0 B0 S0 U0=>?_
 show T _ (Y0 151 5 w0 S0 U0 B0) ⟨[pv 2 0,(Zed e)],[(Zee f u L),(Zef L),(Zel id st E ws done),(Zen ws),(Zeo done)]⟩ _ _
 have hol9:=X0p (ws:=ws) (s:=e.f_Signer) (k:=ws.length)
 refine sR [] (T.seq ?_)
 by_cases hq1:(Wf f u L e)≠0
 ·have hx:¬Ws (Wf f u L) f id st e:=fun w=>hq1 w.2.1
  refine sD [[],[0],[0,1],[0,1,2],[],[0,1,2,3,4],[0,1,2,3,4,5],[0,1,2,3,4,5,6],[0,1,2,3,4,5,6,7],[0,1,2,3,4,5,6,7,8],[0,1,2,3,4,5,6,7,8,9],[0,1,2,3,4,5,6,7,8,9,10],[0,1,2,3,4,5,6,7],[0,1,2,3,4,5,6,7,12],[0,1,2,3,4,5,6,7,8,9,10,11,12,13],[0,1,2,3,4,5,6,7,8,9,10,11,12,13,14],[0,1,2,3,4,5,6,7,8,9,10,11,12,13,14,15],[0,1,2,3,4,5,6,7,8,9,10,11,12,13,14,15,16],[0,1,2,3,4,5,6,7,8,9,10,11,12,13,14,15,16,17],[0,1,2,3,4,5,6,7,8,9,10,11,12,13,14,15,16,17,18],[0,1,2,3,4,5,6,7,8,9,10,11,12,13,14,15,16,17,18,19],[0,1,2,3,4,5,6,7,8,9,10,11,12,13,14,15,16,17,18,19,20],[0,1,2,3,4,5,6,7,8,9,10,11,12,13,14,15,16,17,18,19,20,21],[0,1,2,3,4,5,6,7,8,9,10,11,12,13,14,15,16,17,18,19,20,21,22]] (hR 5 rfl rfl (rCa (Jd f u L false e ‹_› ‹_› ‹_› (by omega)) Tryz.func55 [0,1] [(.tmp 12,pv 0 0),(.tmp 13,(Zed e))] 2 2)::(Xf (hN · false (dT hq1)) [8,9,10,11,12,13,14,15] (hP 16 (dT hq1)::(Xf hN0 [18,19,20,21,22] (hP1 23::[]))))) ?_
  refine cT (b:=true) rfl (T.ret (rT ?_))
  refine eN ⟨(Zep e),[(Zee f u L),(Zef L),(Zel id st E ws done),(Zen ws),(Zeo done),(Zeq e)]⟩ ?_
  refine Xh (s':=⟨(Zep e),[(Zee f u L),(Zef L),.live (.box 71 [.ptr 0 0,(Zeg id),(Zeh st),dB true,(Zei E),(Zej E),.own 6 (X0 false).sz 0 ws.length,(Zek done)]),.dead,(Zeo done),(Zeq e),(Zen ws)]⟩) (fun _ _ hG=>Gs.move (s:=⟨(Zep e),[(Zee f u L),(Zef L),(Zel id st E ws done),(Zen ws),(Zeo done),(Zeq e)]⟩) 3 6 (o:=(Zem ws)) rfl rfl rfl ⟨.inl rfl,(X6i trivial)⟩ ⟨(.inr pZ1),⟨(.inr pZ1),⟨(.inr pq),⟨(.inl ⟨rfl,rfl⟩),⟨(.inr pZ1),⟨(.inr pZ1),⟨(.inr (.inl ⟨rfl,rfl⟩)),trivial⟩⟩⟩⟩⟩⟩⟩ hG) ?_
  exact eX [] trivial [0,1,2,3,4,6] rfl (ix (ix ⟨⟨rfl,pZ25⟩,(ix ⟨⟨rfl,pZ13⟩,trivial⟩)⟩))
 have g2:=Classical.not_not.1 hq1
 by_cases hq2:Yg f e.f_Signer
 rotate_left
 ·have hx:¬Ws (Wf f u L) f id st e:=fun w=>hq2 w.1
  refine sD [[],[0],[0,1],[0,1,2],[],[0,1,2,3,4],[0,1,2,3,4,5],[0,1,2,3,4,5,6],[0,1,2,3,4,5,6,7],[0,1,2,3,4,5,6,7,8],[0,1,2,3,4,5,6,7,8,9],[0,1,2,3,4,5,6,7,8,9,10],[0,1,2,3,4,5,6,7],[0,1,2,3,4,5,6,7,12],[0,1,2,3,4,5,6,7,8,9,10,11,12,13],[0,1,2,3,4,5,6,7,8,9,10,11,12,13,14],[0,1,2,3,4,5,6,7,8,9,10,11,12,13,14,15],[0,1,2,3,4,5,6,7,8,9,10,11,12,13,14,15,16],[0,1,2,3,4,5,6,7,8,9,10,11,12,13,14,15,16,17],[0,1,2,3,4,5,6,7,8,9,10,11,12,13,14,15,16,17,18],[0,1,2,3,4,5,6,7,8,9,10,11,12,13,14,15,16,17,18,19],[0,1,2,3,4,5,6,7,8,9,10,11,12,13,14,15,16,17,18,19,20],[0,1,2,3,4,5,6,7,8,9,10,11,12,13,14,15,16,17,18,19,20,21],[0,1,2,3,4,5,6,7,8,9,10,11,12,13,14,15,16,17,18,19,20,21,22]] (hR 5 rfl rfl (rCa (Jd f u L false e ‹_› ‹_› ‹_› (by omega)) Tryz.func55 [0,1] [(.tmp 12,pv 0 0),(.tmp 13,(Zed e))] 2 2)::(Xf (hY · (dF hq1)) [8,9,10,11,12,13] (hS 14 (oY rfl rfl rfl rfl (X4 rfl) (dF hq1) (rCa (Ui f u L e.f_Signer ‹_› ‹_›) Tryz.func56 [0,1] [(.tmp 20,pv 0 0),(.tmp 22,vI e.f_Signer)] 2 2))::(hY 15 (dF hq1)::(hP 16 (dF hq1)::(Xf (hN · false (cn (dF hq2))) [18,19,20,21,22] (hP 23 (cn (dF hq2))::[]))))))) ?_
  refine cT (b:=true) rfl (T.ret (rT ?_))
  refine eN ⟨(Zep e),[(Zee f u L),(Zef L),(Zel id st E ws done),(Zen ws),(Zeo done),(Zeq e)]⟩ ?_
  refine Xh (s':=⟨(Zep e),[(Zee f u L),(Zef L),.live (.box 71 [.ptr 0 0,(Zeg id),(Zeh st),dB true,(Zei E),(Zej E),.own 6 (X0 false).sz 0 ws.length,(Zek done)]),.dead,(Zeo done),(Zeq e),(Zen ws)]⟩) (fun _ _ hG=>Gs.move (s:=⟨(Zep e),[(Zee f u L),(Zef L),(Zel id st E ws done),(Zen ws),(Zeo done),(Zeq e)]⟩) 3 6 (o:=(Zem ws)) rfl rfl rfl ⟨.inl rfl,(X6i trivial)⟩ ⟨(.inr pZ1),⟨(.inr pZ1),⟨(.inr pq),⟨(.inl ⟨rfl,rfl⟩),⟨(.inr pZ1),⟨(.inr pZ1),⟨(.inr (.inl ⟨rfl,rfl⟩)),trivial⟩⟩⟩⟩⟩⟩⟩ hG) ?_
  exact eX [] trivial [0,1,2,3,4,6] rfl (ix (ix ⟨⟨rfl,pZ25⟩,(ix ⟨⟨rfl,pZ13⟩,trivial⟩)⟩))
 have g1:=hq2
 refine sD [[],[0],[0,1],[0,1,2],[],[0,1,2,3,4],[0,1,2,3,4,5],[0,1,2,3,4,5,6],[0,1,2,3,4,5,6,7],[0,1,2,3,4,5,6,7,8],[0,1,2,3,4,5,6,7,8,9],[0,1,2,3,4,5,6,7,8,9,10],[0,1,2,3,4,5,6,7],[0,1,2,3,4,5,6,7,12],[0,1,2,3,4,5,6,7,8,9,10,11,12,13],[0,1,2,3,4,5,6,7,8,9,10,11,12,13,14],[0,1,2,3,4,5,6,7,8,9,10,11,12,13,14,15],[0,1,2,3,4,5,6,7,8,9,10,11,12,13,14,15,16],[0,1,2,3,4,5,6,7,8,9,10,11,12,13,14,15,16,17],[0,1,2,3,4,5,6,7,8,9,10,11,12,13,14,15,16,17,18],[0,1,2,3,4,5,6,7,8,9,10,11,12,13,14,15,16,17,18,19],[0,1,2,3,4,5,6,7,8,9,10,11,12,13,14,15,16,17,18,19,20],[0,1,2,3,4,5,6,7,8,9,10,11,12,13,14,15,16,17,18,19,20,21],[0,1,2,3,4,5,6,7,8,9,10,11,12,13,14,15,16,17,18,19,20,21,22]] (hR 5 rfl rfl (rCa (Jd f u L false e ‹_› ‹_› ‹_› (by omega)) Tryz.func55 [0,1] [(.tmp 12,pv 0 0),(.tmp 13,(Zed e))] 2 2)::(Xf (hY · (dF hq1)) [8,9,10,11,12,13] (hS 14 (oY rfl rfl rfl rfl (X4 rfl) (dF hq1) (rCa (Ui f u L e.f_Signer ‹_› ‹_›) Tryz.func56 [0,1] [(.tmp 20,pv 0 0),(.tmp 22,vI e.f_Signer)] 2 2))::(hY 15 (dF hq1)::(hP 16 (dF hq1)::(Xf (hY · (cn (dT hq2))) [18,19,20,21,22] (hP 23 (cn (dT hq2))::[]))))))) ?_
 refine cF (b:=(!true)) rfl (T.skip (nT (sR [hR 2 rfl rfl (rCa (H7 e.X7 (by omega)) Tryz.func8 [] [(.tmp 35,slV false false kU8 e.X7)] 0 0)] (T.seq ?_))))
 by_cases hq3:(X05 e.X7)≠0
 ·have hx:¬Ws (Wf f u L) f id st e:=fun w=>hq3 w.2.2.1
  refine sD [[],[0],[0,1],[0,1,2],[0,1,2,3],[0,1,2,3,4],[0,1,2,3,4,5],[0,1,2,3,4,5,6],[0,1,2,3,4,5,6,7],[0,1,2,3,4,5,6,7,8],[0,1,2,3,4,5,6,7],[0,1,2,3,4,5,6,7,10],[0,1,2,3,4,5,6,7,10,11],[0,1,2,3,4,5,6,7,10,11,12],[0,1,2,3,4,5,6,7,8,9,10,11,12,13],[0,1,2,3,4,5,6,7,8,9,10,11,12,13,14],[0,1,2,3,4,5,6,7,8,9,10,11,12,13,14,15],[0,1,2,3,4,5,6,7,8,9,10,11,12,13,14,15,16],[0,1,2,3,4,5,6,7,8,9,10,11,12,13,14,15,16,17],[0,1,2,3,4,5,6,7,8,9,10,11,12,13,14,15,16],[0,1,2,3,4,5,6,7,8,9,10,11,12,13,14,15,16,19],[0,1,2,3,4,5,6,7,8,9,10,11,12,13,14,15,16,19,20],[0,1,2,3,4,5,6,7,8,9,10,11,12,13,14,15,16,19,20,21],[0,1,2,3,4,5,6,7,8,9,10,11,12,13,14,15,16,17,18,19,20,21,22],[0,1,2,3,4,5,6,7,8,9,10,11,12,13,14,15,16,17,18,19,20,21,22,23]] (Xf (hN · false (dT hq3)) [3,4,5] (hP 6 (dT hq3)::(Xf hN0 [8,9,10,11,12,13,14] (hP1 15::(Xf hN0 [17,18,19,20,21,22,23] (hP1 24::[])))))) ?_
  refine cT (b:=true) rfl (T.ret (rT ?_))
  refine eN ⟨(Zes e),(Zew f u L id st E ws done e)⟩ ?_
  refine Xh (s':=⟨(Zes e),(Zex f u L id st E ws done e)⟩) (fun _ _ hG=>Gs.move (s:=⟨(Zes e),(Zew f u L id st E ws done e)⟩) 3 7 (o:=(Zem ws)) rfl rfl rfl p2z ⟨(.inr pZ1),⟨(.inr pZ1),⟨(.inr pq),⟨(.inl ⟨rfl,rfl⟩),⟨(.inr pZ1),⟨(.inr pZ1),⟨(.inr pZ1),⟨(.inr (.inl ⟨rfl,rfl⟩)),trivial⟩⟩⟩⟩⟩⟩⟩⟩ hG) ?_
  exact eX [] trivial [0,1,2,3,4,7] rfl (ix (ix ⟨⟨rfl,pZ18⟩,(ix ⟨⟨rfl,pZ13⟩,trivial⟩)⟩))
 have g3:=Classical.not_not.1 hq3
 by_cases hq4:(Y2 e.X7).X2≠8
 ·have hx:¬Ws (Wf f u L) f id st e:=fun w=>hq4 w.2.2.2.1
  refine sD [[],[0],[0,1],[0,1,2],[0,1,2,3],[0,1,2,3,4],[0,1,2,3,4,5],[0,1,2,3,4,5,6],[0,1,2,3,4,5,6,7],[0,1,2,3,4,5,6,7,8],[0,1,2,3,4,5,6,7],[0,1,2,3,4,5,6,7,10],[0,1,2,3,4,5,6,7,10,11],[0,1,2,3,4,5,6,7,10,11,12],[0,1,2,3,4,5,6,7,8,9,10,11,12,13],[0,1,2,3,4,5,6,7,8,9,10,11,12,13,14],[0,1,2,3,4,5,6,7,8,9,10,11,12,13,14,15],[0,1,2,3,4,5,6,7,8,9,10,11,12,13,14,15,16],[0,1,2,3,4,5,6,7,8,9,10,11,12,13,14,15,16,17],[0,1,2,3,4,5,6,7,8,9,10,11,12,13,14,15,16],[0,1,2,3,4,5,6,7,8,9,10,11,12,13,14,15,16,19],[0,1,2,3,4,5,6,7,8,9,10,11,12,13,14,15,16,19,20],[0,1,2,3,4,5,6,7,8,9,10,11,12,13,14,15,16,19,20,21],[0,1,2,3,4,5,6,7,8,9,10,11,12,13,14,15,16,17,18,19,20,21,22],[0,1,2,3,4,5,6,7,8,9,10,11,12,13,14,15,16,17,18,19,20,21,22,23]] (Xf (hY · (dF hq3)) [3,4,5] (hP 6 (dF hq3)::(Xf (hN · false (dT hq4)) [8,9,10,11,12,13,14] (hP 15 (dT hq4)::(Xf hN0 [17,18,19,20,21,22,23] (hP1 24::[])))))) ?_
  refine cT (b:=true) rfl (T.ret (rT ?_))
  refine eN ⟨(Zes e),(Zew f u L id st E ws done e)⟩ ?_
  refine Xh (s':=⟨(Zes e),(Zex f u L id st E ws done e)⟩) (fun _ _ hG=>Gs.move (s:=⟨(Zes e),(Zew f u L id st E ws done e)⟩) 3 7 (o:=(Zem ws)) rfl rfl rfl p2z ⟨(.inr pZ1),⟨(.inr pZ1),⟨(.inr pq),⟨(.inl ⟨rfl,rfl⟩),⟨(.inr pZ1),⟨(.inr pZ1),⟨(.inr pZ1),⟨(.inr (.inl ⟨rfl,rfl⟩)),trivial⟩⟩⟩⟩⟩⟩⟩⟩ hG) ?_
  exact eX [] trivial [0,1,2,3,4,7] rfl (ix (ix ⟨⟨rfl,pZ18⟩,(ix ⟨⟨rfl,pZ13⟩,trivial⟩)⟩))
 have g4:=Classical.not_not.1 hq4
 by_cases hq5:(Y2 e.X7).Xa≠id
 ·have hx:¬Ws (Wf f u L) f id st e:=fun w=>hq5 w.2.2.2.2.1
  refine sD [[],[0],[0,1],[0,1,2],[0,1,2,3],[0,1,2,3,4],[0,1,2,3,4,5],[0,1,2,3,4,5,6],[0,1,2,3,4,5,6,7],[0,1,2,3,4,5,6,7,8],[0,1,2,3,4,5,6,7],[0,1,2,3,4,5,6,7,10],[0,1,2,3,4,5,6,7,10,11],[0,1,2,3,4,5,6,7,10,11,12],[0,1,2,3,4,5,6,7,8,9,10,11,12,13],[0,1,2,3,4,5,6,7,8,9,10,11,12,13,14],[0,1,2,3,4,5,6,7,8,9,10,11,12,13,14,15],[0,1,2,3,4,5,6,7,8,9,10,11,12,13,14,15,16],[0,1,2,3,4,5,6,7,8,9,10,11,12,13,14,15,16,17],[0,1,2,3,4,5,6,7,8,9,10,11,12,13,14,15,16],[0,1,2,3,4,5,6,7,8,9,10,11,12,13,14,15,16,19],[0,1,2,3,4,5,6,7,8,9,10,11,12,13,14,15,16,19,20],[0,1,2,3,4,5,6,7,8,9,10,11,12,13,14,15,16,19,20,21],[0,1,2,3,4,5,6,7,8,9,10,11,12,13,14,15,16,17,18,19,20,21,22],[0,1,2,3,4,5,6,7,8,9,10,11,12,13,14,15,16,17,18,19,20,21,22,23]] (Xf (hY · (dF hq3)) [3,4,5] (hP 6 (dF hq3)::(Xf (hY · (dF hq4)) [8,9,10,11,12,13,14] (hP 15 (dF hq4)::(Xf (hN · false (dT hq5)) [17,18,19,20,21,22,23] (hP 24 (dT hq5)::[])))))) ?_
  refine cT (b:=true) rfl (T.ret (rT ?_))
  refine eN ⟨(Zes e),(Zew f u L id st E ws done e)⟩ ?_
  refine Xh (s':=⟨(Zes e),(Zex f u L id st E ws done e)⟩) (fun _ _ hG=>Gs.move (s:=⟨(Zes e),(Zew f u L id st E ws done e)⟩) 3 7 (o:=(Zem ws)) rfl rfl rfl p2z ⟨(.inr pZ1),⟨(.inr pZ1),⟨(.inr pq),⟨(.inl ⟨rfl,rfl⟩),⟨(.inr pZ1),⟨(.inr pZ1),⟨(.inr pZ1),⟨(.inr (.inl ⟨rfl,rfl⟩)),trivial⟩⟩⟩⟩⟩⟩⟩⟩ hG) ?_
  exact eX [] trivial [0,1,2,3,4,7] rfl (ix (ix ⟨⟨rfl,pZ18⟩,(ix ⟨⟨rfl,pZ13⟩,trivial⟩)⟩))
 have g5:=Classical.not_not.1 hq5
 refine sD [[],[0],[0,1],[0,1,2],[0,1,2,3],[0,1,2,3,4],[0,1,2,3,4,5],[0,1,2,3,4,5,6],[0,1,2,3,4,5,6,7],[0,1,2,3,4,5,6,7,8],[0,1,2,3,4,5,6,7],[0,1,2,3,4,5,6,7,10],[0,1,2,3,4,5,6,7,10,11],[0,1,2,3,4,5,6,7,10,11,12],[0,1,2,3,4,5,6,7,8,9,10,11,12,13],[0,1,2,3,4,5,6,7,8,9,10,11,12,13,14],[0,1,2,3,4,5,6,7,8,9,10,11,12,13,14,15],[0,1,2,3,4,5,6,7,8,9,10,11,12,13,14,15,16],[0,1,2,3,4,5,6,7,8,9,10,11,12,13,14,15,16,17],[0,1,2,3,4,5,6,7,8,9,10,11,12,13,14,15,16],[0,1,2,3,4,5,6,7,8,9,10,11,12,13,14,15,16,19],[0,1,2,3,4,5,6,7,8,9,10,11,12,13,14,15,16,19,20],[0,1,2,3,4,5,6,7,8,9,10,11,12,13,14,15,16,19,20,21],[0,1,2,3,4,5,6,7,8,9,10,11,12,13,14,15,16,17,18,19,20,21,22],[0,1,2,3,4,5,6,7,8,9,10,11,12,13,14,15,16,17,18,19,20,21,22,23]] (Xf (hY · (dF hq3)) [3,4,5] (hP 6 (dF hq3)::(Xf (hY · (dF hq4)) [8,9,10,11,12,13,14] (hP 15 (dF hq4)::(Xf (hY · (dF hq5)) [17,18,19,20,21,22,23] (hP 24 (dF hq5)::[])))))) ?_
 by_cases hq6:(Y2 e.X7).Xw≠st
 ·have hx:¬Ws (Wf f u L) f id st e:=fun w=>hq6 w.2.2.2.2.2
  refine cT (dT hq6) (T.ret (rT ?_))
  refine eN ⟨(Zez st e),(Zew f u L id st E ws done e)⟩ ?_
  refine Xh (s':=⟨(Zez st e),(Zex f u L id st E ws done e)⟩) (fun _ _ hG=>Gs.move (s:=⟨(Zez st e),(Zew f u L id st E ws done e)⟩) 3 7 (o:=(Zem ws)) rfl rfl rfl p2z ⟨(.inr pZ1),⟨(.inr pZ1),⟨(.inr pq),⟨(.inl ⟨rfl,rfl⟩),⟨(.inr pZ1),⟨(.inr pZ1),⟨(.inr pZ1),⟨(.inr (.inl ⟨rfl,rfl⟩)),trivial⟩⟩⟩⟩⟩⟩⟩⟩ hG) ?_
  exact eX [] trivial [0,1,2,3,4,7] rfl (ix (ix ⟨⟨rfl,pZ18⟩,(ix ⟨⟨rfl,pZ13⟩,trivial⟩)⟩))
 have hh:Ws (Wf f u L) f id st e:=⟨g1,g2,g3,g4,g5,Classical.not_not.1 hq6⟩
 refine cF (dF hq6) (T.skip (nT (sR [] (sR [] (T.seq (sR [] (T.block ?_)))))))
 refine tN ⟨[pv 2 0,(Zed e),aa,pv 5 0,pv 6 0,(Zer e),dv (.slice none 0 0),vI 1,vI 0,aa,aa,aa,aa,aa,aa,aa,aa,aa,aa,aa,aa,aa,aa,aa,aa,aa,aa,aa,aa,aa,aa,aa,vB (!true),aa,aa,aa,aa,aa,aa,aa,aa,aa,aa,aa,aa,aa,aa,aa,aa,aa,aa,aa,aa,aa,aa,aa,aa,aa,aa,aa,aa,aa,aa,(Zey st e)],(Zew f u L id st E ws done e)⟩ ?_
 refine Wv (s':=⟨[pv 2 0,(Zed e),aa,pv 5 0,pv 6 0,(Zer e),Xx 7 (X0 false) 0 0,vI 1,vI 0,aa,aa,aa,aa,aa,aa,aa,aa,aa,aa,aa,aa,aa,aa,aa,aa,aa,aa,aa,aa,aa,aa,aa,vB (!true),aa,aa,aa,aa,aa,aa,aa,aa,aa,aa,aa,aa,aa,aa,aa,aa,aa,aa,aa,aa,aa,aa,aa,aa,aa,aa,aa,aa,aa,aa,(Zey st e)],[(Zee f u L),(Zef L),(Zel id st E ws done),(Zen ws),(Zeo done),(Zeq e),(Zev e),Zf0]⟩) (fun _ _ hG=>Vw 7 6 117 (X0 false) rfl rfl hG) ?_
 refine T.loop (ι:=Nat) (fun (k:Nat)=>⟨[pv 2 0,aa,aa,pv 5 0,pv 6 0,aa,(Zf1 ws e k),(Zf2 ws e k),vI ((k:Nat):Int)],(Zf3 f u L id st E ws done e k)⟩) (fun (k:Nat)=>(k≤ws.length)) (fun (k:Nat)=>ws.length-k) (0) (Nat.zero_le _) (fun _ _ hG=>Y9 [0,1,2,3,4,5,6,7] (bm 9 473) (t2:=[pv 2 0,aa,aa,pv 5 0,pv 6 0,aa,Xx 7 (X0 false) 0 0,vI 1,vI 0]) (h2:=[(Zee f u L),(Zef L),(Zel id st E ws done),(Zen ws),(Zeo done),(Zeq e),(Zev e),Zf0]) (cg2 (fun (q1:Nat) (q2:Int)=>([pv 2 0,aa,aa,pv 5 0,pv 6 0,aa,Xx 7 (X0 false) 0 q1,vI q2,vI 0]:List AV)) (by rfl) (by rfl)) (congrArg (fun (q1:List X6)=>([(Zee f u L),(Zef L),(Zel id st E ws done),(Zen ws),(Zeo done),(Zeq e),(Zev e),.live (Xc 117 (X0 false) q1)]:List HS)) (by rfl)) hG) ?_
 rintro k hk
 show T _ _ ⟨[pv 2 0,aa,aa,pv 5 0,pv 6 0,aa,(Zf1 ws e k),(Zf2 ws e k),vI ((k:Nat):Int)],(Zf3 f u L id st E ws done e k)⟩ _ _
 replace hk:k≤ws.length:=hk
 have hol:=X0p (ws:=ws) (s:=e.f_Signer) (k:=k)
 have hcl:=Xea (ws:=ws) (e:=e) (k:=k)
 refine T.seq (sR [] ?_)
 by_cases hq7:((k:Nat):Int)<((ws.length:Nat):Int)
 rotate_left
 ·have hke:k=ws.length:=(by omega)
  refine cF (dF hq7) (T.exit (xT (xT (xH (nT ?_)))))
  refine tN ⟨[pv 2 0,aa,aa,pv 5 0,pv 6 0,aa,(Zf1 ws e k),(Zf2 ws e k),vI ((k:Nat):Int),aa,aa,aa,aa,aa,aa,aa,aa,aa,aa,aa,aa,aa,aa,aa,aa,aa,aa,aa,aa,aa,aa,aa,aa,aa,aa,aa,aa,aa,aa,aa,aa,aa,aa,aa,aa,aa,aa,aa,aa,aa,aa,aa,aa,aa,aa,aa,aa,aa,aa,aa,aa,aa,aa,aa,aa,aa,aa,aa,aa,aa,(Zfc ws k)],(Zf3 f u L id st E ws done e k)⟩ ?_
  refine Wv (s':=⟨(Zfd ws e k),(Zfe f u L id st E ws done e)⟩) (fun _ _ hG=>Y9 [0,1,2,3,4,5,6,7] (bm 71 1180591620717411303641) (t2:=[pv 2 0,aa,aa,pv 5 0,pv 6 0,aa,(Zf1 ws e k),(Zf2 ws e k),aa,aa,aa,aa,aa,aa,aa,aa,aa,aa,aa,aa,aa,aa,aa,aa,aa,aa,aa,aa,aa,aa,aa,aa,aa,aa,aa,aa,aa,aa,aa,aa,aa,aa,aa,aa,aa,aa,aa,aa,aa,aa,aa,aa,aa,aa,aa,aa,aa,aa,aa,aa,aa,aa,aa,aa,aa,aa,aa,aa,aa,aa,(Zfc ws k)]) (h2:=(Zf3 f u L id st E ws done e k)) (by have e1:((Yx ws e.f_Signer ws.length).length:Nat)=(Yx ws e.f_Signer k).length:=p4e;have e2:(((W6 ws e ws.length:Nat):Int):Int)=((W6 ws e k:Nat):Int):=p4e;have hE:=congr (congrArg (fun (q1:Nat) (q2:Int)=>([pv 2 0,aa,aa,pv 5 0,pv 6 0,aa,Xx 7 (X0 false) 0 q1,vI q2,aa,aa,aa,aa,aa,aa,aa,aa,aa,aa,aa,aa,aa,aa,aa,aa,aa,aa,aa,aa,aa,aa,aa,aa,aa,aa,aa,aa,aa,aa,aa,aa,aa,aa,aa,aa,aa,aa,aa,aa,aa,aa,aa,aa,aa,aa,aa,aa,aa,aa,aa,aa,aa,aa,aa,aa,aa,aa,aa,aa,aa,aa,(Zfc ws k)]:List AV)) e1) e2;exact hE) (by have e1:((Yx ws e.f_Signer ws.length):List X6)=(Yx ws e.f_Signer k):=p4e;have hE:=congrArg (fun (q1:List X6)=>([(Zee f u L),(Zef L),(Zel id st E ws done),(Zen ws),(Zeo done),(Zeq e),(Zev e),.live (Xc 117 (X0 false) q1)]:List HS)) e1;exact hE) hG) ?_
  refine sR [hR 7 rfl rfl (Yb 8 117 (X0 false) (W3 false) [(X6.mk e.f_Signer (Y2 e.X7).X1)] [⟨0,.tmp 113,.agg [dI e.f_Signer,(Zet e),(Zeu e)],0⟩] (cs:=[dI e.f_Signer,(Zet e),(Zeu e)]) Tryz.underlying69 Jj rfl X1w rfl rfl rfl pf (Wi rfl rfl pf Wa) pZ2 (Vk pZ2) (X4 rfl) trivial),hR 8 rfl rfl (Yq 7 9 117 24 (X0 false) (W3 false) (Yx ws e.f_Signer ws.length) [(X6.mk e.f_Signer (Y2 e.X7).X1)] ((Yx ws e.f_Signer ws.length)++[(X6.mk e.f_Signer (Y2 e.X7).X1)]) (Yx ws e.f_Signer ws.length).length (sy:=(.own 8 (X0 false).sz 0 [(X6.mk e.f_Signer (Y2 e.X7).X1)].length)) (rhs:=[(8,.live (Xc 117 (X0 false) [(X6.mk e.f_Signer (Y2 e.X7).X1)]))]) X4z (by omega) (U4 8 117 (X0 false) [(X6.mk e.f_Signer (Y2 e.X7).X1)]) p1o (by (simp [maxLen,-List.getD_eq_getElem?_getD]<;>omega)) (by (simp [maxLen,-List.getD_eq_getElem?_getD]<;>omega)) (X4 rfl) trivial)] ?_
  refine sR [hR 5 rfl rfl (rCa (X5x f u L ‹_› ‹_›) Tryz.func57 [0,1] [(.tmp 122,pv 0 0)] 2 2)] ?_
  by_cases hq10:((W6 ws e ws.length:Nat):Int)≥(f+1)
  ·exact absurd ⟨hh,hq10⟩ hd
  refine cF (dF hq10) (T.skip ?_)
  exact tE (.inr rfl) [] trivial [0,1,2,3,4,9] rfl rfl rfl rfl rfl rfl (ix (ix ⟨⟨rfl,(by have e1:(((Yx ws e.f_Signer ws.length)++[(X6.mk e.f_Signer (Y2 e.X7).X1)]).length:Nat)=(Um (Wf f u L) f id st ws e).length:=(by (rw [X55 hh];rfl));have hE:=congrArg (fun (q1:Nat)=>(.live (.box 71 [.ptr 0 0,(Zeg id),(Zeh st),dB true,(Zei E),(Zej E),.own 9 (X0 false).sz 0 q1,(Zek done)]):HS)) e1;exact Eq.trans pZ2 hE)⟩,(ix ⟨⟨rfl,(by have e1:((Yx ws e.f_Signer ws.length)++[(X6.mk e.f_Signer (Y2 e.X7).X1)]:List X6)=(Um (Wf f u L) f id st ws e):=(by exact (X55 hh).symm);have hE:=congrArg (fun (q1:List X6)=>(.live (Xc 117 (X0 false) q1):HS)) e1;exact Eq.trans pZ2 hE)⟩,trivial⟩)⟩))
 have hkl:k<ws.length:=(by omega)
 refine cT (dT hq7) (T.skip (nT (T.seq (T.block ?_))))
 refine sD [[],[0],[0,1],[0,1,2],[],[0,1,2,3,4],[0,1,2,3,4,5],[0,1,2,3,4,5,6],[],[8],[0,1,2,3,4,5,6,7,8,9]] [hR 5 rfl rfl (V3 (k:=.i64) (l:=3) (sz:=(X0 false).sz) (off:=0) (n:=ws.length) (i:=((k:Nat):Int)) (m:=k) (o':=k*(X0 false).sz+0) Tryz.underlying69 Jj rfl rfl ‹_› (by simp) (X4 rfl) trivial),hR 7 rfl rfl (Uy (l:=3) (off:=k*(X0 false).sz+0) (i:=k) (j:=0) (T:=117) (sz:=(X0 false).sz) (n:=ws.length) (el:=Yu (X0 false) ws) (c:=(Zf5 ws k)) H1 rfl ‹_› (by decide) rfl (X4 rfl) trivial)] ?_
 by_cases hq8:(ws.getD k Xk).f_Signer≠e.f_Signer
 ·have ho9:=X4x hkl hq8;have ho8:=hq8
  refine cT (dT hq8) ?_
  refine sR [hR 6 rfl rfl (V3 (k:=.i64) (l:=3) (sz:=(X0 false).sz) (off:=0) (n:=ws.length) (i:=((k:Nat):Int)) (m:=k) (o':=k*(X0 false).sz+0) Tryz.underlying69 Jj rfl rfl ‹_› (by simp) (X4 rfl) trivial),hR 7 rfl rfl (X2f (l:=3) (off:=k*(X0 false).sz+0) (i:=k) (j:=0) (T:=117) (sz:=(X0 false).sz) (n:=ws.length) (el:=Yu (X0 false) ws) (ds:=[.d ((Zf5 ws k)),(Zf6 ws k),(Zf7 ws k)]) X9v rfl ‹_› (by decide) rfl (X4 rfl) trivial),hR 8 rfl rfl (Yb 8 117 (X0 false) (W3 false) [(ws.getD k Xk)] [⟨0,.tmp 91,.agg [.d ((Zf5 ws k)),(Zf6 ws k),(Zf7 ws k)],0⟩] (cs:=[.d ((Zf5 ws k)),(Zf6 ws k),(Zf7 ws k)]) Tryz.underlying69 Jj rfl X1w rfl rfl rfl pf (Wi rfl rfl pf Wa) pZ2 (Vk pZ2) (X4 rfl) trivial),hR 9 rfl rfl (Yq 7 9 117 24 (X0 false) (W3 false) (Yx ws e.f_Signer k) [(ws.getD k Xk)] ((Yx ws e.f_Signer k)++[(ws.getD k Xk)]) (Yx ws e.f_Signer k).length (sy:=(.own 8 (X0 false).sz 0 [(ws.getD k Xk)].length)) (rhs:=[(8,.live (Xc 117 (X0 false) [(ws.getD k Xk)]))]) X4z (by omega) (U4 8 117 (X0 false) [(ws.getD k Xk)]) p1o (by (simp [maxLen,-List.getD_eq_getElem?_getD]<;>omega)) (by (simp [maxLen,-List.getD_eq_getElem?_getD]<;>omega)) (X4 rfl) trivial)] ?_
  refine sD [[],[0],[0,1],[0,1,2],[],[0,1,2,3,4],[0,1,2,3,4,5],[0,1,2,3,4,5,6],[],[8],[0,1,2,3,4,5,6,7,8,9]] [hR 5 rfl rfl (V3 (k:=.i64) (l:=3) (sz:=(X0 false).sz) (off:=0) (n:=ws.length) (i:=((k:Nat):Int)) (m:=k) (o':=k*(X0 false).sz+0) Tryz.underlying69 Jj rfl rfl ‹_› (by simp) (X4 rfl) trivial),hR 7 rfl rfl (X2f (l:=3) (off:=k*(X0 false).sz+1) (i:=k) (j:=1) (T:=117) (sz:=(X0 false).sz) (n:=ws.length) (el:=Yu (X0 false) ws) (ds:=[(Zf6 ws k),(Zf7 ws k)]) Xd5 rfl ‹_› (by decide) rfl (X4 rfl) trivial),hR 10 rfl rfl (X1j (ax:=.tv (.agg [(Zf6 ws k),(Zf7 ws k)])) (ay:=.tv (.agg [(Zet e),(Zeu e)])) (a:=(ws.getD k Xk).X1) (b:=(Y2 e.X7).X1) Vx ⟨[.int .i64 (ws.getD k Xk).X1.Xt,.int .i64 (ws.getD k Xk).X1.Xn],rfl,rfl⟩ ⟨[.int .i64 (Y2 e.X7).X1.Xt,.int .i64 (Y2 e.X7).X1.Xn],rfl,rfl⟩ (X4 rfl) trivial)] ?_
  by_cases hq9:(ws.getD k Xk).X1=(Y2 e.X7).X1
  ·have hc9:=cntW_1 (e:=e) hkl ho8 hq9
   refine cT (dT hq9) (xK [hR 1 rfl rfl (Y4 (u1:=.int .i64 ((W6 ws e k:Nat):Int)) (u2:=.int .i64 1) (v:=.int .i64 (((W6 ws e k)+1:Nat):Int)) (Yn pZ5) (X4 rfl) ⟨rfl,trivial⟩)] (nB (nT (xK [hR 1 rfl rfl (Y4 (u1:=.int .i64 ((k:Nat):Int)) (u2:=.int .i64 1) (v:=.int .i64 ((k+1:Nat):Int)) (Yn pZ5) (X4 rfl) ⟨rfl,trivial⟩)] ?_))))
   refine nL (k+1) (show (k+1)≤ws.length from (by omega)) (show (ws.length-(k+1):Nat)<ws.length-k from (by omega)) (fun _ _ hG=>Ww [0,1,2,3,4,5,6,9] (bm 9 473) (t1:=(Zfb ws e k)) (t2:=[pv 2 0,aa,aa,pv 5 0,pv 6 0,aa,Xx 9 (X0 false) 0 ((Yx ws e.f_Signer k)++[(ws.getD k Xk)]).length,vI (((W6 ws e k)+1:Nat):Int),(Zf8 k)]) (h1:=(Zfa f u L id st E ws done e k)) (h2:=[(Zee f u L),(Zef L),(Zel id st E ws done),(Zen ws),(Zeo done),(Zeq e),(Zev e),.live (Xc 117 (X0 false) ((Yx ws e.f_Signer k)++[(ws.getD k Xk)]))]) (by have e1:((Yx ws e.f_Signer (k+1)).length:Nat)=((Yx ws e.f_Signer k)++[(ws.getD k Xk)]).length:=p4d;have e2:(((W6 ws e (k+1):Nat):Int):Int)=(((W6 ws e k)+1:Nat):Int):=p4f;have hE:=congr p3i e2;exact hE) p1n hG)
  have hc9:=cntW_2 (e:=e) hkl ho8 hq9
  refine cF (dF hq9) (T.skip (nB (nT (xK [hR 1 rfl rfl (Y4 (u1:=.int .i64 ((k:Nat):Int)) (u2:=.int .i64 1) (v:=.int .i64 ((k+1:Nat):Int)) (Yn pZ5) (X4 rfl) ⟨rfl,trivial⟩)] ?_))))
  refine nL (k+1) (show (k+1)≤ws.length from (by omega)) (show (ws.length-(k+1):Nat)<ws.length-k from (by omega)) (fun _ _ hG=>Ww [0,1,2,3,4,5,6,9] (bm 9 473) (t1:=(Zfb ws e k)) (t2:=[pv 2 0,aa,aa,pv 5 0,pv 6 0,aa,Xx 9 (X0 false) 0 ((Yx ws e.f_Signer k)++[(ws.getD k Xk)]).length,(Zf2 ws e k),(Zf8 k)]) (h1:=(Zfa f u L id st E ws done e k)) (h2:=[(Zee f u L),(Zef L),(Zel id st E ws done),(Zen ws),(Zeo done),(Zeq e),(Zev e),.live (Xc 117 (X0 false) ((Yx ws e.f_Signer k)++[(ws.getD k Xk)]))]) (by have e1:((Yx ws e.f_Signer (k+1)).length:Nat)=((Yx ws e.f_Signer k)++[(ws.getD k Xk)]).length:=p4d;have e2:(((W6 ws e (k+1):Nat):Int):Int)=((W6 ws e k:Nat):Int):=p4f;have hE:=congr p3i e2;exact hE) p1n hG)
 have ho9:=Xc3 hkl hq8;have hc9:=Xe9 (e:=e) hkl hq8
 refine cF (dF hq8) (T.skip (nB (nT (xK [hR 1 rfl rfl (Y4 (u1:=.int .i64 ((k:Nat):Int)) (u2:=.int .i64 1) (v:=.int .i64 ((k+1:Nat):Int)) (Yn pZ5) (X4 rfl) ⟨rfl,trivial⟩)] ?_))))
 refine nL (k+1) (show (k+1)≤ws.length from (by omega)) (show (ws.length-(k+1):Nat)<ws.length-k from (by omega)) (fun _ _ hG=>Y9 [0,1,2,3,4,5,6,7] (bm 9 473) (t2:=[pv 2 0,aa,aa,pv 5 0,pv 6 0,aa,(Zf1 ws e k),(Zf2 ws e k),(Zf8 k)]) (h2:=(Zf3 f u L id st E ws done e k)) (by have e1:((Yx ws e.f_Signer (k+1)).length:Nat)=(Yx ws e.f_Signer k).length:=p4d;have e2:(((W6 ws e (k+1):Nat):Int):Int)=((W6 ws e k:Nat):Int):=p4f;have hE:=congr (congrArg (fun (q1:Nat) (q2:Int)=>([pv 2 0,aa,aa,pv 5 0,pv 6 0,aa,Xx 7 (X0 false) 0 q1,vI q2,(Zf8 k)]:List AV)) e1) e2;exact hE) p1n hG)
section
variable (f:Int) (u:Int) (L:List aE) (id:Int) (st:Int) (E:aE) (ws:List X6) (done:List Xo) (e:aE) (k:Nat)
abbrev Zff:List SV:=[dI e.f_Signer,dU e.X7]
abbrev Zfg:HS:=.live (.box 49 [dB true,dI f,dI u,.own 1 (kE false).sz 0 L.length])
abbrev Zfh:HS:=.live (Xc 53 (kE false) L)
abbrev Zfi:SV:=dI id
abbrev Zfj:SV:=dI st
abbrev Zfk:SV:=dI E.f_Signer
abbrev Zfl:SV:=dU E.X7
abbrev Zfm:HS:=.live (.box 71 [.ptr 0 0,(Zfi id),(Zfj st),dB true,(Zfk E),(Zfl E),.own 3 (X0 false).sz 0 ws.length,.own 4 (X3 false).sz 0 done.length])
abbrev Zfn:HS:=.live (Xc 117 (X0 false) ws)
abbrev Zfo:HS:=.live (Xc 55 (X3 false) done)
abbrev Zfp:HS:=.live (.box 53 (Zff e))
abbrev Zfq:SV:=dI (Y2 e.X7).X1.Xt
abbrev Zfr:SV:=dI (Y2 e.X7).X1.Xn
abbrev Zfs:HS:=.live (.box 42 [dI (Y2 e.X7).X2,dI (Y2 e.X7).Xr,dI (Y2 e.X7).Xy,dI (Y2 e.X7).Xa,dI (Y2 e.X7).Xw,dS (Y2 e.X7).Xb,dU (Y2 e.X7).Xi,(Zfq e),(Zfr e),.d (dsl false false (kE false) (Y2 e.X7).Xe),.d (dsl false false (kE false) (Y2 e.X7).Xp),.d (dsl false false (kC false) (Y2 e.X7).X5)])
abbrev Zft:HS:=.live (Xc 117 (X0 false) ([]:List X6))
abbrev Zfu:AV:=Xx 7 (X0 false) 0 (Yx ws e.f_Signer k).length
abbrev Zfv:AV:=vI ((W6 ws e k:Nat):Int)
abbrev Zfw:List HS:=[(Zfg f u L),(Zfh L),(Zfm id st E ws done),(Zfn ws),(Zfo done),(Zfp e),(Zfs e),.live (Xc 117 (X0 false) (Yx ws e.f_Signer k))]
abbrev Zfy:DV:=.val (.int .i64 (ws.getD k Xk).f_Signer)
abbrev Zfz:SV:=dI (ws.getD k Xk).X1.Xt
abbrev Zg0:SV:=dI (ws.getD k Xk).X1.Xn
abbrev Zg1:AV:=vI ((k+1:Nat):Int)
abbrev Zg3:List HS:=[(Zfg f u L),(Zfh L),(Zfm id st E ws done),(Zfn ws),(Zfo done),(Zfp e),(Zfs e),.live (Xc 117 (X0 false) (Yx ws e.f_Signer (k+1)))]
abbrev Zg4:List AV:=[pv 2 0,aa,aa,pv 5 0,pv 6 0,aa,Xx 9 (X0 false) 0 (Yx ws e.f_Signer (k+1)).length,vI ((W6 ws e (k+1):Nat):Int),(Zg1 k)]
abbrev Zg5:AV:=vB (decide (((k:Nat):Int)<((ws.length:Nat):Int)))
abbrev Zg6:List AV:=[pv 2 0,aa,aa,pv 5 0,pv 6 0,aa,Xx 7 (X0 false) 0 (Yx ws e.f_Signer ws.length).length,vI ((W6 ws e ws.length:Nat):Int),aa,aa,aa,aa,aa,aa,aa,aa,aa,aa,aa,aa,aa,aa,aa,aa,aa,aa,aa,aa,aa,aa,aa,aa,aa,aa,aa,aa,aa,aa,aa,aa,aa,aa,aa,aa,aa,aa,aa,aa,aa,aa,aa,aa,aa,aa,aa,aa,aa,aa,aa,aa,aa,aa,aa,aa,aa,aa,aa,aa,aa,aa,(Zg5 ws k)]
abbrev Zg7:List HS:=[(Zfg f u L),(Zfh L),(Zfm id st E ws done),(Zfn ws),(Zfo done),(Zfp e),(Zfs e),.live (Xc 117 (X0 false) (Yx ws e.f_Signer ws.length))]
abbrev Zg8:=(X6.mk e.f_Signer (Y2 e.X7).X1)
abbrev Zg9:HS:=.live (Xc 117 (X0 false) [(Zg8 e)])
abbrev Zga:=(Xo.mk id st (Y2 e.X7).X1)
abbrev Zgb:List AV:=[pv 2 0,aa,aa,pv 5 0,pv 6 0,aa,Xx 7 (X0 false) 0 (Yx ws e.f_Signer ws.length).length,vI ((W6 ws e ws.length:Nat):Int),aa,aa,aa,aa,aa,aa,aa,aa,aa,aa,aa,aa,aa,aa,aa,aa,aa,aa,aa,aa,aa,aa,aa,aa,aa,aa,aa,aa,aa,aa,aa,aa,aa,aa,aa,aa,aa,aa,aa,aa,aa,aa,aa,aa,aa,aa,aa,aa,aa,aa,aa,aa,aa,aa,aa,aa,aa,aa,aa,aa,aa,aa,(Zg5 ws k),aa,aa,aa,aa,aa,aa,aa,aa,aa,aa,aa,aa,aa,aa,aa,aa,aa,aa,aa,aa,aa,aa,aa,aa,aa,aa,aa,aa,aa,aa,aa,aa,aa,aa,aa,aa,aa,aa,aa,aa,aa,aa,aa,aa,aa,aa,aa,aa,aa,aa,aa,aa,aa,vB (decide (((W6 ws e ws.length:Nat):Int)≥(f+1)))]
end
theorem X5w (f:Int) (u:Int) (L:List aE) (id:Int) (st:Int) (E:aE) (ws:List X6) (done:List Xo) (e:aE) (hf:0≤f∧f≤2) (hu:0≤u∧u≤8) (hs:-9223372036854775808≤e.f_Signer∧e.f_Signer≤9223372036854775807) (hb:e.X7.length≤100000000) (hLl:L.length≤1000000) (hwl:ws.length≤1000000) (hdl:done.length≤1000000) (hd:Fx (Wf f u L) f id st ws e):Holds Tryz.prog 25 ⟨[pv 2 0,.tv (.agg [dI e.f_Signer,dU e.X7])],[.box 49 [dB true,dI f,dI u,.own 1 (kE false).sz 0 L.length],Xc 53 (kE false) L,.box 71 [.ptr 0 0,dI id,dI st,dB true,dI E.f_Signer,dU E.X7,.own 3 (X0 false).sz 0 ws.length,.own 4 (X3 false).sz 0 done.length],Xc 117 (X0 false) ws,Xc 55 (X3 false) done],.tup [],[.live (.box 49 [dB true,dI f,dI u,.own 1 (kE false).sz 0 L.length]),.live (Xc 53 (kE false) L),.live (.box 71 [.ptr 0 0,dI id,dI st,dB false,dI E.f_Signer,dU E.X7,.own 5 (X0 false).sz 0 ([]:List X6).length,.own 6 (X3 false).sz 0 (done++[(Xo.mk id st (Uw e))]).length]),.dead,.dead,.live (Xc 117 (X0 false) ([]:List X6)),.live (Xc 55 (X3 false) (done++[(Xo.mk id st (Uw e))]))]⟩:=by
 refine Holds.of Tryz.func25 rfl (N:=151) Tryz.ntmps25 rfl fun w0 B0 S0 U0=>?_
 show T _ (Y0 151 5 w0 S0 U0 B0) ⟨[pv 2 0,.tv (.agg (Zff e))],[(Zfg f u L),(Zfh L),(Zfm id st E ws done),(Zfn ws),(Zfo done)]⟩ _ _
 have hol9:=X0p (ws:=ws) (s:=e.f_Signer) (k:=ws.length)
 refine sR [] (T.seq ?_)
 by_cases hq1:(Wf f u L e)≠0
 ·exact absurd hd.1.2.1 hq1
 have g2:=Classical.not_not.1 hq1
 by_cases hq2:Yg f e.f_Signer
 rotate_left
 ·exact absurd hd.1.1 hq2
 have g1:=hq2
 refine sD [[],[0],[0,1],[0,1,2],[],[0,1,2,3,4],[0,1,2,3,4,5],[0,1,2,3,4,5,6],[0,1,2,3,4,5,6,7],[0,1,2,3,4,5,6,7,8],[0,1,2,3,4,5,6,7,8,9],[0,1,2,3,4,5,6,7,8,9,10],[0,1,2,3,4,5,6,7],[0,1,2,3,4,5,6,7,12],[0,1,2,3,4,5,6,7,8,9,10,11,12,13],[0,1,2,3,4,5,6,7,8,9,10,11,12,13,14],[0,1,2,3,4,5,6,7,8,9,10,11,12,13,14,15],[0,1,2,3,4,5,6,7,8,9,10,11,12,13,14,15,16],[0,1,2,3,4,5,6,7,8,9,10,11,12,13,14,15,16,17],[0,1,2,3,4,5,6,7,8,9,10,11,12,13,14,15,16,17,18],[0,1,2,3,4,5,6,7,8,9,10,11,12,13,14,15,16,17,18,19],[0,1,2,3,4,5,6,7,8,9,10,11,12,13,14,15,16,17,18,19,20],[0,1,2,3,4,5,6,7,8,9,10,11,12,13,14,15,16,17,18,19,20,21],[0,1,2,3,4,5,6,7,8,9,10,11,12,13,14,15,16,17,18,19,20,21,22]] (hR 5 rfl rfl (rCa (Jd f u L false e ‹_› ‹_› ‹_› (by omega)) Tryz.func55 [0,1] [(.tmp 12,pv 0 0),(.tmp 13,.tv (.agg (Zff e)))] 2 2)::(Xf (hY · (dF hq1)) [8,9,10,11,12,13] (hS 14 (oY rfl rfl rfl rfl (X4 rfl) (dF hq1) (rCa (Ui f u L e.f_Signer ‹_› ‹_›) Tryz.func56 [0,1] [(.tmp 20,pv 0 0),(.tmp 22,vI e.f_Signer)] 2 2))::(hY 15 (dF hq1)::(hP 16 (dF hq1)::(Xf (hY · (cn (dT hq2))) [18,19,20,21,22] (hP 23 (cn (dT hq2))::[]))))))) ?_
 refine cF (b:=(!true)) rfl (T.skip (nT (sR [hR 2 rfl rfl (rCa (H7 e.X7 (by omega)) Tryz.func8 [] [(.tmp 35,slV false false kU8 e.X7)] 0 0)] (T.seq ?_))))
 by_cases hq3:(X05 e.X7)≠0
 ·exact absurd hd.1.2.2.1 hq3
 have g3:=Classical.not_not.1 hq3
 by_cases hq4:(Y2 e.X7).X2≠8
 ·exact absurd hd.1.2.2.2.1 hq4
 have g4:=Classical.not_not.1 hq4
 by_cases hq5:(Y2 e.X7).Xa≠id
 ·exact absurd hd.1.2.2.2.2.1 hq5
 have g5:=Classical.not_not.1 hq5
 refine sD [[],[0],[0,1],[0,1,2],[0,1,2,3],[0,1,2,3,4],[0,1,2,3,4,5],[0,1,2,3,4,5,6],[0,1,2,3,4,5,6,7],[0,1,2,3,4,5,6,7,8],[0,1,2,3,4,5,6,7],[0,1,2,3,4,5,6,7,10],[0,1,2,3,4,5,6,7,10,11],[0,1,2,3,4,5,6,7,10,11,12],[0,1,2,3,4,5,6,7,8,9,10,11,12,13],[0,1,2,3,4,5,6,7,8,9,10,11,12,13,14],[0,1,2,3,4,5,6,7,8,9,10,11,12,13,14,15],[0,1,2,3,4,5,6,7,8,9,10,11,12,13,14,15,16],[0,1,2,3,4,5,6,7,8,9,10,11,12,13,14,15,16,17],[0,1,2,3,4,5,6,7,8,9,10,11,12,13,14,15,16],[0,1,2,3,4,5,6,7,8,9,10,11,12,13,14,15,16,19],[0,1,2,3,4,5,6,7,8,9,10,11,12,13,14,15,16,19,20],[0,1,2,3,4,5,6,7,8,9,10,11,12,13,14,15,16,19,20,21],[0,1,2,3,4,5,6,7,8,9,10,11,12,13,14,15,16,17,18,19,20,21,22],[0,1,2,3,4,5,6,7,8,9,10,11,12,13,14,15,16,17,18,19,20,21,22,23]] (Xf (hY · (dF hq3)) [3,4,5] (hP 6 (dF hq3)::(Xf (hY · (dF hq4)) [8,9,10,11,12,13,14] (hP 15 (dF hq4)::(Xf (hY · (dF hq5)) [17,18,19,20,21,22,23] (hP 24 (dF hq5)::[])))))) ?_
 by_cases hq6:(Y2 e.X7).Xw≠st
 ·exact absurd hd.1.2.2.2.2.2 hq6
 have hh:Ws (Wf f u L) f id st e:=⟨g1,g2,g3,g4,g5,Classical.not_not.1 hq6⟩
 refine cF (dF hq6) (T.skip (nT (sR [] (sR [] (T.seq (sR [] (T.block ?_)))))))
 refine tN ⟨[pv 2 0,.tv (.agg (Zff e)),aa,pv 5 0,pv 6 0,vI (X05 e.X7),dv (.slice none 0 0),vI 1,vI 0,aa,aa,aa,aa,aa,aa,aa,aa,aa,aa,aa,aa,aa,aa,aa,aa,aa,aa,aa,aa,aa,aa,aa,vB (!true),aa,aa,aa,aa,aa,aa,aa,aa,aa,aa,aa,aa,aa,aa,aa,aa,aa,aa,aa,aa,aa,aa,aa,aa,aa,aa,aa,aa,aa,aa,vB (decide ((Y2 e.X7).Xw≠st))],[(Zfg f u L),(Zfh L),(Zfm id st E ws done),(Zfn ws),(Zfo done),(Zfp e),(Zfs e)]⟩ ?_
 refine Wv (s':=⟨[pv 2 0,.tv (.agg (Zff e)),aa,pv 5 0,pv 6 0,vI (X05 e.X7),Xx 7 (X0 false) 0 0,vI 1,vI 0,aa,aa,aa,aa,aa,aa,aa,aa,aa,aa,aa,aa,aa,aa,aa,aa,aa,aa,aa,aa,aa,aa,aa,vB (!true),aa,aa,aa,aa,aa,aa,aa,aa,aa,aa,aa,aa,aa,aa,aa,aa,aa,aa,aa,aa,aa,aa,aa,aa,aa,aa,aa,aa,aa,aa,vB (decide ((Y2 e.X7).Xw≠st))],[(Zfg f u L),(Zfh L),(Zfm id st E ws done),(Zfn ws),(Zfo done),(Zfp e),(Zfs e),Zft]⟩) (fun _ _ hG=>Vw 7 6 117 (X0 false) rfl rfl hG) ?_
 refine T.loop (ι:=Nat) (fun (k:Nat)=>⟨[pv 2 0,aa,aa,pv 5 0,pv 6 0,aa,(Zfu ws e k),(Zfv ws e k),vI ((k:Nat):Int)],(Zfw f u L id st E ws done e k)⟩) (fun (k:Nat)=>(k≤ws.length)) (fun (k:Nat)=>ws.length-k) (0) (Nat.zero_le _) (fun _ _ hG=>Y9 [0,1,2,3,4,5,6,7] (bm 9 473) (t2:=[pv 2 0,aa,aa,pv 5 0,pv 6 0,aa,Xx 7 (X0 false) 0 0,vI 1,vI 0]) (h2:=[(Zfg f u L),(Zfh L),(Zfm id st E ws done),(Zfn ws),(Zfo done),(Zfp e),(Zfs e),Zft]) (cg2 (fun (q1:Nat) (q2:Int)=>([pv 2 0,aa,aa,pv 5 0,pv 6 0,aa,Xx 7 (X0 false) 0 q1,vI q2,vI 0]:List AV)) (by rfl) (by rfl)) (congrArg (fun (q1:List X6)=>([(Zfg f u L),(Zfh L),(Zfm id st E ws done),(Zfn ws),(Zfo done),(Zfp e),(Zfs e),.live (Xc 117 (X0 false) q1)]:List HS)) (by rfl)) hG) ?_
 rintro k hk
 show T _ _ ⟨[pv 2 0,aa,aa,pv 5 0,pv 6 0,aa,(Zfu ws e k),(Zfv ws e k),vI ((k:Nat):Int)],(Zfw f u L id st E ws done e k)⟩ _ _
 replace hk:k≤ws.length:=hk
 have hol:=X0p (ws:=ws) (s:=e.f_Signer) (k:=k)
 have hcl:=Xea (ws:=ws) (e:=e) (k:=k)
 refine T.seq (sR [] ?_)
 by_cases hq7:((k:Nat):Int)<((ws.length:Nat):Int)
 ·have hkl:k<ws.length:=(by omega)
  refine cT (dT hq7) (T.skip (nT (T.seq (T.block ?_))))
  refine sD [[],[0],[0,1],[0,1,2],[],[0,1,2,3,4],[0,1,2,3,4,5],[0,1,2,3,4,5,6],[],[8],[0,1,2,3,4,5,6,7,8,9]] [hR 5 rfl rfl (V3 (k:=.i64) (l:=3) (sz:=(X0 false).sz) (off:=0) (n:=ws.length) (i:=((k:Nat):Int)) (m:=k) (o':=k*(X0 false).sz+0) Tryz.underlying69 Jj rfl rfl ‹_› (by simp) (X4 rfl) trivial),hR 7 rfl rfl (Uy (l:=3) (off:=k*(X0 false).sz+0) (i:=k) (j:=0) (T:=117) (sz:=(X0 false).sz) (n:=ws.length) (el:=Yu (X0 false) ws) (c:=(Zfy ws k)) H1 rfl ‹_› (by decide) rfl (X4 rfl) trivial)] ?_
  by_cases hq8:(ws.getD k Xk).f_Signer≠e.f_Signer
  ·have ho9:=X4x hkl hq8;have ho8:=hq8
   refine cT (dT hq8) ?_
   refine sR [hR 6 rfl rfl (V3 (k:=.i64) (l:=3) (sz:=(X0 false).sz) (off:=0) (n:=ws.length) (i:=((k:Nat):Int)) (m:=k) (o':=k*(X0 false).sz+0) Tryz.underlying69 Jj rfl rfl ‹_› (by simp) (X4 rfl) trivial),hR 7 rfl rfl (X2f (l:=3) (off:=k*(X0 false).sz+0) (i:=k) (j:=0) (T:=117) (sz:=(X0 false).sz) (n:=ws.length) (el:=Yu (X0 false) ws) (ds:=[.d ((Zfy ws k)),(Zfz ws k),(Zg0 ws k)]) X9v rfl ‹_› (by decide) rfl (X4 rfl) trivial),hR 8 rfl rfl (Yb 8 117 (X0 false) (W3 false) [(ws.getD k Xk)] [⟨0,.tmp 91,.agg [.d ((Zfy ws k)),(Zfz ws k),(Zg0 ws k)],0⟩] (cs:=[.d ((Zfy ws k)),(Zfz ws k),(Zg0 ws k)]) Tryz.underlying69 Jj rfl X1w rfl rfl rfl pf (Wi rfl rfl pf Wa) pZ2 (Vk pZ2) (X4 rfl) trivial),hR 9 rfl rfl (Yq 7 9 117 24 (X0 false) (W3 false) (Yx ws e.f_Signer k) [(ws.getD k Xk)] ((Yx ws e.f_Signer k)++[(ws.getD k Xk)]) (Yx ws e.f_Signer k).length (sy:=(.own 8 (X0 false).sz 0 [(ws.getD k Xk)].length)) (rhs:=[(8,.live (Xc 117 (X0 false) [(ws.getD k Xk)]))]) X4z (by omega) (U4 8 117 (X0 false) [(ws.getD k Xk)]) p1o (by (simp [maxLen,-List.getD_eq_getElem?_getD]<;>omega)) (by (simp [maxLen,-List.getD_eq_getElem?_getD]<;>omega)) (X4 rfl) trivial)] ?_
   refine sD [[],[0],[0,1],[0,1,2],[],[0,1,2,3,4],[0,1,2,3,4,5],[0,1,2,3,4,5,6],[],[8],[0,1,2,3,4,5,6,7,8,9]] [hR 5 rfl rfl (V3 (k:=.i64) (l:=3) (sz:=(X0 false).sz) (off:=0) (n:=ws.length) (i:=((k:Nat):Int)) (m:=k) (o':=k*(X0 false).sz+0) Tryz.underlying69 Jj rfl rfl ‹_› (by simp) (X4 rfl) trivial),hR 7 rfl rfl (X2f (l:=3) (off:=k*(X0 false).sz+1) (i:=k) (j:=1) (T:=117) (sz:=(X0 false).sz) (n:=ws.length) (el:=Yu (X0 false) ws) (ds:=[(Zfz ws k),(Zg0 ws k)]) Xd5 rfl ‹_› (by decide) rfl (X4 rfl) trivial),hR 10 rfl rfl (X1j (ax:=.tv (.agg [(Zfz ws k),(Zg0 ws k)])) (ay:=.tv (.agg [(Zfq e),(Zfr e)])) (a:=(ws.getD k Xk).X1) (b:=(Y2 e.X7).X1) Vx ⟨[.int .i64 (ws.getD k Xk).X1.Xt,.int .i64 (ws.getD k Xk).X1.Xn],rfl,rfl⟩ ⟨[.int .i64 (Y2 e.X7).X1.Xt,.int .i64 (Y2 e.X7).X1.Xn],rfl,rfl⟩ (X4 rfl) trivial)] ?_
   by_cases hq9:(ws.getD k Xk).X1=(Y2 e.X7).X1
   ·have hc9:=cntW_1 (e:=e) hkl ho8 hq9
    refine cT (dT hq9) (xK [hR 1 rfl rfl (Y4 (u1:=.int .i64 ((W6 ws e k:Nat):Int)) (u2:=.int .i64 1) (v:=.int .i64 (((W6 ws e k)+1:Nat):Int)) (Yn pZ5) (X4 rfl) ⟨rfl,trivial⟩)] (nB (nT (xK [hR 1 rfl rfl (Y4 (u1:=.int .i64 ((k:Nat):Int)) (u2:=.int .i64 1) (v:=.int .i64 ((k+1:Nat):Int)) (Yn pZ5) (X4 rfl) ⟨rfl,trivial⟩)] ?_))))
    refine nL (k+1) (show (k+1)≤ws.length from (by omega)) (show (ws.length-(k+1):Nat)<ws.length-k from (by omega)) (fun _ _ hG=>Ww [0,1,2,3,4,5,6,9] (bm 9 473) (t1:=(Zg4 ws e k)) (t2:=[pv 2 0,aa,aa,pv 5 0,pv 6 0,aa,Xx 9 (X0 false) 0 ((Yx ws e.f_Signer k)++[(ws.getD k Xk)]).length,vI (((W6 ws e k)+1:Nat):Int),(Zg1 k)]) (h1:=(Zg3 f u L id st E ws done e k)) (h2:=[(Zfg f u L),(Zfh L),(Zfm id st E ws done),(Zfn ws),(Zfo done),(Zfp e),(Zfs e),.live (Xc 117 (X0 false) ((Yx ws e.f_Signer k)++[(ws.getD k Xk)]))]) (by have e1:((Yx ws e.f_Signer (k+1)).length:Nat)=((Yx ws e.f_Signer k)++[(ws.getD k Xk)]).length:=p4d;have e2:(((W6 ws e (k+1):Nat):Int):Int)=(((W6 ws e k)+1:Nat):Int):=p4f;have hE:=congr p3h e2;exact hE) p1m hG)
   have hc9:=cntW_2 (e:=e) hkl ho8 hq9
   refine cF (dF hq9) (T.skip (nB (nT (xK [hR 1 rfl rfl (Y4 (u1:=.int .i64 ((k:Nat):Int)) (u2:=.int .i64 1) (v:=.int .i64 ((k+1:Nat):Int)) (Yn pZ5) (X4 rfl) ⟨rfl,trivial⟩)] ?_))))
   refine nL (k+1) (show (k+1)≤ws.length from (by omega)) (show (ws.length-(k+1):Nat)<ws.length-k from (by omega)) (fun _ _ hG=>Ww [0,1,2,3,4,5,6,9] (bm 9 473) (t1:=(Zg4 ws e k)) (t2:=[pv 2 0,aa,aa,pv 5 0,pv 6 0,aa,Xx 9 (X0 false) 0 ((Yx ws e.f_Signer k)++[(ws.getD k Xk)]).length,(Zfv ws e k),(Zg1 k)]) (h1:=(Zg3 f u L id st E ws done e k)) (h2:=[(Zfg f u L),(Zfh L),(Zfm id st E ws done),(Zfn ws),(Zfo done),(Zfp e),(Zfs e),.live (Xc 117 (X0 false) ((Yx ws e.f_Signer k)++[(ws.getD k Xk)]))]) (by have e1:((Yx ws e.f_Signer (k+1)).length:Nat)=((Yx ws e.f_Signer k)++[(ws.getD k Xk)]).length:=p4d;have e2:(((W6 ws e (k+1):Nat):Int):Int)=((W6 ws e k:Nat):Int):=p4f;have hE:=congr p3h e2;exact hE) p1m hG)
  have ho9:=Xc3 hkl hq8;have hc9:=Xe9 (e:=e) hkl hq8
  refine cF (dF hq8) (T.skip (nB (nT (xK [hR 1 rfl rfl (Y4 (u1:=.int .i64 ((k:Nat):Int)) (u2:=.int .i64 1) (v:=.int .i64 ((k+1:Nat):Int)) (Yn pZ5) (X4 rfl) ⟨rfl,trivial⟩)] ?_))))
  refine nL (k+1) (show (k+1)≤ws.length from (by omega)) (show (ws.length-(k+1):Nat)<ws.length-k from (by omega)) (fun _ _ hG=>Y9 [0,1,2,3,4,5,6,7] (bm 9 473) (t2:=[pv 2 0,aa,aa,pv 5 0,pv 6 0,aa,(Zfu ws e k),(Zfv ws e k),(Zg1 k)]) (h2:=(Zfw f u L id st E ws done e k)) (by have e1:((Yx ws e.f_Signer (k+1)).length:Nat)=(Yx ws e.f_Signer k).length:=p4d;have e2:(((W6 ws e (k+1):Nat):Int):Int)=((W6 ws e k:Nat):Int):=p4f;have hE:=congr (congrArg (fun (q1:Nat) (q2:Int)=>([pv 2 0,aa,aa,pv 5 0,pv 6 0,aa,Xx 7 (X0 false) 0 q1,vI q2,(Zg1 k)]:List AV)) e1) e2;exact hE) p1m hG)
 have hke:k=ws.length:=(by omega)
 refine cF (dF hq7) (T.exit (xT (xT (xH (nT ?_)))))
 refine tN ⟨[pv 2 0,aa,aa,pv 5 0,pv 6 0,aa,(Zfu ws e k),(Zfv ws e k),vI ((k:Nat):Int),aa,aa,aa,aa,aa,aa,aa,aa,aa,aa,aa,aa,aa,aa,aa,aa,aa,aa,aa,aa,aa,aa,aa,aa,aa,aa,aa,aa,aa,aa,aa,aa,aa,aa,aa,aa,aa,aa,aa,aa,aa,aa,aa,aa,aa,aa,aa,aa,aa,aa,aa,aa,aa,aa,aa,aa,aa,aa,aa,aa,aa,(Zg5 ws k)],(Zfw f u L id st E ws done e k)⟩ ?_
 refine Wv (s':=⟨(Zg6 ws e k),(Zg7 f u L id st E ws done e)⟩) (fun _ _ hG=>Y9 [0,1,2,3,4,5,6,7] (bm 71 1180591620717411303641) (t2:=[pv 2 0,aa,aa,pv 5 0,pv 6 0,aa,(Zfu ws e k),(Zfv ws e k),aa,aa,aa,aa,aa,aa,aa,aa,aa,aa,aa,aa,aa,aa,aa,aa,aa,aa,aa,aa,aa,aa,aa,aa,aa,aa,aa,aa,aa,aa,aa,aa,aa,aa,aa,aa,aa,aa,aa,aa,aa,aa,aa,aa,aa,aa,aa,aa,aa,aa,aa,aa,aa,aa,aa,aa,aa,aa,aa,aa,aa,aa,(Zg5 ws k)]) (h2:=(Zfw f u L id st E ws done e k)) (by have e1:((Yx ws e.f_Signer ws.length).length:Nat)=(Yx ws e.f_Signer k).length:=p4e;have e2:(((W6 ws e ws.length:Nat):Int):Int)=((W6 ws e k:Nat):Int):=p4e;have hE:=congr (congrArg (fun (q1:Nat) (q2:Int)=>([pv 2 0,aa,aa,pv 5 0,pv 6 0,aa,Xx 7 (X0 false) 0 q1,vI q2,aa,aa,aa,aa,aa,aa,aa,aa,aa,aa,aa,aa,aa,aa,aa,aa,aa,aa,aa,aa,aa,aa,aa,aa,aa,aa,aa,aa,aa,aa,aa,aa,aa,aa,aa,aa,aa,aa,aa,aa,aa,aa,aa,aa,aa,aa,aa,aa,aa,aa,aa,aa,aa,aa,aa,aa,aa,aa,aa,aa,aa,aa,(Zg5 ws k)]:List AV)) e1) e2;exact hE) (by have e1:((Yx ws e.f_Signer ws.length):List X6)=(Yx ws e.f_Signer k):=p4e;have hE:=congrArg (fun (q1:List X6)=>([(Zfg f u L),(Zfh L),(Zfm id st E ws done),(Zfn ws),(Zfo done),(Zfp e),(Zfs e),.live (Xc 117 (X0 false) q1)]:List HS)) e1;exact hE) hG) ?_
 refine sR [hR 7 rfl rfl (Yb 8 117 (X0 false) (W3 false) [(X6.mk e.f_Signer (Y2 e.X7).X1)] [⟨0,.tmp 113,.agg [dI e.f_Signer,(Zfq e),(Zfr e)],0⟩] (cs:=[dI e.f_Signer,(Zfq e),(Zfr e)]) Tryz.underlying69 Jj rfl X1w rfl rfl rfl pf (Wi rfl rfl pf Wa) pZ2 (Vk pZ2) (X4 rfl) trivial),hR 8 rfl rfl (Yq 7 9 117 24 (X0 false) (W3 false) (Yx ws e.f_Signer ws.length) [(X6.mk e.f_Signer (Y2 e.X7).X1)] ((Yx ws e.f_Signer ws.length)++[(X6.mk e.f_Signer (Y2 e.X7).X1)]) (Yx ws e.f_Signer ws.length).length (sy:=(.own 8 (X0 false).sz 0 [(Zg8 e)].length)) (rhs:=[(8,(Zg9 e))]) X4z (by omega) (U4 8 117 (X0 false) [(X6.mk e.f_Signer (Y2 e.X7).X1)]) p1o (by (simp [maxLen,-List.getD_eq_getElem?_getD]<;>omega)) (by (simp [maxLen,-List.getD_eq_getElem?_getD]<;>omega)) (X4 rfl) trivial)] ?_
 refine sR [hR 5 rfl rfl (rCa (X5x f u L ‹_› ‹_›) Tryz.func57 [0,1] [(.tmp 122,pv 0 0)] 2 2)] ?_
 by_cases hq10:((W6 ws e ws.length:Nat):Int)≥(f+1)
 ·refine cT (dT hq10) (sR [] (sR [] ?_))
  refine xD [[],[],[1],[1,2],[1,2,3],[],[5],[5,6],[5,6,7],[],[9],[9,10],[9,10,11],[],[13],[5,6,7,8,9,10,11,12,13,14],[5,6,7,8,9,10,11,12,13,14,15],[1,2,3,4,5,6,7,8,9,10,11,12,13,14,15,16],[0,1,2,3,4,5,6,7,8,9,10,11,12,13,14,15,16,17],[0,1,2,3,4,5,6,7,8,9,10,11,12,13,14,15,16,17,18],[0,1,2,3,4,5,6,7,8,9,10,11,12,13,14,15,16,17,18,19]] [hR 16 rfl rfl (Yb 10 55 (X3 false) (Vt false) [(Xo.mk id st (Y2 e.X7).X1)] [⟨0,.tmp 146,.agg [(Zfi id),(Zfj st),(Zfq e),(Zfr e)],0⟩] (cs:=[(Zfi id),(Zfj st),(Zfq e),(Zfr e)]) Tryz.underlying45 U1 rfl X4p rfl rfl rfl pf (Wi rfl rfl pf Wa) pZ2 (Vk pZ2) (X4 rfl) trivial),hR 17 rfl rfl (Yq 4 11 55 32 (X3 false) (Vt false) done [(Xo.mk id st (Y2 e.X7).X1)] (done++[(Xo.mk id st (Y2 e.X7).X1)]) done.length (sy:=(.own 10 (X3 false).sz 0 [(Zga id st e)].length)) (rhs:=[(10,.live (Xc 55 (X3 false) [(Zga id st e)]))]) X50 (by omega) (U4 10 55 (X3 false) [(Xo.mk id st (Y2 e.X7).X1)]) p1o (by (simp [maxLen,-List.getD_eq_getElem?_getD]<;>omega)) (by (simp [maxLen,-List.getD_eq_getElem?_getD]<;>omega)) (X4 rfl) trivial)] pZ2 pZ2 pZ2 pZ2 pZ2 pZ2 ?_
  refine eN ⟨(Zgb f ws e k),[(Zfg f u L),(Zfh L),.live (.box 71 [.ptr 0 0,(Zfi id),(Zfj st),dB false,(Zfk E),(Zfl E),.d (.val (.slice none 0 0)),.own 11 (X3 false).sz 0 (done++[(Zga id st e)]).length]),(Zfn ws),.dead,(Zfp e),(Zfs e),.dead,(Zg9 e),.live (Xc 117 (X0 false) ((Yx ws e.f_Signer ws.length)++[(Zg8 e)])),.live (Xc 55 (X3 false) [(Zga id st e)]),.live (Xc 55 (X3 false) (done++[(Zga id st e)]))]⟩ ?_
  refine Xh (s':=⟨(Zgb f ws e k),[(Zfg f u L),(Zfh L),.live (.box 71 [.ptr 0 0,(Zfi id),(Zfj st),dB false,(Zfk E),(Zfl E),.own 12 (X0 false).sz 0 0,.own 11 (X3 false).sz 0 (done++[(Zga id st e)]).length]),(Zfn ws),.dead,(Zfp e),(Zfs e),.dead,(Zg9 e),.live (Xc 117 (X0 false) ((Yx ws e.f_Signer ws.length)++[(Zg8 e)])),.live (Xc 55 (X3 false) [(Zga id st e)]),.live (Xc 55 (X3 false) (done++[(Zga id st e)])),Zft]⟩) (fun _ _ hG=>I4 12 2 6 117 (X0 false) (Tb:=71) (cs:=[.ptr 0 0,(Zfi id),(Zfj st),dB false,(Zfk E),(Zfl E),.d (.val (.slice none 0 0)),.own 11 (X3 false).sz 0 (done++[(Zga id st e)]).length]) rfl rfl rfl hG) ?_
  exact tE (.inr rfl) [] trivial [0,1,2,3,4,12,11] rfl rfl rfl rfl rfl rfl (ix (ix ⟨⟨rfl,(by have e1:(0:Nat)=([]:List X6).length:=(by rfl);have e2:((done++[(Xo.mk id st (Y2 e.X7).X1)]).length:Nat)=(done++[(Xo.mk id st (Uw e))]).length:=(by rfl);have hE:=congr (congrArg (fun (q1:Nat) (q2:Nat)=>(.live (.box 71 [.ptr 0 0,(Zfi id),(Zfj st),dB false,(Zfk E),(Zfl E),.own 12 (X0 false).sz 0 q1,.own 11 (X3 false).sz 0 q2]):HS)) e1) e2;exact Eq.trans pZ2 hE)⟩,(ix ⟨⟨rfl,p2c⟩,trivial⟩)⟩))
 exact absurd hd.2 hq10
abbrev Zgc:TV:=.one (dB false)
abbrev Zgd (a:List Ya) (b:List Ya):AV:=vB (decide (((a.length:Nat):Int)≠((b.length:Nat):Int)))
theorem Hc (ta:Bool) (na:Bool) (sa:Bool) (tb:Bool) (nb:Bool) (sb:Bool) (a:List Ya) (b:List Ya) (hl:a.length≤9223372036854775807):Holds Tryz.prog 18 ⟨[slV ta na (Y1 sa) a,slV tb nb (Y1 sb) b],[],vB (decide (a=b)),[]⟩:=by
 refine Holds.of Tryz.func18 rfl (N:=42) Tryz.ntmps18 rfl fun w0 B0 S0 U0=>?_
 show T _ (Y0 42 0 w0 S0 U0 B0) ⟨[slV ta na (Y1 sa) a,slV tb nb (Y1 sb) b],[]⟩ _ _
 refine sR [] (T.seq (sR [] ?_))
 by_cases hq1:((a.length:Nat):Int)≠((b.length:Nat):Int)
 ·refine cT (dT hq1) (sR [] (T.ret (rT ?_)))
  exact eRt 4 (Zgc) [] (by have e1:((decide (a=b)):Bool)=false:=(by exact dF (fun e=>by have h9:a.length≠b.length:=(by omega);exact h9 (by rw [e])));have hE:=cB e1;exact hE) trivial
 refine cF (dF hq1) (T.skip (nT (T.seq (sR [] (T.block ?_)))))
 refine T.loop (ι:=Nat) (fun (k:Nat)=>⟨[slV ta na (Y1 sa) a,slV tb nb (Y1 sb) b,aa,aa,vB false,vI ((k:Nat):Int),aa,aa,aa,aa,(Zgd a b)],[]⟩) (fun (k:Nat)=>(k≤a.length)∧(a.length=b.length)∧(∀ j,j<k→a.getD j Yw=b.getD j Yw)) (fun (k:Nat)=>a.length-k) (0) ⟨(Nat.zero_le _),(by omega),(fun j hj=>absurd hj (Nat.not_lt_zero _))⟩ (fun _ _ hG=>Y9 [] (bm 11 1075) rfl rfl hG) ?_
 rintro k ⟨hk,hab,hb⟩
 show T _ _ ⟨[slV ta na (Y1 sa) a,slV tb nb (Y1 sb) b,aa,aa,vB false,vI ((k:Nat):Int),aa,aa,aa,aa,(Zgd a b)],[]⟩ _ _
 replace hk:k≤a.length:=hk
 replace hab:a.length=b.length:=hab
 replace hb:∀ j,j<k→a.getD j Yw=b.getD j Yw:=hb
 refine T.seq (sR [] ?_)
 by_cases hq2:((k:Nat):Int)<((a.length:Nat):Int)
 rotate_left
 ·refine cF (dF hq2) (T.exit (xT (xT (xH (nT (sR [] (T.ret ?_)))))))
  exact eRt 4 (.one (dB true)) [] (cB (by exact dT (rows_eq (z:=Yw) (k:=k) hab (by omega) hb))) trivial
 refine cT (dT hq2) (T.skip (nT (T.seq (T.block ?_))))
 by_cases hq3:(a.getD k Yw).f_To≠(b.getD k Yw).f_To
 ·have h9:(a.getD k Yw)≠(b.getD k Yw):=fun w=>hq3 (by rw [w])
  refine sD [[],[],[0,1],[0,1,2],[0,1,2,3],[],[],[5,6],[5,6,7],[5,6,7,8],[0,1,2,3,4,5,6,7,8,9],[0,1,2,3,4,5,6,7,8,9,10],[0,1,2,3,4,5,6,7,8,9,10,11],[0,1,2,3,4,5,6,7,8,9,10,11],[0,1,2,3,4,5,6,7,8,9,10,11,12,13],[0,1,2,3,4,5,6,7,8,9,10,11,12,13,14],[0,1,2,3,4,5,6,7,8,9,10,11,12,13,14,15],[0,1,2,3,4,5,6,7,8,9,10,11],[0,1,2,3,4,5,6,7,8,9,10,11],[0,1,2,3,4,5,6,7,8,9,10,11,17,18],[0,1,2,3,4,5,6,7,8,9,10,11,17,18,19],[0,1,2,3,4,5,6,7,8,9,10,11,17,18,19,20],[0,1,2,3,4,5,6,7,8,9,10,11,12,13,14,15,16,17,18,19,20,21],[0,1,2,3,4,5,6,7,8,9,10,11,12,13,14,15,16,17,18,19,20,21,22],[0,1,2,3,4,5,6,7,8,9,10,11,12,13,14,15,16,17,18,19,20,21,22,23]] (hR 2 rfl rfl (Yo ta na (Y1 sa) a k (k:=.i64) (i:=((k:Nat):Int)) Tryz.underlying64 F7 rfl rfl (by omega) (X4 rfl) trivial)::(hR 7 rfl rfl (Yo tb nb (Y1 sb) b k (k:=.i64) (i:=((k:Nat):Int)) Tryz.underlying64 F7 rfl rfl (by omega) (X4 rfl) trivial)::(Xf (hN · false (dT hq3)) [12,13,14,15,16,17,18,19,20,21,22,23] (hP 24 (dT hq3)::[])))) ?_
  refine cT (b:=true) rfl (sR [] (T.ret (rB (rT (rT (rB (rT ?_)))))))
  exact eRt 4 (Zgc) [] p3r trivial
 have g1:=Classical.not_not.1 hq3
 refine sD [[],[],[0,1],[0,1,2],[0,1,2,3],[],[],[5,6],[5,6,7],[5,6,7,8],[0,1,2,3,4,5,6,7,8,9],[0,1,2,3,4,5,6,7,8,9,10],[0,1,2,3,4,5,6,7,8,9,10,11],[0,1,2,3,4,5,6,7,8,9,10,11],[0,1,2,3,4,5,6,7,8,9,10,11,12,13],[0,1,2,3,4,5,6,7,8,9,10,11,12,13,14],[0,1,2,3,4,5,6,7,8,9,10,11,12,13,14,15],[0,1,2,3,4,5,6,7,8,9,10,11],[0,1,2,3,4,5,6,7,8,9,10,11],[0,1,2,3,4,5,6,7,8,9,10,11,17,18],[0,1,2,3,4,5,6,7,8,9,10,11,17,18,19],[0,1,2,3,4,5,6,7,8,9,10,11,17,18,19,20],[0,1,2,3,4,5,6,7,8,9,10,11,12,13,14,15,16,17,18,19,20,21],[0,1,2,3,4,5,6,7,8,9,10,11,12,13,14,15,16,17,18,19,20,21,22],[0,1,2,3,4,5,6,7,8,9,10,11,12,13,14,15,16,17,18,19,20,21,22,23]] (hR 2 rfl rfl (Yo ta na (Y1 sa) a k (k:=.i64) (i:=((k:Nat):Int)) Tryz.underlying64 F7 rfl rfl (by omega) (X4 rfl) trivial)::(hR 7 rfl rfl (Yo tb nb (Y1 sb) b k (k:=.i64) (i:=((k:Nat):Int)) Tryz.underlying64 F7 rfl rfl (by omega) (X4 rfl) trivial)::(hY 12 (dF hq3)::(hY 13 (dF hq3)::(hS 14 (oY rfl rfl rfl rfl (X4 rfl) (dF hq3) (Yo ta na (Y1 sa) a k (k:=.i64) (i:=((k:Nat):Int)) Tryz.underlying64 F7 rfl rfl (by omega) (X4 rfl) py))::(Xf (hY · (dF hq3)) [15,16,17,18] (hS 19 (oY rfl rfl rfl rfl (X4 rfl) (dF hq3) (Yo tb nb (Y1 sb) b k (k:=.i64) (i:=((k:Nat):Int)) Tryz.underlying64 F7 rfl rfl (by omega) (X4 rfl) py))::(hY 20 (dF hq3)::(hY 21 (dF hq3)::(hS 22 (oY rfl rfl rfl rfl (X4 rfl) (dF hq3) (rCa (Xbw sa sb (a.getD k Yw).E8 (b.getD k Yw).E8 ) Tryz.func42 [] [(.tmp 33,.tv (.agg [dI (a.getD k Yw).E8.f_Signer,.d (dsl sa false kU8 (a.getD k Yw).E8.X7)])),(.tmp 38,.tv (.agg [dI (b.getD k Yw).E8.f_Signer,.d (dsl sb false kU8 (b.getD k Yw).E8.X7)]))] 0 0))::(hY 23 (dF hq3)::(hP 24 (dF hq3)::[])))))))))))) ?_
 by_cases hq4:(a.getD k Yw).E8=(b.getD k Yw).E8
 ·have h8:(a.getD k Yw)=(b.getD k Yw):=Xbu g1 hq4
  refine cF (cn (dT hq4)) (T.skip (nB (nT (xK [hR 1 rfl rfl (Y4 (u1:=.int .i64 ((k:Nat):Int)) (u2:=.int .i64 1) (v:=.int .i64 ((k+1:Nat):Int)) (Yn pZ5) (X4 rfl) ⟨rfl,trivial⟩)] ?_))))
  refine nL (k+1) ⟨(show (k+1)≤a.length from (by omega)),(show a.length=b.length from hab),(show ∀ j,j<(k+1)→a.getD j Yw=b.getD j Yw from (Ju hb h8))⟩ (show (a.length-(k+1):Nat)<a.length-k from (by omega)) (fun _ _ hG=>Y9 [] (bm 11 1075) rfl rfl hG)
 have h9:(a.getD k Yw)≠(b.getD k Yw):=fun w=>hq4 (by rw [w])
 refine cT (cn (dF hq4)) (sR [] (T.ret (rB (rT (rT (rB (rT ?_)))))))
 exact eRt 4 (Zgc) [] p3r trivial
end Go.Proofs.YthnefnknoahbkaaGreat.Q
namespace Go.Proofs.YthnefnknoahbkaaGreat.Q
set_option linter.unusedVariables false
set_option linter.unusedSimpArgs false
set_option maxRecDepth 100000
def J7 (a:Xl):Prop:=a.W5.length≤5000∧a.Ye.Xi.length+a.Ye.Xb.length≤1000∧a.Ye.Xe=[]∧a.Ye.Xp=[]∧a.Ye.X5=[]
def X6p (l:List Xl):Prop:=l.length≤60∧∀ a,a∈l→J7 a
instance (a:Xl):Decidable (J7 a):=inferInstanceAs (Decidable (_∧_))
instance (l:List Xl):Decidable (X6p l):=inferInstanceAs (Decidable (_∧_))
def X45 (a:Xl):Prop:=Fu a.f_Signer∧Fu a.V0∧(a.W5.length≤140737488355328∧a.Ye.Xi.length≤140737488355328∧a.Ye.Xb.length≤140737488355328∧a.Ye.Xe.length≤140737488355328∧a.Ye.Xp.length≤140737488355328∧a.Ye.X5.length≤140737488355328)∧Fu a.Ye.X1.Xt∧Fu a.Ye.X1.Xn∧Fu a.X1.Xt∧Fu a.X1.Xn
theorem X6o {l:List Xl} {k:Nat} (hk:k<l.length) (h:¬J7 (l.getD k X8)):¬X6p l:=fun w=>h (w.2 _ (Vn hk))
theorem Xft {l:List Xl} {k:Nat} (h1:¬((l.length:Nat):Int)>60) (hb:∀ j,j<k→J7 (l.getD j X8)) (hk:l.length≤k):X6p l:=⟨by omega,fun a ha=>by
  obtain ⟨j,hj,rfl⟩:=List.getElem_of_mem ha
  have:=hb j (by omega)
  rwa [List.getD_eq_getElem?_getD,List.getElem?_eq_getElem hj] at this⟩
theorem X8l {l:List Xl} (h:X6p l) {k:Nat} (hk:k<l.length):J7 (l.getD k X8):=h.2 _ (Vn hk)
theorem X0u (c:Int):Wb (cOf (max 1 c)) 1000:=by unfold Wb cOf;omega
theorem X49 (f u:Int) (l:List aE):V5 f u (Wq l)=Wf f u l:=funext fun e=>Xg1 f u l e
abbrev rep18 (y:Xl) (st:Int):aM:=⟨8,0,0,1000,st+Int.tmod y.V0 3,[],[],y.X1,[],[],[]⟩
def Xz (y:Xl) (st:Int):aM:=if y.X2=3 then rep18 y st else y.Ye
theorem msg_318 {y:Xl} {st:Int} (h:y.X2=3):Xz y st=rep18 y st:=if_pos h
theorem msg_no18 {y:Xl} {st:Int} (h:¬y.X2=3):Xz y st=y.Ye:=if_neg h
def E9 (y:Xl) (st:Int):aE:=⟨y.f_Signer,Yj (Xz y st)⟩
theorem X1z (a:Int):-2≤a.tmod 3∧a.tmod 3≤2:=by
  rcases Int.le_total 0 a with h|h
  · rw [Int.tmod_eq_emod_of_nonneg h];omega
  · have e:a.tmod 3=-((-a).tmod 3):=by rw [Int.neg_tmod,Int.neg_neg]
    rw [e,Int.tmod_eq_emod_of_nonneg (by omega)];omega
def Vy (y:Xl):Prop:=y.X2=2∨y.X2=3
instance (y:Xl):Decidable (Vy y):=inferInstanceAs (Decidable (_∨_))
def X5a (y:Xl):Prop:=y.X2=0∧¬((y.W5.length:Nat):Int)>4096
instance (y:Xl):Decidable (X5a y):=inferInstanceAs (Decidable (_∧_))
def W0 (f u:Int) (L:List aE) (y:Xl) (st:Int):List aE:=if y.Yt=true then L else Wx f u L y.f_Signer (Yj (Xz y st))
theorem Xd9 {f u st:Int} {L:List aE} {y:Xl} (h:y.Yt=true):W0 f u L y st=L:=if_pos h
theorem Xa2 {f u st:Int} {L:List aE} {y:Xl} (h:¬y.Yt=true):W0 f u L y st=Wx f u L y.f_Signer (Yj (Xz y st)):=if_neg h
theorem Eg (f u:Int) (L:List aE) (y:Xl) (st:Int):(W0 f u L y st).length≤L.length+1:=by
  unfold W0;split
  · omega
  · exact X7w _ _ _ _ _
def Yz (f u:Int) (L:List aE) (y:Xl) (st:Int):List aE:=if Vy y then W0 f u L y st else L
theorem Xf8 (f u:Int) (L:List aE) (y:Xl) (st:Int):(Yz f u L y st).length≤L.length+1:=by
  unfold Yz;split
  · exact Eg _ _ _ _ _
  · omega
theorem Fc {f u st:Int} {L:List aE} {y:Xl} (h:Vy y):Yz f u L y st=W0 f u L y st:=if_pos h
theorem Fd {f u st:Int} {L:List aE} {y:Xl} (h:¬Vy y):Yz f u L y st=L:=if_neg h
def Jl (f u:Int) (L:List aE) (y:Xl) (st:Int):List aE:=Wx f u L 1000 (Yj (Ys 1000 (st+1) y.W5))
def Jm (f u:Int) (y:Xl) (st:Int):aE:=W1 f u 1000 (Yj (Ys 1000 (st+1) y.W5))
def CL18 (f u:Int) (L:List aE) (y:Xl) (st:Int):aE→Int:=Wf f u (W0 f u L y st)
def Vi (f u:Int) (L:List aE) (st:Int) (told:Wz) (y:Xl):Wz:=if Vy y then Jy (CL18 f u L y st) f 1000 st told (E9 y st) else told
def Ve (f u:Int) (L:List aE) (st:Int) (ws:List X6) (y:Xl):List X6:=if Vy y then Um (CL18 f u L y st) f 1000 st ws (E9 y st) else ws
def Iu (f u:Int) (L:List aE) (st:Int) (told:Wz) (y:Xl):Prop:=Vy y∧F8 (CL18 f u L y st) f 1000 st told (E9 y st)
instance (f u:Int) (L:List aE) (st:Int) (told:Wz) (y:Xl):Decidable (Iu f u L st told y):=inferInstanceAs (Decidable (_∧_))
def Ua (st:Int) (y:Xl):Xo:=⟨1000,st,Uw (E9 y st)⟩
section
variable {f u st:Int} {L:List aE} {y:Xl} {told:Wz} {ws:List X6}
theorem Xbq (h:¬Vy y):Vi f u L st told y=told:=if_neg h
theorem X9w (h:Vy y):Jy (V5 f u (Wq (W0 f u L y st))) f 1000 st told ⟨y.f_Signer,Yj (Xz y st)⟩=Vi f u L st told y:=by
  unfold Vi CL18;rw [if_pos h,X49];rfl
theorem X1f (h:¬Vy y):Ve f u L st ws y=ws:=if_neg h
theorem X3q (h:Vy y):Um (Wf f u (W0 f u L y st)) f 1000 st ws ⟨y.f_Signer,Yj (Xz y st)⟩=Ve f u L st ws y:=by
  unfold Ve CL18;rw [if_pos h];rfl
theorem Xe5 (h:Vy y):F8 (V5 f u (Wq (W0 f u L y st))) f 1000 st told ⟨y.f_Signer,Yj (Xz y st)⟩↔Iu f u L st told y:=by
  rw [X49];exact ⟨fun w=>⟨h,w⟩,fun w=>w.2⟩
theorem Xe4 (h:Vy y) (hR:U9 told ws):Fx (Wf f u (W0 f u L y st)) f 1000 st ws ⟨y.f_Signer,Yj (Xz y st)⟩↔Iu f u L st told y :=
  ⟨fun w=>⟨h,(Xdc hR).2 w⟩,fun w=>(Xdc hR).1 w.2⟩
theorem X8x (hR:U9 told ws):U9 (Vi f u L st told y) (Ve f u L st ws y):=by
  unfold Vi Ve;split
  · exact rel_told hR
  · exact hR
theorem Xbp:(Vi f u L st told y).length≤told.length+1:=by
  unfold Vi;split
  · unfold Jy;split
    · exact X1m _ _ _
    · omega
  · omega
theorem Xbn:(Ve f u L st ws y).length≤ws.length+1:=by
  unfold Ve;split
  · unfold Um;split
    · unfold X30;rw [List.length_append,List.length_singleton];have:=X0p (ws:=ws) (s:=(E9 y st).f_Signer) (k:=ws.length);omega
    · omega
  · omega
end
theorem Xe0 {y:Xl} (h:J7 y) (st:Int):(Xm (Xz y st) 9).length≤3000:=by
  have h2:(Wc ([]:List aE)).length=4:=by rw [Hg];rfl
  have h3:(H3 ([]:List aC)).length=4:=by rw [X0v];rfl
  unfold Xz
  split
  · have h1:=X1s (rep18 y st)
    simp only [h2,h3,List.length_nil] at h1
    omega
  · have h1:=X1s y.Ye
    obtain ⟨_,a2,a3,a4,a5⟩:=h
    rw [a3,a4,a5,h2,h3] at h1
    omega
theorem V1 {y:Xl} (h:J7 y) (st:Int):(Xm (Xz y st) 9).length≤1000000000∧(Xz y st).Xe.length≤9223372036854775807∧(Xz y st).Xp.length≤9223372036854775807∧(Xz y st).X5.length≤9223372036854775807∧(Xz y st).Xi.length≤9223372036854775807∧(Xz y st).Xb.length≤9223372036854775807:=by
  have h1:=Xe0 h st
  refine ⟨by omega,?_⟩
  unfold Xz
  obtain ⟨_,a2,a3,a4,a5⟩:=h
  split
  · exact ⟨Nat.zero_le _,Nat.zero_le _,Nat.zero_le _,Nat.zero_le _,Nat.zero_le _⟩
  · rw [a3,a4,a5];exact ⟨Nat.zero_le _,Nat.zero_le _,Nat.zero_le _,by omega,by omega⟩
theorem X04 {y:Xl} (h:J7 y) (st:Int):(Yj (Xz y st)).length≤3000:=Nat.le_trans (Xb1 _) (Xe0 h st)
theorem Xet {f u:Int} {y:Xl} {st:Int} (h:Wb u 1000) (hs:X5a y):Jm f u y st=⟨1000,Yj (Ys 1000 (st+1) y.W5)⟩:=by
  have h1:=Fb 1000 (st+1) y.W5 hs.2
  have h2:Hb f u 1000 (Yj (Ys 1000 (st+1) y.W5))=0:=by
    unfold Hb;rw [if_pos (.inr h),if_neg (by omega)]
  unfold Jm W1;rw [if_pos h2]
end Go.Proofs.YthnefnknoahbkaaGreat.Q
namespace Go.Proofs.YthnefnknoahbkaaGreat.Q
open Go Go.RowKit
set_option linter.unusedVariables false
set_option linter.unusedSimpArgs false
set_option maxRecDepth 100000
set_option maxHeartbeats 4000000
theorem Ez:Tryz.prog.info? 44=some Tryz.t44:=by kernel_rfl
abbrev Zge:TV:=.one (dB false)
abbrev Zgf (l:List Xl):AV:=vB (decide (((l.length:Nat):Int)>60))
theorem Xfr (tl:Bool) (nl:Bool) (sl_:Bool) (l:List Xl) (hl:l.length≤9223372036854775807) (hr:∀ a,a∈l→X45 a):Holds Tryz.prog 4 ⟨[slV tl nl (Yh sl_) l],[],vB (decide (X6p l)),[]⟩:=by
 refine Holds.of Tryz.func4 rfl (N:=50) Tryz.ntmps4 rfl fun w0 B0 S0 U0=>?_
 show T _ (Y0 50 0 w0 S0 U0 B0) ⟨[slV tl nl (Yh sl_) l],[]⟩ _ _
 refine sR [] (T.seq (sR [] ?_))
 by_cases hq1:((l.length:Nat):Int)>60
 ·have hno:¬X6p l:=(fun w=>by have h9:=w.1;omega)
  refine cT (dT hq1) (sR [] (T.ret (rT ?_)))
  exact eRt 2 (Zge) [] (cB (by exact dF hno)) trivial
 have hl60:=hq1
 refine cF (dF hq1) (T.skip (nT (T.seq (sR [] (T.block ?_)))))
 refine T.loop (ι:=Nat) (fun (k:Nat)=>⟨[slV tl nl (Yh sl_) l,aa,vB false,vI ((k:Nat):Int),aa,aa,aa,(Zgf l)],[]⟩) (fun (k:Nat)=>(k≤l.length)∧(∀ j,j<k→J7 (l.getD j X8))) (fun (k:Nat)=>l.length-k) (0) ⟨(Nat.zero_le _),(fun j hj=>absurd hj (Nat.not_lt_zero _))⟩ (fun _ _ hG=>Y9 [] (bm 8 141) rfl rfl hG) ?_
 rintro k ⟨hk,hb⟩
 show T _ _ ⟨[slV tl nl (Yh sl_) l,aa,vB false,vI ((k:Nat):Int),aa,aa,aa,(Zgf l)],[]⟩ _ _
 replace hk:k≤l.length:=hk
 replace hb:∀ j,j<k→J7 (l.getD j X8):=hb
 refine T.seq (sR [] ?_)
 by_cases hq2:((k:Nat):Int)<((l.length:Nat):Int)
 rotate_left
 ·have hyes:=Xft hl60 hb (by omega)
  refine cF (dF hq2) (T.exit (xT (xT (xH (nT (sR [] (T.ret ?_)))))))
  exact eRt 2 (.one (dB true)) [] (cB (by exact dT hyes)) trivial
 have hr9:=hr _ (Vn (z:=X8) (show k<l.length by omega));obtain ⟨_,_,⟨hr1,hr2,hr3,hr4,hr5,hr6⟩,_⟩:=hr9
 refine cT (dT hq2) (T.skip (nT (T.seq (T.block (sR [hR 2 rfl rfl (Yo tl nl (Yh sl_) l k (k:=.i64) (i:=((k:Nat):Int)) Tryz.underlying24 Ez rfl rfl (by omega) (X4 rfl) trivial)] ?_)))))
 by_cases hq3:(((l.getD k X8).W5.length:Nat):Int)>5000
 ·have hno:=X6o (l:=l) (k:=k) (by omega) (fun w=>by have h9:=w.1;omega)
  refine sR (hR 2 rfl rfl (Yo tl nl (Yh sl_) l k (k:=.i64) (i:=((k:Nat):Int)) Tryz.underlying24 Ez rfl rfl (by omega) (X4 rfl) trivial)::(Xf (hN · false (dT hq3)) [8,9,10,11,12,13,14,15] (hP 16 (dT hq3)::(Xf hN0 [18,19,20,21,22,23,24,25,26,27,28,29] (hP1 30::[]))))) (cT (b:=true) rfl (sR [] (T.ret (rB (rT (rT (rB (rT ?_))))))))
  exact eRt 2 (Zge) [] (cB (by exact dF hno)) trivial
 have h10:=hq3
 by_cases hq4:(((l.getD k X8).Ye.Xi.length+(l.getD k X8).Ye.Xb.length:Nat):Int)>1000
 ·have hno:=X6o (l:=l) (k:=k) (by omega) (fun w=>by have h9:=w.2.1;omega)
  refine sR (hR 2 rfl rfl (Yo tl nl (Yh sl_) l k (k:=.i64) (i:=((k:Nat):Int)) Tryz.underlying24 Ez rfl rfl (by omega) (X4 rfl) trivial)::(Xf (hY · (dF hq3)) [8,9,10,11,12,13] (hS 14 (oY rfl rfl rfl rfl (X4 rfl) (dF hq3) (Y4 (u1:=.int .i64 (((l.getD k X8).Ye.Xi.length:Nat):Int)) (u2:=.int .i64 (((l.getD k X8).Ye.Xb.length:Nat):Int)) (v:=.int .i64 (((l.getD k X8).Ye.Xi.length+(l.getD k X8).Ye.Xb.length:Nat):Int)) (Yn pZ5) (X4 rfl) py))::(hY 15 (dF hq3)::(hP 16 (dF hq3)::(Xf (hN · false (dT hq4)) [18,19,20,21,22,23,24,25,26,27,28,29] (hP 30 (dT hq4)::[]))))))) (cT (b:=true) rfl (sR [] (T.ret (rB (rT (rT (rB (rT ?_))))))))
  exact eRt 2 (Zge) [] (cB (by exact dF hno)) trivial
 have h11:=hq4
 refine sR (hR 2 rfl rfl (Yo tl nl (Yh sl_) l k (k:=.i64) (i:=((k:Nat):Int)) Tryz.underlying24 Ez rfl rfl (by omega) (X4 rfl) trivial)::(Xf (hY · (dF hq3)) [8,9,10,11,12,13] (hS 14 (oY rfl rfl rfl rfl (X4 rfl) (dF hq3) (Y4 (u1:=.int .i64 (((l.getD k X8).Ye.Xi.length:Nat):Int)) (u2:=.int .i64 (((l.getD k X8).Ye.Xb.length:Nat):Int)) (v:=.int .i64 (((l.getD k X8).Ye.Xi.length+(l.getD k X8).Ye.Xb.length:Nat):Int)) (Yn pZ5) (X4 rfl) py))::(hY 15 (dF hq3)::(hP 16 (dF hq3)::(Xf (hY · (dF hq4)) [18,19,20,21,22,23] (hS 24 (oY rfl rfl rfl rfl (X4 rfl) (dF hq4) (Y4 (u1:=.int .i64 (((l.getD k X8).Ye.Xe.length:Nat):Int)) (u2:=.int .i64 (((l.getD k X8).Ye.Xp.length:Nat):Int)) (v:=.int .i64 (((l.getD k X8).Ye.Xe.length+(l.getD k X8).Ye.Xp.length:Nat):Int)) (Yn pZ5) (X4 rfl) py))::(Xf (hY · (dF hq4)) [25,26,27] (hS 28 (oY rfl rfl rfl rfl (X4 rfl) (dF hq4) (Y4 (u1:=.int .i64 (((l.getD k X8).Ye.Xe.length+(l.getD k X8).Ye.Xp.length:Nat):Int)) (u2:=.int .i64 (((l.getD k X8).Ye.X5.length:Nat):Int)) (v:=.int .i64 ((((l.getD k X8).Ye.Xe.length+(l.getD k X8).Ye.Xp.length)+(l.getD k X8).Ye.X5.length:Nat):Int)) (Yn pZ5) (X4 rfl) py))::(hY 29 (dF hq4)::(hP 30 (dF hq4)::[]))))))))))) ?_
 by_cases hq5:((((l.getD k X8).Ye.Xe.length+(l.getD k X8).Ye.Xp.length)+(l.getD k X8).Ye.X5.length:Nat):Int)>0
 ·have hno:=X6o (l:=l) (k:=k) (by omega) (fun w=>by have h9:=hq5;rw [w.2.2.1,w.2.2.2.1,w.2.2.2.2] at h9;exact absurd h9 (by decide))
  refine cT (dT hq5) (sR [] (T.ret (rB (rT (rT (rB (rT ?_)))))))
  exact eRt 2 (Zge) [] (cB (by exact dF hno)) trivial
 have h12:J7 (l.getD k X8):=⟨by omega,by omega,List.eq_nil_of_length_eq_zero (by omega),List.eq_nil_of_length_eq_zero (by omega),List.eq_nil_of_length_eq_zero (by omega)⟩
 refine cF (dF hq5) (T.skip (nB (nT (xK [hR 1 rfl rfl (Y4 (u1:=.int .i64 ((k:Nat):Int)) (u2:=.int .i64 1) (v:=.int .i64 ((k+1:Nat):Int)) (Yn pZ5) (X4 rfl) ⟨rfl,trivial⟩)] ?_))))
 refine nL (k+1) ⟨(show (k+1)≤l.length from (by omega)),(show ∀ j,j<(k+1)→J7 (l.getD j X8) from (Ju hb h12))⟩ (show (l.length-(k+1):Nat)<l.length-k from (by omega)) (fun _ _ hG=>Y9 [] (bm 8 141) rfl rfl hG)
theorem iat_31:Tryz.prog.info? 31=some Tryz.t31:=by kernel_rfl
theorem wide_31:Wide Tryz.prog 31 (some 4):=⟨_,_,Tryz.underlying31,.inl ⟨_,rfl⟩,iat_31,rfl⟩
theorem X47 (x:Wt):Holds Tryz.prog 5 ⟨[.tv (.agg [dI x.Us,dI x.Y5])],[],.tv (.agg [.ptr 0 0,.ptr 5 0,.ptr 2 0,.ptr 7 0]),[.live (.box 99 [dI (3*(fOf x.Us)+1),dI (cOf (max 1 x.Y5)),.mref 1]),.live (mpK X9 Y6 ([]:List (Xv×Bool))),.live (.box 80 [.ptr 0 0,dI 1000,dI 0,.d (.val (.pointer none)),.mref 3,.own 4 (X3 false).sz 0 ([]:List Xo).length]),.live (mpK (W8 .i64) (Xj false) ([]:List (Int×Xd))),.live (Xc 55 (X3 false) ([]:List Xo)),.live (.box 49 [dB true,dI (fOf x.Us),dI (cOf (max 1 x.Y5)),.own 6 (kE false).sz 0 ([]:List aE).length]),.live (Xc 53 (kE false) ([]:List aE)),.live (.box 71 [.ptr 5 0,dI 1000,dI 0,dB false,dI zE.f_Signer,dU zE.X7,.own 8 (X0 false).sz 0 ([]:List X6).length,.own 9 (X3 false).sz 0 ([]:List Xo).length]),.live (Xc 117 (X0 false) ([]:List X6)),.live (Xc 55 (X3 false) ([]:List Xo))]⟩:=by
 refine Holds.of Tryz.func5 rfl (N:=24) Tryz.ntmps5 rfl fun w0 B0 S0 U0=>?_
 show T _ (Y0 24 0 w0 S0 U0 B0) ⟨[.tv (.agg [dI x.Us,dI x.Y5])],[]⟩ _ _
 have hfx:=Xcm x.Us
 have hux:=Xcy (max 1 x.Y5)
 have hcl:=X0u x.Y5
 refine sR [] (sR [hR 2 rfl rfl (X2e (k:=.i64) (a:=1) (b:=x.Y5) (X4 rfl) ⟨rfl,trivial⟩)] ?_)
 refine sD [[],[0],[],[0,1,2],[],[4],[],[0,1,2,3,4,5,6],[0,1,2,3,4,5,6,7],[0,1,2,3,4,5,6,7,8]] [hR 3 rfl rfl (rCa (Xg8 x.Us (max 1 x.Y5) ) Tryz.func12 [2,3] [(.tmp 10,vI x.Us),(.tmp 11,vI (max 1 x.Y5))] 0 2),hR 7 rfl rfl (rCa (Xf6 x.Us (max 1 x.Y5) ) Tryz.func13 [4,5] [(.tmp 14,vI x.Us),(.tmp 15,vI (max 1 x.Y5))] 0 2)] ?_
 by_cases hq1:Wb (cOf (max 1 x.Y5)) 1000
 ·refine sR [hR 3 rfl rfl (rCa (Xcr (fOf x.Us) (cOf (max 1 x.Y5)) ([]:List (Xv×Bool)) 1000 ‹_› ‹_› (by omega) ‹_›) Tryz.func14 [2,3,6,7,8] [(.tmp 19,pv 2 0),(.const (.int .i64 1000),vI 1000)] 2 5),hR 5 rfl rfl (rCa (Xf4 (fOf x.Us) (cOf (max 1 x.Y5)) ([]:List aE) 1000 ‹_› ‹_› (by omega) ‹_›) Tryz.func15 [4,5,9,10,11] [(.tmp 21,pv 4 0),(.const (.int .i64 1000),vI 1000)] 2 5)] (T.ret ?_)
  exact eX [.c 2 1 31 0 31 [.ptr 2 0,.ptr 4 0,.ptr 6 0,.ptr 9 0] (.agg [.ptr 2 0,.ptr 4 0,.ptr 6 0,.ptr 9 0])] ⟨⟨rfl,rfl,by kernel_rfl,by kernel_rfl,.inl ⟨4,wide_31,rfl,Nat.le_of_ble_eq_true rfl⟩⟩,trivial⟩ [2,3,6,7,8,4,5,9,10,11] rfl (ix (ix (ix (ix (ix (ix (ix (ix (ix (ix trivial))))))))))
 exact absurd (X0u _) hq1
section
variable (f:Int) (u:Int) (rows:List (Xv×Bool)) (L:List aE) (st:Int) (told:List (Int×Xd)) (ws:List X6) (done:List Xo) (RE:aE) (y:Xl)
abbrev Zgg:AV:=.tv (.agg [.ptr 0 0,.ptr 5 0,.ptr 2 0,.ptr 7 0])
abbrev Zgh:List SV:=[dI y.X2,dI y.f_Signer,dI y.V0,dU y.W5,dI y.Ye.X2,dI y.Ye.Xr,dI y.Ye.Xy,dI y.Ye.Xa,dI y.Ye.Xw,dS y.Ye.Xb,dU y.Ye.Xi,dI y.Ye.X1.Xt,dI y.Ye.X1.Xn,.d (dsl false false (kE false) y.Ye.Xe),.d (dsl false false (kE false) y.Ye.Xp),.d (dsl false false (kC false) y.Ye.X5),dI y.X1.Xt,dI y.X1.Xn,dB y.Yt]
abbrev Zgi:HS:=.live (.box 99 [dI (3*f+1),dI u,.mref 1])
abbrev Zgj:HS:=.live (mpK X9 Y6 rows)
abbrev Zgk:SV:=dI 1000
abbrev Zgl:HS:=.live (.box 80 [.ptr 0 0,Zgk,dI st,.d (.val (.pointer none)),.mref 3,.own 4 (X3 false).sz 0 done.length])
abbrev Zgm:HS:=.live (mpK (W8 .i64) (Xj false) told)
abbrev Zgn:HS:=.live (Xc 55 (X3 false) done)
abbrev Zgo:HS:=.live (.box 49 [dB true,dI f,dI u,.own 6 (kE false).sz 0 L.length])
abbrev Zgp:HObj:=Xc 53 (kE false) L
abbrev Zgq:HS:=.live ((Zgp L))
abbrev Zgr:HS:=.live (.box 71 [.ptr 5 0,Zgk,dI st,dB false,dI RE.f_Signer,dU RE.X7,.own 8 (X0 false).sz 0 ws.length,.own 9 (X3 false).sz 0 done.length])
abbrev Zgs:HS:=.live (Xc 117 (X0 false) ws)
abbrev Zgt:AV:=slV false false (Y1 false) ([]:List Ya)
abbrev Zgu:AV:=vB (decide (y.X2=0))
abbrev Zgv:List AV:=[Zgg,.tv (.agg (Zgh y)),pv 10 0,pv 11 0,vB true,Zgt,vI 11,Zgt,vI 11,aa,aa,aa,vI y.X2,(Zgu y)]
abbrev Zgw:HS:=.live (.box 31 [.ptr 0 0,.ptr 5 0,.ptr 2 0,.ptr 7 0])
abbrev Zgx:HS:=.live (.box 44 (Zgh y))
abbrev Zgy:HS:=.live (.box 49 [dB true,dI f,dI u,.own 14 (kE false).sz 0 L.length])
abbrev Zgz:TV:=.one (dB true)
abbrev Zh0:List AV:=[Zgg,.tv (.agg (Zgh y)),pv 10 0,pv 11 0,vB (decide (([]:List Ya)=([]:List Ya))),aa,aa,aa,aa,aa,aa,aa,vI y.X2,(Zgu y),aa,aa,aa,aa,aa,aa,aa,aa,aa,aa,aa,aa,aa,aa,aa,aa,aa,aa,aa,aa,aa,aa,aa,aa,aa,aa,aa,vB (decide (y.X2=1))]
abbrev Zh1:List HS:=[(Zgi f u),(Zgj rows),(Zgl st done),(Zgm told),(Zgn done),(Zgo f u L),(Zgq L),(Zgr st ws done RE),(Zgs ws),(Zgn done),Zgw,(Zgx y)]
abbrev Zh2:HS:=.live (.box 49 [dB true,dI f,dI u,.own 12 (kE false).sz 0 L.length])
abbrev Zh3:List AV:=[aa,aa,pv 10 0,pv 11 0,vB false,aa,aa,aa,aa,aa,aa,aa,aa,aa,aa,aa,aa,aa,aa,aa,aa,aa,aa,aa,aa,aa,aa,aa,aa,aa,aa,aa,aa,aa,aa,aa,aa,aa,aa,aa,aa,aa,aa,aa,aa,aa,aa,aa,aa,aa,vB (decide (Vy y))]
abbrev Zh4:List AV:=[aa,aa,pv 10 0,pv 11 0,vB false,aa,aa,aa,aa,pv 12 0]
abbrev Zh5:List SV:=[dI (Xz y st).X2,dI (Xz y st).Xr,dI (Xz y st).Xy,dI (Xz y st).Xa,dI (Xz y st).Xw,dS (Xz y st).Xb,dU (Xz y st).Xi,dI (Xz y st).X1.Xt,dI (Xz y st).X1.Xn,.d (dsl false false (kE false) (Xz y st).Xe),.d (dsl false false (kE false) (Xz y st).Xp),.d (dsl false false (kC false) (Xz y st).X5)]
abbrev Zh6:HS:=.live (.box 42 (Zh5 st y))
abbrev Zh7:List HS:=[(Zgi f u),(Zgj rows),(Zgl st done),(Zgm told),(Zgn done),(Zgo f u L),(Zgq L),(Zgr st ws done RE),(Zgs ws),(Zgn done),Zgw,(Zgx y),(Zh6 st y)]
abbrev Zh8:List AV:=[aa,aa,pv 10 0,pv 11 0,vB false,aa,aa,aa,aa,pv 12 0,aa,aa,aa,aa,aa,aa,aa,aa,aa,aa,aa,aa,aa,aa,aa,aa,aa,aa,aa,aa,aa,aa,aa,aa,aa,aa,aa,aa,aa,aa,aa,aa,aa,aa,aa,aa,aa,aa,aa,aa,vB (decide (Vy y)),aa,aa,aa,aa,aa,aa,vB (decide (y.X2=3))]
abbrev Zh9:SV:=.d (.val (.slice none 0 0))
abbrev Zha:HS:=.live (.box 42 [dI 8,dI 0,dI 0,Zgk,dI (st+(Int.tmod y.V0 3)),dS [],Zh9,dI y.X1.Xt,dI y.X1.Xn,Zh9,Zh9,Zh9])
abbrev Zhb:HS:=.live (.box 42 [dI 8,dI 0,dI 0,Zgk,dI (st+(Int.tmod y.V0 3)),dS [],dU ([]:List UInt8),dI y.X1.Xt,dI y.X1.Xn,.d (dsl false false (kE false) ([]:List aE)),.d (dsl false false (kE false) ([]:List aE)),.d (dsl false false (kC false) ([]:List aC))])
abbrev Zhc:HS:=.live (.box 42 [dI y.Ye.X2,dI y.Ye.Xr,dI y.Ye.Xy,dI y.Ye.Xa,dI y.Ye.Xw,dS y.Ye.Xb,dU y.Ye.Xi,dI y.Ye.X1.Xt,dI y.Ye.X1.Xn,.d (dsl false false (kE false) y.Ye.Xe),.d (dsl false false (kE false) y.Ye.Xp),.d (dsl false false (kC false) y.Ye.X5)])
abbrev Zhd:List AV:=[aa,aa,pv 10 0,pv 11 0,vB false,aa,aa,aa,aa,pv 12 0,pv 13 0]
abbrev Zhe:List SV:=[dI y.f_Signer,dU (Yj (Xz y st))]
abbrev Zhf:HS:=.live (.box 53 (Zhe st y))
abbrev Zhg:List HS:=[(Zgi f u),.live (mpK X9 Y6 (Wq (W0 f u L y st))),(Zgl st done),(Zgm told),(Zgn done),.live (.box 49 [dB true,dI f,dI u,.own 14 (kE false).sz 0 (W0 f u L y st).length]),.dead,(Zgr st ws done RE),(Zgs ws),(Zgn done),Zgw,(Zgx y),(Zh6 st y),(Zhf st y),.live (Xc 53 (kE false) (W0 f u L y st))]
abbrev Zhh:List AV:=[aa,aa,pv 10 0,pv 11 0,vB false,aa,aa,aa,aa,pv 12 0,pv 13 0,aa,aa,aa,aa,aa,aa,aa,aa,aa,aa,aa,aa,aa,aa,aa,aa,aa,aa,aa,aa,aa,aa,aa,aa,aa,aa,aa,aa,aa,aa,aa,aa,aa,aa,aa,aa,aa,aa,aa,aa,aa,aa,aa,aa,aa,aa,aa,aa,aa,aa,aa,aa,aa,aa,aa,aa,aa,aa,aa,aa,aa,aa,aa,aa,aa,aa,vB (!y.Yt)]
abbrev Zhi:List HS:=[(Zgi f u),.live (mpK X9 Y6 (Ij f u rows y.f_Signer (Yj (Xz y st)))),(Zgl st done),(Zgm told),(Zgn done),.live (.box 49 [dB true,dI f,dI u,.own 14 (kE false).sz 0 (Wx f u L y.f_Signer (Yj (Xz y st))).length]),.dead,(Zgr st ws done RE),(Zgs ws),(Zgn done),Zgw,(Zgx y),(Zh6 st y),(Zhf st y),.live (Xc 53 (kE false) (Wx f u L y.f_Signer (Yj (Xz y st))))]
abbrev Zhj:List AV:=[aa,aa,pv 10 0,pv 11 0,vB true,aa,aa,aa,aa,aa,aa,aa,aa,aa,aa,aa,aa,aa,aa,aa,aa,aa,aa,aa,aa,aa,aa,aa,aa,aa,aa,aa,aa,aa,aa,aa,aa,aa,aa,aa,aa,aa,aa,aa,aa,aa,aa,aa,aa,aa,vB (decide (Vy y))]
end
theorem Xcg (f:Int) (u:Int) (rows:List (Xv×Bool)) (L:List aE) (st:Int) (told:List (Int×Xd)) (ws:List X6) (done:List Xo) (RE:aE) (y:Xl) (hf:0≤f∧f≤2) (hu:0≤u∧u≤8) (hrl:rows=Wq L) (hLl:L.length≤100000) (hst:0≤st∧st≤100000) (htl:told.length≤100000) (hwl:ws.length≤100000) (hdl:done.length≤100000) (hrw:U9 told ws) (hc:Wb u 1000) (hy:X45 y) (hf9:J7 y) (hsb:¬X5a y):Holds Tryz.prog 6 ⟨[.tv (.agg [.ptr 0 0,.ptr 5 0,.ptr 2 0,.ptr 7 0]),.tv (.agg [dI y.X2,dI y.f_Signer,dI y.V0,dU y.W5,dI y.Ye.X2,dI y.Ye.Xr,dI y.Ye.Xy,dI y.Ye.Xa,dI y.Ye.Xw,dS y.Ye.Xb,dU y.Ye.Xi,dI y.Ye.X1.Xt,dI y.Ye.X1.Xn,.d (dsl false false (kE false) y.Ye.Xe),.d (dsl false false (kE false) y.Ye.Xp),.d (dsl false false (kC false) y.Ye.X5),dI y.X1.Xt,dI y.X1.Xn,dB y.Yt])],[.box 99 [dI (3*f+1),dI u,.mref 1],mpK X9 Y6 rows,.box 80 [.ptr 0 0,dI 1000,dI st,.d (.val (.pointer none)),.mref 3,.own 4 (X3 false).sz 0 done.length],mpK (W8 .i64) (Xj false) told,Xc 55 (X3 false) done,.box 49 [dB true,dI f,dI u,.own 6 (kE false).sz 0 L.length],Xc 53 (kE false) L,.box 71 [.ptr 5 0,dI 1000,dI st,dB false,dI RE.f_Signer,dU RE.X7,.own 8 (X0 false).sz 0 ws.length,.own 9 (X3 false).sz 0 done.length],Xc 117 (X0 false) ws,Xc 55 (X3 false) done],vB true,[.live (.box 99 [dI (3*f+1),dI u,.mref 1]),.live (mpK X9 Y6 (Wq (Yz f u L y st))),.live (.box 80 [.ptr 0 0,dI 1000,dI st,.d (.val (.pointer none)),.mref 3,.own 4 (X3 false).sz 0 done.length]),.live (mpK (W8 .i64) (Xj false) told),.live (Xc 55 (X3 false) done),.live (.box 49 [dB true,dI f,dI u,.own 10 (kE false).sz 0 (Yz f u L y st).length]),.dead,.live (.box 71 [.ptr 5 0,dI 1000,dI st,dB false,dI RE.f_Signer,dU RE.X7,.own 8 (X0 false).sz 0 ws.length,.own 9 (X3 false).sz 0 done.length]),.live (Xc 117 (X0 false) ws),.live (Xc 55 (X3 false) done),.live (Xc 53 (kE false) (Yz f u L y st))]⟩:=by
 refine Holds.of Tryz.func6 rfl (N:=100) Tryz.ntmps6 rfl fun w0 B0 S0 U0=>?_
 show T _ (Y0 100 10 w0 S0 U0 B0) ⟨[Zgg,.tv (.agg (Zgh y))],[(Zgi f u),(Zgj rows),(Zgl st done),(Zgm told),(Zgn done),(Zgo f u L),(Zgq L),(Zgr st ws done RE),(Zgs ws),(Zgn done)]⟩ _ _
 have hml:=X04 hf9 st
 obtain ⟨hy1,hy2,hy3,hy4⟩:=hy
 have hsl:=Eg f u L y st
 have ht3:=X1z y.V0
 have hsn:(V8 1000 (W1 f u 1000 (Yj (Ys 1000 (st+1) y.W5)))).length=1:=rfl
 refine sR [] (T.seq (sR [] (T.block (sR [] ?_))))
 by_cases hq1:y.X2=0
 ·have hk0:=hq1;have hnr:¬Vy y:=fun w=>by rcases w with w|w<;>omega
  refine cT (dT hq1) ?_
  by_cases hq2:((y.W5.length:Nat):Int)>4096
  ·refine sD [[],[0],[],[],[3],[2,3,4],[0,1,2,3,4,5],[0,1,2,3,4,5,6],[0,1,2,3,4,5,6,7],[0,1,2,3,4,5,6,7],[0,1,2,3,4,5,6,7,8],[0,1,2,3,4,5,6,7,8,9,10]] [hR 2 rfl rfl (Yb 12 5 kU8 V9 ([]:List UInt8) [] (cs:=[]) Tryz.underlying34 Ur rfl I1 rfl rfl rfl pf Wa pZ2 (Vk pZ2) (X4 rfl) trivial),hR 5 rfl rfl (Yq 12 13 5 1 kU8 V9 ([]:List UInt8) y.W5 y.W5 ([]:List UInt8).length (sy:=(dU y.W5)) (rhs:=[]) Uz (by omega) (Up false false kU8 y.W5) (by simp) (by (simp [maxLen,-List.getD_eq_getElem?_getD]<;>omega)) (by (simp [maxLen,-List.getD_eq_getElem?_getD]<;>omega)) (X4 rfl) trivial),hR 6 rfl rfl (Wk (X6w f u rows 1000 st told done true false y.W5 ‹_›) Tryz.func16 rfl (by decide) [0,1,2,3,4] [13] (l:=[(.tmp 17,pv 2 0),(.tmp 21,Xx 13 kU8 0 y.W5.length)]) [(13,.live (Xc 5 kU8 y.W5))] rfl 5 5 rfl rfl rfl rfl rfl rfl rfl rfl rfl ⟨.inl ⟨rfl,rfl⟩,⟨.inr (.inl ⟨rfl,p1b,rfl,rfl,by simp,5,y.W5.length,Yu kU8 y.W5,List.Mem.head _,pg,fun i j=>by rw [Nat.zero_add]⟩),trivial⟩⟩ rfl pZ4 (.inr ⟨(And.intro (X3j (nn:=false) X18) (And.intro trivial trivial)),(And.intro (And.intro trivial (And.intro trivial (And.intro trivial trivial))) (And.intro (X3f X2l) (And.intro (And.intro trivial (And.intro trivial (And.intro trivial (And.intro trivial (And.intro trivial (And.intro trivial trivial)))))) (And.intro (X3f E6) (And.intro (Xd1 Ix) trivial)))))⟩) (X4 rfl) trivial)] ?_
   refine sR [hR 4 rfl rfl (rCa (X7h f u L 1000 st RE ws done false false y.W5 ‹_›) Tryz.func17 [5,6,7,8,9] [(.tmp 27,pv 7 0),(.tmp 29,slV false false kU8 y.W5)] 5 5)] ?_
   refine sR (hR 2 rfl rfl (rCa (Hc false false false false false false ([]:List Ya) ([]:List Ya) (by (simp [maxLen,-List.getD_eq_getElem?_getD]<;>omega))) Tryz.func18 [] [(.tmp 33,Zgt),(.tmp 34,Zgt)] 0 0)::(Xf (hY · (show decide (([]:List Ya)=([]:List Ya))=true from dT (Eq.refl _))) [4,5,6] (hP 7 (show decide (([]:List Ya)=([]:List Ya))=true from dT (Eq.refl _))::[]))) ?_
   refine T.ret (rB (rT ?_))
   refine eN ⟨(Zgv y),[(Zgi f u),(Zgj rows),(Zgl st done),(Zgm told),(Zgn done),(Zgo f u L),(Zgq L),(Zgr st ws done RE),(Zgs ws),(Zgn done),Zgw,(Zgx y),.dead,.live (Xc 5 kU8 y.W5)]⟩ ?_
   refine Xh (s':=⟨(Zgv y),[(Zgi f u),(Zgj rows),(Zgl st done),(Zgm told),(Zgn done),(Zgy f u L),.dead,(Zgr st ws done RE),(Zgs ws),(Zgn done),Zgw,(Zgx y),.dead,.live (Xc 5 kU8 y.W5),(Zgq L)]⟩) (fun _ _ hG=>Gs.move (s:=⟨(Zgv y),[(Zgi f u),(Zgj rows),(Zgl st done),(Zgm told),(Zgn done),(Zgo f u L),(Zgq L),(Zgr st ws done RE),(Zgs ws),(Zgn done),Zgw,(Zgx y),.dead,.live (Xc 5 kU8 y.W5)]⟩) 6 14 (o:=(Zgp L)) rfl rfl rfl (kk2 p39) ⟨(.inr pZ1),⟨(.inr pZ1),⟨(.inr pZ1),⟨(.inr pZ1),⟨(.inr pZ1),⟨(.inr pZl),⟨(.inl ⟨rfl,rfl⟩),⟨(.inr pZ1),⟨(.inr pZ1),⟨(.inr pZ1),⟨(.inr pZ1),⟨(.inr pZ1),⟨(.inr pZ1),⟨(.inr pZ1),⟨(.inr (.inl ⟨rfl,rfl⟩)),trivial⟩⟩⟩⟩⟩⟩⟩⟩⟩⟩⟩⟩⟩⟩⟩ hG) ?_
   exact eRt 4 (Zgz) [0,1,2,3,4,5,6,7,8,9,14] rfl (ix ⟨⟨rfl,pZ14⟩,(ix (ix (ix ⟨⟨rfl,(by have e1:(L.length:Nat)=(Yz f u L y st).length:=(by (rw [Fd hnr];done));have hE:=congrArg (fun (q1:Nat)=>(.live (.box 49 [dB true,dI f,dI u,.own 14 (kE false).sz 0 q1]):HS)) e1;exact Eq.trans pZ2 hE)⟩,(ix (ix (ix ⟨⟨rfl,pZ19⟩,trivial⟩)))⟩)))⟩)
  exact absurd ⟨hk0,hq2⟩ hsb
 have hk0:=hq1
 refine cF (dF hq1) (sR [] ?_)
 by_cases hq3:y.X2=1
 ·have hnr:¬Vy y:=fun w=>by rcases w with w|w<;>omega
  refine cT (dT hq3) ?_
  refine sD [[],[0],[0,1],[],[3],[0,1,2,3,4],[0,1,2,3,4,5],[0,1,2,3,4,5,6]] [hR 2 rfl rfl (rCa (X7m f u rows 1000 st told done ) Tryz.func19 [0,1,2,3,4] [(.tmp 44,pv 2 0)] 5 5),hR 5 rfl rfl (rCa (X8y f u L 1000 st RE ws done ) Tryz.func20 [5,6,7,8,9] [(.tmp 47,pv 7 0)] 5 5),hR 6 rfl rfl (rCa (Hc false false false false false false ([]:List Ya) ([]:List Ya) (by (simp [maxLen,-List.getD_eq_getElem?_getD]<;>omega))) Tryz.func18 [] [(.tmp 45,Zgt),(.tmp 48,Zgt)] 0 0)] ?_
  refine T.ret (rB (rT ?_))
  refine eN ⟨(Zh0 y),(Zh1 f u rows L st told ws done RE y)⟩ ?_
  refine Xh (s':=⟨(Zh0 y),[(Zgi f u),(Zgj rows),(Zgl st done),(Zgm told),(Zgn done),(Zh2 f u L),.dead,(Zgr st ws done RE),(Zgs ws),(Zgn done),Zgw,(Zgx y),(Zgq L)]⟩) (fun _ _ hG=>Gs.move (s:=⟨(Zh0 y),(Zh1 f u rows L st told ws done RE y)⟩) 6 12 (o:=(Zgp L)) rfl rfl rfl (kk2 p4m) ⟨(.inr pZ1),⟨(.inr pZ1),⟨(.inr pZ1),⟨(.inr pZ1),⟨(.inr pZ1),⟨(.inr pZl),⟨(.inl ⟨rfl,rfl⟩),⟨(.inr pZ1),⟨(.inr pZ1),⟨(.inr pZ1),⟨(.inr pZ1),⟨(.inr pZ1),⟨(.inr (.inl ⟨rfl,rfl⟩)),trivial⟩⟩⟩⟩⟩⟩⟩⟩⟩⟩⟩⟩⟩ hG) ?_
  exact eRt 4 (.one (dB (decide (([]:List Ya)=([]:List Ya))))) [0,1,2,3,4,5,6,7,8,9,12] (cB (by rfl)) (ix ⟨⟨rfl,pZ14⟩,(ix (ix (ix ⟨⟨rfl,p2m⟩,(ix (ix (ix ⟨⟨rfl,pZ19⟩,trivial⟩)))⟩)))⟩)
 refine cF (dF hq3) ?_
 refine Va ⟨(Zh3 y),(Zh1 f u rows L st told ws done RE y)⟩ ?_ ?_
 ·refine sR [] ?_
  by_cases hq4:y.X2=2
  ·refine cT (dT hq4) (T.skip ?_)
   refine eN ⟨[Zgg,.tv (.agg (Zgh y)),pv 10 0,pv 11 0,vB false,aa,aa,aa,aa,aa,aa,aa,vI y.X2,(Zgu y),aa,aa,aa,aa,aa,aa,aa,aa,aa,aa,aa,aa,aa,aa,aa,aa,aa,aa,aa,aa,aa,aa,aa,aa,aa,aa,aa,vB (decide (y.X2=1)),aa,aa,aa,aa,aa,aa,aa,aa,vB (decide (y.X2=2))],(Zh1 f u rows L st told ws done RE y)⟩ ?_
   refine Xh (s':=⟨(Zh3 y),(Zh1 f u rows L st told ws done RE y)⟩) (fun _ _ hG=>Y9 [0,1,2,3,4,5,6,7,8,9,10,11] (bm 51 1125899906842652) (t2:=[aa,aa,pv 10 0,pv 11 0,vB false,aa,aa,aa,aa,aa,aa,aa,aa,aa,aa,aa,aa,aa,aa,aa,aa,aa,aa,aa,aa,aa,aa,aa,aa,aa,aa,aa,aa,aa,aa,aa,aa,aa,aa,aa,aa,aa,aa,aa,aa,aa,aa,aa,aa,aa,vB (decide (y.X2=2))]) pZ22 rfl hG) ?_
   exact nJ
  refine cF (dF hq4) (xK [] ?_)
  refine eN ⟨[Zgg,.tv (.agg (Zgh y)),pv 10 0,pv 11 0,vB false,aa,aa,aa,aa,aa,aa,aa,vI y.X2,(Zgu y),aa,aa,aa,aa,aa,aa,aa,aa,aa,aa,aa,aa,aa,aa,aa,aa,aa,aa,aa,aa,aa,aa,aa,aa,aa,aa,aa,vB (decide (y.X2=1)),aa,aa,aa,aa,aa,aa,aa,aa,vB (decide (y.X2=3))],(Zh1 f u rows L st told ws done RE y)⟩ ?_
  refine Xh (s':=⟨(Zh3 y),(Zh1 f u rows L st told ws done RE y)⟩) (fun _ _ hG=>Y9 [0,1,2,3,4,5,6,7,8,9,10,11] (bm 51 1125899906842652) (t2:=[aa,aa,pv 10 0,pv 11 0,vB false,aa,aa,aa,aa,aa,aa,aa,aa,aa,aa,aa,aa,aa,aa,aa,aa,aa,aa,aa,aa,aa,aa,aa,aa,aa,aa,aa,aa,aa,aa,aa,aa,aa,aa,aa,aa,aa,aa,aa,aa,aa,aa,aa,aa,aa,vB (decide (y.X2=3))]) pZ22 rfl hG) ?_
  exact nJ
 by_cases hq5:Vy y
 rotate_left
 ·have hnr:=hq5
  refine cF (dF hq5) (T.skip (nB (nT (sR [] (T.ret ?_)))))
  refine eN ⟨(Zhj y),(Zh1 f u rows L st told ws done RE y)⟩ ?_
  refine Xh (s':=⟨(Zhj y),[(Zgi f u),(Zgj rows),(Zgl st done),(Zgm told),(Zgn done),(Zh2 f u L),.dead,(Zgr st ws done RE),(Zgs ws),(Zgn done),Zgw,(Zgx y),(Zgq L)]⟩) (fun _ _ hG=>Gs.move (s:=⟨(Zhj y),(Zh1 f u rows L st told ws done RE y)⟩) 6 12 (o:=(Zgp L)) rfl rfl rfl ⟨.inl rfl,(kk2 p3j)⟩ ⟨(.inr pZ1),⟨(.inr pZ1),⟨(.inr pZ1),⟨(.inr pZ1),⟨(.inr pZ1),⟨(.inr pZl),⟨(.inl ⟨rfl,rfl⟩),⟨(.inr pZ1),⟨(.inr pZ1),⟨(.inr pZ1),⟨(.inr pZ1),⟨(.inr pZ1),⟨(.inr (.inl ⟨rfl,rfl⟩)),trivial⟩⟩⟩⟩⟩⟩⟩⟩⟩⟩⟩⟩⟩ hG) ?_
  exact eRt 4 (Zgz) [0,1,2,3,4,5,6,7,8,9,12] rfl (ix ⟨⟨rfl,pZ14⟩,(ix (ix (ix ⟨⟨rfl,p2m⟩,(ix (ix (ix ⟨⟨rfl,pZ19⟩,trivial⟩)))⟩)))⟩)
 have hrc:=hq5
 refine cT (dT hq5) (sR [] ?_)
 refine Va ⟨Zh4,(Zh7 f u rows L st told ws done RE y)⟩ ?_ ?_
 ·refine sR [] ?_
  by_cases hq6:y.X2=3
  ·refine cT (dT hq6) ?_
   refine xD [[],[0],[0,1],[0,1,2],[0,1,2,3],[],[5],[5,6],[0,1,2,3,4,5,6,7],[],[9],[0,1,2,3,4,5,6,7,8,9,10],[0,1,2,3,4,5,6,7,8,9,10,11]] [hR 7 rfl rfl (Y4 (u1:=.int .i64 y.V0) (u2:=.int .i64 3) (v:=.int .i64 (Int.tmod y.V0 3)) (b_rem (by omega) rfl) (X4 rfl) ⟨rfl,trivial⟩),hR 8 rfl rfl (Y4 (u1:=.int .i64 st) (u2:=.int .i64 (Int.tmod y.V0 3)) (v:=.int .i64 (st+(Int.tmod y.V0 3))) (Yn pZ5) (X4 rfl) trivial)] pZ2 pZ2 pZ2 pZ2 pZ2 pZ2 ?_
   refine eN ⟨(Zh8 y),[(Zgi f u),(Zgj rows),(Zgl st done),(Zgm told),(Zgn done),(Zgo f u L),(Zgq L),(Zgr st ws done RE),(Zgs ws),(Zgn done),Zgw,(Zgx y),(Zha st y)]⟩ ?_
   refine Xh (s':=⟨(Zh8 y),[(Zgi f u),(Zgj rows),(Zgl st done),(Zgm told),(Zgn done),(Zgo f u L),(Zgq L),(Zgr st ws done RE),(Zgs ws),(Zgn done),Zgw,(Zgx y),(Zhb st y)]⟩) (fun _ _ hG=>We (s:=⟨(Zh8 y),[(Zgi f u),(Zgj rows),(Zgl st done),(Zgm told),(Zgn done),(Zgo f u L),(Zgq L),(Zgr st ws done RE),(Zgs ws),(Zgn done),Zgw,(Zgx y),(Zha st y)]⟩) (kk2 (kk8 p3j)) (kk4 (kk8 ⟨pa,trivial⟩)) hG) ?_
   refine Xh (s':=⟨Zh4,(Zh7 f u rows L st told ws done RE y)⟩) (fun _ _ hG=>Y9 [0,1,2,3,4,5,6,7,8,9,10,11,12] (bm 10 540) (h2:=[(Zgi f u),(Zgj rows),(Zgl st done),(Zgm told),(Zgn done),(Zgo f u L),(Zgq L),(Zgr st ws done RE),(Zgs ws),(Zgn done),Zgw,(Zgx y),(Zhb st y)]) rfl (by have e1:((Xz y st).X2:Int)=8:=pm;have e2:((Xz y st).Xr:Int)=0:=pm;have e3:((Xz y st).Xy:Int)=0:=pm;have e4:((Xz y st).Xa:Int)=1000:=pm;have e5:((Xz y st).Xw:Int)=st+(Int.tmod y.V0 3):=pm;have e6:((Xz y st).Xb:List UInt8)=[]:=pm;have e7:((Xz y st).Xi:List UInt8)=([]:List UInt8):=pm;have e8:((Xz y st).X1.Xt:Int)=y.X1.Xt:=pm;have e9:((Xz y st).X1.Xn:Int)=y.X1.Xn:=pm;have e10:((Xz y st).Xe:List aE)=([]:List aE):=pm;have e11:((Xz y st).Xp:List aE)=([]:List aE):=pm;have e12:((Xz y st).X5:List aC)=([]:List aC):=pm;have hE:=congr pz e12;exact hE) hG) ?_
   exact nJ
  refine cF (dF hq6) (T.skip ?_)
  refine eN ⟨(Zh8 y),[(Zgi f u),(Zgj rows),(Zgl st done),(Zgm told),(Zgn done),(Zgo f u L),(Zgq L),(Zgr st ws done RE),(Zgs ws),(Zgn done),Zgw,(Zgx y),(Zhc y)]⟩ ?_
  refine Xh (s':=⟨Zh4,(Zh7 f u rows L st told ws done RE y)⟩) (fun _ _ hG=>Y9 [0,1,2,3,4,5,6,7,8,9,10,11,12] (bm 10 540) (h2:=[(Zgi f u),(Zgj rows),(Zgl st done),(Zgm told),(Zgn done),(Zgo f u L),(Zgq L),(Zgr st ws done RE),(Zgs ws),(Zgn done),Zgw,(Zgx y),(Zhc y)]) rfl (by have e1:((Xz y st).X2:Int)=y.Ye.X2:=pj;have e2:((Xz y st).Xr:Int)=y.Ye.Xr:=pj;have e3:((Xz y st).Xy:Int)=y.Ye.Xy:=pj;have e4:((Xz y st).Xa:Int)=y.Ye.Xa:=pj;have e5:((Xz y st).Xw:Int)=y.Ye.Xw:=pj;have e6:((Xz y st).Xb:List UInt8)=y.Ye.Xb:=pj;have e7:((Xz y st).Xi:List UInt8)=y.Ye.Xi:=pj;have e8:((Xz y st).X1.Xt:Int)=y.Ye.X1.Xt:=pj;have e9:((Xz y st).X1.Xn:Int)=y.Ye.X1.Xn:=pj;have e10:((Xz y st).Xe:List aE)=y.Ye.Xe:=pj;have e11:((Xz y st).Xp:List aE)=y.Ye.Xp:=pj;have e12:((Xz y st).X5:List aC)=y.Ye.X5:=pj;have hE:=congr pz e12;exact hE) hG) ?_
  exact nJ
 refine sD [[],[0],[],[2],[0,1,2,3],[],[0,1,2,3,4,5]] [hR 3 rfl rfl (rCa (H6 false (Xz y st) (V1 hf9 st).1 (V1 hf9 st).2.1 (V1 hf9 st).2.2.1 (V1 hf9 st).2.2.2.1 (V1 hf9 st).2.2.2.2.1 (V1 hf9 st).2.2.2.2.2) Tryz.func21 [] [(.tmp 72,.tv (.agg (Zh5 st y)))] 0 0)] ?_
 refine Va ⟨Zhd,(Zhg f u L st told ws done RE y)⟩ ?_ ?_
 ·refine sR [] ?_
  by_cases hq7:y.Yt=true
  ·refine cF (cn hq7) (T.skip ?_)
   refine eN ⟨(Zhh y),[(Zgi f u),(Zgj rows),(Zgl st done),(Zgm told),(Zgn done),(Zgo f u L),(Zgq L),(Zgr st ws done RE),(Zgs ws),(Zgn done),Zgw,(Zgx y),(Zh6 st y),(Zhf st y)]⟩ ?_
   refine Xh (s':=⟨(Zhh y),[(Zgi f u),(Zgj rows),(Zgl st done),(Zgm told),(Zgn done),(Zgy f u L),.dead,(Zgr st ws done RE),(Zgs ws),(Zgn done),Zgw,(Zgx y),(Zh6 st y),(Zhf st y),(Zgq L)]⟩) (fun _ _ hG=>Gs.move (s:=⟨(Zhh y),[(Zgi f u),(Zgj rows),(Zgl st done),(Zgm told),(Zgn done),(Zgo f u L),(Zgq L),(Zgr st ws done RE),(Zgs ws),(Zgn done),Zgw,(Zgx y),(Zh6 st y),(Zhf st y)]⟩) 6 14 (o:=(Zgp L)) rfl rfl rfl (kk2 (kk4 (kk8 p2z))) ⟨(.inr pZ1),⟨(.inr pZ1),⟨(.inr pZ1),⟨(.inr pZ1),⟨(.inr pZ1),⟨(.inr pZl),⟨(.inl ⟨rfl,rfl⟩),⟨(.inr pZ1),⟨(.inr pZ1),⟨(.inr pZ1),⟨(.inr pZ1),⟨(.inr pZ1),⟨(.inr pZ1),⟨(.inr pZ1),⟨(.inr (.inl ⟨rfl,rfl⟩)),trivial⟩⟩⟩⟩⟩⟩⟩⟩⟩⟩⟩⟩⟩⟩⟩ hG) ?_
   refine Xh (s':=⟨Zhd,(Zhg f u L st told ws done RE y)⟩) (fun _ _ hG=>Y9 [0,1,2,3,4,5,6,7,8,9,10,11,12,13,14] (bm 11 1564) (h2:=[(Zgi f u),(Zgj rows),(Zgl st done),(Zgm told),(Zgn done),(Zgy f u L),.dead,(Zgr st ws done RE),(Zgs ws),(Zgn done),Zgw,(Zgx y),(Zh6 st y),(Zhf st y),(Zgq L)]) rfl (by have e1:((Wq (W0 f u L y st)):List (Xv×Bool))=rows:=p4r;have e2:((W0 f u L y st).length:Nat)=L.length:=p3g;have e3:((W0 f u L y st):List aE)=L:=p3g;have hE:=congr p1u e3;exact hE) hG) ?_
   exact nJ
  replace hq7:=Bool.eq_false_iff.2 hq7
  refine cT (cn hq7) (sR [hR 6 rfl rfl (rCa (Fz f u rows y.f_Signer false false (Yj (Xz y st)) ‹_› ‹_› ‹_› (by omega)) Tryz.func22 [0,1] [(.tmp 79,pv 0 0),(.tmp 81,vI y.f_Signer),(.tmp 83,slV false false kU8 (Yj (Xz y st)))] 2 2)] (xK [hR 6 rfl rfl (rCa (Fm f u L y.f_Signer false false (Yj (Xz y st)) ‹_› ‹_› ‹_› (by omega) (by omega)) Tryz.func23 [5,6,14] [(.tmp 86,pv 5 0),(.tmp 88,vI y.f_Signer),(.tmp 90,slV false false kU8 (Yj (Xz y st)))] 2 3)] ?_))
  refine eN ⟨(Zhh y),(Zhi f u rows L st told ws done RE y)⟩ ?_
  refine Xh (s':=⟨Zhd,(Zhg f u L st told ws done RE y)⟩) (fun _ _ hG=>Y9 [0,1,2,3,4,5,6,7,8,9,10,11,12,13,14] (bm 11 1564) (h2:=(Zhi f u rows L st told ws done RE y)) rfl (by have e1:((Wq (W0 f u L y st)):List (Xv×Bool))=(Ij f u rows y.f_Signer (Yj (Xz y st))):=p3o;have e2:((W0 f u L y st).length:Nat)=(Wx f u L y.f_Signer (Yj (Xz y st))).length:=p2o;have e3:((W0 f u L y st):List aE)=(Wx f u L y.f_Signer (Yj (Xz y st))):=p2o;have hE:=congr p1u e3;exact hE) hG) ?_
  exact nJ
 refine sR [hR 3 rfl rfl (rCa (X4m f u (Wq (W0 f u L y st)) 1000 st told done false (aE.mk y.f_Signer (Yj (Xz y st))) ) Tryz.func24 [0,1,2,3,4] [(.tmp 93,pv 2 0),(.tmp 94,.tv (.agg (Zhe st y)))] 5 5)] ?_
 refine xK [hR 3 rfl rfl (rCa (X5v f u (W0 f u L y st) 1000 st RE ws done (aE.mk y.f_Signer (Yj (Xz y st))) ‹_› ‹_› ‹_› (by (simp [maxLen,-List.getD_eq_getElem?_getD]<;>omega)) (by omega) (by omega)) Tryz.func25 [5,14,7,8,9] [(.tmp 97,pv 7 0),(.tmp 98,.tv (.agg (Zhe st y)))] 5 5)] ?_
 refine nB (nT (sR [] (T.ret ?_)))
 exact eRt 4 (Zgz) [0,1,2,3,4,5,6,7,8,9,14] rfl (ix ⟨⟨rfl,p1f⟩,(ix (ix (ix ⟨⟨rfl,(by have e1:((W0 f u L y st).length:Nat)=(Yz f u L y st).length:=(by (rw [Fc hrc];done));have hE:=congrArg (fun (q1:Nat)=>(.live (.box 49 [dB true,dI f,dI u,.own 14 (kE false).sz 0 q1]):HS)) e1;exact Eq.trans pZ2 hE)⟩,(ix (ix (ix ⟨⟨rfl,p1p⟩,trivial⟩)))⟩)))⟩)
abbrev Zhk:SV:=dI 1000
theorem Xch (f:Int) (u:Int) (rows:List (Xv×Bool)) (L:List aE) (st:Int) (told:List (Int×Xd)) (ws:List X6) (done:List Xo) (RE:aE) (y:Xl) (hf:0≤f∧f≤2) (hu:0≤u∧u≤8) (hrl:rows=Wq L) (hLl:L.length≤100000) (hst:0≤st∧st≤100000) (htl:told.length≤100000) (hwl:ws.length≤100000) (hdl:done.length≤100000) (hrw:U9 told ws) (hc:Wb u 1000) (hy:X45 y) (hf9:J7 y) (hsb:X5a y):Holds Tryz.prog 6 ⟨[.tv (.agg [.ptr 0 0,.ptr 5 0,.ptr 2 0,.ptr 7 0]),.tv (.agg [dI y.X2,dI y.f_Signer,dI y.V0,dU y.W5,dI y.Ye.X2,dI y.Ye.Xr,dI y.Ye.Xy,dI y.Ye.Xa,dI y.Ye.Xw,dS y.Ye.Xb,dU y.Ye.Xi,dI y.Ye.X1.Xt,dI y.Ye.X1.Xn,.d (dsl false false (kE false) y.Ye.Xe),.d (dsl false false (kE false) y.Ye.Xp),.d (dsl false false (kC false) y.Ye.X5),dI y.X1.Xt,dI y.X1.Xn,dB y.Yt])],[.box 99 [dI (3*f+1),dI u,.mref 1],mpK X9 Y6 rows,.box 80 [.ptr 0 0,dI 1000,dI st,.d (.val (.pointer none)),.mref 3,.own 4 (X3 false).sz 0 done.length],mpK (W8 .i64) (Xj false) told,Xc 55 (X3 false) done,.box 49 [dB true,dI f,dI u,.own 6 (kE false).sz 0 L.length],Xc 53 (kE false) L,.box 71 [.ptr 5 0,dI 1000,dI st,dB false,dI RE.f_Signer,dU RE.X7,.own 8 (X0 false).sz 0 ws.length,.own 9 (X3 false).sz 0 done.length],Xc 117 (X0 false) ws,Xc 55 (X3 false) done],vB true,[.live (.box 99 [dI (3*f+1),dI u,.mref 1]),.live (mpK X9 Y6 (Wq (Jl f u L y st))),.live (.box 80 [.ptr 0 0,dI 1000,dI (st+1),.ptr 12 0,.mref 3,.own 4 (X3 false).sz 0 done.length]),.live (mpK (W8 .i64) (Xj false) told),.live (Xc 55 (X3 false) done),.live (.box 49 [dB true,dI f,dI u,.own 10 (kE false).sz 0 (Jl f u L y st).length]),.dead,.live (.box 71 [.ptr 5 0,dI 1000,dI (st+1),dB true,dI (Jm f u y st).f_Signer,dU (Jm f u y st).X7,.own 11 (X0 false).sz 0 ([]:List X6).length,.own 9 (X3 false).sz 0 done.length]),.dead,.live (Xc 55 (X3 false) done),.live (Xc 53 (kE false) (Jl f u L y st)),.live (Xc 117 (X0 false) ([]:List X6)),.live (.box 53 [dI (Jm f u y st).f_Signer,dU (Jm f u y st).X7])]⟩:=by
 refine Holds.of Tryz.func6 rfl (N:=100) Tryz.ntmps6 rfl fun w0 B0 S0 U0=>?_
 show T _ (Y0 100 10 w0 S0 U0 B0) ⟨[.tv (.agg [.ptr 0 0,.ptr 5 0,.ptr 2 0,.ptr 7 0]),.tv (.agg [dI y.X2,dI y.f_Signer,dI y.V0,dU y.W5,dI y.Ye.X2,dI y.Ye.Xr,dI y.Ye.Xy,dI y.Ye.Xa,dI y.Ye.Xw,dS y.Ye.Xb,dU y.Ye.Xi,dI y.Ye.X1.Xt,dI y.Ye.X1.Xn,.d (dsl false false (kE false) y.Ye.Xe),.d (dsl false false (kE false) y.Ye.Xp),.d (dsl false false (kC false) y.Ye.X5),dI y.X1.Xt,dI y.X1.Xn,dB y.Yt])],[.live (.box 99 [dI (3*f+1),dI u,.mref 1]),.live (mpK X9 Y6 rows),.live (.box 80 [.ptr 0 0,Zhk,dI st,.d (.val (.pointer none)),.mref 3,.own 4 (X3 false).sz 0 done.length]),.live (mpK (W8 .i64) (Xj false) told),.live (Xc 55 (X3 false) done),.live (.box 49 [dB true,dI f,dI u,.own 6 (kE false).sz 0 L.length]),.live (Xc 53 (kE false) L),.live (.box 71 [.ptr 5 0,Zhk,dI st,dB false,dI RE.f_Signer,dU RE.X7,.own 8 (X0 false).sz 0 ws.length,.own 9 (X3 false).sz 0 done.length]),.live (Xc 117 (X0 false) ws),.live (Xc 55 (X3 false) done)]⟩ _ _
 have hml:=X04 hf9 st
 obtain ⟨hy1,hy2,hy3,hy4⟩:=hy
 have hsl:=Eg f u L y st
 have ht3:=X1z y.V0
 have hsn:(V8 1000 (W1 f u 1000 (Yj (Ys 1000 (st+1) y.W5)))).length=1:=rfl
 refine sR [] (T.seq (sR [] (T.block (sR [] ?_))))
 by_cases hq1:y.X2=0
 ·have hk0:=hq1;have hnr:¬Vy y:=fun w=>by rcases w with w|w<;>omega
  refine cT (dT hq1) ?_
  by_cases hq2:((y.W5.length:Nat):Int)>4096
  ·exact absurd hq2 hsb.2
  refine sD [[],[0],[],[],[3],[2,3,4],[0,1,2,3,4,5],[0,1,2,3,4,5,6],[0,1,2,3,4,5,6,7],[0,1,2,3,4,5,6,7],[0,1,2,3,4,5,6,7,8],[0,1,2,3,4,5,6,7,8,9,10]] [hR 2 rfl rfl (Yb 12 5 kU8 V9 ([]:List UInt8) [] (cs:=[]) Tryz.underlying34 Ur rfl I1 rfl rfl rfl pf Wa pZ2 (Vk pZ2) (X4 rfl) trivial),hR 5 rfl rfl (Yq 12 13 5 1 kU8 V9 ([]:List UInt8) y.W5 y.W5 ([]:List UInt8).length (sy:=(dU y.W5)) (rhs:=[]) Uz (by omega) (Up false false kU8 y.W5) (by simp) (by (simp [maxLen,-List.getD_eq_getElem?_getD]<;>omega)) (by (simp [maxLen,-List.getD_eq_getElem?_getD]<;>omega)) (X4 rfl) trivial),hR 6 rfl rfl (Wk (X1a f u rows 1000 st told done true false y.W5 ‹_› ‹_› (by omega) (by omega) ‹_›) Tryz.func16 rfl (by decide) [0,1,2,3,4,14] [13] (l:=[(.tmp 17,pv 2 0),(.tmp 21,Xx 13 kU8 0 y.W5.length)]) [(13,.live (Xc 5 kU8 y.W5))] rfl 5 6 rfl rfl rfl rfl rfl rfl rfl rfl rfl ⟨.inl ⟨rfl,rfl⟩,⟨.inr (.inl ⟨rfl,p1b,rfl,rfl,by simp,5,y.W5.length,Yu kU8 y.W5,List.Mem.head _,pg,fun i j=>by rw [Nat.zero_add]⟩),trivial⟩⟩ rfl pZ4 p1h (X4 rfl) trivial)] ?_
  refine sR [hR 4 rfl rfl (rCa (X28 f u L 1000 st RE ws done false false y.W5 ‹_› ‹_› (by omega) (by omega) (by omega) ‹_›) Tryz.func17 [5,6,7,8,9,15,16] [(.tmp 27,pv 7 0),(.tmp 29,slV false false kU8 y.W5)] 5 7)] ?_
  refine sR (hR 2 rfl rfl (rCa (Hc false false false false false false (V8 1000 (W1 f u 1000 (Yj (Ys 1000 (st+1) y.W5)))) (V8 1000 (W1 f u 1000 (Yj (Ys 1000 (st+1) y.W5)))) (by omega)) Tryz.func18 [] [(.tmp 33,slV false false (Y1 false) (V8 1000 (W1 f u 1000 (Yj (Ys 1000 (st+1) y.W5))))),(.tmp 34,slV false false (Y1 false) (V8 1000 (W1 f u 1000 (Yj (Ys 1000 (st+1) y.W5)))))] 0 0)::(Xf (hY · (show decide ((V8 1000 (W1 f u 1000 (Yj (Ys 1000 (st+1) y.W5))))=(V8 1000 (W1 f u 1000 (Yj (Ys 1000 (st+1) y.W5)))))=true from dT (Eq.refl _))) [4,5,6] (hP 7 (show decide ((V8 1000 (W1 f u 1000 (Yj (Ys 1000 (st+1) y.W5))))=(V8 1000 (W1 f u 1000 (Yj (Ys 1000 (st+1) y.W5)))))=true from dT (Eq.refl _))::[]))) ?_
  refine T.ret (rB (rT ?_))
  exact eRt 4 (.one (dB true)) [0,1,2,3,4,5,6,7,8,9,15,16,14] rfl (ix ⟨⟨rfl,(by have e1:((Ij f u rows 1000 (Yj (Ys 1000 (st+1) y.W5))):List (Xv×Bool))=(Wq (Jl f u L y st)):=(by (rw [hrl,Xa1];rfl));have hE:=congrArg (fun (q1:List (Xv×Bool))=>(.live (mpK X9 Y6 q1):HS)) e1;exact Eq.trans pZ2 hE)⟩,(ix (ix (ix ⟨⟨rfl,(by have e1:((Wx f u L 1000 (Yj (Ys 1000 (st+1) y.W5))).length:Nat)=(Jl f u L y st).length:=(by rfl);have hE:=congrArg (fun (q1:Nat)=>(.live (.box 49 [dB true,dI f,dI u,.own 15 (kE false).sz 0 q1]):HS)) e1;exact Eq.trans pZ2 hE)⟩,⟨⟨rfl,(by have e1:((W1 f u 1000 (Yj (Ys 1000 (st+1) y.W5))).f_Signer:Int)=(Jm f u y st).f_Signer:=(by rfl);have e2:((W1 f u 1000 (Yj (Ys 1000 (st+1) y.W5))).X7:List UInt8)=(Jm f u y st).X7:=(by rfl);have hE:=congr (congrArg (fun (q1:Int) (q2:List UInt8)=>(.live (.box 71 [.ptr 5 0,Zhk,dI (st+1),dB true,dI q1,dU q2,.own 16 (X0 false).sz 0 ([]:List X6).length,.own 9 (X3 false).sz 0 done.length]):HS)) e1) e2;exact Eq.trans pZ2 hE)⟩,(ix ⟨⟨rfl,(by have e1:((Wx f u L 1000 (Yj (Ys 1000 (st+1) y.W5))):List aE)=(Jl f u L y st):=(by rfl);have hE:=congrArg (fun (q1:List aE)=>(.live (Xc 53 (kE false) q1):HS)) e1;exact Eq.trans pZ2 hE)⟩,(ix ⟨⟨rfl,(by have e1:((W1 f u 1000 (Yj (Ys 1000 (st+1) y.W5))).f_Signer:Int)=(Jm f u y st).f_Signer:=(by rfl);have e2:((W1 f u 1000 (Yj (Ys 1000 (st+1) y.W5))).X7:List UInt8)=(Jm f u y st).X7:=(by rfl);have hE:=congr p4l e2;exact Eq.trans pZ2 hE)⟩,trivial⟩)⟩)⟩⟩)))⟩)
 exact absurd hsb.1 hq1
end Go.Proofs.YthnefnknoahbkaaGreat.Q
