import Derived.Test.YthnefnknoahbkaaGreatC18n30
import Derived.SizedLaws
namespace Go.Proofs.YthnefnknoahbkaaGreat.Q
open Go Go.RowKit
set_option linter.unusedVariables false
set_option linter.unusedSimpArgs false
set_option maxRecDepth 100000
set_option maxHeartbeats 4000000
section
variable (f:Int) (u:Int) (rows:List (Xv×Bool)) (L:List aE) (st:Int) (told:List (Int×Xd)) (ws:List X6) (done:List Xo) (E:aE) (y:Xl)
abbrev Zhl:AV:=.tv (.agg [.ptr 0 0,.ptr 5 0,.ptr 2 0,.ptr 7 0])
abbrev Zhm:List SV:=[dI y.X2,dI y.f_Signer,dI y.V0,dU y.W5,dI y.Ye.X2,dI y.Ye.Xr,dI y.Ye.Xy,dI y.Ye.Xa,dI y.Ye.Xw,dS y.Ye.Xb,dU y.Ye.Xi,dI y.Ye.X1.Xt,dI y.Ye.X1.Xn,.d (dsl false false (kE false) y.Ye.Xe),.d (dsl false false (kE false) y.Ye.Xp),.d (dsl false false (kC false) y.Ye.X5),dI y.X1.Xt,dI y.X1.Xn,dB y.Yt]
abbrev Zhn:HS:=.live (.box 99 [dI (3*f+1),dI u,.mref 1])
abbrev Zho:HS:=.live (mpK X9 Y6 rows)
abbrev Zhp:SV:=dI 1000
abbrev Zhq:SV:=dI st
abbrev Zhr:HS:=.live (.box 80 [.ptr 0 0,Zhp,(Zhq st),.ptr 10 0,.mref 3,.own 4 (X3 false).sz 0 done.length])
abbrev Zhs:HS:=.live (mpK (W8 .i64) (Xj false) told)
abbrev Zht:HS:=.live (Xc 55 (X3 false) done)
abbrev Zhu:HS:=.live (.box 49 [dB true,dI f,dI u,.own 6 (kE false).sz 0 L.length])
abbrev Zhv:HObj:=Xc 53 (kE false) L
abbrev Zhw:HS:=.live ((Zhv L))
abbrev Zhx:SV:=dI E.f_Signer
abbrev Zhy:SV:=dU E.X7
abbrev Zhz:SV:=.own 9 (X3 false).sz 0 done.length
abbrev Zi0:HS:=.live (.box 71 [.ptr 5 0,Zhp,(Zhq st),dB true,(Zhx E),(Zhy E),.own 8 (X0 false).sz 0 ws.length,(Zhz done)])
abbrev Zi1:HObj:=Xc 117 (X0 false) ws
abbrev Zi2:HS:=.live ((Zi1 ws))
abbrev Zi3:HS:=.live (.box 53 [(Zhx E),(Zhy E)])
abbrev Zi4:AV:=slV false false (Y1 false) ([]:List Ya)
abbrev Zi5:AV:=vB (decide (y.X2=0))
abbrev Zi6:List AV:=[Zhl,.tv (.agg (Zhm y)),pv 11 0,pv 12 0,vB (decide ((F2 y.W5)=(F2 y.W5))),Zi4,vI (F2 y.W5),Zi4,vI (F2 y.W5),aa,aa,aa,vI y.X2,(Zi5 y)]
abbrev Zi7:HS:=.live (.box 31 [.ptr 0 0,.ptr 5 0,.ptr 2 0,.ptr 7 0])
abbrev Zi8:HS:=.live (.box 44 (Zhm y))
abbrev Zi9:HS:=.live (.box 49 [dB true,dI f,dI u,.own 15 (kE false).sz 0 L.length])
abbrev Zia:St:=⟨(Zi6 y),[(Zhn f u),(Zho rows),(Zhr st done),(Zhs told),(Zht done),(Zi9 f u L),.dead,(Zi0 st ws done E),(Zi2 ws),(Zht done),(Zi3 E),Zi7,(Zi8 y),.dead,.live (Xc 5 kU8 y.W5),(Zhw L)]⟩
abbrev Zib:List AV:=[Zhl,.tv (.agg (Zhm y)),pv 11 0,pv 12 0,vB (decide ((V8 1000 E)=(V8 1000 E))),aa,aa,aa,aa,aa,aa,aa,vI y.X2,(Zi5 y),aa,aa,aa,aa,aa,aa,aa,aa,aa,aa,aa,aa,aa,aa,aa,aa,aa,aa,aa,aa,aa,aa,aa,aa,aa,aa,aa,vB (decide (y.X2=1))]
abbrev Zic:List HS:=[(Zhn f u),(Zho rows),(Zhr st done),(Zhs told),(Zht done),(Zhu f u L),(Zhw L),(Zi0 st ws done E),(Zi2 ws),(Zht done),(Zi3 E),Zi7,(Zi8 y)]
abbrev Zid:HS:=.live (.box 49 [dB true,dI f,dI u,.own 13 (kE false).sz 0 L.length])
abbrev Zie:List HS:=[(Zhn f u),(Zho rows),(Zhr st done),(Zhs told),(Zht done),(Zid f u L),.dead,(Zi0 st ws done E),(Zi2 ws),(Zht done),(Zi3 E),Zi7,(Zi8 y),(Zhw L)]
abbrev Zif:List AV:=[aa,aa,pv 11 0,pv 12 0,vB false,aa,aa,aa,aa,aa,aa,aa,aa,aa,aa,aa,aa,aa,aa,aa,aa,aa,aa,aa,aa,aa,aa,aa,aa,aa,aa,aa,aa,aa,aa,aa,aa,aa,aa,aa,aa,aa,aa,aa,aa,aa,aa,aa,aa,aa,vB (decide (Vy y))]
abbrev Zig:List AV:=[aa,aa,pv 11 0,pv 12 0,vB false,aa,aa,aa,aa,pv 13 0]
abbrev Zih:List SV:=[dI (Xz y st).X2,dI (Xz y st).Xr,dI (Xz y st).Xy,dI (Xz y st).Xa,dI (Xz y st).Xw,dS (Xz y st).Xb,dU (Xz y st).Xi,dI (Xz y st).X1.Xt,dI (Xz y st).X1.Xn,.d (dsl false false (kE false) (Xz y st).Xe),.d (dsl false false (kE false) (Xz y st).Xp),.d (dsl false false (kC false) (Xz y st).X5)]
abbrev Zii:HS:=.live (.box 42 (Zih st y))
abbrev Zij:List HS:=[(Zhn f u),(Zho rows),(Zhr st done),(Zhs told),(Zht done),(Zhu f u L),(Zhw L),(Zi0 st ws done E),(Zi2 ws),(Zht done),(Zi3 E),Zi7,(Zi8 y),(Zii st y)]
abbrev Zik:List AV:=[aa,aa,pv 11 0,pv 12 0,vB false,aa,aa,aa,aa,pv 13 0,aa,aa,aa,aa,aa,aa,aa,aa,aa,aa,aa,aa,aa,aa,aa,aa,aa,aa,aa,aa,aa,aa,aa,aa,aa,aa,aa,aa,aa,aa,aa,aa,aa,aa,aa,aa,aa,aa,aa,aa,vB (decide (Vy y)),aa,aa,aa,aa,aa,aa,vB (decide (y.X2=3))]
abbrev Zil:SV:=.d (.val (.slice none 0 0))
abbrev Zim:HS:=.live (.box 42 [dI 8,dI 0,dI 0,Zhp,dI (st+(Int.tmod y.V0 3)),dS [],Zil,dI y.X1.Xt,dI y.X1.Xn,Zil,Zil,Zil])
abbrev Zin:HS:=.live (.box 42 [dI 8,dI 0,dI 0,Zhp,dI (st+(Int.tmod y.V0 3)),dS [],dU ([]:List UInt8),dI y.X1.Xt,dI y.X1.Xn,.d (dsl false false (kE false) ([]:List aE)),.d (dsl false false (kE false) ([]:List aE)),.d (dsl false false (kC false) ([]:List aC))])
abbrev Zio:HS:=.live (.box 42 [dI y.Ye.X2,dI y.Ye.Xr,dI y.Ye.Xy,dI y.Ye.Xa,dI y.Ye.Xw,dS y.Ye.Xb,dU y.Ye.Xi,dI y.Ye.X1.Xt,dI y.Ye.X1.Xn,.d (dsl false false (kE false) y.Ye.Xe),.d (dsl false false (kE false) y.Ye.Xp),.d (dsl false false (kC false) y.Ye.X5)])
abbrev Zip:List AV:=[aa,aa,pv 11 0,pv 12 0,vB false,aa,aa,aa,aa,pv 13 0,pv 14 0]
abbrev Ziq:List SV:=[dI y.f_Signer,dU (Yj (Xz y st))]
abbrev Zir:HS:=.live (.box 53 (Ziq st y))
abbrev Zis:List HS:=[(Zhn f u),.live (mpK X9 Y6 (Wq (W0 f u L y st))),(Zhr st done),(Zhs told),(Zht done),.live (.box 49 [dB true,dI f,dI u,.own 15 (kE false).sz 0 (W0 f u L y st).length]),.dead,(Zi0 st ws done E),(Zi2 ws),(Zht done),(Zi3 E),Zi7,(Zi8 y),(Zii st y),(Zir st y),.live (Xc 53 (kE false) (W0 f u L y st))]
abbrev Zit:List AV:=[aa,aa,pv 11 0,pv 12 0,vB false,aa,aa,aa,aa,pv 13 0,pv 14 0,aa,aa,aa,aa,aa,aa,aa,aa,aa,aa,aa,aa,aa,aa,aa,aa,aa,aa,aa,aa,aa,aa,aa,aa,aa,aa,aa,aa,aa,aa,aa,aa,aa,aa,aa,aa,aa,aa,aa,aa,aa,aa,aa,aa,aa,aa,aa,aa,aa,aa,aa,aa,aa,aa,aa,aa,aa,aa,aa,aa,aa,aa,aa,aa,aa,aa,vB (!y.Yt)]
abbrev Ziu:List HS:=[(Zhn f u),.live (mpK X9 Y6 (Ij f u rows y.f_Signer (Yj (Xz y st)))),(Zhr st done),(Zhs told),(Zht done),.live (.box 49 [dB true,dI f,dI u,.own 15 (kE false).sz 0 (Wx f u L y.f_Signer (Yj (Xz y st))).length]),.dead,(Zi0 st ws done E),(Zi2 ws),(Zht done),(Zi3 E),Zi7,(Zi8 y),(Zii st y),(Zir st y),.live (Xc 53 (kE false) (Wx f u L y.f_Signer (Yj (Xz y st))))]
abbrev Ziv:List AV:=[aa,aa,pv 11 0,pv 12 0,vB true,aa,aa,aa,aa,aa,aa,aa,aa,aa,aa,aa,aa,aa,aa,aa,aa,aa,aa,aa,aa,aa,aa,aa,aa,aa,aa,aa,aa,aa,aa,aa,aa,aa,aa,aa,aa,aa,aa,aa,aa,aa,aa,aa,aa,aa,vB (decide (Vy y))]
end
theorem X1n (f:Int) (u:Int) (rows:List (Xv×Bool)) (L:List aE) (st:Int) (told:List (Int×Xd)) (ws:List X6) (done:List Xo) (E:aE) (y:Xl) (hf:0≤f∧f≤2) (hu:0≤u∧u≤8) (hrl:rows=Wq L) (hLl:L.length≤100000) (hst:0≤st∧st≤100000) (htl:told.length≤100000) (hwl:ws.length≤100000) (hdl:done.length≤100000) (hrw:U9 told ws) (hc:Wb u 1000) (hy:X45 y) (hf9:J7 y) (hEl:E.X7.length≤100000) (hd:¬Iu f u L st told y):Holds Tryz.prog 6 ⟨[.tv (.agg [.ptr 0 0,.ptr 5 0,.ptr 2 0,.ptr 7 0]),.tv (.agg [dI y.X2,dI y.f_Signer,dI y.V0,dU y.W5,dI y.Ye.X2,dI y.Ye.Xr,dI y.Ye.Xy,dI y.Ye.Xa,dI y.Ye.Xw,dS y.Ye.Xb,dU y.Ye.Xi,dI y.Ye.X1.Xt,dI y.Ye.X1.Xn,.d (dsl false false (kE false) y.Ye.Xe),.d (dsl false false (kE false) y.Ye.Xp),.d (dsl false false (kC false) y.Ye.X5),dI y.X1.Xt,dI y.X1.Xn,dB y.Yt])],[.box 99 [dI (3*f+1),dI u,.mref 1],mpK X9 Y6 rows,.box 80 [.ptr 0 0,dI 1000,dI st,.ptr 10 0,.mref 3,.own 4 (X3 false).sz 0 done.length],mpK (W8 .i64) (Xj false) told,Xc 55 (X3 false) done,.box 49 [dB true,dI f,dI u,.own 6 (kE false).sz 0 L.length],Xc 53 (kE false) L,.box 71 [.ptr 5 0,dI 1000,dI st,dB true,dI E.f_Signer,dU E.X7,.own 8 (X0 false).sz 0 ws.length,.own 9 (X3 false).sz 0 done.length],Xc 117 (X0 false) ws,Xc 55 (X3 false) done,.box 53 [dI E.f_Signer,dU E.X7]],vB true,[.live (.box 99 [dI (3*f+1),dI u,.mref 1]),.live (mpK X9 Y6 (Wq (Yz f u L y st))),.live (.box 80 [.ptr 0 0,dI 1000,dI st,.ptr 10 0,.mref 3,.own 4 (X3 false).sz 0 done.length]),.live (mpK (W8 .i64) (Xj false) (Vi f u L st told y)),.live (Xc 55 (X3 false) done),.live (.box 49 [dB true,dI f,dI u,.own 11 (kE false).sz 0 (Yz f u L y st).length]),.dead,.live (.box 71 [.ptr 5 0,dI 1000,dI st,dB true,dI E.f_Signer,dU E.X7,.own 12 (X0 false).sz 0 (Ve f u L st ws y).length,.own 9 (X3 false).sz 0 done.length]),.dead,.live (Xc 55 (X3 false) done),.live (.box 53 [dI E.f_Signer,dU E.X7]),.live (Xc 53 (kE false) (Yz f u L y st)),.live (Xc 117 (X0 false) (Ve f u L st ws y))]⟩:=by
 refine Holds.of Tryz.func6 rfl (N:=100) Tryz.ntmps6 rfl fun w0 B0 S0 U0=>?_
 show T _ (Y0 100 11 w0 S0 U0 B0) ⟨[Zhl,.tv (.agg (Zhm y))],[(Zhn f u),(Zho rows),(Zhr st done),(Zhs told),(Zht done),(Zhu f u L),(Zhw L),(Zi0 st ws done E),(Zi2 ws),(Zht done),(Zi3 E)]⟩ _ _
 have hml:=X04 hf9 st
 obtain ⟨hy1,hy2,hy3,hy4⟩:=hy
 have hsl:=Eg f u L y st
 have ht3:=X1z y.V0
 have hsn:(V8 1000 E).length=1:=rfl
 refine sR [] (T.seq (sR [] (T.block (sR [] ?_))))
 by_cases hq1:y.X2=0
 ·have hk0:=hq1;have hnr:¬Vy y:=fun w=>by rcases w with w|w<;>omega
  refine cT (dT hq1) ?_
  refine sD [[],[0],[],[],[3],[2,3,4],[0,1,2,3,4,5],[0,1,2,3,4,5,6],[0,1,2,3,4,5,6,7],[0,1,2,3,4,5,6,7],[0,1,2,3,4,5,6,7,8],[0,1,2,3,4,5,6,7,8,9,10]] [hR 2 rfl rfl (Yb 13 5 kU8 V9 ([]:List UInt8) [] (cs:=[]) Tryz.underlying34 Ur rfl I1 rfl rfl rfl pf Wa pZ2 (Vk pZ2) (X4 rfl) trivial),hR 5 rfl rfl (Yq 13 14 5 1 kU8 V9 ([]:List UInt8) y.W5 y.W5 ([]:List UInt8).length (sy:=(dU y.W5)) (rhs:=[]) Uz (by omega) (Up false false kU8 y.W5) (by simp) (by (simp [maxLen,-List.getD_eq_getElem?_getD]<;>omega)) (by (simp [maxLen,-List.getD_eq_getElem?_getD]<;>omega)) (X4 rfl) trivial),hR 6 rfl rfl (Wk (X6x f u rows 1000 st told done E true false y.W5 ) Tryz.func16 rfl (by decide) [0,1,2,3,4,10] [14] (l:=[(.tmp 17,pv 2 0),(.tmp 21,Xx 14 kU8 0 y.W5.length)]) [(14,.live (Xc 5 kU8 y.W5))] rfl 6 6 rfl rfl rfl rfl rfl rfl rfl rfl rfl ⟨.inl ⟨rfl,rfl⟩,⟨.inr (.inl ⟨rfl,p1b,rfl,rfl,by simp,5,y.W5.length,Yu kU8 y.W5,List.Mem.head _,pg,fun i j=>by rw [Nat.zero_add]⟩),trivial⟩⟩ rfl pZ4 p1h (X4 rfl) trivial)] ?_
  refine sR [hR 4 rfl rfl (rCa (X7g f u L 1000 st E ws done false false y.W5 ) Tryz.func17 [5,6,7,8,9] [(.tmp 27,pv 7 0),(.tmp 29,slV false false kU8 y.W5)] 5 5)] ?_
  refine sR (hR 2 rfl rfl (rCa (Hc false false false false false false ([]:List Ya) ([]:List Ya) (by (simp [maxLen,-List.getD_eq_getElem?_getD]<;>omega))) Tryz.func18 [] [(.tmp 33,Zi4),(.tmp 34,Zi4)] 0 0)::(Xf (hY · (show decide (([]:List Ya)=([]:List Ya))=true from dT (Eq.refl _))) [4,5,6] (hP 7 (show decide (([]:List Ya)=([]:List Ya))=true from dT (Eq.refl _))::[]))) ?_
  refine T.ret (rB (rT ?_))
  refine eN ⟨(Zi6 y),[(Zhn f u),(Zho rows),(Zhr st done),(Zhs told),(Zht done),(Zhu f u L),(Zhw L),(Zi0 st ws done E),(Zi2 ws),(Zht done),(Zi3 E),Zi7,(Zi8 y),.dead,.live (Xc 5 kU8 y.W5)]⟩ ?_
  refine Xh (s':=(Zia f u rows L st told ws done E y)) (fun _ _ hG=>Gs.move (s:=⟨(Zi6 y),[(Zhn f u),(Zho rows),(Zhr st done),(Zhs told),(Zht done),(Zhu f u L),(Zhw L),(Zi0 st ws done E),(Zi2 ws),(Zht done),(Zi3 E),Zi7,(Zi8 y),.dead,.live (Xc 5 kU8 y.W5)]⟩) 6 15 (o:=(Zhv L)) rfl rfl rfl (kk2 p39) ⟨(.inr pZ1),⟨(.inr pZ1),⟨(.inr pZ1),⟨(.inr pZ1),⟨(.inr pZ1),⟨(.inr pZl),⟨(.inl ⟨rfl,rfl⟩),⟨(.inr pZ1),⟨(.inr pZ1),⟨(.inr pZ1),⟨(.inr pZ1),⟨(.inr pZ1),⟨(.inr pZ1),⟨(.inr pZ1),⟨(.inr pZ1),⟨(.inr (.inl ⟨rfl,rfl⟩)),trivial⟩⟩⟩⟩⟩⟩⟩⟩⟩⟩⟩⟩⟩⟩⟩⟩ hG) ?_
  refine eN (Zia f u rows L st told ws done E y) ?_
  refine Xh (s':=⟨(Zi6 y),[(Zhn f u),(Zho rows),(Zhr st done),(Zhs told),(Zht done),(Zi9 f u L),.dead,.live (.box 71 [.ptr 5 0,Zhp,(Zhq st),dB true,(Zhx E),(Zhy E),.own 16 (X0 false).sz 0 ws.length,(Zhz done)]),.dead,(Zht done),(Zi3 E),Zi7,(Zi8 y),.dead,.live (Xc 5 kU8 y.W5),(Zhw L),(Zi2 ws)]⟩) (fun _ _ hG=>Gs.move (s:=(Zia f u rows L st told ws done E y)) 8 16 (o:=(Zi1 ws)) rfl rfl rfl (kk2 p39) ⟨(.inr pZ1),⟨(.inr pZ1),⟨(.inr pZ1),⟨(.inr pZ1),⟨(.inr pZ1),⟨(.inr pZ1),⟨(.inr pZ1),⟨(.inr pq),⟨(.inl ⟨rfl,rfl⟩),⟨(.inr pZ1),⟨(.inr pZ1),⟨(.inr pZ1),⟨(.inr pZ1),⟨(.inr pZ1),⟨(.inr pZ1),⟨(.inr pZ1),⟨(.inr (.inl ⟨rfl,rfl⟩)),trivial⟩⟩⟩⟩⟩⟩⟩⟩⟩⟩⟩⟩⟩⟩⟩⟩⟩ hG) ?_
  exact eRt 4 (.one (dB (decide ((F2 y.W5)=(F2 y.W5))))) [0,1,2,3,4,5,6,7,8,9,10,15,16] (cB (by exact (dT (Eq.refl _)).symm)) (ix ⟨⟨rfl,pZ14⟩,(ix ⟨⟨rfl,p1g⟩,(ix ⟨⟨rfl,(by have e1:(L.length:Nat)=(Yz f u L y st).length:=(by (rw [Fd hnr];done));have hE:=congrArg (fun (q1:Nat)=>(.live (.box 49 [dB true,dI f,dI u,.own 15 (kE false).sz 0 q1]):HS)) e1;exact Eq.trans pZ2 hE)⟩,⟨⟨rfl,(by have e1:(ws.length:Nat)=(Ve f u L st ws y).length:=(by (rw [X1f hnr];done));have hE:=congrArg (fun (q1:Nat)=>(.live (.box 71 [.ptr 5 0,Zhp,(Zhq st),dB true,(Zhx E),(Zhy E),.own 16 (X0 false).sz 0 q1,(Zhz done)]):HS)) e1;exact Eq.trans pZ2 hE)⟩,(ix (ix ⟨⟨rfl,pZ19⟩,⟨⟨rfl,p1i⟩,trivial⟩⟩))⟩⟩)⟩)⟩)
 have hk0:=hq1
 refine cF (dF hq1) (sR [] ?_)
 by_cases hq2:y.X2=1
 ·have hnr:¬Vy y:=fun w=>by rcases w with w|w<;>omega
  refine cT (dT hq2) ?_
  refine sD [[],[0],[0,1],[],[3],[0,1,2,3,4],[0,1,2,3,4,5],[0,1,2,3,4,5,6]] [hR 2 rfl rfl (rCa (X1b f u rows 1000 st told done E (by omega)) Tryz.func19 [0,1,2,3,4,10] [(.tmp 44,pv 2 0)] 6 6),hR 5 rfl rfl (rCa (X29 f u L 1000 st E ws done (by omega)) Tryz.func20 [5,6,7,8,9] [(.tmp 47,pv 7 0)] 5 5),hR 6 rfl rfl (rCa (Hc false false false false false false (V8 1000 E) (V8 1000 E) (by omega)) Tryz.func18 [] [(.tmp 45,slV false false (Y1 false) (V8 1000 E)),(.tmp 48,slV false false (Y1 false) (V8 1000 E))] 0 0)] (T.ret (rB (rT ?_)))
  refine eN ⟨(Zib E y),(Zic f u rows L st told ws done E y)⟩ ?_
  refine Xh (s':=⟨(Zib E y),(Zie f u rows L st told ws done E y)⟩) (fun _ _ hG=>Gs.move (s:=⟨(Zib E y),(Zic f u rows L st told ws done E y)⟩) 6 13 (o:=(Zhv L)) rfl rfl rfl (kk2 p4m) ⟨(.inr pZ1),⟨(.inr pZ1),⟨(.inr pZ1),⟨(.inr pZ1),⟨(.inr pZ1),⟨(.inr pZl),⟨(.inl ⟨rfl,rfl⟩),⟨(.inr pZ1),⟨(.inr pZ1),⟨(.inr pZ1),⟨(.inr pZ1),⟨(.inr pZ1),⟨(.inr pZ1),⟨(.inr (.inl ⟨rfl,rfl⟩)),trivial⟩⟩⟩⟩⟩⟩⟩⟩⟩⟩⟩⟩⟩⟩ hG) ?_
  refine eN ⟨(Zib E y),(Zie f u rows L st told ws done E y)⟩ ?_
  refine Xh (s':=⟨(Zib E y),[(Zhn f u),(Zho rows),(Zhr st done),(Zhs told),(Zht done),(Zid f u L),.dead,.live (.box 71 [.ptr 5 0,Zhp,(Zhq st),dB true,(Zhx E),(Zhy E),.own 14 (X0 false).sz 0 ws.length,(Zhz done)]),.dead,(Zht done),(Zi3 E),Zi7,(Zi8 y),(Zhw L),(Zi2 ws)]⟩) (fun _ _ hG=>Gs.move (s:=⟨(Zib E y),(Zie f u rows L st told ws done E y)⟩) 8 14 (o:=(Zi1 ws)) rfl rfl rfl (kk2 p4m) ⟨(.inr pZ1),⟨(.inr pZ1),⟨(.inr pZ1),⟨(.inr pZ1),⟨(.inr pZ1),⟨(.inr pZ1),⟨(.inr pZ1),⟨(.inr pq),⟨(.inl ⟨rfl,rfl⟩),⟨(.inr pZ1),⟨(.inr pZ1),⟨(.inr pZ1),⟨(.inr pZ1),⟨(.inr pZ1),⟨(.inr (.inl ⟨rfl,rfl⟩)),trivial⟩⟩⟩⟩⟩⟩⟩⟩⟩⟩⟩⟩⟩⟩⟩ hG) ?_
  exact eRt 4 (.one (dB (decide ((V8 1000 E)=(V8 1000 E))))) [0,1,2,3,4,5,6,7,8,9,10,13,14] (cB (by exact (dT (Eq.refl _)).symm)) (ix ⟨⟨rfl,pZ14⟩,(ix ⟨⟨rfl,p1g⟩,(ix ⟨⟨rfl,p2l⟩,⟨⟨rfl,pZ26⟩,(ix (ix ⟨⟨rfl,pZ19⟩,⟨⟨rfl,p1i⟩,trivial⟩⟩))⟩⟩)⟩)⟩)
 refine cF (dF hq2) ?_
 refine Va ⟨(Zif y),(Zic f u rows L st told ws done E y)⟩ ?_ ?_
 ·refine sR [] ?_
  by_cases hq3:y.X2=2
  ·refine cT (dT hq3) (T.skip ?_)
   refine eN ⟨[Zhl,.tv (.agg (Zhm y)),pv 11 0,pv 12 0,vB false,aa,aa,aa,aa,aa,aa,aa,vI y.X2,(Zi5 y),aa,aa,aa,aa,aa,aa,aa,aa,aa,aa,aa,aa,aa,aa,aa,aa,aa,aa,aa,aa,aa,aa,aa,aa,aa,aa,aa,vB (decide (y.X2=1)),aa,aa,aa,aa,aa,aa,aa,aa,vB (decide (y.X2=2))],(Zic f u rows L st told ws done E y)⟩ ?_
   refine Xh (s':=⟨(Zif y),(Zic f u rows L st told ws done E y)⟩) (fun _ _ hG=>Y9 [0,1,2,3,4,5,6,7,8,9,10,11,12] (bm 51 1125899906842652) (t2:=[aa,aa,pv 11 0,pv 12 0,vB false,aa,aa,aa,aa,aa,aa,aa,aa,aa,aa,aa,aa,aa,aa,aa,aa,aa,aa,aa,aa,aa,aa,aa,aa,aa,aa,aa,aa,aa,aa,aa,aa,aa,aa,aa,aa,aa,aa,aa,aa,aa,aa,aa,aa,aa,vB (decide (y.X2=2))]) pn rfl hG) ?_
   exact nJ
  refine cF (dF hq3) (xK [] ?_)
  refine eN ⟨[Zhl,.tv (.agg (Zhm y)),pv 11 0,pv 12 0,vB false,aa,aa,aa,aa,aa,aa,aa,vI y.X2,(Zi5 y),aa,aa,aa,aa,aa,aa,aa,aa,aa,aa,aa,aa,aa,aa,aa,aa,aa,aa,aa,aa,aa,aa,aa,aa,aa,aa,aa,vB (decide (y.X2=1)),aa,aa,aa,aa,aa,aa,aa,aa,vB (decide (y.X2=3))],(Zic f u rows L st told ws done E y)⟩ ?_
  refine Xh (s':=⟨(Zif y),(Zic f u rows L st told ws done E y)⟩) (fun _ _ hG=>Y9 [0,1,2,3,4,5,6,7,8,9,10,11,12] (bm 51 1125899906842652) (t2:=[aa,aa,pv 11 0,pv 12 0,vB false,aa,aa,aa,aa,aa,aa,aa,aa,aa,aa,aa,aa,aa,aa,aa,aa,aa,aa,aa,aa,aa,aa,aa,aa,aa,aa,aa,aa,aa,aa,aa,aa,aa,aa,aa,aa,aa,aa,aa,aa,aa,aa,aa,aa,aa,vB (decide (y.X2=3))]) pn rfl hG) ?_
  exact nJ
 by_cases hq4:Vy y
 rotate_left
 ·have hnr:=hq4
  refine cF (dF hq4) (T.skip (nB (nT (sR [] (T.ret ?_)))))
  refine eN ⟨(Ziv y),(Zic f u rows L st told ws done E y)⟩ ?_
  refine Xh (s':=⟨(Ziv y),(Zie f u rows L st told ws done E y)⟩) (fun _ _ hG=>Gs.move (s:=⟨(Ziv y),(Zic f u rows L st told ws done E y)⟩) 6 13 (o:=(Zhv L)) rfl rfl rfl ⟨.inl rfl,(kk2 p3j)⟩ ⟨(.inr pZ1),⟨(.inr pZ1),⟨(.inr pZ1),⟨(.inr pZ1),⟨(.inr pZ1),⟨(.inr pZl),⟨(.inl ⟨rfl,rfl⟩),⟨(.inr pZ1),⟨(.inr pZ1),⟨(.inr pZ1),⟨(.inr pZ1),⟨(.inr pZ1),⟨(.inr pZ1),⟨(.inr (.inl ⟨rfl,rfl⟩)),trivial⟩⟩⟩⟩⟩⟩⟩⟩⟩⟩⟩⟩⟩⟩ hG) ?_
  refine eN ⟨(Ziv y),(Zie f u rows L st told ws done E y)⟩ ?_
  refine Xh (s':=⟨(Ziv y),[(Zhn f u),(Zho rows),(Zhr st done),(Zhs told),(Zht done),(Zid f u L),.dead,.live (.box 71 [.ptr 5 0,Zhp,(Zhq st),dB true,(Zhx E),(Zhy E),.own 14 (X0 false).sz 0 ws.length,(Zhz done)]),.dead,(Zht done),(Zi3 E),Zi7,(Zi8 y),(Zhw L),(Zi2 ws)]⟩) (fun _ _ hG=>Gs.move (s:=⟨(Ziv y),(Zie f u rows L st told ws done E y)⟩) 8 14 (o:=(Zi1 ws)) rfl rfl rfl ⟨.inl rfl,(kk2 p3j)⟩ ⟨(.inr pZ1),⟨(.inr pZ1),⟨(.inr pZ1),⟨(.inr pZ1),⟨(.inr pZ1),⟨(.inr pZ1),⟨(.inr pZ1),⟨(.inr pq),⟨(.inl ⟨rfl,rfl⟩),⟨(.inr pZ1),⟨(.inr pZ1),⟨(.inr pZ1),⟨(.inr pZ1),⟨(.inr pZ1),⟨(.inr (.inl ⟨rfl,rfl⟩)),trivial⟩⟩⟩⟩⟩⟩⟩⟩⟩⟩⟩⟩⟩⟩⟩ hG) ?_
  exact eRt 4 (.one (dB true)) [0,1,2,3,4,5,6,7,8,9,10,13,14] rfl (ix ⟨⟨rfl,pZ14⟩,(ix ⟨⟨rfl,p1g⟩,(ix ⟨⟨rfl,p2l⟩,⟨⟨rfl,pZ26⟩,(ix (ix ⟨⟨rfl,pZ19⟩,⟨⟨rfl,p1i⟩,trivial⟩⟩))⟩⟩)⟩)⟩)
 have hrc:=hq4
 refine cT (dT hq4) (sR [] ?_)
 refine Va ⟨Zig,(Zij f u rows L st told ws done E y)⟩ ?_ ?_
 ·refine sR [] ?_
  by_cases hq5:y.X2=3
  ·refine cT (dT hq5) ?_
   refine xD [[],[0],[0,1],[0,1,2],[0,1,2,3],[],[5],[5,6],[0,1,2,3,4,5,6,7],[],[9],[0,1,2,3,4,5,6,7,8,9,10],[0,1,2,3,4,5,6,7,8,9,10,11]] [hR 7 rfl rfl (Y4 (u1:=.int .i64 y.V0) (u2:=.int .i64 3) (v:=.int .i64 (Int.tmod y.V0 3)) (b_rem (by omega) rfl) (X4 rfl) ⟨rfl,trivial⟩),hR 8 rfl rfl (Y4 (u1:=.int .i64 st) (u2:=.int .i64 (Int.tmod y.V0 3)) (v:=.int .i64 (st+(Int.tmod y.V0 3))) (Yn pZ5) (X4 rfl) trivial)] pZ2 pZ2 pZ2 pZ2 pZ2 pZ2 ?_
   refine eN ⟨(Zik y),[(Zhn f u),(Zho rows),(Zhr st done),(Zhs told),(Zht done),(Zhu f u L),(Zhw L),(Zi0 st ws done E),(Zi2 ws),(Zht done),(Zi3 E),Zi7,(Zi8 y),(Zim st y)]⟩ ?_
   refine Xh (s':=⟨(Zik y),[(Zhn f u),(Zho rows),(Zhr st done),(Zhs told),(Zht done),(Zhu f u L),(Zhw L),(Zi0 st ws done E),(Zi2 ws),(Zht done),(Zi3 E),Zi7,(Zi8 y),(Zin st y)]⟩) (fun _ _ hG=>We (s:=⟨(Zik y),[(Zhn f u),(Zho rows),(Zhr st done),(Zhs told),(Zht done),(Zhu f u L),(Zhw L),(Zi0 st ws done E),(Zi2 ws),(Zht done),(Zi3 E),Zi7,(Zi8 y),(Zim st y)]⟩) (kk2 (kk8 p3j)) ⟨.inl rfl,(kk4 (kk8 ⟨pa,trivial⟩))⟩ hG) ?_
   refine Xh (s':=⟨Zig,(Zij f u rows L st told ws done E y)⟩) (fun _ _ hG=>Y9 [0,1,2,3,4,5,6,7,8,9,10,11,12,13] (bm 10 540) (h2:=[(Zhn f u),(Zho rows),(Zhr st done),(Zhs told),(Zht done),(Zhu f u L),(Zhw L),(Zi0 st ws done E),(Zi2 ws),(Zht done),(Zi3 E),Zi7,(Zi8 y),(Zin st y)]) rfl (by have e1:((Xz y st).X2:Int)=8:=pm;have e2:((Xz y st).Xr:Int)=0:=pm;have e3:((Xz y st).Xy:Int)=0:=pm;have e4:((Xz y st).Xa:Int)=1000:=pm;have e5:((Xz y st).Xw:Int)=st+(Int.tmod y.V0 3):=pm;have e6:((Xz y st).Xb:List UInt8)=[]:=pm;have e7:((Xz y st).Xi:List UInt8)=([]:List UInt8):=pm;have e8:((Xz y st).X1.Xt:Int)=y.X1.Xt:=pm;have e9:((Xz y st).X1.Xn:Int)=y.X1.Xn:=pm;have e10:((Xz y st).Xe:List aE)=([]:List aE):=pm;have e11:((Xz y st).Xp:List aE)=([]:List aE):=pm;have e12:((Xz y st).X5:List aC)=([]:List aC):=pm;have hE:=congr px e12;exact hE) hG) ?_
   exact nJ
  refine cF (dF hq5) (T.skip ?_)
  refine eN ⟨(Zik y),[(Zhn f u),(Zho rows),(Zhr st done),(Zhs told),(Zht done),(Zhu f u L),(Zhw L),(Zi0 st ws done E),(Zi2 ws),(Zht done),(Zi3 E),Zi7,(Zi8 y),(Zio y)]⟩ ?_
  refine Xh (s':=⟨Zig,(Zij f u rows L st told ws done E y)⟩) (fun _ _ hG=>Y9 [0,1,2,3,4,5,6,7,8,9,10,11,12,13] (bm 10 540) (h2:=[(Zhn f u),(Zho rows),(Zhr st done),(Zhs told),(Zht done),(Zhu f u L),(Zhw L),(Zi0 st ws done E),(Zi2 ws),(Zht done),(Zi3 E),Zi7,(Zi8 y),(Zio y)]) rfl (by have e1:((Xz y st).X2:Int)=y.Ye.X2:=pj;have e2:((Xz y st).Xr:Int)=y.Ye.Xr:=pj;have e3:((Xz y st).Xy:Int)=y.Ye.Xy:=pj;have e4:((Xz y st).Xa:Int)=y.Ye.Xa:=pj;have e5:((Xz y st).Xw:Int)=y.Ye.Xw:=pj;have e6:((Xz y st).Xb:List UInt8)=y.Ye.Xb:=pj;have e7:((Xz y st).Xi:List UInt8)=y.Ye.Xi:=pj;have e8:((Xz y st).X1.Xt:Int)=y.Ye.X1.Xt:=pj;have e9:((Xz y st).X1.Xn:Int)=y.Ye.X1.Xn:=pj;have e10:((Xz y st).Xe:List aE)=y.Ye.Xe:=pj;have e11:((Xz y st).Xp:List aE)=y.Ye.Xp:=pj;have e12:((Xz y st).X5:List aC)=y.Ye.X5:=pj;have hE:=congr px e12;exact hE) hG) ?_
  exact nJ
 refine sD [[],[0],[],[2],[0,1,2,3],[],[0,1,2,3,4,5]] [hR 3 rfl rfl (rCa (H6 false (Xz y st) (V1 hf9 st).1 (V1 hf9 st).2.1 (V1 hf9 st).2.2.1 (V1 hf9 st).2.2.2.1 (V1 hf9 st).2.2.2.2.1 (V1 hf9 st).2.2.2.2.2) Tryz.func21 [] [(.tmp 72,.tv (.agg (Zih st y)))] 0 0)] ?_
 refine Va ⟨Zip,(Zis f u L st told ws done E y)⟩ ?_ ?_
 ·refine sR [] ?_
  by_cases hq6:y.Yt=true
  ·refine cF (cn hq6) (T.skip ?_)
   refine eN ⟨(Zit y),[(Zhn f u),(Zho rows),(Zhr st done),(Zhs told),(Zht done),(Zhu f u L),(Zhw L),(Zi0 st ws done E),(Zi2 ws),(Zht done),(Zi3 E),Zi7,(Zi8 y),(Zii st y),(Zir st y)]⟩ ?_
   refine Xh (s':=⟨(Zit y),[(Zhn f u),(Zho rows),(Zhr st done),(Zhs told),(Zht done),(Zi9 f u L),.dead,(Zi0 st ws done E),(Zi2 ws),(Zht done),(Zi3 E),Zi7,(Zi8 y),(Zii st y),(Zir st y),(Zhw L)]⟩) (fun _ _ hG=>Gs.move (s:=⟨(Zit y),[(Zhn f u),(Zho rows),(Zhr st done),(Zhs told),(Zht done),(Zhu f u L),(Zhw L),(Zi0 st ws done E),(Zi2 ws),(Zht done),(Zi3 E),Zi7,(Zi8 y),(Zii st y),(Zir st y)]⟩) 6 15 (o:=(Zhv L)) rfl rfl rfl (kk2 (kk4 (kk8 p2z))) ⟨(.inr pZ1),⟨(.inr pZ1),⟨(.inr pZ1),⟨(.inr pZ1),⟨(.inr pZ1),⟨(.inr pZl),⟨(.inl ⟨rfl,rfl⟩),⟨(.inr pZ1),⟨(.inr pZ1),⟨(.inr pZ1),⟨(.inr pZ1),⟨(.inr pZ1),⟨(.inr pZ1),⟨(.inr pZ1),⟨(.inr pZ1),⟨(.inr (.inl ⟨rfl,rfl⟩)),trivial⟩⟩⟩⟩⟩⟩⟩⟩⟩⟩⟩⟩⟩⟩⟩⟩ hG) ?_
   refine Xh (s':=⟨Zip,(Zis f u L st told ws done E y)⟩) (fun _ _ hG=>Y9 [0,1,2,3,4,5,6,7,8,9,10,11,12,13,14,15] (bm 11 1564) (h2:=[(Zhn f u),(Zho rows),(Zhr st done),(Zhs told),(Zht done),(Zi9 f u L),.dead,(Zi0 st ws done E),(Zi2 ws),(Zht done),(Zi3 E),Zi7,(Zi8 y),(Zii st y),(Zir st y),(Zhw L)]) rfl (by have e1:((Wq (W0 f u L y st)):List (Xv×Bool))=rows:=p4r;have e2:((W0 f u L y st).length:Nat)=L.length:=p3g;have e3:((W0 f u L y st):List aE)=L:=p3g;have hE:=congr p1s e3;exact hE) hG) ?_
   exact nJ
  replace hq6:=Bool.eq_false_iff.2 hq6
  refine cT (cn hq6) (sR [hR 6 rfl rfl (rCa (Fz f u rows y.f_Signer false false (Yj (Xz y st)) ‹_› ‹_› ‹_› (by omega)) Tryz.func22 [0,1] [(.tmp 79,pv 0 0),(.tmp 81,vI y.f_Signer),(.tmp 83,slV false false kU8 (Yj (Xz y st)))] 2 2)] (xK [hR 6 rfl rfl (rCa (Fm f u L y.f_Signer false false (Yj (Xz y st)) ‹_› ‹_› ‹_› (by omega) (by omega)) Tryz.func23 [5,6,15] [(.tmp 86,pv 5 0),(.tmp 88,vI y.f_Signer),(.tmp 90,slV false false kU8 (Yj (Xz y st)))] 2 3)] ?_))
  refine eN ⟨(Zit y),(Ziu f u rows L st told ws done E y)⟩ ?_
  refine Xh (s':=⟨Zip,(Zis f u L st told ws done E y)⟩) (fun _ _ hG=>Y9 [0,1,2,3,4,5,6,7,8,9,10,11,12,13,14,15] (bm 11 1564) (h2:=(Ziu f u rows L st told ws done E y)) rfl (by have e1:((Wq (W0 f u L y st)):List (Xv×Bool))=(Ij f u rows y.f_Signer (Yj (Xz y st))):=p3o;have e2:((W0 f u L y st).length:Nat)=(Wx f u L y.f_Signer (Yj (Xz y st))).length:=p2o;have e3:((W0 f u L y st):List aE)=(Wx f u L y.f_Signer (Yj (Xz y st))):=p2o;have hE:=congr p1s e3;exact hE) hG) ?_
  exact nJ
 by_cases hq7:F8 (V5 f u (Wq (W0 f u L y st))) f 1000 st told (aE.mk y.f_Signer (Yj (Xz y st)))
 ·exact absurd ((Xe5 hrc).1 hq7) hd
 refine sR [hR 3 rfl rfl (rCa (X4l f u (Wq (W0 f u L y st)) 1000 st told done E false (aE.mk y.f_Signer (Yj (Xz y st))) ‹_› ‹_› ‹_› (by (simp [maxLen,-List.getD_eq_getElem?_getD]<;>omega)) (by omega) ‹_›) Tryz.func24 [0,1,2,3,4,10] [(.tmp 93,pv 2 0),(.tmp 94,.tv (.agg (Ziq st y)))] 6 6)] ?_
 by_cases hq8:Fx (Wf f u (W0 f u L y st)) f 1000 st ws (aE.mk y.f_Signer (Yj (Xz y st)))
 ·exact absurd ((Xe4 hrc hrw).1 hq8) hd
 refine xK [hR 3 rfl rfl (rCa (X5u f u (W0 f u L y st) 1000 st E ws done (aE.mk y.f_Signer (Yj (Xz y st))) ‹_› ‹_› ‹_› (by (simp [maxLen,-List.getD_eq_getElem?_getD]<;>omega)) (by omega) (by omega) ‹_›) Tryz.func25 [5,15,7,8,9,16] [(.tmp 97,pv 7 0),(.tmp 98,.tv (.agg (Ziq st y)))] 5 6)] ?_
 refine nB (nT (sR [] (T.ret ?_)))
 exact eRt 4 (.one (dB true)) [0,1,2,3,4,5,6,7,8,9,10,15,16] rfl (ix ⟨⟨rfl,p1f⟩,(ix ⟨⟨rfl,(by have e1:((Jy (V5 f u (Wq (W0 f u L y st))) f 1000 st told (aE.mk y.f_Signer (Yj (Xz y st)))):List (Int×Xd))=(Vi f u L st told y):=(by exact X9w hrc);have hE:=congrArg (fun (q1:List (Int×Xd))=>(.live (mpK (W8 .i64) (Xj false) q1):HS)) e1;exact Eq.trans pZ2 hE)⟩,(ix ⟨⟨rfl,p2f⟩,⟨⟨rfl,(by have e1:((Um (Wf f u (W0 f u L y st)) f 1000 st ws (aE.mk y.f_Signer (Yj (Xz y st)))).length:Nat)=(Ve f u L st ws y).length:=(by (rw [X3q hrc];done));have hE:=congrArg (fun (q1:Nat)=>(.live (.box 71 [.ptr 5 0,Zhp,(Zhq st),dB true,(Zhx E),(Zhy E),.own 16 (X0 false).sz 0 q1,(Zhz done)]):HS)) e1;exact Eq.trans pZ2 hE)⟩,(ix (ix ⟨⟨rfl,p1p⟩,⟨⟨rfl,(by have e1:((Um (Wf f u (W0 f u L y st)) f 1000 st ws (aE.mk y.f_Signer (Yj (Xz y st)))):List X6)=(Ve f u L st ws y):=(by exact X3q hrc);have hE:=congrArg (fun (q1:List X6)=>(.live (Xc 117 (X0 false) q1):HS)) e1;exact Eq.trans pZ2 hE)⟩,trivial⟩⟩))⟩⟩)⟩)⟩)
section
variable (f:Int) (u:Int) (rows:List (Xv×Bool)) (L:List aE) (st:Int) (told:List (Int×Xd)) (ws:List X6) (done:List Xo) (E:aE) (y:Xl)
abbrev Ziw:List SV:=[.ptr 0 0,.ptr 5 0,.ptr 2 0,.ptr 7 0]
abbrev Zix:List SV:=[dI y.X2,dI y.f_Signer,dI y.V0,dU y.W5,dI y.Ye.X2,dI y.Ye.Xr,dI y.Ye.Xy,dI y.Ye.Xa,dI y.Ye.Xw,dS y.Ye.Xb,dU y.Ye.Xi,dI y.Ye.X1.Xt,dI y.Ye.X1.Xn,.d (dsl false false (kE false) y.Ye.Xe),.d (dsl false false (kE false) y.Ye.Xp),.d (dsl false false (kC false) y.Ye.X5),dI y.X1.Xt,dI y.X1.Xn,dB y.Yt]
abbrev Ziy:HS:=.live (.box 99 [dI (3*f+1),dI u,.mref 1])
abbrev Ziz:HS:=.live (mpK X9 Y6 rows)
abbrev Zj0:SV:=dI 1000
abbrev Zj1:HS:=.live (.box 80 [.ptr 0 0,Zj0,dI st,.ptr 10 0,.mref 3,.own 4 (X3 false).sz 0 done.length])
abbrev Zj2:HS:=.live (mpK (W8 .i64) (Xj false) told)
abbrev Zj3:HS:=.live (Xc 55 (X3 false) done)
abbrev Zj4:HS:=.live (.box 49 [dB true,dI f,dI u,.own 6 (kE false).sz 0 L.length])
abbrev Zj5:HS:=.live (Xc 53 (kE false) L)
abbrev Zj6:HS:=.live (.box 71 [.ptr 5 0,Zj0,dI st,dB true,dI E.f_Signer,dU E.X7,.own 8 (X0 false).sz 0 ws.length,.own 9 (X3 false).sz 0 done.length])
abbrev Zj7:HS:=.live (Xc 117 (X0 false) ws)
abbrev Zj8:HS:=.live (.box 53 [dI E.f_Signer,dU E.X7])
abbrev Zj9:List AV:=[aa,aa,pv 11 0,pv 12 0,vB false,aa,aa,aa,aa,aa,aa,aa,aa,aa,aa,aa,aa,aa,aa,aa,aa,aa,aa,aa,aa,aa,aa,aa,aa,aa,aa,aa,aa,aa,aa,aa,aa,aa,aa,aa,aa,aa,aa,aa,aa,aa,aa,aa,aa,aa,vB (decide (Vy y))]
abbrev Zja:HS:=.live (.box 31 Ziw)
abbrev Zjb:HS:=.live (.box 44 (Zix y))
abbrev Zjc:List HS:=[(Ziy f u),(Ziz rows),(Zj1 st done),(Zj2 told),(Zj3 done),(Zj4 f u L),(Zj5 L),(Zj6 st ws done E),(Zj7 ws),(Zj3 done),(Zj8 E),Zja,(Zjb y)]
abbrev Zjd:List AV:=[aa,aa,pv 11 0,pv 12 0,vB false,aa,aa,aa,aa,pv 13 0]
abbrev Zje:List SV:=[dI (Xz y st).X2,dI (Xz y st).Xr,dI (Xz y st).Xy,dI (Xz y st).Xa,dI (Xz y st).Xw,dS (Xz y st).Xb,dU (Xz y st).Xi,dI (Xz y st).X1.Xt,dI (Xz y st).X1.Xn,.d (dsl false false (kE false) (Xz y st).Xe),.d (dsl false false (kE false) (Xz y st).Xp),.d (dsl false false (kC false) (Xz y st).X5)]
abbrev Zjf:HS:=.live (.box 42 (Zje st y))
abbrev Zjg:List HS:=[(Ziy f u),(Ziz rows),(Zj1 st done),(Zj2 told),(Zj3 done),(Zj4 f u L),(Zj5 L),(Zj6 st ws done E),(Zj7 ws),(Zj3 done),(Zj8 E),Zja,(Zjb y),(Zjf st y)]
abbrev Zjh:List AV:=[aa,aa,pv 11 0,pv 12 0,vB false,aa,aa,aa,aa,pv 13 0,aa,aa,aa,aa,aa,aa,aa,aa,aa,aa,aa,aa,aa,aa,aa,aa,aa,aa,aa,aa,aa,aa,aa,aa,aa,aa,aa,aa,aa,aa,aa,aa,aa,aa,aa,aa,aa,aa,aa,aa,vB (decide (Vy y)),aa,aa,aa,aa,aa,aa,vB (decide (y.X2=3))]
abbrev Zji:SV:=.d (.val (.slice none 0 0))
abbrev Zjj:HS:=.live (.box 42 [dI 8,dI 0,dI 0,Zj0,dI (st+(Int.tmod y.V0 3)),dS [],Zji,dI y.X1.Xt,dI y.X1.Xn,Zji,Zji,Zji])
abbrev Zjk:HS:=.live (.box 42 [dI 8,dI 0,dI 0,Zj0,dI (st+(Int.tmod y.V0 3)),dS [],dU ([]:List UInt8),dI y.X1.Xt,dI y.X1.Xn,.d (dsl false false (kE false) ([]:List aE)),.d (dsl false false (kE false) ([]:List aE)),.d (dsl false false (kC false) ([]:List aC))])
abbrev Zjl:HS:=.live (.box 42 [dI y.Ye.X2,dI y.Ye.Xr,dI y.Ye.Xy,dI y.Ye.Xa,dI y.Ye.Xw,dS y.Ye.Xb,dU y.Ye.Xi,dI y.Ye.X1.Xt,dI y.Ye.X1.Xn,.d (dsl false false (kE false) y.Ye.Xe),.d (dsl false false (kE false) y.Ye.Xp),.d (dsl false false (kC false) y.Ye.X5)])
abbrev Zjm:List AV:=[aa,aa,pv 11 0,pv 12 0,vB false,aa,aa,aa,aa,pv 13 0,pv 14 0]
abbrev Zjn:List SV:=[dI y.f_Signer,dU (Yj (Xz y st))]
abbrev Zjo:HS:=.live (.box 53 (Zjn st y))
abbrev Zjp:List HS:=[(Ziy f u),.live (mpK X9 Y6 (Wq (W0 f u L y st))),(Zj1 st done),(Zj2 told),(Zj3 done),.live (.box 49 [dB true,dI f,dI u,.own 15 (kE false).sz 0 (W0 f u L y st).length]),.dead,(Zj6 st ws done E),(Zj7 ws),(Zj3 done),(Zj8 E),Zja,(Zjb y),(Zjf st y),(Zjo st y),.live (Xc 53 (kE false) (W0 f u L y st))]
abbrev Zjq:List AV:=[aa,aa,pv 11 0,pv 12 0,vB false,aa,aa,aa,aa,pv 13 0,pv 14 0,aa,aa,aa,aa,aa,aa,aa,aa,aa,aa,aa,aa,aa,aa,aa,aa,aa,aa,aa,aa,aa,aa,aa,aa,aa,aa,aa,aa,aa,aa,aa,aa,aa,aa,aa,aa,aa,aa,aa,aa,aa,aa,aa,aa,aa,aa,aa,aa,aa,aa,aa,aa,aa,aa,aa,aa,aa,aa,aa,aa,aa,aa,aa,aa,aa,aa,vB (!y.Yt)]
abbrev Zjr:HS:=.live (.box 49 [dB true,dI f,dI u,.own 15 (kE false).sz 0 L.length])
abbrev Zjs:List HS:=[(Ziy f u),.live (mpK X9 Y6 (Ij f u rows y.f_Signer (Yj (Xz y st)))),(Zj1 st done),(Zj2 told),(Zj3 done),.live (.box 49 [dB true,dI f,dI u,.own 15 (kE false).sz 0 (Wx f u L y.f_Signer (Yj (Xz y st))).length]),.dead,(Zj6 st ws done E),(Zj7 ws),(Zj3 done),(Zj8 E),Zja,(Zjb y),(Zjf st y),(Zjo st y),.live (Xc 53 (kE false) (Wx f u L y.f_Signer (Yj (Xz y st))))]
end
theorem X6h (f:Int) (u:Int) (rows:List (Xv×Bool)) (L:List aE) (st:Int) (told:List (Int×Xd)) (ws:List X6) (done:List Xo) (E:aE) (y:Xl) (hf:0≤f∧f≤2) (hu:0≤u∧u≤8) (hrl:rows=Wq L) (hLl:L.length≤100000) (hst:0≤st∧st≤100000) (htl:told.length≤100000) (hwl:ws.length≤100000) (hdl:done.length≤100000) (hrw:U9 told ws) (hc:Wb u 1000) (hy:X45 y) (hf9:J7 y) (hEl:E.X7.length≤100000) (hd:Iu f u L st told y):Holds Tryz.prog 6 ⟨[.tv (.agg [.ptr 0 0,.ptr 5 0,.ptr 2 0,.ptr 7 0]),.tv (.agg [dI y.X2,dI y.f_Signer,dI y.V0,dU y.W5,dI y.Ye.X2,dI y.Ye.Xr,dI y.Ye.Xy,dI y.Ye.Xa,dI y.Ye.Xw,dS y.Ye.Xb,dU y.Ye.Xi,dI y.Ye.X1.Xt,dI y.Ye.X1.Xn,.d (dsl false false (kE false) y.Ye.Xe),.d (dsl false false (kE false) y.Ye.Xp),.d (dsl false false (kC false) y.Ye.X5),dI y.X1.Xt,dI y.X1.Xn,dB y.Yt])],[.box 99 [dI (3*f+1),dI u,.mref 1],mpK X9 Y6 rows,.box 80 [.ptr 0 0,dI 1000,dI st,.ptr 10 0,.mref 3,.own 4 (X3 false).sz 0 done.length],mpK (W8 .i64) (Xj false) told,Xc 55 (X3 false) done,.box 49 [dB true,dI f,dI u,.own 6 (kE false).sz 0 L.length],Xc 53 (kE false) L,.box 71 [.ptr 5 0,dI 1000,dI st,dB true,dI E.f_Signer,dU E.X7,.own 8 (X0 false).sz 0 ws.length,.own 9 (X3 false).sz 0 done.length],Xc 117 (X0 false) ws,Xc 55 (X3 false) done,.box 53 [dI E.f_Signer,dU E.X7]],vB true,[.live (.box 99 [dI (3*f+1),dI u,.mref 1]),.live (mpK X9 Y6 (Wq (Yz f u L y st))),.live (.box 80 [.ptr 0 0,dI 1000,dI st,.d (.val (.pointer none)),.mref 3,.own 13 (X3 false).sz 0 (done++[(Ua st y)]).length]),.live (mpK (W8 .i64) (Xj false) ([]:List (Int×Xd))),.dead,.live (.box 49 [dB true,dI f,dI u,.own 11 (kE false).sz 0 (Yz f u L y st).length]),.dead,.live (.box 71 [.ptr 5 0,dI 1000,dI st,dB false,dI E.f_Signer,dU E.X7,.own 12 (X0 false).sz 0 ([]:List X6).length,.own 14 (X3 false).sz 0 (done++[(Ua st y)]).length]),.dead,.dead,.dead,.live (Xc 53 (kE false) (Yz f u L y st)),.live (Xc 117 (X0 false) ([]:List X6)),.live (Xc 55 (X3 false) (done++[(Ua st y)])),.live (Xc 55 (X3 false) (done++[(Ua st y)]))]⟩:=by
 refine Holds.of Tryz.func6 rfl (N:=100) Tryz.ntmps6 rfl fun w0 B0 S0 U0=>?_
 show T _ (Y0 100 11 w0 S0 U0 B0) ⟨[.tv (.agg Ziw),.tv (.agg (Zix y))],[(Ziy f u),(Ziz rows),(Zj1 st done),(Zj2 told),(Zj3 done),(Zj4 f u L),(Zj5 L),(Zj6 st ws done E),(Zj7 ws),(Zj3 done),(Zj8 E)]⟩ _ _
 have hml:=X04 hf9 st
 obtain ⟨hy1,hy2,hy3,hy4⟩:=hy
 have hsl:=Eg f u L y st
 have ht3:=X1z y.V0
 have hsn:(V8 1000 E).length=1:=rfl
 refine sR [] (T.seq (sR [] (T.block (sR [] ?_))))
 by_cases hq1:y.X2=0
 ·exact absurd hd.1 (fun w=>by rcases w with w|w<;>omega)
 have hk0:=hq1
 refine cF (dF hq1) (sR [] ?_)
 by_cases hq2:y.X2=1
 ·exact absurd hd.1 (fun w=>by rcases w with w|w<;>omega)
 refine cF (dF hq2) ?_
 refine Va ⟨(Zj9 y),(Zjc f u rows L st told ws done E y)⟩ ?_ ?_
 ·refine sR [] ?_
  by_cases hq3:y.X2=2
  ·refine cT (dT hq3) (T.skip ?_)
   refine eN ⟨[.tv (.agg Ziw),.tv (.agg (Zix y)),pv 11 0,pv 12 0,vB false,aa,aa,aa,aa,aa,aa,aa,vI y.X2,vB (decide (y.X2=0)),aa,aa,aa,aa,aa,aa,aa,aa,aa,aa,aa,aa,aa,aa,aa,aa,aa,aa,aa,aa,aa,aa,aa,aa,aa,aa,aa,vB (decide (y.X2=1)),aa,aa,aa,aa,aa,aa,aa,aa,vB (decide (y.X2=2))],(Zjc f u rows L st told ws done E y)⟩ ?_
   refine Xh (s':=⟨(Zj9 y),(Zjc f u rows L st told ws done E y)⟩) (fun _ _ hG=>Y9 [0,1,2,3,4,5,6,7,8,9,10,11,12] (bm 51 1125899906842652) (t2:=[aa,aa,pv 11 0,pv 12 0,vB false,aa,aa,aa,aa,aa,aa,aa,aa,aa,aa,aa,aa,aa,aa,aa,aa,aa,aa,aa,aa,aa,aa,aa,aa,aa,aa,aa,aa,aa,aa,aa,aa,aa,aa,aa,aa,aa,aa,aa,aa,aa,aa,aa,aa,aa,vB (decide (y.X2=2))]) pn rfl hG) ?_
   exact nJ
  refine cF (dF hq3) (xK [] ?_)
  refine eN ⟨[.tv (.agg Ziw),.tv (.agg (Zix y)),pv 11 0,pv 12 0,vB false,aa,aa,aa,aa,aa,aa,aa,vI y.X2,vB (decide (y.X2=0)),aa,aa,aa,aa,aa,aa,aa,aa,aa,aa,aa,aa,aa,aa,aa,aa,aa,aa,aa,aa,aa,aa,aa,aa,aa,aa,aa,vB (decide (y.X2=1)),aa,aa,aa,aa,aa,aa,aa,aa,vB (decide (y.X2=3))],(Zjc f u rows L st told ws done E y)⟩ ?_
  refine Xh (s':=⟨(Zj9 y),(Zjc f u rows L st told ws done E y)⟩) (fun _ _ hG=>Y9 [0,1,2,3,4,5,6,7,8,9,10,11,12] (bm 51 1125899906842652) (t2:=[aa,aa,pv 11 0,pv 12 0,vB false,aa,aa,aa,aa,aa,aa,aa,aa,aa,aa,aa,aa,aa,aa,aa,aa,aa,aa,aa,aa,aa,aa,aa,aa,aa,aa,aa,aa,aa,aa,aa,aa,aa,aa,aa,aa,aa,aa,aa,aa,aa,aa,aa,aa,aa,vB (decide (y.X2=3))]) pn rfl hG) ?_
  exact nJ
 by_cases hq4:Vy y
 rotate_left
 ·exact absurd hd.1 hq4
 have hrc:=hq4
 refine cT (dT hq4) (sR [] ?_)
 refine Va ⟨Zjd,(Zjg f u rows L st told ws done E y)⟩ ?_ ?_
 ·refine sR [] ?_
  by_cases hq5:y.X2=3
  ·refine cT (dT hq5) ?_
   refine xD [[],[0],[0,1],[0,1,2],[0,1,2,3],[],[5],[5,6],[0,1,2,3,4,5,6,7],[],[9],[0,1,2,3,4,5,6,7,8,9,10],[0,1,2,3,4,5,6,7,8,9,10,11]] [hR 7 rfl rfl (Y4 (u1:=.int .i64 y.V0) (u2:=.int .i64 3) (v:=.int .i64 (Int.tmod y.V0 3)) (b_rem (by omega) rfl) (X4 rfl) ⟨rfl,trivial⟩),hR 8 rfl rfl (Y4 (u1:=.int .i64 st) (u2:=.int .i64 (Int.tmod y.V0 3)) (v:=.int .i64 (st+(Int.tmod y.V0 3))) (Yn pZ5) (X4 rfl) trivial)] pZ2 pZ2 pZ2 pZ2 pZ2 pZ2 ?_
   refine eN ⟨(Zjh y),[(Ziy f u),(Ziz rows),(Zj1 st done),(Zj2 told),(Zj3 done),(Zj4 f u L),(Zj5 L),(Zj6 st ws done E),(Zj7 ws),(Zj3 done),(Zj8 E),Zja,(Zjb y),(Zjj st y)]⟩ ?_
   refine Xh (s':=⟨(Zjh y),[(Ziy f u),(Ziz rows),(Zj1 st done),(Zj2 told),(Zj3 done),(Zj4 f u L),(Zj5 L),(Zj6 st ws done E),(Zj7 ws),(Zj3 done),(Zj8 E),Zja,(Zjb y),(Zjk st y)]⟩) (fun _ _ hG=>We (s:=⟨(Zjh y),[(Ziy f u),(Ziz rows),(Zj1 st done),(Zj2 told),(Zj3 done),(Zj4 f u L),(Zj5 L),(Zj6 st ws done E),(Zj7 ws),(Zj3 done),(Zj8 E),Zja,(Zjb y),(Zjj st y)]⟩) (kk2 (kk8 p3j)) ⟨.inl rfl,(kk4 (kk8 ⟨pa,trivial⟩))⟩ hG) ?_
   refine Xh (s':=⟨Zjd,(Zjg f u rows L st told ws done E y)⟩) (fun _ _ hG=>Y9 [0,1,2,3,4,5,6,7,8,9,10,11,12,13] (bm 10 540) (h2:=[(Ziy f u),(Ziz rows),(Zj1 st done),(Zj2 told),(Zj3 done),(Zj4 f u L),(Zj5 L),(Zj6 st ws done E),(Zj7 ws),(Zj3 done),(Zj8 E),Zja,(Zjb y),(Zjk st y)]) rfl (by have e1:((Xz y st).X2:Int)=8:=pm;have e2:((Xz y st).Xr:Int)=0:=pm;have e3:((Xz y st).Xy:Int)=0:=pm;have e4:((Xz y st).Xa:Int)=1000:=pm;have e5:((Xz y st).Xw:Int)=st+(Int.tmod y.V0 3):=pm;have e6:((Xz y st).Xb:List UInt8)=[]:=pm;have e7:((Xz y st).Xi:List UInt8)=([]:List UInt8):=pm;have e8:((Xz y st).X1.Xt:Int)=y.X1.Xt:=pm;have e9:((Xz y st).X1.Xn:Int)=y.X1.Xn:=pm;have e10:((Xz y st).Xe:List aE)=([]:List aE):=pm;have e11:((Xz y st).Xp:List aE)=([]:List aE):=pm;have e12:((Xz y st).X5:List aC)=([]:List aC):=pm;have hE:=congr pw e12;exact hE) hG) ?_
   exact nJ
  refine cF (dF hq5) (T.skip ?_)
  refine eN ⟨(Zjh y),[(Ziy f u),(Ziz rows),(Zj1 st done),(Zj2 told),(Zj3 done),(Zj4 f u L),(Zj5 L),(Zj6 st ws done E),(Zj7 ws),(Zj3 done),(Zj8 E),Zja,(Zjb y),(Zjl y)]⟩ ?_
  refine Xh (s':=⟨Zjd,(Zjg f u rows L st told ws done E y)⟩) (fun _ _ hG=>Y9 [0,1,2,3,4,5,6,7,8,9,10,11,12,13] (bm 10 540) (h2:=[(Ziy f u),(Ziz rows),(Zj1 st done),(Zj2 told),(Zj3 done),(Zj4 f u L),(Zj5 L),(Zj6 st ws done E),(Zj7 ws),(Zj3 done),(Zj8 E),Zja,(Zjb y),(Zjl y)]) rfl (by have e1:((Xz y st).X2:Int)=y.Ye.X2:=pj;have e2:((Xz y st).Xr:Int)=y.Ye.Xr:=pj;have e3:((Xz y st).Xy:Int)=y.Ye.Xy:=pj;have e4:((Xz y st).Xa:Int)=y.Ye.Xa:=pj;have e5:((Xz y st).Xw:Int)=y.Ye.Xw:=pj;have e6:((Xz y st).Xb:List UInt8)=y.Ye.Xb:=pj;have e7:((Xz y st).Xi:List UInt8)=y.Ye.Xi:=pj;have e8:((Xz y st).X1.Xt:Int)=y.Ye.X1.Xt:=pj;have e9:((Xz y st).X1.Xn:Int)=y.Ye.X1.Xn:=pj;have e10:((Xz y st).Xe:List aE)=y.Ye.Xe:=pj;have e11:((Xz y st).Xp:List aE)=y.Ye.Xp:=pj;have e12:((Xz y st).X5:List aC)=y.Ye.X5:=pj;have hE:=congr pw e12;exact hE) hG) ?_
  exact nJ
 refine sD [[],[0],[],[2],[0,1,2,3],[],[0,1,2,3,4,5]] [hR 3 rfl rfl (rCa (H6 false (Xz y st) (V1 hf9 st).1 (V1 hf9 st).2.1 (V1 hf9 st).2.2.1 (V1 hf9 st).2.2.2.1 (V1 hf9 st).2.2.2.2.1 (V1 hf9 st).2.2.2.2.2) Tryz.func21 [] [(.tmp 72,.tv (.agg (Zje st y)))] 0 0)] ?_
 refine Va ⟨Zjm,(Zjp f u L st told ws done E y)⟩ ?_ ?_
 ·refine sR [] ?_
  by_cases hq6:y.Yt=true
  ·refine cF (cn hq6) (T.skip ?_)
   refine eN ⟨(Zjq y),[(Ziy f u),(Ziz rows),(Zj1 st done),(Zj2 told),(Zj3 done),(Zj4 f u L),(Zj5 L),(Zj6 st ws done E),(Zj7 ws),(Zj3 done),(Zj8 E),Zja,(Zjb y),(Zjf st y),(Zjo st y)]⟩ ?_
   refine Xh (s':=⟨(Zjq y),[(Ziy f u),(Ziz rows),(Zj1 st done),(Zj2 told),(Zj3 done),(Zjr f u L),.dead,(Zj6 st ws done E),(Zj7 ws),(Zj3 done),(Zj8 E),Zja,(Zjb y),(Zjf st y),(Zjo st y),(Zj5 L)]⟩) (fun _ _ hG=>Gs.move (s:=⟨(Zjq y),[(Ziy f u),(Ziz rows),(Zj1 st done),(Zj2 told),(Zj3 done),(Zj4 f u L),(Zj5 L),(Zj6 st ws done E),(Zj7 ws),(Zj3 done),(Zj8 E),Zja,(Zjb y),(Zjf st y),(Zjo st y)]⟩) 6 15 (o:=Xc 53 (kE false) L) rfl rfl rfl (kk2 (kk4 (kk8 p2z))) ⟨(.inr pZ1),⟨(.inr pZ1),⟨(.inr pZ1),⟨(.inr pZ1),⟨(.inr pZ1),⟨(.inr pZl),⟨(.inl ⟨rfl,rfl⟩),⟨(.inr pZ1),⟨(.inr pZ1),⟨(.inr pZ1),⟨(.inr pZ1),⟨(.inr pZ1),⟨(.inr pZ1),⟨(.inr pZ1),⟨(.inr pZ1),⟨(.inr (.inl ⟨rfl,rfl⟩)),trivial⟩⟩⟩⟩⟩⟩⟩⟩⟩⟩⟩⟩⟩⟩⟩⟩ hG) ?_
   refine Xh (s':=⟨Zjm,(Zjp f u L st told ws done E y)⟩) (fun _ _ hG=>Y9 [0,1,2,3,4,5,6,7,8,9,10,11,12,13,14,15] (bm 11 1564) (h2:=[(Ziy f u),(Ziz rows),(Zj1 st done),(Zj2 told),(Zj3 done),(Zjr f u L),.dead,(Zj6 st ws done E),(Zj7 ws),(Zj3 done),(Zj8 E),Zja,(Zjb y),(Zjf st y),(Zjo st y),(Zj5 L)]) rfl (by have e1:((Wq (W0 f u L y st)):List (Xv×Bool))=rows:=p4r;have e2:((W0 f u L y st).length:Nat)=L.length:=p3g;have e3:((W0 f u L y st):List aE)=L:=p3g;have hE:=congr p1r e3;exact hE) hG) ?_
   exact nJ
  replace hq6:=Bool.eq_false_iff.2 hq6
  refine cT (cn hq6) (sR [hR 6 rfl rfl (rCa (Fz f u rows y.f_Signer false false (Yj (Xz y st)) ‹_› ‹_› ‹_› (by omega)) Tryz.func22 [0,1] [(.tmp 79,pv 0 0),(.tmp 81,vI y.f_Signer),(.tmp 83,slV false false kU8 (Yj (Xz y st)))] 2 2)] (xK [hR 6 rfl rfl (rCa (Fm f u L y.f_Signer false false (Yj (Xz y st)) ‹_› ‹_› ‹_› (by omega) (by omega)) Tryz.func23 [5,6,15] [(.tmp 86,pv 5 0),(.tmp 88,vI y.f_Signer),(.tmp 90,slV false false kU8 (Yj (Xz y st)))] 2 3)] ?_))
  refine eN ⟨(Zjq y),(Zjs f u rows L st told ws done E y)⟩ ?_
  refine Xh (s':=⟨Zjm,(Zjp f u L st told ws done E y)⟩) (fun _ _ hG=>Y9 [0,1,2,3,4,5,6,7,8,9,10,11,12,13,14,15] (bm 11 1564) (h2:=(Zjs f u rows L st told ws done E y)) rfl (by have e1:((Wq (W0 f u L y st)):List (Xv×Bool))=(Ij f u rows y.f_Signer (Yj (Xz y st))):=p3o;have e2:((W0 f u L y st).length:Nat)=(Wx f u L y.f_Signer (Yj (Xz y st))).length:=p2o;have e3:((W0 f u L y st):List aE)=(Wx f u L y.f_Signer (Yj (Xz y st))):=p2o;have hE:=congr p1r e3;exact hE) hG) ?_
  exact nJ
 by_cases hq7:F8 (V5 f u (Wq (W0 f u L y st))) f 1000 st told (aE.mk y.f_Signer (Yj (Xz y st)))
 ·refine sR [hR 3 rfl rfl (rCa (X4n f u (Wq (W0 f u L y st)) 1000 st told done E false (aE.mk y.f_Signer (Yj (Xz y st))) ‹_› ‹_› ‹_› (by (simp [maxLen,-List.getD_eq_getElem?_getD]<;>omega)) (by omega) (by omega) ‹_›) Tryz.func24 [0,1,2,3,4,10,16] [(.tmp 93,pv 2 0),(.tmp 94,.tv (.agg (Zjn st y)))] 6 7)] ?_
  by_cases hq8:Fx (Wf f u (W0 f u L y st)) f 1000 st ws (aE.mk y.f_Signer (Yj (Xz y st)))
  ·refine xK [hR 3 rfl rfl (rCa (X5w f u (W0 f u L y st) 1000 st E ws done (aE.mk y.f_Signer (Yj (Xz y st))) ‹_› ‹_› ‹_› (by (simp [maxLen,-List.getD_eq_getElem?_getD]<;>omega)) (by omega) (by omega) (by omega) ‹_›) Tryz.func25 [5,15,7,8,9,17,18] [(.tmp 97,pv 7 0),(.tmp 98,.tv (.agg (Zjn st y)))] 5 7)] ?_
   refine nB (nT (sR [] (T.ret ?_)))
   exact eRt 4 (.one (dB true)) [0,1,2,3,4,5,6,7,8,9,10,15,17,16,18] rfl (ix ⟨⟨rfl,p1f⟩,⟨⟨rfl,(by have e1:((done++[(Xo.mk 1000 st (Uw (aE.mk y.f_Signer (Yj (Xz y st)))))]).length:Nat)=(done++[(Ua st y)]).length:=(by rfl);have hE:=congrArg (fun (q1:Nat)=>(.live (.box 80 [.ptr 0 0,Zj0,dI st,.d (.val (.pointer none)),.mref 3,.own 16 (X3 false).sz 0 q1]):HS)) e1;exact Eq.trans pZ2 hE)⟩,(ix ⟨⟨rfl,p2f⟩,⟨⟨rfl,(by have e1:((done++[(Xo.mk 1000 st (Uw (aE.mk y.f_Signer (Yj (Xz y st)))))]).length:Nat)=(done++[(Ua st y)]).length:=(by rfl);have hE:=congrArg (fun (q1:Nat)=>(.live (.box 71 [.ptr 5 0,Zj0,dI st,dB false,dI E.f_Signer,dU E.X7,.own 17 (X0 false).sz 0 ([]:List X6).length,.own 18 (X3 false).sz 0 q1]):HS)) e1;exact Eq.trans pZ2 hE)⟩,⟨⟨rfl,p1p⟩,(ix ⟨⟨rfl,p2a⟩,⟨⟨rfl,p2a⟩,trivial⟩⟩)⟩⟩⟩)⟩⟩)
  exact absurd ((Xe4 hrc hrw).2 hd) hq8
 exact absurd ((Xe5 hrc).2 hd) hq7
end Go.Proofs.YthnefnknoahbkaaGreat.Q
namespace Go.Proofs.YthnefnknoahbkaaGreat.Q
set_option linter.unusedVariables false
set_option linter.unusedSimpArgs false
set_option maxRecDepth 100000
section
variable {f u st:Int} {L:List aE} {y:Xl}
theorem Xes:(Jl f u L y st).length≤L.length+1:=X7w _ _ _ _ _
theorem X7s (h:Wb u 1000) (hs:X5a y):(Jm f u y st).f_Signer=1000∧(Jm f u y st).X7.length≤5000:=by
  rw [Xet h hs];exact ⟨rfl,Fb 1000 (st+1) y.W5 hs.2⟩
end
def Y7 (s:Int):Xl:=⟨3,s,0,[],zM,⟨0,2⟩,false⟩
abbrev X0g:Int:=fOf 1
abbrev X0f:Int:=cOf (max 1 1)
def awB18:List UInt8:=[111,112]
def Hw:List aE:=Wx X0g X0f [] 1000 (Yj (Ys 1000 1 awB18))
def X74:aE:=W1 X0g X0f 1000 (Yj (Ys 1000 1 awB18))
def Hv:List aE:=Yz X0g X0f Hw (Y7 0) 1
def X4b:Wz:=Vi X0g X0f Hw 1 [] (Y7 0)
def X72:List X6:=Ve X0g X0f Hw 1 [] (Y7 0)
def X1d:List aE:=Yz X0g X0f Hv (Y7 0) 1
def X73:Wz:=Vi X0g X0f Hv 1 X4b (Y7 0)
def Xbi:List X6:=Ve X0g X0f Hv 1 X72 (Y7 0)
theorem aw_rel18:U9 X4b X72∧U9 X73 Xbi:=⟨X8x X27,X8x (X8x X27)⟩
theorem aw_len18:Hw.length≤100∧Hv.length≤100∧X1d.length≤100∧X4b.length≤100∧X72.length≤100∧X73.length≤100∧Xbi.length≤100∧X74.X7.length≤5000:=by decide +kernel
theorem aw_dec18:¬Iu X0g X0f Hw 1 [] (Y7 0)∧¬Iu X0g X0f Hv 1 X4b (Y7 0)∧Iu X0g X0f X1d 1 X73 (Y7 1):=by decide +kernel
theorem Xei (s:Int) (h:Fu s):X45 (Y7 s)∧J7 (Y7 s) :=
  ⟨⟨h,(show Fu 0 by unfold Fu;omega),⟨Nat.zero_le _,Nat.zero_le _,Nat.zero_le _,Nat.zero_le _,Nat.zero_le _,Nat.zero_le _⟩,(show Fu 0 by unfold Fu;omega),(show Fu 0 by unfold Fu;omega),(show Fu 0 by unfold Fu;omega),(show Fu 2 by unfold Fu;omega)⟩,Nat.zero_le _,Nat.zero_le _,rfl,rfl,rfl⟩
end Go.Proofs.YthnefnknoahbkaaGreat.Q
namespace Go.Proofs.YthnefnknoahbkaaGreat.Q
open Go Go.RowKit
set_option linter.unusedVariables false
set_option linter.unusedSimpArgs false
set_option maxRecDepth 100000
set_option maxHeartbeats 4000000
abbrev Zjt:AV:=slV false true kU8 [(111:UInt8),(112:UInt8)]
abbrev Zju:=(Yj (Ys 1000 (0+1) [(111:UInt8),(112:UInt8)]))
abbrev Zjv:=(W1 (fOf 1) (cOf (max 1 1)) 1000 Zju)
abbrev Zjw:AV:=slV false false (Y1 false) (V8 1000 Zjv)
abbrev Zjx:List AV:=[vB false,pv 10 0,Zjw,vI 0]
abbrev Zjy:SV:=dI (cOf (max 1 1))
abbrev Zjz:HS:=.live (.box 99 [dI (3*(fOf 1)+1),Zjy,.mref 1])
abbrev Zk0:SV:=dI 1000
abbrev Zk1:SV:=.own 4 (X3 false).sz 0 ([]:List Xo).length
abbrev Zk2:HS:=.live (mpK (W8 .i64) (Xj false) ([]:List (Int×Xd)))
abbrev Zk3:HS:=.live (Xc 55 (X3 false) ([]:List Xo))
abbrev Zk4:SV:=dI (fOf 1)
abbrev Zk5:=(Wx (fOf 1) (cOf (max 1 1)) ([]:List aE) 1000 Zju)
abbrev Zk6:SV:=.own 15 (X0 false).sz 0 ([]:List X6).length
abbrev Zk7:SV:=.own 9 (X3 false).sz 0 ([]:List Xo).length
abbrev Zk8:List SV:=[.ptr 0 0,.ptr 5 0,.ptr 2 0,.ptr 7 0]
abbrev Zk9:HS:=.live (.box 31 Zk8)
abbrev Zka:HS:=.live (Xc 117 (X0 false) ([]:List X6))
abbrev Zkb:List HS:=[Zjz,.live (mpK X9 Y6 (Ij (fOf 1) (cOf (max 1 1)) ([]:List (Xv×Bool)) 1000 Zju)),.live (.box 80 [.ptr 0 0,Zk0,dI (0+1),.ptr 12 0,.mref 3,Zk1]),Zk2,Zk3,.live (.box 49 [dB true,Zk4,Zjy,.own 14 (kE false).sz 0 Zk5.length]),.dead,.live (.box 71 [.ptr 5 0,Zk0,dI (0+1),dB true,dI Zjv.f_Signer,dU Zjv.X7,Zk6,Zk7]),.dead,Zk3,Zk9,.dead,.live (.box 53 [dI Zjv.f_Signer,dU Zjv.X7]),.dead,.live (Xc 53 (kE false) Zk5),Zka]
abbrev Zkc:HS:=.live (mpK X9 Y6 (Wq Hw))
abbrev Zkd:HS:=.live (.box 80 [.ptr 0 0,Zk0,dI 1,.ptr 12 0,.mref 3,Zk1])
abbrev Zke:HS:=.live (.box 49 [dB true,Zk4,Zjy,.own 14 (kE false).sz 0 Hw.length])
abbrev Zkf:SV:=dI X74.f_Signer
abbrev Zkg:SV:=dU X74.X7
abbrev Zkh:HS:=.live (.box 71 [.ptr 5 0,Zk0,dI 1,dB true,Zkf,Zkg,Zk6,Zk7])
abbrev Zki:HS:=.live (.box 53 [Zkf,Zkg])
abbrev Zkj:HS:=.live (Xc 53 (kE false) Hw)
abbrev Zkk:List HS:=[Zjz,Zkc,Zkd,Zk2,Zk3,Zke,.dead,Zkh,.dead,Zk3,Zk9,.dead,Zki,.dead,Zkj,Zka]
abbrev Zkl:List AV:=[vB false,pv 10 0,Zjw,vI 0,pv 16 0]
abbrev Zkm:SV:=.d (.val (.slice none 0 0))
abbrev Zkn:St:=⟨Zkl,[Zjz,Zkc,Zkd,Zk2,Zk3,Zke,.dead,Zkh,.dead,Zk3,Zk9,.dead,Zki,.dead,Zkj,Zka,.live (.box 44 [dI 3,dI 0,dI 0,Zkm,dI 0,dI 0,dI 0,dI 0,dI 0,dS [],Zkm,dI 0,dI 0,Zkm,Zkm,Zkm,dI 0,dI 2,dB false])]⟩
abbrev Zko:List HS:=[Zjz,Zkc,Zkd,Zk2,Zk3,Zke,.dead,Zkh,.dead,Zk3,Zk9,.dead,Zki,.dead,Zkj,Zka,.live (.box 44 [dI 3,dI 0,dI 0,dU ([]:List UInt8),dI 0,dI 0,dI 0,dI 0,dI 0,dS [],dU ([]:List UInt8),dI 0,dI 0,.d (dsl false false (kE false) ([]:List aE)),.d (dsl false false (kE false) ([]:List aE)),.d (dsl false false (kC false) ([]:List aC)),dI 0,dI 2,dB false])]
abbrev Zkp:List SV:=[dI (Y7 0).X2,dI (Y7 0).f_Signer,dI (Y7 0).V0,dU (Y7 0).W5,dI (Y7 0).Ye.X2,dI (Y7 0).Ye.Xr,dI (Y7 0).Ye.Xy,dI (Y7 0).Ye.Xa,dI (Y7 0).Ye.Xw,dS (Y7 0).Ye.Xb,dU (Y7 0).Ye.Xi,dI (Y7 0).Ye.X1.Xt,dI (Y7 0).Ye.X1.Xn,.d (dsl false false (kE false) (Y7 0).Ye.Xe),.d (dsl false false (kE false) (Y7 0).Ye.Xp),.d (dsl false false (kC false) (Y7 0).Ye.X5),dI (Y7 0).X1.Xt,dI (Y7 0).X1.Xn,dB (Y7 0).Yt]
abbrev Zkq:HS:=.live (.box 44 Zkp)
abbrev Zkr:List HS:=[Zjz,Zkc,Zkd,Zk2,Zk3,Zke,.dead,Zkh,.dead,Zk3,Zk9,.dead,Zki,.dead,Zkj,Zka,Zkq]
abbrev Zks:=(Yz (fOf 1) (cOf (max 1 1)) Hw (Y7 0) 1)
abbrev Zkt:=(Ve (fOf 1) (cOf (max 1 1)) Hw 1 ([]:List X6) (Y7 0))
abbrev Zku:List HS:=[Zjz,.live (mpK X9 Y6 (Wq Zks)),Zkd,.live (mpK (W8 .i64) (Xj false) (Vi (fOf 1) (cOf (max 1 1)) Hw 1 ([]:List (Int×Xd)) (Y7 0))),Zk3,.live (.box 49 [dB true,Zk4,Zjy,.own 17 (kE false).sz 0 Zks.length]),.dead,.live (.box 71 [.ptr 5 0,Zk0,dI 1,dB true,Zkf,Zkg,.own 18 (X0 false).sz 0 Zkt.length,Zk7]),.dead,Zk3,Zk9,.dead,Zki,.dead,.dead,.dead,Zkq,.live (Xc 53 (kE false) Zks),.live (Xc 117 (X0 false) Zkt)]
abbrev Zkv:List HS:=[Zjz,.live (mpK X9 Y6 (Wq Hv)),Zkd,.live (mpK (W8 .i64) (Xj false) X4b),Zk3,.live (.box 49 [dB true,Zk4,Zjy,.own 17 (kE false).sz 0 Hv.length]),.dead,.live (.box 71 [.ptr 5 0,Zk0,dI 1,dB true,Zkf,Zkg,.own 18 (X0 false).sz 0 X72.length,Zk7]),.dead,Zk3,Zk9,.dead,Zki,.dead,.dead,.dead,Zkq,.live (Xc 53 (kE false) Hv),.live (Xc 117 (X0 false) X72)]
abbrev Zkw:=(Yz (fOf 1) (cOf (max 1 1)) Hv (Y7 0) 1)
abbrev Zkx:=(Ve (fOf 1) (cOf (max 1 1)) Hv 1 X72 (Y7 0))
abbrev Zky:List HS:=[Zjz,.live (mpK X9 Y6 (Wq Zkw)),Zkd,.live (mpK (W8 .i64) (Xj false) (Vi (fOf 1) (cOf (max 1 1)) Hv 1 X4b (Y7 0))),Zk3,.live (.box 49 [dB true,Zk4,Zjy,.own 19 (kE false).sz 0 Zkw.length]),.dead,.live (.box 71 [.ptr 5 0,Zk0,dI 1,dB true,Zkf,Zkg,.own 20 (X0 false).sz 0 Zkx.length,Zk7]),.dead,Zk3,Zk9,.dead,Zki,.dead,.dead,.dead,Zkq,.dead,.dead,.live (Xc 53 (kE false) Zkw),.live (Xc 117 (X0 false) Zkx)]
abbrev Zkz:HS:=.live (mpK X9 Y6 (Wq X1d))
abbrev Zl0:HS:=.live (mpK (W8 .i64) (Xj false) X73)
abbrev Zl1:HS:=.live (.box 49 [dB true,Zk4,Zjy,.own 19 (kE false).sz 0 X1d.length])
abbrev Zl2:HS:=.live (.box 71 [.ptr 5 0,Zk0,dI 1,dB true,Zkf,Zkg,.own 20 (X0 false).sz 0 Xbi.length,Zk7])
abbrev Zl3:HS:=.live (Xc 53 (kE false) X1d)
abbrev Zl4:HS:=.live (Xc 117 (X0 false) Xbi)
abbrev Zl5:List HS:=[Zjz,Zkz,Zkd,Zl0,Zk3,Zl1,.dead,Zl2,.dead,Zk3,Zk9,.dead,Zki,.dead,.dead,.dead,Zkq,.dead,.dead,Zl3,Zl4]
abbrev Zl6:List AV:=[vB false,pv 10 0,Zjw,vI 0,pv 16 0,vB (decide (((([]:List Xo).length:Nat):Int)=0))]
abbrev Zl7:List HS:=[Zjz,Zkz,Zkd,Zl0,Zk3,Zl1,.dead,Zl2,.dead,Zk3,Zk9,.dead,Zki,.dead,.dead,.dead,.live (.box 44 [dI (Y7 0).X2,dI 1,dI (Y7 0).V0,dU (Y7 0).W5,dI (Y7 0).Ye.X2,dI (Y7 0).Ye.Xr,dI (Y7 0).Ye.Xy,dI (Y7 0).Ye.Xa,dI (Y7 0).Ye.Xw,dS (Y7 0).Ye.Xb,dU (Y7 0).Ye.Xi,dI (Y7 0).Ye.X1.Xt,dI (Y7 0).Ye.X1.Xn,.d (dsl false false (kE false) (Y7 0).Ye.Xe),.d (dsl false false (kE false) (Y7 0).Ye.Xp),.d (dsl false false (kC false) (Y7 0).Ye.X5),dI (Y7 0).X1.Xt,dI (Y7 0).X1.Xn,dB (Y7 0).Yt]),.dead,.dead,Zl3,Zl4]
abbrev Zl8:List SV:=[dI (Y7 1).X2,dI (Y7 1).f_Signer,dI (Y7 1).V0,dU (Y7 1).W5,dI (Y7 1).Ye.X2,dI (Y7 1).Ye.Xr,dI (Y7 1).Ye.Xy,dI (Y7 1).Ye.Xa,dI (Y7 1).Ye.Xw,dS (Y7 1).Ye.Xb,dU (Y7 1).Ye.Xi,dI (Y7 1).Ye.X1.Xt,dI (Y7 1).Ye.X1.Xn,.d (dsl false false (kE false) (Y7 1).Ye.Xe),.d (dsl false false (kE false) (Y7 1).Ye.Xp),.d (dsl false false (kC false) (Y7 1).Ye.X5),dI (Y7 1).X1.Xt,dI (Y7 1).X1.Xn,dB (Y7 1).Yt]
abbrev Zl9:List HS:=[Zjz,Zkz,Zkd,Zl0,Zk3,Zl1,.dead,Zl2,.dead,Zk3,Zk9,.dead,Zki,.dead,.dead,.dead,.live (.box 44 Zl8),.dead,.dead,Zl3,Zl4]
theorem X48:Holds Tryz.prog 11 ⟨[],[],vB true,[]⟩:=by
 refine Holds.of Tryz.func11 rfl (N:=72) Tryz.ntmps11 rfl fun w0 B0 S0 U0=>?_
 show T _ (Y0 72 0 w0 S0 U0 B0) ⟨[],[]⟩ _ _
 have hcl:Wb (cOf (max 1 1)) 1000:=X0u 1
 have hff:0≤fOf 1∧fOf 1≤2:=Xcm 1
 have hff1:=hff.1
 have hff2:=hff.2
 have huu:0≤cOf (max 1 1)∧cOf (max 1 1)≤8:=Xcy (max 1 1)
 obtain ⟨hl1,hl2,hl3,hl4,hl5,hl6,hl7,hl8⟩:=aw_len18
 obtain ⟨hd1,hd2,hd3⟩:=aw_dec18
 obtain ⟨hr1,hr2⟩:=aw_rel18
 have hr0:U9 ([]:List (Int×Xd)) ([]:List X6):=X27
 obtain ⟨hy0,hf0⟩:=Xei 0 (by unfold Fu;omega)
 obtain ⟨hy1,hf1⟩:=Xei 1 (by unfold Fu;omega)
 refine sR [] (sR [hR 1 rfl rfl (rCa (X47 (Wt.mk 1 1) ) Tryz.func5 [0,1,2,3,4,5,6,7,8,9] [(.tmp 7,.tv (.agg [dI 1,dI 1]))] 0 10)] ?_)
 by_cases hq1:(([(111:UInt8),(112:UInt8)].length:Nat):Int)>4096
 ·exact absurd hq1 (by decide)
 refine sR [hR 2 rfl rfl (Yb 11 5 kU8 V9 [(111:UInt8),(112:UInt8)] [⟨0,.const (.int .u8 111),.one (.d (.val (.int .u8 111))),0⟩,⟨1,.const (.int .u8 112),.one (.d (.val (.int .u8 112))),1⟩] (cs:=[.d (.val (.int .u8 111)),.d (.val (.int .u8 112))]) Tryz.underlying34 Ur rfl I1 rfl rfl rfl pf (Wi rfl rfl pf (Wi rfl rfl pf Wa)) pZ2 (Vk pZ2) (X4 rfl) ⟨rfl,⟨rfl,trivial⟩⟩),hR 3 rfl rfl (X87 11 5 kU8 [(111:UInt8),(112:UInt8)] Tryz.underlying34 Tryz.underlying5 (by decide) (X4 rfl) trivial),hR 4 rfl rfl (rCa (X1a (fOf 1) (cOf (max 1 1)) ([]:List (Xv×Bool)) 1000 0 ([]:List (Int×Xd)) ([]:List Xo) false true [(111:UInt8),(112:UInt8)] ‹_› ‹_› (by omega) (by omega) ‹_›) Tryz.func16 [0,1,2,3,4,12] [(.tmp 11,pv 2 0),(.tmp 13,Zjt)] 5 6)] ?_
 refine sR [hR 2 rfl rfl (Yb 13 5 kU8 V9 [(111:UInt8),(112:UInt8)] [⟨0,.const (.int .u8 111),.one (.d (.val (.int .u8 111))),0⟩,⟨1,.const (.int .u8 112),.one (.d (.val (.int .u8 112))),1⟩] (cs:=[.d (.val (.int .u8 111)),.d (.val (.int .u8 112))]) Tryz.underlying34 Ur rfl I1 rfl rfl rfl pf (Wi rfl rfl pf (Wi rfl rfl pf Wa)) pZ2 (Vk pZ2) (X4 rfl) ⟨rfl,⟨rfl,trivial⟩⟩),hR 3 rfl rfl (X87 13 5 kU8 [(111:UInt8),(112:UInt8)] Tryz.underlying34 Tryz.underlying5 (by decide) (X4 rfl) trivial),hR 4 rfl rfl (rCa (X28 (fOf 1) (cOf (max 1 1)) ([]:List aE) 1000 0 zE ([]:List X6) ([]:List Xo) false true [(111:UInt8),(112:UInt8)] ‹_› ‹_› (by omega) (by omega) (by (simp [maxLen,-List.getD_eq_getElem?_getD]<;>omega)) ‹_›) Tryz.func17 [5,6,7,8,9,14,15] [(.tmp 18,pv 7 0),(.tmp 20,Zjt)] 5 7)] ?_
 refine tN ⟨Zjx,Zkb⟩ ?_
 refine Wv (s':=⟨Zjx,Zkk⟩) (fun _ _ hG=>Ww [0,1,2,3,4,5,23,7,32,9,10,44,12,58,14,15] (bm 4 15) (h1:=Zkk) (h2:=Zkb) (t1:=Zjx) rfl (cg9 (fun (q1:List (Xv×Bool)) (q2:Int) (q3:Nat) (q4:Int) (q5:Int) (q6:List UInt8) (q7:Int) (q8:List UInt8) (q9:List aE)=>([Zjz,.live (mpK X9 Y6 q1),.live (.box 80 [.ptr 0 0,Zk0,dI q2,.ptr 12 0,.mref 3,Zk1]),Zk2,Zk3,.live (.box 49 [dB true,Zk4,Zjy,.own 14 (kE false).sz 0 q3]),.dead,.live (.box 71 [.ptr 5 0,Zk0,dI q4,dB true,dI q5,dU q6,Zk6,Zk7]),.dead,Zk3,Zk9,.dead,.live (.box 53 [dI q7,dU q8]),.dead,.live (Xc 53 (kE false) q9),Zka]:List HS)) (by rfl) (by rfl) (by rfl) (by rfl) (by rfl) (by rfl) (by rfl) (by rfl) (by rfl)) hG) (sR [] ?_)
 by_cases hq2:Iu (fOf 1) (cOf (max 1 1)) Hw 1 ([]:List (Int×Xd)) (Y7 0)
 ·exact absurd hq2 hd1
 refine tN Zkn ?_
 refine Wv (s':=⟨Zkl,Zko⟩) (fun _ _ hG=>We (s:=Zkn) ⟨.inl rfl,(kk4 trivial)⟩ (X6j ⟨(.inr ⟨rfl,⟨.inl rfl,(kk2 ⟨p1a,(kk2 (kk4 ⟨p1a,(kk2 ⟨p1a,⟨p1a,⟨p1a,⟨.inl rfl,(kk2 trivial)⟩⟩⟩⟩)⟩))⟩)⟩⟩),trivial⟩) hG) ?_
 refine Wv (s':=⟨Zkl,Zkr⟩) (fun _ _ hG=>Ww [0,1,2,3,4,5,24,7,33,9,10,45,12,59,14,15,16] (bm 5 31) (h1:=Zkr) (h2:=Zko) (t1:=Zkl) rfl (by have e1:((Y7 0).X2:Int)=3:=(by rfl);have e2:((Y7 0).f_Signer:Int)=0:=(by rfl);have e3:((Y7 0).V0:Int)=0:=(by rfl);have e4:((Y7 0).W5:List UInt8)=([]:List UInt8):=(by rfl);have e5:((Y7 0).Ye.X2:Int)=0:=(by rfl);have e6:((Y7 0).Ye.Xr:Int)=0:=(by rfl);have e7:((Y7 0).Ye.Xy:Int)=0:=(by rfl);have e8:((Y7 0).Ye.Xa:Int)=0:=(by rfl);have e9:((Y7 0).Ye.Xw:Int)=0:=(by rfl);have e10:((Y7 0).Ye.Xb:List UInt8)=[]:=(by rfl);have e11:((Y7 0).Ye.Xi:List UInt8)=([]:List UInt8):=(by rfl);have e12:((Y7 0).Ye.X1.Xt:Int)=0:=(by rfl);have e13:((Y7 0).Ye.X1.Xn:Int)=0:=(by rfl);have e14:((Y7 0).Ye.Xe:List aE)=([]:List aE):=(by rfl);have e15:((Y7 0).Ye.Xp:List aE)=([]:List aE):=(by rfl);have e16:((Y7 0).Ye.X5:List aC)=([]:List aC):=(by rfl);have e17:((Y7 0).X1.Xt:Int)=0:=(by rfl);have e18:((Y7 0).X1.Xn:Int)=2:=(by rfl);have e19:((Y7 0).Yt:Bool)=false:=(by rfl);have hE:=congr (congr (congr (congr (congr (congr (congr (congr (congr (congr (congr (congr (congr (congr (congr (congr (congr (congr (congrArg (fun (q1:Int) (q2:Int) (q3:Int) (q4:List UInt8) (q5:Int) (q6:Int) (q7:Int) (q8:Int) (q9:Int) (q10:List UInt8) (q11:List UInt8) (q12:Int) (q13:Int) (q14:List aE) (q15:List aE) (q16:List aC) (q17:Int) (q18:Int) (q19:Bool)=>([Zjz,Zkc,Zkd,Zk2,Zk3,Zke,.dead,Zkh,.dead,Zk3,Zk9,.dead,Zki,.dead,Zkj,Zka,.live (.box 44 [dI q1,dI q2,dI q3,dU q4,dI q5,dI q6,dI q7,dI q8,dI q9,dS q10,dU q11,dI q12,dI q13,.d (dsl false false (kE false) q14),.d (dsl false false (kE false) q15),.d (dsl false false (kC false) q16),dI q17,dI q18,dB q19])]:List HS)) e1) e2) e3) e4) e5) e6) e7) e8) e9) e10) e11) e12) e13) e14) e15) e16) e17) e18) e19;exact hE) hG) ?_
 refine sR [hR 2 rfl rfl (rCa (X1n (fOf 1) (cOf (max 1 1)) (Wq Hw) Hw 1 ([]:List (Int×Xd)) ([]:List X6) ([]:List Xo) X74 (Y7 0) ‹_› ‹_› (by rfl) (by omega) (by omega) (by (simp [maxLen,-List.getD_eq_getElem?_getD]<;>omega)) (by (simp [maxLen,-List.getD_eq_getElem?_getD]<;>omega)) (by (simp [maxLen,-List.getD_eq_getElem?_getD]<;>omega)) ‹_› ‹_› ‹_› ‹_› (by omega) ‹_›) Tryz.func6 [0,1,2,3,4,5,14,7,15,9,12,17,18] [(.tmp 24,.tv (.agg Zk8)),(.tmp 25,.tv (.agg Zkp))] 11 13)] ?_
 by_cases hq3:Iu (fOf 1) (cOf (max 1 1)) Hv 1 X4b (Y7 0)
 ·exact absurd hq3 hd2
 refine tN ⟨Zkl,Zku⟩ ?_
 refine Wv (s':=⟨Zkl,Zkv⟩) (fun _ _ hG=>Ww [0,1,2,3,4,5,26,7,35,9,10,47,12,61,76,92,16,17,18] (bm 5 31) (h1:=Zkv) (h2:=Zku) (t1:=Zkl) rfl (cg6 (fun (q1:List (Xv×Bool)) (q2:List (Int×Xd)) (q3:Nat) (q4:Nat) (q5:List aE) (q6:List X6)=>([Zjz,.live (mpK X9 Y6 q1),Zkd,.live (mpK (W8 .i64) (Xj false) q2),Zk3,.live (.box 49 [dB true,Zk4,Zjy,.own 17 (kE false).sz 0 q3]),.dead,.live (.box 71 [.ptr 5 0,Zk0,dI 1,dB true,Zkf,Zkg,.own 18 (X0 false).sz 0 q4,Zk7]),.dead,Zk3,Zk9,.dead,Zki,.dead,.dead,.dead,Zkq,.live (Xc 53 (kE false) q5),.live (Xc 117 (X0 false) q6)]:List HS)) (by rfl) (by rfl) (by rfl) (by rfl) (by rfl) (by rfl)) hG) ?_
 refine sR [hR 2 rfl rfl (rCa (X1n (fOf 1) (cOf (max 1 1)) (Wq Hv) Hv 1 X4b X72 ([]:List Xo) X74 (Y7 0) ‹_› ‹_› (by rfl) (by omega) (by omega) (by omega) (by omega) (by (simp [maxLen,-List.getD_eq_getElem?_getD]<;>omega)) ‹_› ‹_› ‹_› ‹_› (by omega) ‹_›) Tryz.func6 [0,1,2,3,4,5,17,7,18,9,12,19,20] [(.tmp 27,.tv (.agg Zk8)),(.tmp 28,.tv (.agg Zkp))] 11 13)] ?_
 refine tN ⟨Zkl,Zky⟩ ?_
 refine Wv (s':=⟨Zkl,Zl5⟩) (fun _ _ hG=>Ww [0,1,2,3,4,5,28,7,37,9,10,49,12,63,78,94,16,112,131,19,20] (bm 5 31) (h1:=Zl5) (h2:=Zky) (t1:=Zkl) rfl (cg6 (fun (q1:List (Xv×Bool)) (q2:List (Int×Xd)) (q3:Nat) (q4:Nat) (q5:List aE) (q6:List X6)=>([Zjz,.live (mpK X9 Y6 q1),Zkd,.live (mpK (W8 .i64) (Xj false) q2),Zk3,.live (.box 49 [dB true,Zk4,Zjy,.own 19 (kE false).sz 0 q3]),.dead,.live (.box 71 [.ptr 5 0,Zk0,dI 1,dB true,Zkf,Zkg,.own 20 (X0 false).sz 0 q4,Zk7]),.dead,Zk3,Zk9,.dead,Zki,.dead,.dead,.dead,Zkq,.dead,.dead,.live (Xc 53 (kE false) q5),.live (Xc 117 (X0 false) q6)]:List HS)) (by rfl) (by rfl) (by rfl) (by rfl) (by rfl) (by rfl)) hG) ?_
 refine sR [hR 2 rfl rfl (rCa (Eb (fOf 1) (cOf (max 1 1)) (Wq X1d) 1000 1 X73 ([]:List Xo) X74 (by (simp [maxLen,-List.getD_eq_getElem?_getD]<;>omega))) Tryz.func7 [0,1,2,3,4,12] [(.tmp 31,pv 2 0)] 6 6)] ?_
 refine sR [] ?_
 by_cases hq4:Iu (fOf 1) (cOf (max 1 1)) X1d 1 X73 (Y7 1)
 ·refine tN ⟨Zl6,Zl7⟩ ?_
  refine Wv (s':=⟨Zl6,Zl9⟩) (fun _ _ hG=>Ww [0,1,2,3,4,5,28,7,37,9,10,49,12,63,78,94,16,112,131,19,20] (bm 6 63) (h1:=Zl9) (h2:=Zl7) (t1:=Zl6) rfl (by have e1:((Y7 1).X2:Int)=(Y7 0).X2:=(by rfl);have e2:((Y7 1).f_Signer:Int)=1:=(by rfl);have e3:((Y7 1).V0:Int)=(Y7 0).V0:=(by rfl);have e4:((Y7 1).W5:List UInt8)=(Y7 0).W5:=(by rfl);have e5:((Y7 1).Ye.X2:Int)=(Y7 0).Ye.X2:=(by rfl);have e6:((Y7 1).Ye.Xr:Int)=(Y7 0).Ye.Xr:=(by rfl);have e7:((Y7 1).Ye.Xy:Int)=(Y7 0).Ye.Xy:=(by rfl);have e8:((Y7 1).Ye.Xa:Int)=(Y7 0).Ye.Xa:=(by rfl);have e9:((Y7 1).Ye.Xw:Int)=(Y7 0).Ye.Xw:=(by rfl);have e10:((Y7 1).Ye.Xb:List UInt8)=(Y7 0).Ye.Xb:=(by rfl);have e11:((Y7 1).Ye.Xi:List UInt8)=(Y7 0).Ye.Xi:=(by rfl);have e12:((Y7 1).Ye.X1.Xt:Int)=(Y7 0).Ye.X1.Xt:=(by rfl);have e13:((Y7 1).Ye.X1.Xn:Int)=(Y7 0).Ye.X1.Xn:=(by rfl);have e14:((Y7 1).Ye.Xe:List aE)=(Y7 0).Ye.Xe:=(by rfl);have e15:((Y7 1).Ye.Xp:List aE)=(Y7 0).Ye.Xp:=(by rfl);have e16:((Y7 1).Ye.X5:List aC)=(Y7 0).Ye.X5:=(by rfl);have e17:((Y7 1).X1.Xt:Int)=(Y7 0).X1.Xt:=(by rfl);have e18:((Y7 1).X1.Xn:Int)=(Y7 0).X1.Xn:=(by rfl);have e19:((Y7 1).Yt:Bool)=(Y7 0).Yt:=(by rfl);have hE:=congr (congr (congr (congr (congr (congr (congr (congr (congr (congr (congr (congr (congr (congr (congr (congr (congr (congr (congrArg (fun (q1:Int) (q2:Int) (q3:Int) (q4:List UInt8) (q5:Int) (q6:Int) (q7:Int) (q8:Int) (q9:Int) (q10:List UInt8) (q11:List UInt8) (q12:Int) (q13:Int) (q14:List aE) (q15:List aE) (q16:List aC) (q17:Int) (q18:Int) (q19:Bool)=>([Zjz,Zkz,Zkd,Zl0,Zk3,Zl1,.dead,Zl2,.dead,Zk3,Zk9,.dead,Zki,.dead,.dead,.dead,.live (.box 44 [dI q1,dI q2,dI q3,dU q4,dI q5,dI q6,dI q7,dI q8,dI q9,dS q10,dU q11,dI q12,dI q13,.d (dsl false false (kE false) q14),.d (dsl false false (kE false) q15),.d (dsl false false (kC false) q16),dI q17,dI q18,dB q19]),.dead,.dead,Zl3,Zl4]:List HS)) e1) e2) e3) e4) e5) e6) e7) e8) e9) e10) e11) e12) e13) e14) e15) e16) e17) e18) e19;exact hE) hG) ?_
  refine sR [hR 2 rfl rfl (rCa (X6h (fOf 1) (cOf (max 1 1)) (Wq X1d) X1d 1 X73 Xbi ([]:List Xo) X74 (Y7 1) ‹_› ‹_› (by rfl) (by omega) (by omega) (by omega) (by omega) (by (simp [maxLen,-List.getD_eq_getElem?_getD]<;>omega)) ‹_› ‹_› ‹_› ‹_› (by omega) ‹_›) Tryz.func6 [0,1,2,3,4,5,19,7,20,9,12,21,22,23,24] [(.tmp 36,.tv (.agg Zk8)),(.tmp 37,.tv (.agg Zl8))] 11 15)] ?_
  refine sR [hR 2 rfl rfl (rCa (Ea (fOf 1) (cOf (max 1 1)) (Wq (Yz (fOf 1) (cOf (max 1 1)) X1d (Y7 1) 1)) 1000 1 ([]:List (Int×Xd)) (([]:List Xo)++[(Ua 1 (Y7 1))]) (by (simp [maxLen,-List.getD_eq_getElem?_getD]<;>omega))) Tryz.func7 [0,1,2,3,23] [(.tmp 40,pv 2 0)] 5 5)] ?_
  by_cases hq5:(((V8 1000 (W1 (fOf 1) (cOf (max 1 1)) 1000 (Yj (Ys 1000 (0+1) [(111:UInt8),(112:UInt8)])))).length:Nat):Int)=1
  ·by_cases hq6:((V8 1000 (W1 (fOf 1) (cOf (max 1 1)) 1000 (Yj (Ys 1000 (0+1) [(111:UInt8),(112:UInt8)])))).getD 0 Yw).f_To=(-1)
   ·by_cases hq7:((([]:List Xo).length:Nat):Int)=0
    ·by_cases hq8:(((([]:List Xo)++[(Ua 1 (Y7 1))]).length:Nat):Int)=1
     ·refine sR (Xf hY1 [3,4,5] (hP1 6::(hY 8 (dT hq5)::(hS 9 (oY rfl rfl rfl rfl (X4 rfl) (dT hq5) (Yo false false (Y1 false) (V8 1000 (W1 (fOf 1) (cOf (max 1 1)) 1000 (Yj (Ys 1000 (0+1) [(111:UInt8),(112:UInt8)])))) 0 (k:=.i64) (i:=0) Tryz.underlying64 F7 rfl rfl (by omega) (X4 rfl) ⟨rfl,trivial⟩))::(Xf (hY · (dT hq5)) [10,11,12] (hP 13 (dT hq5)::(hY 15 (dT hq6)::(hP 16 (dT hq6)::(Xf (hY · (dT hq7)) [18,19,20] (hP 21 (dT hq7)::(hY 23 (dT hq8)::(hS 24 (oY rfl rfl rfl rfl (X4 rfl) (dT hq8) (Yo false false (X3 false) (([]:List Xo)++[(Ua 1 (Y7 1))]) 0 (k:=.i64) (i:=0) Tryz.underlying45 U1 rfl rfl (by omega) (X4 rfl) ⟨rfl,trivial⟩))::(Xf (hY · (dT hq8)) [25,26,27,28] (hP 29 (dT hq8)::[])))))))))))))) (T.ret ?_)
      exact eRt 0 (.one (dB (decide (((([]:List Xo)++[(Ua 1 (Y7 1))]).getD 0 Xq).X1.Xn=2)))) [] (cB (by rfl)) trivial
     exact absurd (by rfl) hq8
    exact absurd (by rfl) hq7
   exact absurd (by rfl) hq6
  exact absurd (by rfl) hq5
 exact absurd hd3 hq4
end Go.Proofs.YthnefnknoahbkaaGreat.Q
namespace Go.Proofs.YthnefnknoahbkaaGreat.Q
set_option linter.unusedVariables false
set_option linter.unusedSimpArgs false
set_option maxRecDepth 100000
theorem putL_mem {l:List aE} {e x:aE} (h:x∈l):x∈X37 l e:=by
  unfold X37;split
  · exact h
  · exact List.mem_append_left _ h
theorem X34 {f u s:Int} {l:List aE} {b:List UInt8} {x:aE} (h:x∈l):x∈Wx f u l s b:=by
  unfold Wx;split
  · exact putL_mem h
  · exact h
section
variable {f u st:Int} {L:List aE} {y:Xl} {x E:aE}
theorem Xf7 (h:x∈L):x∈Yz f u L y st:=by
  unfold Yz;split
  · unfold W0;split
    · exact h
    · exact X34 h
  · exact h
theorem Xer (h:x∈L):x∈Jl f u L y st:=X34 h
theorem snoc_len {α:Type} (l:List α) (x:α):(((l++[x]).length:Nat):Int)=((l.length:Nat):Int)+1:=by
  rw [List.length_append];simp
end
end Go.Proofs.YthnefnknoahbkaaGreat.Q
namespace Go.Proofs.YthnefnknoahbkaaGreat.Q
set_option linter.unusedVariables false
set_option linter.unusedSimpArgs false
section
variable {P:Program}
def Xaw {H:Type} (P:Program) (t:TypeId) (d:DataW H):Prop:=∀ n,n∈d.weights P t→n≤reachBytes
def RdS {α:Type} (P:Program) (t:TypeId) (K:Kd α) (ok:α→Prop):Prop :=
  ∀ (H:Type) (enc:TypeId×Value→H) (w:World) (base:Nat) (sp:Nat→Bool) (held:Bool) (fuel:Nat) (cs:List Value) (x:DataW H×List MemPlace),DataW.trod enc P w base sp held fuel t cs=some x→Xaw P t x.1→∃ a:α,ok a∧X0w w K a cs
theorem Rd.s {α:Type} {t:TypeId} {K:Kd α} {ok:α→Prop} (h:Rd P t K ok):RdS P t K ok:=fun H enc w base sp held fuel cs x hx _=>h H enc w base sp held fuel cs x hx
theorem Ew {H:Type} {e:TypeId} {n:Nat}:∀ {l:List (DataW H)} {i:Nat} {d:DataW H},l[i]?=some d→n∈d.weights P e→n∈DataW.weightsAll P e l
  | a::l,0,d,h,hn=>by
    simp only [List.getElem?_cons_zero,Option.some.injEq] at h
    subst h
    simp only [DataW.weightsAll,List.mem_append]
    exact .inl hn
  | a::l,i+1,d,h,hn=>by
    simp only [List.getElem?_cons_succ] at h
    simp only [DataW.weightsAll,List.mem_append]
    exact .inr (Ew h hn)
  | [],_,_,h,_=>by simp at h
theorem I6 {α:Type} {t e:TypeId} {K:Kd α} {ok:α→Prop} (ht:P.underlying t=some (.slice e)) (hc:P.cellsOf e=K.sz) (hK:0<K.sz) (hb:0<P.bytesOf e) (h:RdS P e K ok):RdS P t (kSl false K) (fun xs=>xs.length≤reachBytes∧∀ x,x∈xs→ok x):=fun H enc w base sp held fuel cs x hx hfit=>by
  have mk:∀ (xs:List α) (u:Value),cs=[u]→dOk (inW w) (inW w) w (dsl false false K xs) u→X0w w (kSl false K) xs cs:=fun xs u e hd=>⟨by rw [e];rfl,fun j hj=>by
    have hj:j<1:=hj
    obtain rfl:j=0:=by omega
    exact ⟨u,by rw [e];rfl,hd⟩⟩
  rcases DataW.trod_slice ht hx with ⟨hcs,_⟩|⟨a,len,cap,elems,rest,n,_,hcs,hxx,hb2,hl,hm,hlen,hel,_,_⟩
  · exact ⟨[],⟨by simp,fun x hx=>by cases hx⟩,mk [] _ hcs ⟨none,0,rfl,Nat.le_refl _,fun _=>rfl,p1b,fun i hi=>absurd hi (Nat.not_lt_zero _)⟩⟩
  · have hw:∀ n,n∈((elems.map (·.1)).length+(rest.map (·.1)).length)*P.bytesOf e::(DataW.weightsAll P e (elems.map (·.1))++DataW.weightsAll P e (rest.map (·.1)))→n≤reachBytes:=fun n hn=>hfit n (by
      rw [hxx]
      simp only [DataW.weights,ht]
      exact hn)
    have hlenR:len≤reachBytes:=by
      have h1:=hw _ (List.mem_cons_self ..)
      simp only [List.length_map,hlen] at h1
      have h2:len*1≤(len+rest.length)*P.bytesOf e:=Nat.mul_le_mul (Nat.le_add_right _ _) hb
      omega
    have hr:∀ i,i<len→∃ b:α,ok b∧∃ cs',w.cells? base (a.add (i*P.cellsOf e)) (P.cellsOf e)=some cs'∧X0w w K b cs':=fun i hi=>by
      have h1:=hel i hi
      rw [List.getElem?_eq_getElem (by omega),Option.bind_eq_some_iff] at h1
      obtain ⟨cs',h2,h3⟩:=h1
      obtain ⟨b,hb1,hb2⟩:=h H enc w base sp held n cs' _ h3 fun n hn=>hw n (List.mem_cons_of_mem _ (List.mem_append_left _ (Ew (i:=i) (by rw [List.getElem?_map,List.getElem?_eq_getElem (by omega)];rfl) hn)))
      exact ⟨b,hb1,cs',h2,hb2⟩
    obtain ⟨xs,hxl,hxs⟩:=X46 len hr
    refine ⟨xs,⟨by omega,fun x hx=>?_⟩,mk xs _ hcs ⟨some a,cap,by rw [hxl],by rw [hxl];exact hl,by simp,by simp,fun i hi=>?_⟩⟩
    · obtain ⟨i,hi,rfl⟩:=List.getElem_of_mem hx
      exact (hxs i _ (List.getElem?_eq_getElem hi)).1
    · have hi0:0<xs.length:=by omega
      obtain ⟨_,cs0,hc0,ho0⟩:=hxs 0 _ (List.getElem?_eq_getElem hi0)
      obtain ⟨_,hl0,hg0⟩:=World.cells?_some hc0
      have h00:=hg0 0 (by rw [hc];exact hK)
      obtain ⟨u0,hu0,_⟩:=ho0.2 0 hK
      rw [hu0] at h00
      have hcell:w.cell? a=some u0:=by simpa [Addr.add] using h00
      have hspot:a.spot=none:=by
        unfold World.cell? at hcell
        split at hcell
        · cases hs:a.spot with
          | none=>rfl
          | some q=>rw [hs] at hcell;simp at hcell
        · cases hcell
      have hblk:a.block<w.heap.size:=World.cells?_block (a:=a.add (0*P.cellsOf e)) hc0 (by rw [hc];exact hK) |> fun h=>by simpa [Addr.add] using h
      refine ⟨a,rfl,hspot,hblk,fun j hj=>?_⟩
      obtain ⟨_,cs',hc',ho'⟩:=hxs i _ (List.getElem?_eq_getElem hi)
      obtain ⟨_,hl',hg'⟩:=World.cells?_some hc'
      have hij:=hg' j (by rw [hc];exact hj)
      obtain ⟨u,hu,hd⟩:=ho'.2 j hj
      rw [hu,hc] at hij
      refine ⟨u,?_,?_⟩
      · rw [← hij]
        congr 1
        obtain ⟨b,o,s⟩:=a
        simp only at hspot
        subst hspot
        simp only [Addr.add]
        split<;>split<;>simp_all
        · omega
      · show dOk _ _ w (K.cell (xs.getD i K.z) j) u
        rw [List.getD_eq_getElem?_getD,List.getElem?_eq_getElem hi]
        exact hd
theorem rds_str {t:TypeId} (ht:P.underlying t=some .string):RdS P t kStr (fun l=>l.length≤reachBytes):=fun H enc w base sp held fuel cs x h hfit=>by
  obtain ⟨s,rfl,hx,hw⟩:=DataW.trod_string ht h
  refine ⟨s.data.toList,hfit _ (by rw [hx];simp [DataW.weights]),rfl,fun j hj=>?_⟩
  have hj:j<1:=hj
  obtain rfl:j=0:=by omega
  exact ⟨_,rfl,rfl⟩
theorem Io {H:Type} {enc:TypeId×Value→H} {w:World} {base:Nat} {sp:Nat→Bool} {held:Bool} {fuel:Nat} {cs:List Value} {x:DataW H×List MemPlace} {t:TypeId} {fs:Array Field} (ht:P.underlying t=some (.struct fs)) (h:DataW.trod enc P w base sp held fuel t cs=some x) (hfit:Xaw P t x.1) :
    ∃ (xs:List (DataW H×List MemPlace)) (n:Nat),cs.length=P.cellsOf t∧xs.length=fs.size∧(∀ (i:Nat) (f:Field),fs[i]?=some f→DataW.trod enc P w base sp held n f.type ((cs.drop f.offset).take (P.cellsOf f.type))=xs[i]?)∧∀ (i:Nat) (f:Field) (y:DataW H×List MemPlace),fs[i]?=some f→xs[i]?=some y→Xaw P f.type y.1:=by
  obtain ⟨xs,n,_,hx,hl,hxl,hf⟩:=DataW.trod_struct ht h
  refine ⟨xs,n,hl,hxl,hf,fun i f y h1 h2 k hk=>hfit k ?_⟩
  rw [hx]
  simp only [DataW.weights,ht]
  exact DataW.weights_mem_each (j:=i) (t:=f.type) (d:=y.1) (by rw [List.getElem?_map,Array.getElem?_toList,h1];rfl) (by rw [List.getElem?_map,h2];rfl) k hk
theorem W2 {α:Type} {K:Kd α} {ok:α→Prop} {H:Type} {enc:TypeId×Value→H} {w:World} {base:Nat} {sp:Nat→Bool} {held:Bool} {n:Nat} {cs:List Value} {xs:List (DataW H×List MemPlace)} {fs:Array Field} (hx:xs.length=fs.size)
    (h:∀ (i:Nat) (f:Field),fs[i]?=some f→DataW.trod enc P w base sp held n f.type ((cs.drop f.offset).take (P.cellsOf f.type))=xs[i]?) (hw:∀ (i:Nat) (f:Field) (y:DataW H×List MemPlace),fs[i]?=some f→xs[i]?=some y→Xaw P f.type y.1) (i:Nat) {f:Field} (hf:fs[i]?=some f) {t:TypeId} {off:Nat} (ht:f.type=t) (ho:f.offset=off) (hr:RdS P t K ok) :
    ∃ a:α,ok a∧∀ j,j<K.sz→∃ u,cs[off+j]?=some u∧dOk (inW w) (inW w) w (K.cell a j) u:=by
  subst ht ho
  have hi:i<xs.length:=by rw [hx];exact (Array.getElem?_eq_some_iff.1 hf).1
  have h1:=h i f hf
  have hi2:=List.getElem?_eq_getElem hi
  rw [hi2] at h1
  obtain ⟨a,h2,h3,h4⟩:=hr H enc w base sp held n _ _ h1 (hw i f _ hf hi2)
  refine ⟨a,h2,fun j hj=>?_⟩
  obtain ⟨u,hu,hd⟩:=h4 j hj
  refine ⟨u,?_,hd⟩
  rw [List.getElem?_take] at hu
  split at hu
  · rwa [List.getElem?_drop] at hu
  · cases hu
theorem Xav {H:Type} {ts:List TypeId} {ds:List (DataW H)} (h:(DataW.weightsEach P ts ds).all (·≤reachBytes)=true) {j:Nat} {t:TypeId} {d:DataW H} (ht:ts[j]?=some t) (hd:ds[j]?=some d):Xaw P t d:=fun n hn=>by
  have:=List.all_eq_true.1 h _ (DataW.weights_mem_each ht hd n hn)
  simpa using this
end
end Go.Proofs.YthnefnknoahbkaaGreat.Q
namespace Go.Proofs.YthnefnknoahbkaaGreat.Q
open Go Go.RowKit
set_option linter.unusedVariables false
set_option linter.unusedSimpArgs false
set_option maxRecDepth 100000
set_option maxHeartbeats 4000000
def Fr (x:Wt):Prop:=(fun (n:Int)=>(Lit.int .i64 n).wf=true) x.Us∧(fun (n:Int)=>(Lit.int .i64 n).wf=true) x.Y5
theorem Fp:RdS Tryz.prog 23 (Ex false) Fr:=fun H enc w base sp held fuel cs x h hfit=>by
  obtain ⟨xs,n,hl,hxl,hf,hw⟩:=Io Tryz.underlying23 h hfit
  obtain ⟨a0,o0,c0⟩:=W2 hxl hf hw 0 rfl (t:=3) (off:=0) rfl rfl (Rd.s (Ip Tryz.underlying3))
  obtain ⟨a1,o1,c1⟩:=W2 hxl hf hw 1 rfl (t:=3) (off:=1) rfl rfl (Rd.s (Ip Tryz.underlying3))
  refine ⟨⟨a0,a1⟩,⟨o0,o1⟩,by rw [hl];kernel_rfl,fun j hj=>?_⟩
  replace hj:j<2:=hj
  rcases j with _|_|j
  · exact c0 0 (by decide)
  · exact c1 0 (by decide)
  · omega
def Hd (x:Xd):Prop:=(fun (n:Int)=>(Lit.int .i64 n).wf=true) x.Xt∧(fun (n:Int)=>(Lit.int .i64 n).wf=true) x.Xn
theorem Eo:RdS Tryz.prog 38 (Xj false) Hd:=fun H enc w base sp held fuel cs x h hfit=>by
  obtain ⟨xs,n,hl,hxl,hf,hw⟩:=Io Tryz.underlying38 h hfit
  obtain ⟨a0,o0,c0⟩:=W2 hxl hf hw 0 rfl (t:=36) (off:=0) rfl rfl (Rd.s (Ip Tryz.underlying36))
  obtain ⟨a1,o1,c1⟩:=W2 hxl hf hw 1 rfl (t:=3) (off:=1) rfl rfl (Rd.s (Ip Tryz.underlying3))
  refine ⟨⟨a0,a1⟩,⟨o0,o1⟩,by rw [hl];kernel_rfl,fun j hj=>?_⟩
  replace hj:j<2:=hj
  rcases j with _|_|j
  · exact c0 0 (by decide)
  · exact c1 0 (by decide)
  · omega
def Uq (x:aE):Prop:=(fun (n:Int)=>(Lit.int .i64 n).wf=true) x.f_Signer∧(fun (xs:List UInt8)=>xs.length≤reachBytes∧∀ x,x∈xs→(fun (_:UInt8)=>True) x) x.X7
theorem Ji:RdS Tryz.prog 53 (kE false) Uq:=fun H enc w base sp held fuel cs x h hfit=>by
  obtain ⟨xs,n,hl,hxl,hf,hw⟩:=Io Tryz.underlying53 h hfit
  obtain ⟨a0,o0,c0⟩:=W2 hxl hf hw 0 rfl (t:=3) (off:=0) rfl rfl (Rd.s (Ip Tryz.underlying3))
  obtain ⟨a1,o1,c1⟩:=W2 hxl hf hw 1 rfl (t:=34) (off:=1) rfl rfl (I6 Tryz.underlying34 pZ2 (by decide) (of_decide_eq_true pZ2) (Rd.s (rd_u8 Tryz.underlying5)))
  refine ⟨⟨a0,a1⟩,⟨o0,o1⟩,by rw [hl];kernel_rfl,fun j hj=>?_⟩
  replace hj:j<2:=hj
  rcases j with _|_|j
  · exact c0 0 (by decide)
  · exact c1 0 (by decide)
  · omega
def X2h (x:aC):Prop:=Uq x.Vg∧(fun (xs:List aE)=>xs.length≤reachBytes∧∀ x,x∈xs→Uq x) x.Yi
theorem X91:RdS Tryz.prog 110 (kC false) X2h:=fun H enc w base sp held fuel cs x h hfit=>by
  obtain ⟨xs,n,hl,hxl,hf,hw⟩:=Io Tryz.underlying110 h hfit
  obtain ⟨a0,o0,c0⟩:=W2 hxl hf hw 0 rfl (t:=53) (off:=0) rfl rfl Ji
  obtain ⟨a1,o1,c1⟩:=W2 hxl hf hw 1 rfl (t:=39) (off:=2) rfl rfl (I6 Tryz.underlying39 pZ2 (by decide) (of_decide_eq_true pZ2) Ji)
  refine ⟨⟨a0,a1⟩,⟨o0,o1⟩,by rw [hl];kernel_rfl,fun j hj=>?_⟩
  replace hj:j<3:=hj
  rcases j with _|_|_|j
  · exact c0 0 (by decide)
  · exact c0 1 (by decide)
  · exact c1 0 (by decide)
  · omega
def E3 (x:aM):Prop:=(fun (n:Int)=>(Lit.int .i64 n).wf=true) x.X2∧(fun (n:Int)=>(Lit.int .i64 n).wf=true) x.Xr∧(fun (n:Int)=>(Lit.int .i64 n).wf=true) x.Xy∧(fun (n:Int)=>(Lit.int .i64 n).wf=true) x.Xa∧(fun (n:Int)=>(Lit.int .i64 n).wf=true) x.Xw∧(fun (l:List UInt8)=>l.length≤reachBytes) x.Xb∧(fun (xs:List UInt8)=>xs.length≤reachBytes∧∀ x,x∈xs→(fun (_:UInt8)=>True) x) x.Xi∧Hd x.X1∧(fun (xs:List aE)=>xs.length≤reachBytes∧∀ x,x∈xs→Uq x) x.Xe∧(fun (xs:List aE)=>xs.length≤reachBytes∧∀ x,x∈xs→Uq x) x.Xp∧(fun (xs:List aC)=>xs.length≤reachBytes∧∀ x,x∈xs→X2h x) x.X5
theorem X4j:RdS Tryz.prog 42 (X7k false) E3:=fun H enc w base sp held fuel cs x h hfit=>by
  obtain ⟨xs,n,hl,hxl,hf,hw⟩:=Io Tryz.underlying42 h hfit
  obtain ⟨a0,o0,c0⟩:=W2 hxl hf hw 0 rfl (t:=3) (off:=0) rfl rfl (Rd.s (Ip Tryz.underlying3))
  obtain ⟨a1,o1,c1⟩:=W2 hxl hf hw 1 rfl (t:=3) (off:=1) rfl rfl (Rd.s (Ip Tryz.underlying3))
  obtain ⟨a2,o2,c2⟩:=W2 hxl hf hw 2 rfl (t:=3) (off:=2) rfl rfl (Rd.s (Ip Tryz.underlying3))
  obtain ⟨a3,o3,c3⟩:=W2 hxl hf hw 3 rfl (t:=3) (off:=3) rfl rfl (Rd.s (Ip Tryz.underlying3))
  obtain ⟨a4,o4,c4⟩:=W2 hxl hf hw 4 rfl (t:=3) (off:=4) rfl rfl (Rd.s (Ip Tryz.underlying3))
  obtain ⟨a5,o5,c5⟩:=W2 hxl hf hw 5 rfl (t:=35) (off:=5) rfl rfl (rds_str Tryz.underlying35)
  obtain ⟨a6,o6,c6⟩:=W2 hxl hf hw 6 rfl (t:=34) (off:=6) rfl rfl (I6 Tryz.underlying34 pZ2 (by decide) (of_decide_eq_true pZ2) (Rd.s (rd_u8 Tryz.underlying5)))
  obtain ⟨a7,o7,c7⟩:=W2 hxl hf hw 7 rfl (t:=38) (off:=7) rfl rfl Eo
  obtain ⟨a8,o8,c8⟩:=W2 hxl hf hw 8 rfl (t:=39) (off:=9) rfl rfl (I6 Tryz.underlying39 pZ2 (by decide) (of_decide_eq_true pZ2) Ji)
  obtain ⟨a9,o9,c9⟩:=W2 hxl hf hw 9 rfl (t:=39) (off:=10) rfl rfl (I6 Tryz.underlying39 pZ2 (by decide) (of_decide_eq_true pZ2) Ji)
  obtain ⟨a10,o10,c10⟩:=W2 hxl hf hw 10 rfl (t:=40) (off:=11) rfl rfl (I6 Tryz.underlying40 pZ2 (by decide) (of_decide_eq_true pZ2) X91)
  refine ⟨⟨a0,a1,a2,a3,a4,a5,a6,a7,a8,a9,a10⟩,⟨o0,o1,o2,o3,o4,o5,o6,o7,o8,o9,o10⟩,by rw [hl];kernel_rfl,fun j hj=>?_⟩
  replace hj:j<12:=hj
  rcases j with _|_|_|_|_|_|_|_|_|_|_|_|j
  · exact c0 0 (by decide)
  · exact c1 0 (by decide)
  · exact c2 0 (by decide)
  · exact c3 0 (by decide)
  · exact c4 0 (by decide)
  · exact c5 0 (by decide)
  · exact c6 0 (by decide)
  · exact c7 0 (by decide)
  · exact c7 1 (by decide)
  · exact c8 0 (by decide)
  · exact c9 0 (by decide)
  · exact c10 0 (by decide)
  · omega
def Ik (x:Xl):Prop:=(fun (n:Int)=>(Lit.int .i64 n).wf=true) x.X2∧(fun (n:Int)=>(Lit.int .i64 n).wf=true) x.f_Signer∧(fun (n:Int)=>(Lit.int .i64 n).wf=true) x.V0∧(fun (xs:List UInt8)=>xs.length≤reachBytes∧∀ x,x∈xs→(fun (_:UInt8)=>True) x) x.W5∧E3 x.Ye∧Hd x.X1∧(fun (_:Bool)=>True) x.Yt
theorem Ec:RdS Tryz.prog 44 (Yh false) Ik:=fun H enc w base sp held fuel cs x h hfit=>by
  obtain ⟨xs,n,hl,hxl,hf,hw⟩:=Io Tryz.underlying44 h hfit
  obtain ⟨a0,o0,c0⟩:=W2 hxl hf hw 0 rfl (t:=3) (off:=0) rfl rfl (Rd.s (Ip Tryz.underlying3))
  obtain ⟨a1,o1,c1⟩:=W2 hxl hf hw 1 rfl (t:=3) (off:=1) rfl rfl (Rd.s (Ip Tryz.underlying3))
  obtain ⟨a2,o2,c2⟩:=W2 hxl hf hw 2 rfl (t:=3) (off:=2) rfl rfl (Rd.s (Ip Tryz.underlying3))
  obtain ⟨a3,o3,c3⟩:=W2 hxl hf hw 3 rfl (t:=34) (off:=3) rfl rfl (I6 Tryz.underlying34 pZ2 (by decide) (of_decide_eq_true pZ2) (Rd.s (rd_u8 Tryz.underlying5)))
  obtain ⟨a4,o4,c4⟩:=W2 hxl hf hw 4 rfl (t:=42) (off:=4) rfl rfl X4j
  obtain ⟨a5,o5,c5⟩:=W2 hxl hf hw 5 rfl (t:=38) (off:=16) rfl rfl Eo
  obtain ⟨a6,o6,c6⟩:=W2 hxl hf hw 6 rfl (t:=4) (off:=18) rfl rfl (Rd.s (rd_bool Tryz.underlying4))
  refine ⟨⟨a0,a1,a2,a3,a4,a5,a6⟩,⟨o0,o1,o2,o3,o4,o5,o6⟩,by rw [hl];kernel_rfl,fun j hj=>?_⟩
  replace hj:j<19:=hj
  rcases j with _|_|_|_|_|_|_|_|_|_|_|_|_|_|_|_|_|_|_|j
  · exact c0 0 (by decide)
  · exact c1 0 (by decide)
  · exact c2 0 (by decide)
  · exact c3 0 (by decide)
  · exact c4 0 (by decide)
  · exact c4 1 (by decide)
  · exact c4 2 (by decide)
  · exact c4 3 (by decide)
  · exact c4 4 (by decide)
  · exact c4 5 (by decide)
  · exact c4 6 (by decide)
  · exact c4 7 (by decide)
  · exact c4 8 (by decide)
  · exact c4 9 (by decide)
  · exact c4 10 (by decide)
  · exact c4 11 (by decide)
  · exact c5 0 (by decide)
  · exact c5 1 (by decide)
  · exact c6 0 (by decide)
  · omega
end Go.Proofs.YthnefnknoahbkaaGreat.Q
namespace Go.Proofs.YthnefnknoahbkaaGreat.Q
set_option linter.unusedVariables false
set_option linter.unusedSimpArgs false
theorem Xfq {n:Nat} (h:n≤reachBytes):n≤9223372036854775807:=Nat.le_trans h (by decide)
theorem Ha {n:Nat} (h:n≤reachBytes):n≤140737488355328:=Nat.le_trans h (by decide)
theorem act_ok18 {a:Xl} (h:Ik a):X45 a:=by
  obtain ⟨_,h2,h3,h4,h5,h6,_⟩:=h
  obtain ⟨_,_,_,_,_,m6,m7,m8,m9,m10,m11⟩:=h5
  exact ⟨X33 h2,X33 h3,⟨Ha h4.1,Ha m7.1,Ha m6,Ha m9.1,Ha m10.1,Ha m11.1⟩,X33 m8.1,X33 m8.2,X33 h6.1,X33 h6.2⟩
end Go.Proofs.YthnefnknoahbkaaGreat.Q
namespace Go.Proofs.YthnefnknoahbkaaGreat.Q
set_option linter.unusedVariables false
set_option linter.unusedSimpArgs false
set_option maxRecDepth 100000
def Hn (d:Xo) (e:aE):Prop:=X05 e.X7=0∧(Y2 e.X7).X2=8∧(Y2 e.X7).Xa=d.Xa∧(Y2 e.X7).Xw=d.Xw∧(Y2 e.X7).X1=d.X1
instance (d:Xo) (e:aE):Decidable (Hn d e):=by unfold Hn;infer_instance
def Yy (L:List aE) (d:Xo) (k:Nat):List Int:=((L.take k).filter fun e=>decide (Hn d e)).map (·.f_Signer)
theorem X7p {L:List aE} {d:Xo} {k:Nat} (hk:k<L.length) (h:Hn d (L.getD k zE)):Yy L d (k+1)=Yy L d k++[(L.getD k zE).f_Signer]:=by
  unfold Yy;rw [Ic (z:=zE) hk,List.filter_append,List.filter_cons,if_pos (decide_eq_true h),List.map_append];rfl
theorem Jp {L:List aE} {d:Xo} {k:Nat} (hk:k<L.length) (h:¬Hn d (L.getD k zE)):Yy L d (k+1)=Yy L d k:=by
  unfold Yy;rw [Ic (z:=zE) hk,List.filter_append,List.filter_cons,if_neg (by simpa using h)];simp
theorem X0i (L:List aE) (d:Xo) (k:Nat):(Yy L d k).length≤k:=by
  unfold Yy;rw [List.length_map];exact Nat.le_trans (List.length_filter_le _ _) p4c
theorem X32 {L:List aE} {d:Xo} {s:Int}:s∈Yy L d L.length↔∃ e,e∈L∧Hn d e∧e.f_Signer=s:=by
  unfold Yy;rw [List.take_length]
  simp only [List.mem_map,List.mem_filter,decide_eq_true_eq]
  exact ⟨fun ⟨e,h,q⟩=>⟨e,h.1,h.2,q⟩,fun ⟨e,h1,h2,q⟩=>⟨e,⟨h1,h2⟩,q⟩⟩
theorem X6a:∀ {r s:List Int},r.Nodup→(∀ x,x∈r→x∈s)→r.length≤s.length
  | [],_,_,_=>Nat.zero_le _
  | a::r,s,h,hs=>by
    rw [List.nodup_cons] at h
    have ha:=hs a (List.mem_cons_self ..)
    have:=X6a (r:=r) (s:=s.erase a) h.2 fun x hx=>(List.mem_erase_of_ne (fun e:x=a=>h.1 (e ▸ hx))).2 (hs x (List.mem_cons_of_mem _ hx))
    rw [List.length_erase_of_mem ha] at this
    have hp:0<s.length:=List.length_pos_of_mem ha
    simp only [List.length_cons];omega
theorem Xb9 {f:Int} (hf:0≤f∧f≤2) {r l:List Int} (h:r.Nodup) (hr:∀ s,s∈r→Yg f s∧s∈l):r.length≤X3l f l:=by
  rw [← Xek hf l]
  refine X6a h fun x hx=>?_
  obtain ⟨h1,h2⟩:=hr x hx
  obtain ⟨j,hj,e⟩:=List.getElem_of_mem h2
  exact (X0x (k:=l.length)).2 ⟨h1,j,hj,by rw [List.getD_eq_getElem?_getD,List.getElem?_eq_getElem hj];exact e⟩
theorem Xcq {f:Int} (hf:0≤f∧f≤2) {l l':List Int} (h:∀ s,s∈l→s∈l'):X3l f l≤X3l f l':=by
  have h1:(accR f l l.length).length≤X3l f l':=Xb9 hf (X3p f l _) fun s hs=>by
    obtain ⟨a,m,hm,e⟩:=(X0x (k:=l.length)).1 hs
    exact ⟨a,h s (e ▸ Vn hm)⟩
  rwa [Xek hf l] at h1
def Im (f:Int) (d:List Xo) (L:List aE):Prop:=∀ i,i<d.length→(d.getD i Xq).Xa=1000∧(d.getD i Xq).Xw=((i:Nat):Int)+1∧f+1≤((X3l f (Yy L (d.getD i Xq) L.length):Nat):Int)
theorem Xg4 (f:Int) (L:List aE):Im f [] L:=fun i hi=>absurd hi (Nat.not_lt_zero _)
theorem X1v {f:Int} (hf:0≤f∧f≤2) {d:List Xo} {L L':List aE} (h:Im f d L) (hL:∀ e,e∈L→e∈L'):Im f d L':=fun i hi=>by
  obtain ⟨h1,h2,h3⟩:=h i hi
  refine ⟨h1,h2,?_⟩
  have:=Xcq hf (l:=Yy L (d.getD i Xq) L.length) (l':=Yy L' (d.getD i Xq) L'.length) fun s hs=>by
    obtain ⟨e,a,b,c⟩:=X32.1 hs
    exact X32.2 ⟨e,hL e a,b,c⟩
  omega
def E2 (f:Int) (L:List aE) (st:Int) (t:Wz):Prop:=∀ x,x∈t→Yg f x.1∧∃ e,e∈L∧Hn ⟨1000,st,x.2⟩ e∧e.f_Signer=x.1
theorem Xeq (f:Int) (L:List aE) (st:Int):E2 f L st []:=fun x hx=>by cases hx
theorem X58 {f st:Int} {L L':List aE} {t:Wz} (h:E2 f L st t) (hL:∀ e,e∈L→e∈L'):E2 f L' st t:=fun x hx=>by
  obtain ⟨h1,e,h2,h3⟩:=h x hx
  exact ⟨h1,e,hL e h2,h3⟩
theorem Xcb {l:Wz} {s:Int} {r:Xd} {x:Int×Xd} (h:x∈mput l s r):x=(s,r)∨x∈l:=by
  induction l with
  | nil=>unfold mput at h;exact .inl (List.mem_singleton.1 h)
  | cons a l ih =>
    unfold mput at h
    split at h
    · rcases List.mem_cons.1 h with h|h
      · exact .inl h
      · exact .inr (List.mem_cons_of_mem _ h)
    · rcases List.mem_cons.1 h with h|h
      · exact .inr (h ▸ List.mem_cons_self ..)
      · exact (ih h).imp id (List.mem_cons_of_mem _)
section
variable {f u st:Int} {L:List aE} {y:Xl} {t:Wz} {d:List Xo}
theorem Xar {l:List aE} {e:aE} (h:Ws (Wf f u l) f 1000 st e):Yg f e.f_Signer∧e∈l∧Hn ⟨1000,st,Uw e⟩ e:=by
  obtain ⟨h1,h2,h3,h4,h5,h6⟩:=h
  refine ⟨h1,?_,h3,h4,h5,h6,rfl⟩
  unfold Wf at h2
  rw [if_pos (.inl h1)] at h2
  by_cases hm:e∈l
  · exact hm
  · rw [if_neg hm] at h2;cases h2
theorem X5h {x:aE} (h:x∈L):x∈W0 f u L y st:=by
  unfold W0;split
  · exact h
  · exact X34 h
theorem X7r {l:List aE} {e:aE} (ht:E2 f l st t) (h:Ws (Wf f u l) f 1000 st e):E2 f l st (X44 t e):=fun x hx=>by
  rcases Xcb hx with rfl|hx
  · obtain ⟨h1,h2,h3⟩:=Xar h
    exact ⟨h1,e,h2,h3,rfl⟩
  · exact ht x hx
theorem tokA18 (ht:E2 f L st t):E2 f (Yz f u L y st) st (Vi f u L st t y):=by
  unfold Yz Vi
  split
  · have h1:=X58 ht (L':=W0 f u L y st) fun e he=>X5h he
    unfold Jy CL18;split
    · exact X7r h1 (by assumption)
    · exact h1
  · exact ht
theorem belA18 (hf:0≤f∧f≤2) (hb:Im f d L) (ht:E2 f L st t) (hk:(t.map (·.1)).Nodup) (hs:st=((d.length:Nat):Int)+1) (hd:Iu f u L st t y):Im f (d++[Ua st y]) (Yz f u L y st):=by
  obtain ⟨h1,h2,h3⟩:=hd
  rw [Fc h1]
  have hm:=X1v hf hb (L':=W0 f u L y st) fun e he=>X5h he
  have h4:=X58 ht (L':=W0 f u L y st) fun e he=>X5h he
  have h5:=X7r h4 h2
  intro i hi
  rw [List.length_append,List.length_singleton] at hi
  by_cases hid:i<d.length
  · have e:(d++[Ua st y]).getD i Xq=d.getD i Xq:=by rw [List.getD_eq_getElem?_getD,List.getD_eq_getElem?_getD,List.getElem?_append_left hid]
    rw [e];exact hm i hid
  · have e:(d++[Ua st y]).getD i Xq=Ua st y:=by
      rw [List.getD_eq_getElem?_getD,List.getElem?_append_right (by omega),show i-d.length=0 by omega];rfl
    rw [e]
    refine ⟨rfl,by show st=_;omega,?_⟩
    have hn:=X8c (E9 y st).f_Signer (Uw (E9 y st)) hk
    have hc:Hk (X44 t (E9 y st)) (Uw (E9 y st))≤X3l f (Yy (W0 f u L y st) (Ua st y) (W0 f u L y st).length):=by
      have:=Xb9 hf (r:=((X44 t (E9 y st)).filter fun x=>decide (x.2=Uw (E9 y st))).map (·.1)) (l:=Yy (W0 f u L y st) (Ua st y) (W0 f u L y st).length) (hn.sublist ((List.filter_sublist).map _)) fun s hs=>by
        obtain ⟨x,hx,rfl⟩:=List.mem_map.1 hs
        obtain ⟨hx1,hx2⟩:=List.mem_filter.1 hx
        have hx2:x.2=Uw (E9 y st):=by simpa using hx2
        obtain ⟨a,e,b,c,q⟩:=h5 x hx1
        refine ⟨a,X32.2 ⟨e,b,?_,q⟩⟩
        rw [hx2] at c
        exact c
      rw [List.length_map] at this
      exact this
    omega
theorem Xfh {l:List aE} {e:aE} (h:∀ x,x∈l→x.X7.length≤100000) (he:e.X7.length≤100000):∀ x,x∈X37 l e→x.X7.length≤100000:=fun x hx=>by
  unfold X37 at hx;split at hx
  · exact h x hx
  · rcases List.mem_append.1 hx with hx|hx
    · exact h x hx
    · rw [List.mem_singleton.1 hx];exact he
theorem X5f {s:Int} {l:List aE} {b:List UInt8} (h:∀ x,x∈l→x.X7.length≤100000) (hb:b.length≤100000):∀ x,x∈Wx f u l s b→x.X7.length≤100000:=by
  unfold Wx;split
  · exact Xfh h hb
  · exact h
theorem X60 (hf:J7 y) (h:∀ x,x∈L→x.X7.length≤100000):∀ x,x∈Yz f u L y st→x.X7.length≤100000:=by
  unfold Yz;split
  · unfold W0;split
    · exact h
    · exact X5f h (Nat.le_trans (X04 hf st) (by decide))
  · exact h
theorem sub_bl18 (hs:X5a y) (h:∀ x,x∈L→x.X7.length≤100000):∀ x,x∈Jl f u L y st→x.X7.length≤100000:=X5f h (Nat.le_trans (Fb 1000 (st+1) y.W5 hs.2) (by decide))
theorem X8p (hf:0≤f∧f≤2) (h:Im f d L):Im f d (Yz f u L y st):=X1v hf h fun e he=>Xf7 he
theorem Xg3 (hf:0≤f∧f≤2) (h:Im f d L):Im f d (Jl f u L y st):=X1v hf h fun e he=>Xer he
end
end Go.Proofs.YthnefnknoahbkaaGreat.Q
