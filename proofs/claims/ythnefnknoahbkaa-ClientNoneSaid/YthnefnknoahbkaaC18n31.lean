import Derived.Test.YthnefnknoahbkaaC18n29
import Derived.SizedLaws
namespace Go.Proofs.Ythnefnknoahbkaa.Q
open Go Go.RowKit
set_option linter.unusedVariables false
set_option linter.unusedSimpArgs false
set_option maxRecDepth 100000
set_option maxHeartbeats 4000000
section
variable (f:Int) (u:Int) (rows:List (Xw×Bool)) (L:List aE) (st:Int) (told:List (Int×Xd)) (ws:List X6) (done:List Xj) (E:aE) (y:Xn)
abbrev Zi7:List SV:=[.ptr 0 0,.ptr 5 0,.ptr 2 0,.ptr 7 0]
abbrev Zi8:List SV:=[dI y.X3,dI y.X4,dI y.Wv,dU y.Ys,dI y.Ya.X3,dI y.Ya.Xt,dI y.Ya.Xy,dI y.Ya.Xb,dI y.Ya.Xv,dS y.Ya.Xc,dU y.Ya.Xk,dI y.Ya.X1.Xs,dI y.Ya.X1.Xo,.d (dsl false false (kE false) y.Ya.Xf),.d (dsl false false (kE false) y.Ya.Xr),.d (dsl false false (kC false) y.Ya.X7),dI y.X1.Xs,dI y.X1.Xo,dB y.Yn]
abbrev Zi9:HS:=.live (.box 99 [dI (3*f+1),dI u,.mref 1])
abbrev Zia:HS:=.live (mpK Xa Y5 rows)
abbrev Zib:SV:=dI 1000
abbrev Zic:HS:=.live (.box 82 [.ptr 0 0,Zib,dI st,.ptr 10 0,.mref 3,.own 4 (X5 false).sz 0 done.length])
abbrev Zid:HS:=.live (mpK (W0 .i64) (Xi false) told)
abbrev Zie:HS:=.live (Xe 78 (X5 false) done)
abbrev Zif:HS:=.live (.box 106 [dB true,dI f,dI u,.own 6 (kE false).sz 0 L.length])
abbrev Zig:HS:=.live (Xe 48 (kE false) L)
abbrev Zih:HS:=.live (.box 70 [.ptr 5 0,Zib,dI st,dB true,dI E.X4,dU E.X9,.own 8 (X0 false).sz 0 ws.length,.own 9 (X5 false).sz 0 done.length])
abbrev Zii:HS:=.live (Xe 116 (X0 false) ws)
abbrev Zij:HS:=.live (.box 48 [dI E.X4,dU E.X9])
abbrev Zik:List AV:=[aa,aa,pv 11 0,pv 12 0,vB false,aa,aa,aa,aa,aa,aa,aa,aa,aa,aa,aa,aa,aa,aa,aa,aa,aa,aa,aa,aa,aa,aa,aa,aa,aa,aa,aa,aa,aa,aa,aa,aa,aa,aa,aa,aa,aa,aa,aa,aa,aa,aa,aa,aa,aa,vB (decide (U4 y))]
abbrev Zil:HS:=.live (.box 31 Zi7)
abbrev Zim:HS:=.live (.box 44 (Zi8 y))
abbrev Zin:List HS:=[(Zi9 f u),(Zia rows),(Zic st done),(Zid told),(Zie done),(Zif f u L),(Zig L),(Zih st ws done E),(Zii ws),(Zie done),(Zij E),Zil,(Zim y)]
abbrev Zio:List AV:=[aa,aa,pv 11 0,pv 12 0,vB false,aa,aa,aa,aa,pv 13 0]
abbrev Zip:List SV:=[dI (Y1 y st).X3,dI (Y1 y st).Xt,dI (Y1 y st).Xy,dI (Y1 y st).Xb,dI (Y1 y st).Xv,dS (Y1 y st).Xc,dU (Y1 y st).Xk,dI (Y1 y st).X1.Xs,dI (Y1 y st).X1.Xo,.d (dsl false false (kE false) (Y1 y st).Xf),.d (dsl false false (kE false) (Y1 y st).Xr),.d (dsl false false (kC false) (Y1 y st).X7)]
abbrev Ziq:HS:=.live (.box 42 (Zip st y))
abbrev Zir:List HS:=[(Zi9 f u),(Zia rows),(Zic st done),(Zid told),(Zie done),(Zif f u L),(Zig L),(Zih st ws done E),(Zii ws),(Zie done),(Zij E),Zil,(Zim y),(Ziq st y)]
abbrev Zis:List AV:=[aa,aa,pv 11 0,pv 12 0,vB false,aa,aa,aa,aa,pv 13 0,aa,aa,aa,aa,aa,aa,aa,aa,aa,aa,aa,aa,aa,aa,aa,aa,aa,aa,aa,aa,aa,aa,aa,aa,aa,aa,aa,aa,aa,aa,aa,aa,aa,aa,aa,aa,aa,aa,aa,aa,vB (decide (U4 y)),aa,aa,aa,aa,aa,aa,vB (decide (y.X3=3))]
abbrev Zit:SV:=.d (.val (.slice none 0 0))
abbrev Ziu:HS:=.live (.box 42 [dI 8,dI 0,dI 0,Zib,dI (st+(Int.tmod y.Wv 3)),dS [],Zit,dI y.X1.Xs,dI y.X1.Xo,Zit,Zit,Zit])
abbrev Ziv:HS:=.live (.box 42 [dI 8,dI 0,dI 0,Zib,dI (st+(Int.tmod y.Wv 3)),dS [],dU ([]:List UInt8),dI y.X1.Xs,dI y.X1.Xo,.d (dsl false false (kE false) ([]:List aE)),.d (dsl false false (kE false) ([]:List aE)),.d (dsl false false (kC false) ([]:List aC))])
abbrev Ziw:HS:=.live (.box 42 [dI y.Ya.X3,dI y.Ya.Xt,dI y.Ya.Xy,dI y.Ya.Xb,dI y.Ya.Xv,dS y.Ya.Xc,dU y.Ya.Xk,dI y.Ya.X1.Xs,dI y.Ya.X1.Xo,.d (dsl false false (kE false) y.Ya.Xf),.d (dsl false false (kE false) y.Ya.Xr),.d (dsl false false (kC false) y.Ya.X7)])
abbrev Zix:List AV:=[aa,aa,pv 11 0,pv 12 0,vB false,aa,aa,aa,aa,pv 13 0,pv 14 0]
abbrev Ziy:List SV:=[dI y.X4,dU (Yh (Y1 y st))]
abbrev Ziz:HS:=.live (.box 48 (Ziy st y))
abbrev Zj0:List HS:=[(Zi9 f u),.live (mpK Xa Y5 (Yt (Wh f u L y st))),(Zic st done),(Zid told),(Zie done),.live (.box 106 [dB true,dI f,dI u,.own 15 (kE false).sz 0 (Wh f u L y st).length]),.dead,(Zih st ws done E),(Zii ws),(Zie done),(Zij E),Zil,(Zim y),(Ziq st y),(Ziz st y),.live (Xe 48 (kE false) (Wh f u L y st))]
abbrev Zj1:List AV:=[aa,aa,pv 11 0,pv 12 0,vB false,aa,aa,aa,aa,pv 13 0,pv 14 0,aa,aa,aa,aa,aa,aa,aa,aa,aa,aa,aa,aa,aa,aa,aa,aa,aa,aa,aa,aa,aa,aa,aa,aa,aa,aa,aa,aa,aa,aa,aa,aa,aa,aa,aa,aa,aa,aa,aa,aa,aa,aa,aa,aa,aa,aa,aa,aa,aa,aa,aa,aa,aa,aa,aa,aa,aa,aa,aa,aa,aa,aa,aa,aa,aa,aa,vB (!y.Yn)]
abbrev Zj2:HS:=.live (.box 106 [dB true,dI f,dI u,.own 15 (kE false).sz 0 L.length])
abbrev Zj3:List HS:=[(Zi9 f u),.live (mpK Xa Y5 (Ik f u rows y.X4 (Yh (Y1 y st)))),(Zic st done),(Zid told),(Zie done),.live (.box 106 [dB true,dI f,dI u,.own 15 (kE false).sz 0 (Wz f u L y.X4 (Yh (Y1 y st))).length]),.dead,(Zih st ws done E),(Zii ws),(Zie done),(Zij E),Zil,(Zim y),(Ziq st y),(Ziz st y),.live (Xe 48 (kE false) (Wz f u L y.X4 (Yh (Y1 y st))))]
end
theorem X1t (f:Int) (u:Int) (rows:List (Xw×Bool)) (L:List aE) (st:Int) (told:List (Int×Xd)) (ws:List X6) (done:List Xj) (E:aE) (y:Xn) (hf:0≤f∧f≤2) (hu:0≤u∧u≤8) (hrl:rows=Yt L) (hLl:L.length≤100000) (hst:0≤st∧st≤100000) (htl:told.length≤100000) (hwl:ws.length≤100000) (hdl:done.length≤100000) (hrw:Vj told ws) (hc:Yr u 1000) (hy:E4 y) (hf9:Jk y) (hEl:E.X9.length≤100000) (hd:It f u L st told y):Holds Try.prog 9 ⟨[.tv (.agg [.ptr 0 0,.ptr 5 0,.ptr 2 0,.ptr 7 0]),.tv (.agg [dI y.X3,dI y.X4,dI y.Wv,dU y.Ys,dI y.Ya.X3,dI y.Ya.Xt,dI y.Ya.Xy,dI y.Ya.Xb,dI y.Ya.Xv,dS y.Ya.Xc,dU y.Ya.Xk,dI y.Ya.X1.Xs,dI y.Ya.X1.Xo,.d (dsl false false (kE false) y.Ya.Xf),.d (dsl false false (kE false) y.Ya.Xr),.d (dsl false false (kC false) y.Ya.X7),dI y.X1.Xs,dI y.X1.Xo,dB y.Yn])],[.box 99 [dI (3*f+1),dI u,.mref 1],mpK Xa Y5 rows,.box 82 [.ptr 0 0,dI 1000,dI st,.ptr 10 0,.mref 3,.own 4 (X5 false).sz 0 done.length],mpK (W0 .i64) (Xi false) told,Xe 78 (X5 false) done,.box 106 [dB true,dI f,dI u,.own 6 (kE false).sz 0 L.length],Xe 48 (kE false) L,.box 70 [.ptr 5 0,dI 1000,dI st,dB true,dI E.X4,dU E.X9,.own 8 (X0 false).sz 0 ws.length,.own 9 (X5 false).sz 0 done.length],Xe 116 (X0 false) ws,Xe 78 (X5 false) done,.box 48 [dI E.X4,dU E.X9]],vB true,[.live (.box 99 [dI (3*f+1),dI u,.mref 1]),.live (mpK Xa Y5 (Yt (Yj f u L y st))),.live (.box 82 [.ptr 0 0,dI 1000,dI st,.d (.val (.pointer none)),.mref 3,.own 13 (X5 false).sz 0 (done++[(Ua st y)]).length]),.live (mpK (W0 .i64) (Xi false) ([]:List (Int×Xd))),.dead,.live (.box 106 [dB true,dI f,dI u,.own 11 (kE false).sz 0 (Yj f u L y st).length]),.dead,.live (.box 70 [.ptr 5 0,dI 1000,dI st,dB false,dI E.X4,dU E.X9,.own 12 (X0 false).sz 0 ([]:List X6).length,.own 14 (X5 false).sz 0 (done++[(Ua st y)]).length]),.dead,.dead,.dead,.live (Xe 48 (kE false) (Yj f u L y st)),.live (Xe 116 (X0 false) ([]:List X6)),.live (Xe 78 (X5 false) (done++[(Ua st y)])),.live (Xe 78 (X5 false) (done++[(Ua st y)]))]⟩:=by
 refine Holds.of Try.func9 rfl (N:=100) Try.ntmps9 rfl fun w0 B0 S0 U0=>?_
 show T _ (Xz 100 11 w0 S0 U0 B0) ⟨[.tv (.agg Zi7),.tv (.agg (Zi8 y))],[(Zi9 f u),(Zia rows),(Zic st done),(Zid told),(Zie done),(Zif f u L),(Zig L),(Zih st ws done E),(Zii ws),(Zie done),(Zij E)]⟩ _ _
 have hml:=X2s hf9 st
 obtain ⟨hy1,hy2,hy3,hy4⟩:=hy
 have hsl:=Eg f u L y st
 have ht3:=X25 y.Wv
 have hsn:(Vb 1000 E).length=1:=rfl
 refine sR [] (T.seq (sR [] (T.block (sR [] ?_))))
 by_cases hq1:y.X3=0
 ·exact absurd hd.1 (fun w=>by rcases w with w|w<;>omega)
 have hk0:=hq1
 refine cF (dF hq1) (sR [] ?_)
 by_cases hq2:y.X3=1
 ·exact absurd hd.1 (fun w=>by rcases w with w|w<;>omega)
 refine cF (dF hq2) ?_
 refine Ve ⟨(Zik y),(Zin f u rows L st told ws done E y)⟩ ?_ ?_
 ·refine sR [] ?_
  by_cases hq3:y.X3=2
  ·refine cT (dT hq3) (T.skip ?_)
   refine eN ⟨[.tv (.agg Zi7),.tv (.agg (Zi8 y)),pv 11 0,pv 12 0,vB false,aa,aa,aa,aa,aa,aa,aa,vI y.X3,vB (decide (y.X3=0)),aa,aa,aa,aa,aa,aa,aa,aa,aa,aa,aa,aa,aa,aa,aa,aa,aa,aa,aa,aa,aa,aa,aa,aa,aa,aa,aa,vB (decide (y.X3=1)),aa,aa,aa,aa,aa,aa,aa,aa,vB (decide (y.X3=2))],(Zin f u rows L st told ws done E y)⟩ ?_
   refine Xm (s':=⟨(Zik y),(Zin f u rows L st told ws done E y)⟩) (fun _ _ hG=>Yc [0,1,2,3,4,5,6,7,8,9,10,11,12] (bm 51 1125899906842652) (t2:=[aa,aa,pv 11 0,pv 12 0,vB false,aa,aa,aa,aa,aa,aa,aa,aa,aa,aa,aa,aa,aa,aa,aa,aa,aa,aa,aa,aa,aa,aa,aa,aa,aa,aa,aa,aa,aa,aa,aa,aa,aa,aa,aa,aa,aa,aa,aa,aa,aa,aa,aa,aa,aa,vB (decide (y.X3=2))]) pm rfl hG) ?_
   exact nJ
  refine cF (dF hq3) (xK [] ?_)
  refine eN ⟨[.tv (.agg Zi7),.tv (.agg (Zi8 y)),pv 11 0,pv 12 0,vB false,aa,aa,aa,aa,aa,aa,aa,vI y.X3,vB (decide (y.X3=0)),aa,aa,aa,aa,aa,aa,aa,aa,aa,aa,aa,aa,aa,aa,aa,aa,aa,aa,aa,aa,aa,aa,aa,aa,aa,aa,aa,vB (decide (y.X3=1)),aa,aa,aa,aa,aa,aa,aa,aa,vB (decide (y.X3=3))],(Zin f u rows L st told ws done E y)⟩ ?_
  refine Xm (s':=⟨(Zik y),(Zin f u rows L st told ws done E y)⟩) (fun _ _ hG=>Yc [0,1,2,3,4,5,6,7,8,9,10,11,12] (bm 51 1125899906842652) (t2:=[aa,aa,pv 11 0,pv 12 0,vB false,aa,aa,aa,aa,aa,aa,aa,aa,aa,aa,aa,aa,aa,aa,aa,aa,aa,aa,aa,aa,aa,aa,aa,aa,aa,aa,aa,aa,aa,aa,aa,aa,aa,aa,aa,aa,aa,aa,aa,aa,aa,aa,aa,aa,aa,vB (decide (y.X3=3))]) pm rfl hG) ?_
  exact nJ
 by_cases hq4:U4 y
 rotate_left
 ·exact absurd hd.1 hq4
 have hrc:=hq4
 refine cT (dT hq4) (sR [] ?_)
 refine Ve ⟨Zio,(Zir f u rows L st told ws done E y)⟩ ?_ ?_
 ·refine sR [] ?_
  by_cases hq5:y.X3=3
  ·refine cT (dT hq5) ?_
   refine xD [[],[0],[0,1],[0,1,2],[0,1,2,3],[],[5],[5,6],[0,1,2,3,4,5,6,7],[],[9],[0,1,2,3,4,5,6,7,8,9,10],[0,1,2,3,4,5,6,7,8,9,10,11]] [hR 7 rfl rfl (Y9 (u1:=.int .i64 y.Wv) (u2:=.int .i64 3) (v:=.int .i64 (Int.tmod y.Wv 3)) (b_rem (by omega) rfl) (X8 rfl) ⟨rfl,trivial⟩),hR 8 rfl rfl (Y9 (u1:=.int .i64 st) (u2:=.int .i64 (Int.tmod y.Wv 3)) (v:=.int .i64 (st+(Int.tmod y.Wv 3))) (W6 pZ5) (X8 rfl) trivial)] pZ4 pZ4 pZ4 pZ4 pZ4 pZ4 ?_
   refine eN ⟨(Zis y),[(Zi9 f u),(Zia rows),(Zic st done),(Zid told),(Zie done),(Zif f u L),(Zig L),(Zih st ws done E),(Zii ws),(Zie done),(Zij E),Zil,(Zim y),(Ziu st y)]⟩ ?_
   refine Xm (s':=⟨(Zis y),[(Zi9 f u),(Zia rows),(Zic st done),(Zid told),(Zie done),(Zif f u L),(Zig L),(Zih st ws done E),(Zii ws),(Zie done),(Zij E),Zil,(Zim y),(Ziv st y)]⟩) (fun _ _ hG=>W7 (s:=⟨(Zis y),[(Zi9 f u),(Zia rows),(Zic st done),(Zid told),(Zie done),(Zif f u L),(Zig L),(Zih st ws done E),(Zii ws),(Zie done),(Zij E),Zil,(Zim y),(Ziu st y)]⟩) (kk2 (kk8 p3b)) ⟨.inl rfl,(kk4 (kk8 ⟨X3b,trivial⟩))⟩ hG) ?_
   refine Xm (s':=⟨Zio,(Zir f u rows L st told ws done E y)⟩) (fun _ _ hG=>Yc [0,1,2,3,4,5,6,7,8,9,10,11,12,13] (bm 10 540) (h2:=[(Zi9 f u),(Zia rows),(Zic st done),(Zid told),(Zie done),(Zif f u L),(Zig L),(Zih st ws done E),(Zii ws),(Zie done),(Zij E),Zil,(Zim y),(Ziv st y)]) rfl (by have e1:((Y1 y st).X3:Int)=8:=pZl;have e2:((Y1 y st).Xt:Int)=0:=pZl;have e3:((Y1 y st).Xy:Int)=0:=pZl;have e4:((Y1 y st).Xb:Int)=1000:=pZl;have e5:((Y1 y st).Xv:Int)=st+(Int.tmod y.Wv 3):=pZl;have e6:((Y1 y st).Xc:List UInt8)=[]:=pZl;have e7:((Y1 y st).Xk:List UInt8)=([]:List UInt8):=pZl;have e8:((Y1 y st).X1.Xs:Int)=y.X1.Xs:=pZl;have e9:((Y1 y st).X1.Xo:Int)=y.X1.Xo:=pZl;have e10:((Y1 y st).Xf:List aE)=([]:List aE):=pZl;have e11:((Y1 y st).Xr:List aE)=([]:List aE):=pZl;have e12:((Y1 y st).X7:List aC)=([]:List aC):=pZl;have hE:=congr pZv e12;exact hE) hG) ?_
   exact nJ
  refine cF (dF hq5) (T.skip ?_)
  refine eN ⟨(Zis y),[(Zi9 f u),(Zia rows),(Zic st done),(Zid told),(Zie done),(Zif f u L),(Zig L),(Zih st ws done E),(Zii ws),(Zie done),(Zij E),Zil,(Zim y),(Ziw y)]⟩ ?_
  refine Xm (s':=⟨Zio,(Zir f u rows L st told ws done E y)⟩) (fun _ _ hG=>Yc [0,1,2,3,4,5,6,7,8,9,10,11,12,13] (bm 10 540) (h2:=[(Zi9 f u),(Zia rows),(Zic st done),(Zid told),(Zie done),(Zif f u L),(Zig L),(Zih st ws done E),(Zii ws),(Zie done),(Zij E),Zil,(Zim y),(Ziw y)]) rfl (by have e1:((Y1 y st).X3:Int)=y.Ya.X3:=pi;have e2:((Y1 y st).Xt:Int)=y.Ya.Xt:=pi;have e3:((Y1 y st).Xy:Int)=y.Ya.Xy:=pi;have e4:((Y1 y st).Xb:Int)=y.Ya.Xb:=pi;have e5:((Y1 y st).Xv:Int)=y.Ya.Xv:=pi;have e6:((Y1 y st).Xc:List UInt8)=y.Ya.Xc:=pi;have e7:((Y1 y st).Xk:List UInt8)=y.Ya.Xk:=pi;have e8:((Y1 y st).X1.Xs:Int)=y.Ya.X1.Xs:=pi;have e9:((Y1 y st).X1.Xo:Int)=y.Ya.X1.Xo:=pi;have e10:((Y1 y st).Xf:List aE)=y.Ya.Xf:=pi;have e11:((Y1 y st).Xr:List aE)=y.Ya.Xr:=pi;have e12:((Y1 y st).X7:List aC)=y.Ya.X7:=pi;have hE:=congr pZv e12;exact hE) hG) ?_
  exact nJ
 refine sD [[],[0],[],[2],[0,1,2,3],[],[0,1,2,3,4,5]] [hR 3 rfl rfl (rCa (H8 false (Y1 y st) (V2 hf9 st).1 (V2 hf9 st).2.1 (V2 hf9 st).2.2.1 (V2 hf9 st).2.2.2.1 (V2 hf9 st).2.2.2.2.1 (V2 hf9 st).2.2.2.2.2) Try.func27 [] [(.tmp 72,.tv (.agg (Zip st y)))] 0 0)] ?_
 refine Ve ⟨Zix,(Zj0 f u L st told ws done E y)⟩ ?_ ?_
 ·refine sR [] ?_
  by_cases hq6:y.Yn=true
  ·refine cF (cn hq6) (T.skip ?_)
   refine eN ⟨(Zj1 y),[(Zi9 f u),(Zia rows),(Zic st done),(Zid told),(Zie done),(Zif f u L),(Zig L),(Zih st ws done E),(Zii ws),(Zie done),(Zij E),Zil,(Zim y),(Ziq st y),(Ziz st y)]⟩ ?_
   refine Xm (s':=⟨(Zj1 y),[(Zi9 f u),(Zia rows),(Zic st done),(Zid told),(Zie done),(Zj2 f u L),.dead,(Zih st ws done E),(Zii ws),(Zie done),(Zij E),Zil,(Zim y),(Ziq st y),(Ziz st y),(Zig L)]⟩) (fun _ _ hG=>Gs.move (s:=⟨(Zj1 y),[(Zi9 f u),(Zia rows),(Zic st done),(Zid told),(Zie done),(Zif f u L),(Zig L),(Zih st ws done E),(Zii ws),(Zie done),(Zij E),Zil,(Zim y),(Ziq st y),(Ziz st y)]⟩) 6 15 (o:=Xe 48 (kE false) L) rfl rfl rfl (kk2 (kk4 (kk8 p2u))) ⟨(.inr pZ1),⟨(.inr pZ1),⟨(.inr pZ1),⟨(.inr pZ1),⟨(.inr pZ1),⟨(.inr pk),⟨(.inl ⟨rfl,rfl⟩),⟨(.inr pZ1),⟨(.inr pZ1),⟨(.inr pZ1),⟨(.inr pZ1),⟨(.inr pZ1),⟨(.inr pZ1),⟨(.inr pZ1),⟨(.inr pZ1),⟨(.inr (.inl ⟨rfl,rfl⟩)),trivial⟩⟩⟩⟩⟩⟩⟩⟩⟩⟩⟩⟩⟩⟩⟩⟩ hG) ?_
   refine Xm (s':=⟨Zix,(Zj0 f u L st told ws done E y)⟩) (fun _ _ hG=>Yc [0,1,2,3,4,5,6,7,8,9,10,11,12,13,14,15] (bm 11 1564) (h2:=[(Zi9 f u),(Zia rows),(Zic st done),(Zid told),(Zie done),(Zj2 f u L),.dead,(Zih st ws done E),(Zii ws),(Zie done),(Zij E),Zil,(Zim y),(Ziq st y),(Ziz st y),(Zig L)]) rfl (by have e1:((Yt (Wh f u L y st)):List (Xw×Bool))=rows:=p4e;have e2:((Wh f u L y st).length:Nat)=L.length:=p38;have e3:((Wh f u L y st):List aE)=L:=p38;have hE:=congr p1k e3;exact hE) hG) ?_
   exact nJ
  replace hq6:=Bool.eq_false_iff.2 hq6
  refine cT (cn hq6) (sR [hR 6 rfl rfl (rCa (E2 f u rows y.X4 false false (Yh (Y1 y st)) ‹_› ‹_› ‹_› (by omega)) Try.func28 [0,1] [(.tmp 79,pv 0 0),(.tmp 81,vI y.X4),(.tmp 83,slV false false kU8 (Yh (Y1 y st)))] 2 2)] (xK [hR 6 rfl rfl (rCa (Fq f u L y.X4 false false (Yh (Y1 y st)) ‹_› ‹_› ‹_› (by omega) (by omega)) Try.func29 [5,6,15] [(.tmp 86,pv 5 0),(.tmp 88,vI y.X4),(.tmp 90,slV false false kU8 (Yh (Y1 y st)))] 2 3)] ?_))
  refine eN ⟨(Zj1 y),(Zj3 f u rows L st told ws done E y)⟩ ?_
  refine Xm (s':=⟨Zix,(Zj0 f u L st told ws done E y)⟩) (fun _ _ hG=>Yc [0,1,2,3,4,5,6,7,8,9,10,11,12,13,14,15] (bm 11 1564) (h2:=(Zj3 f u rows L st told ws done E y)) rfl (by have e1:((Yt (Wh f u L y st)):List (Xw×Bool))=(Ik f u rows y.X4 (Yh (Y1 y st))):=p3f;have e2:((Wh f u L y st).length:Nat)=(Wz f u L y.X4 (Yh (Y1 y st))).length:=p2i;have e3:((Wh f u L y st):List aE)=(Wz f u L y.X4 (Yh (Y1 y st))):=p2i;have hE:=congr p1k e3;exact hE) hG) ?_
  exact nJ
 by_cases hq7:Fb (Wy f u (Yt (Wh f u L y st))) f 1000 st told (aE.mk y.X4 (Yh (Y1 y st)))
 ·refine sR [hR 3 rfl rfl (rCa (X4o f u (Yt (Wh f u L y st)) 1000 st told done E false (aE.mk y.X4 (Yh (Y1 y st))) ‹_› ‹_› ‹_› (by (simp [maxLen,-List.getD_eq_getElem?_getD]<;>omega)) (by omega) (by omega) ‹_›) Try.func21 [0,1,2,3,4,10,16] [(.tmp 93,pv 2 0),(.tmp 94,.tv (.agg (Ziy st y)))] 6 7)] ?_
  by_cases hq8:Fz (Wr f u (Wh f u L y st)) f 1000 st ws (aE.mk y.X4 (Yh (Y1 y st)))
  ·refine xK [hR 3 rfl rfl (rCa (X63 f u (Wh f u L y st) 1000 st E ws done (aE.mk y.X4 (Yh (Y1 y st))) ‹_› ‹_› ‹_› (by (simp [maxLen,-List.getD_eq_getElem?_getD]<;>omega)) (by omega) (by omega) (by omega) ‹_›) Try.func30 [5,15,7,8,9,17,18] [(.tmp 97,pv 7 0),(.tmp 98,.tv (.agg (Ziy st y)))] 5 7)] ?_
   refine nB (nT (sR [] (T.ret ?_)))
   exact eRt 4 (.one (dB true)) [0,1,2,3,4,5,6,7,8,9,10,15,17,16,18] rfl (ix ⟨⟨rfl,pZ19⟩,⟨⟨rfl,(by have e1:((done++[(Xj.mk 1000 st (Jt (aE.mk y.X4 (Yh (Y1 y st)))))]).length:Nat)=(done++[(Ua st y)]).length:=(by rfl);have hE:=congrArg (fun (q1:Nat)=>(.live (.box 82 [.ptr 0 0,Zib,dI st,.d (.val (.pointer none)),.mref 3,.own 16 (X5 false).sz 0 q1]):HS)) e1;exact Eq.trans pZ4 hE)⟩,(ix ⟨⟨rfl,pZ29⟩,⟨⟨rfl,(by have e1:((done++[(Xj.mk 1000 st (Jt (aE.mk y.X4 (Yh (Y1 y st)))))]).length:Nat)=(done++[(Ua st y)]).length:=(by rfl);have hE:=congrArg (fun (q1:Nat)=>(.live (.box 70 [.ptr 5 0,Zib,dI st,dB false,dI E.X4,dU E.X9,.own 17 (X0 false).sz 0 ([]:List X6).length,.own 18 (X5 false).sz 0 q1]):HS)) e1;exact Eq.trans pZ4 hE)⟩,⟨⟨rfl,p1i⟩,(ix ⟨⟨rfl,pZ25⟩,⟨⟨rfl,pZ25⟩,trivial⟩⟩)⟩⟩⟩)⟩⟩)
  exact absurd ((Xe9 hrc hrw).2 hd) hq8
 exact absurd ((Xea hrc).2 hd) hq7
end Go.Proofs.Ythnefnknoahbkaa.Q
namespace Go.Proofs.Ythnefnknoahbkaa.Q
set_option linter.unusedVariables false
set_option linter.unusedSimpArgs false
set_option maxRecDepth 100000
theorem Xav {E:aE} (h:E.X4=1000):Yf 1000 E=E:=by
  cases E;simp only at h;unfold Yf;rw [h]
section
variable {f u st:Int} {L:List aE} {y:Xn}
theorem X7v:(U9 f u L y st).length≤L.length+1:=X80 _ _ _ _ _
theorem X7w (h:Yr u 1000) (hs:Ef y):(Wt f u y st).X4=1000∧(Wt f u y st).X9.length≤5000:=by
  rw [X35 h hs];exact ⟨rfl,Fg 1000 (st+1) y.Ys hs.2⟩
theorem nsub18 (h:¬y.X3=0):¬Ef y:=fun w=>h w.1
end
def Y8 (s:Int):Xn:=⟨3,s,0,[],zM,⟨0,2⟩,false⟩
abbrev X0d:Int:=fOf 1
abbrev X0c:Int:=cOf (max 1 1)
def awB18:List UInt8:=[111,112]
def Hz:List aE:=Wz X0d X0c [] 1000 (Yh (Yi 1000 1 awB18))
def X78:aE:=W2 X0d X0c 1000 (Yh (Yi 1000 1 awB18))
def Hy:List aE:=Yj X0d X0c Hz (Y8 0) 1
def X4c:Vd:=V0 X0d X0c Hz 1 [] (Y8 0)
def X76:List X6:=Wu X0d X0c Hz 1 [] (Y8 0)
def X1e:List aE:=Yj X0d X0c Hy (Y8 0) 1
def X77:Vd:=V0 X0d X0c Hy 1 X4c (Y8 0)
def Xbw:List X6:=Wu X0d X0c Hy 1 X76 (Y8 0)
theorem aw_rel18:Vj X4c X76∧Vj X77 Xbw:=⟨X5z X0l,X5z (X5z X0l)⟩
theorem aw_len18:Hz.length≤100∧Hy.length≤100∧X1e.length≤100∧X4c.length≤100∧X76.length≤100∧X77.length≤100∧Xbw.length≤100∧X78.X9.length≤5000:=by decide +kernel
theorem aw_dec18:¬It X0d X0c Hz 1 [] (Y8 0)∧¬It X0d X0c Hy 1 X4c (Y8 0)∧It X0d X0c X1e 1 X77 (Y8 1):=by decide +kernel
theorem Xek (s:Int) (h:Un s):E4 (Y8 s)∧Jk (Y8 s) :=
  ⟨⟨h,(show Un 0 by unfold Un;omega),⟨Nat.zero_le _,Nat.zero_le _,Nat.zero_le _,Nat.zero_le _,Nat.zero_le _,Nat.zero_le _⟩,(show Un 0 by unfold Un;omega),(show Un 0 by unfold Un;omega),(show Un 0 by unfold Un;omega),(show Un 2 by unfold Un;omega)⟩,Nat.zero_le _,Nat.zero_le _,rfl,rfl,rfl⟩
end Go.Proofs.Ythnefnknoahbkaa.Q
namespace Go.Proofs.Ythnefnknoahbkaa.Q
open Go Go.RowKit
set_option linter.unusedVariables false
set_option linter.unusedSimpArgs false
set_option maxRecDepth 100000
set_option maxHeartbeats 4000000
theorem X3j (f:Int) (u:Int) (rows:List (Xw×Bool)) (L:List aE) (st:Int) (told:List (Int×Xd)) (ws:List X6) (done:List Xj) (RE:aE) (hdl:done.length≤100000):Holds Try.prog 10 ⟨[.tv (.agg [.ptr 0 0,.ptr 5 0,.ptr 2 0,.ptr 7 0])],[.box 99 [dI (3*f+1),dI u,.mref 1],mpK Xa Y5 rows,.box 82 [.ptr 0 0,dI 1000,dI st,.d (.val (.pointer none)),.mref 3,.own 4 (X5 false).sz 0 done.length],mpK (W0 .i64) (Xi false) told,Xe 78 (X5 false) done,.box 106 [dB true,dI f,dI u,.own 6 (kE false).sz 0 L.length],Xe 48 (kE false) L,.box 70 [.ptr 5 0,dI 1000,dI st,dB false,dI RE.X4,dU RE.X9,.own 8 (X0 false).sz 0 ws.length,.own 9 (X5 false).sz 0 done.length],Xe 116 (X0 false) ws,Xe 78 (X5 false) done],vB true,[.live (.box 99 [dI (3*f+1),dI u,.mref 1]),.live (mpK Xa Y5 rows),.live (.box 82 [.ptr 0 0,dI 1000,dI st,.d (.val (.pointer none)),.mref 3,.own 4 (X5 false).sz 0 done.length]),.live (mpK (W0 .i64) (Xi false) told),.live (Xe 78 (X5 false) done),.live (.box 106 [dB true,dI f,dI u,.own 6 (kE false).sz 0 L.length]),.live (Xe 48 (kE false) L),.live (.box 70 [.ptr 5 0,dI 1000,dI st,dB false,dI RE.X4,dU RE.X9,.own 8 (X0 false).sz 0 ws.length,.own 9 (X5 false).sz 0 done.length]),.live (Xe 116 (X0 false) ws),.live (Xe 78 (X5 false) done)]⟩:=by
 refine Holds.of Try.func10 rfl (N:=40) Try.ntmps10 rfl fun w0 B0 S0 U0=>?_
 show T _ (Xz 40 10 w0 S0 U0 B0) ⟨[.tv (.agg [.ptr 0 0,.ptr 5 0,.ptr 2 0,.ptr 7 0])],[.live (.box 99 [dI (3*f+1),dI u,.mref 1]),.live (mpK Xa Y5 rows),.live (.box 82 [.ptr 0 0,dI 1000,dI st,.d (.val (.pointer none)),.mref 3,.own 4 (X5 false).sz 0 done.length]),.live (mpK (W0 .i64) (Xi false) told),.live (Xe 78 (X5 false) done),.live (.box 106 [dB true,dI f,dI u,.own 6 (kE false).sz 0 L.length]),.live (Xe 48 (kE false) L),.live (.box 70 [.ptr 5 0,dI 1000,dI st,dB false,dI RE.X4,dU RE.X9,.own 8 (X0 false).sz 0 ws.length,.own 9 (X5 false).sz 0 done.length]),.live (Xe 116 (X0 false) ws),.live (Xe 78 (X5 false) done)]⟩ _ _
 refine sR [] (sR [hR 2 rfl rfl (rCa (Ib f u rows 1000 st told done ) Try.func12 [0,1,2,3,4] [(.tmp 7,pv 2 0)] 5 5)] (T.seq ?_))
 refine sD [[],[],[1],[1,2],[1,2,3],[1,2,3,4],[0,1,2,3,4,5],[0,1,2,3,4,5,6],[0,1,2,3,4,5,6,7],[0,1,2,3,4,5,6,7,8],[0,1,2,3,4,5,6,7,8,9],[0,1,2,3,4,5,6,7,8,9],[0,1,2,3,4,5,6,7,8,9,11],[0,1,2,3,4,5,6,7,8,9,11,12],[0,1,2,3,4,5,6,7,8,9,11,12,13],[0,1,2,3,4,5,6,7,8,9,11,12,13,14],[0,1,2,3,4,5,6,7,8,9,10,11,12,13,14,15],[0,1,2,3,4,5,6,7,8,9,10,11,12,13,14,15,16],[0,1,2,3,4,5,6,7,8,9,10,11,12,13,14,15,16,17],[0,1,2,3,4,5,6,7,8,9,10,11,12,13,14,15,16,17,18]] (hY 8 (show decide (false≠false)=false from dF (fun h=>h rfl))::(hY 9 (show decide (false≠false)=false from dF (fun h=>h rfl))::(Xl hN1 [10,11,12,13,14,15,16,17] (hS 18 (oY rfl rfl rfl rfl (X8 rfl) (show decide (false≠false)=false from dF (fun h=>h rfl)) (Yz (b:=false) (av:=vB false) (X8 rfl) ⟨rfl,trivial⟩ rfl))::(hP 19 (show decide (false≠false)=false from dF (fun h=>h rfl))::[]))))) ?_
 refine cF (b:=false) rfl (T.skip (nT ?_))
 refine sD [[],[0],[0,1],[],[3],[3,4],[3,4,5],[3,4,5,6],[0,1,2,3,4,5,6,7],[0,1,2,3,4,5,6,7,8]] [hR 2 rfl rfl (rCa (J5 f u rows 1000 st told done (by omega)) Try.func13 [0,1,2,3,4] [(.tmp 32,pv 2 0)] 5 5),hR 8 rfl rfl (Wm (X60 false false false true false false done done (by omega)) Try.func31 rfl (by decide) [] [9] (l:=[(.tmp 33,slV false false (X5 false) done),(.tmp 38,Y3 9 (X5 false) 0 done.length)]) [(9,.live (Xe 78 (X5 false) done))] rfl 0 0 rfl rfl rfl rfl rfl rfl rfl rfl rfl ⟨.inl ⟨rfl,rfl⟩,⟨.inr (.inl ⟨rfl,Um,rfl,rfl,by simp,78,done.length,We (X5 false) done,List.Mem.head _,pe,fun i j=>by rw [Nat.zero_add]⟩),trivial⟩⟩ rfl pZ3 (.inr ⟨trivial,trivial⟩) (X8 rfl) trivial)] ?_
 refine T.ret ?_
 exact eRt 2 (.one (dB (decide (done=done)))) [0,1,2,3,4,5,6,7,8,9] p3u (ix (ix (ix (ix (ix (ix (ix (ix (ix (ix trivial))))))))))
theorem X3k (f:Int) (u:Int) (rows:List (Xw×Bool)) (L:List aE) (st:Int) (told:List (Int×Xd)) (ws:List X6) (done:List Xj) (E:aE) (hdl:done.length≤100000) (hEl:E.X9.length≤100000) (hEs:E.X4=1000):Holds Try.prog 10 ⟨[.tv (.agg [.ptr 0 0,.ptr 5 0,.ptr 2 0,.ptr 7 0])],[.box 99 [dI (3*f+1),dI u,.mref 1],mpK Xa Y5 rows,.box 82 [.ptr 0 0,dI 1000,dI st,.ptr 10 0,.mref 3,.own 4 (X5 false).sz 0 done.length],mpK (W0 .i64) (Xi false) told,Xe 78 (X5 false) done,.box 106 [dB true,dI f,dI u,.own 6 (kE false).sz 0 L.length],Xe 48 (kE false) L,.box 70 [.ptr 5 0,dI 1000,dI st,dB true,dI E.X4,dU E.X9,.own 8 (X0 false).sz 0 ws.length,.own 9 (X5 false).sz 0 done.length],Xe 116 (X0 false) ws,Xe 78 (X5 false) done,.box 48 [dI E.X4,dU E.X9]],vB true,[.live (.box 99 [dI (3*f+1),dI u,.mref 1]),.live (mpK Xa Y5 rows),.live (.box 82 [.ptr 0 0,dI 1000,dI st,.ptr 10 0,.mref 3,.own 4 (X5 false).sz 0 done.length]),.live (mpK (W0 .i64) (Xi false) told),.live (Xe 78 (X5 false) done),.live (.box 106 [dB true,dI f,dI u,.own 6 (kE false).sz 0 L.length]),.live (Xe 48 (kE false) L),.live (.box 70 [.ptr 5 0,dI 1000,dI st,dB true,dI E.X4,dU E.X9,.own 8 (X0 false).sz 0 ws.length,.own 9 (X5 false).sz 0 done.length]),.live (Xe 116 (X0 false) ws),.live (Xe 78 (X5 false) done),.live (.box 48 [dI E.X4,dU E.X9])]⟩:=by
 refine Holds.of Try.func10 rfl (N:=40) Try.ntmps10 rfl fun w0 B0 S0 U0=>?_
 show T _ (Xz 40 11 w0 S0 U0 B0) ⟨[.tv (.agg [.ptr 0 0,.ptr 5 0,.ptr 2 0,.ptr 7 0])],[.live (.box 99 [dI (3*f+1),dI u,.mref 1]),.live (mpK Xa Y5 rows),.live (.box 82 [.ptr 0 0,dI 1000,dI st,.ptr 10 0,.mref 3,.own 4 (X5 false).sz 0 done.length]),.live (mpK (W0 .i64) (Xi false) told),.live (Xe 78 (X5 false) done),.live (.box 106 [dB true,dI f,dI u,.own 6 (kE false).sz 0 L.length]),.live (Xe 48 (kE false) L),.live (.box 70 [.ptr 5 0,dI 1000,dI st,dB true,dI E.X4,dU E.X9,.own 8 (X0 false).sz 0 ws.length,.own 9 (X5 false).sz 0 done.length]),.live (Xe 116 (X0 false) ws),.live (Xe 78 (X5 false) done),.live (.box 48 [dI E.X4,dU E.X9])]⟩ _ _
 refine sR [] (sR [hR 2 rfl rfl (rCa (H2 f u rows 1000 st told done E (by omega)) Try.func12 [0,1,2,3,4,10] [(.tmp 7,pv 2 0)] 6 6)] (T.seq ?_))
 refine sD [[],[],[1],[1,2],[1,2,3],[1,2,3,4],[0,1,2,3,4,5],[0,1,2,3,4,5,6],[0,1,2,3,4,5,6,7],[0,1,2,3,4,5,6,7,8],[0,1,2,3,4,5,6,7,8,9],[0,1,2,3,4,5,6,7,8,9],[0,1,2,3,4,5,6,7,8,9,11],[0,1,2,3,4,5,6,7,8,9,11,12],[0,1,2,3,4,5,6,7,8,9,11,12,13],[0,1,2,3,4,5,6,7,8,9,11,12,13,14],[0,1,2,3,4,5,6,7,8,9,10,11,12,13,14,15],[0,1,2,3,4,5,6,7,8,9,10,11,12,13,14,15,16],[0,1,2,3,4,5,6,7,8,9,10,11,12,13,14,15,16,17],[0,1,2,3,4,5,6,7,8,9,10,11,12,13,14,15,16,17,18]] (hY 8 (show decide (true≠true)=false from dF (fun h=>h rfl))::(hY 9 (show decide (true≠true)=false from dF (fun h=>h rfl))::(Xl hY1 [10,11,12,13,14,15] (hS 16 (oY (b:=true) rfl rfl rfl rfl (X8 rfl) rfl (rCa (X1m false false (Yf 1000 E) E ) Try.func16 [] [(.tmp 21,.tv (.agg [dI (Yf 1000 E).X4,dU (Yf 1000 E).X9])),(.tmp 26,.tv (.agg [dI E.X4,dU E.X9]))] 0 0))::(hY1 17::(hS 18 (oY rfl rfl rfl rfl (X8 rfl) (show decide (true≠true)=false from dF (fun h=>h rfl)) (Yq (b:=true) (av:=vB (!(decide ((Yf 1000 E)=E)))) (X8 rfl) trivial rfl))::(hP 19 (show decide (true≠true)=false from dF (fun h=>h rfl))::[]))))))) ?_
 by_cases hq1:(Yf 1000 E)=E
 ·refine cF (cn (dT hq1)) (T.skip (nT ?_))
  refine sD [[],[0],[0,1],[],[3],[3,4],[3,4,5],[3,4,5,6],[0,1,2,3,4,5,6,7],[0,1,2,3,4,5,6,7,8]] [hR 2 rfl rfl (rCa (Uf f u rows 1000 st told done E (by omega)) Try.func13 [0,1,2,3,4,10] [(.tmp 32,pv 2 0)] 6 6),hR 8 rfl rfl (Wm (X60 false false false true false false done done (by omega)) Try.func31 rfl (by decide) [] [9] (l:=[(.tmp 33,slV false false (X5 false) done),(.tmp 38,Y3 9 (X5 false) 0 done.length)]) [(9,.live (Xe 78 (X5 false) done))] rfl 0 0 rfl rfl rfl rfl rfl rfl rfl rfl rfl ⟨.inl ⟨rfl,rfl⟩,⟨.inr (.inl ⟨rfl,Um,rfl,rfl,by simp,78,done.length,We (X5 false) done,List.Mem.head _,pe,fun i j=>by rw [Nat.zero_add]⟩),trivial⟩⟩ rfl pZ3 (.inr ⟨trivial,trivial⟩) (X8 rfl) trivial)] ?_
  refine T.ret ?_
  exact eRt 2 (.one (dB (decide (done=done)))) [0,1,2,3,4,5,6,7,8,9,10] p3u (ix (ix (ix (ix (ix (ix (ix (ix (ix (ix (ix trivial)))))))))))
 exact absurd (Xav hEs) hq1
theorem zero_44:Zero Try.prog 44 [.int .i64 0,.int .i64 0,.int .i64 0,.slice none 0 0,.int .i64 0,.int .i64 0,.int .i64 0,.int .i64 0,.int .i64 0,Ja [],.slice none 0 0,.int .i64 0,.int .i64 0,.slice none 0 0,.slice none 0 0,.slice none 0 0,.int .i64 0,.int .i64 0,.bool false]:=⟨_,_,Jr,rfl,rfl⟩
abbrev Zj4:AV:=slV false true kU8 [(111:UInt8),(112:UInt8)]
abbrev Zj5:=(Yh (Yi 1000 (0+1) [(111:UInt8),(112:UInt8)]))
abbrev Zj6:=(W2 (fOf 1) (cOf (max 1 1)) 1000 Zj5)
abbrev Zj7:AV:=slV false false (Y0 false) (Vb 1000 Zj6)
abbrev Zj8:List AV:=[vB false,pv 10 0,Zj7,vI 0]
abbrev Zj9:SV:=dI (cOf (max 1 1))
abbrev Zja:HS:=.live (.box 99 [dI (3*(fOf 1)+1),Zj9,.mref 1])
abbrev Zjb:SV:=dI 1000
abbrev Zjc:SV:=.own 4 (X5 false).sz 0 ([]:List Xj).length
abbrev Zjd:HS:=.live (mpK (W0 .i64) (Xi false) ([]:List (Int×Xd)))
abbrev Zje:HS:=.live (Xe 78 (X5 false) ([]:List Xj))
abbrev Zjf:SV:=dI (fOf 1)
abbrev Zjg:=(Wz (fOf 1) (cOf (max 1 1)) ([]:List aE) 1000 Zj5)
abbrev Zjh:SV:=.own 15 (X0 false).sz 0 ([]:List X6).length
abbrev Zji:SV:=.own 9 (X5 false).sz 0 ([]:List Xj).length
abbrev Zjj:List SV:=[.ptr 0 0,.ptr 5 0,.ptr 2 0,.ptr 7 0]
abbrev Zjk:HS:=.live (.box 31 Zjj)
abbrev Zjl:HS:=.live (Xe 116 (X0 false) ([]:List X6))
abbrev Zjm:List HS:=[Zja,.live (mpK Xa Y5 (Ik (fOf 1) (cOf (max 1 1)) ([]:List (Xw×Bool)) 1000 Zj5)),.live (.box 82 [.ptr 0 0,Zjb,dI (0+1),.ptr 12 0,.mref 3,Zjc]),Zjd,Zje,.live (.box 106 [dB true,Zjf,Zj9,.own 14 (kE false).sz 0 Zjg.length]),.dead,.live (.box 70 [.ptr 5 0,Zjb,dI (0+1),dB true,dI Zj6.X4,dU Zj6.X9,Zjh,Zji]),.dead,Zje,Zjk,.dead,.live (.box 48 [dI Zj6.X4,dU Zj6.X9]),.dead,.live (Xe 48 (kE false) Zjg),Zjl]
abbrev Zjn:HS:=.live (mpK Xa Y5 (Yt Hz))
abbrev Zjo:HS:=.live (.box 82 [.ptr 0 0,Zjb,dI 1,.ptr 12 0,.mref 3,Zjc])
abbrev Zjp:HS:=.live (.box 106 [dB true,Zjf,Zj9,.own 14 (kE false).sz 0 Hz.length])
abbrev Zjq:SV:=dI X78.X4
abbrev Zjr:SV:=dU X78.X9
abbrev Zjs:HS:=.live (.box 70 [.ptr 5 0,Zjb,dI 1,dB true,Zjq,Zjr,Zjh,Zji])
abbrev Zjt:HS:=.live (.box 48 [Zjq,Zjr])
abbrev Zju:HS:=.live (Xe 48 (kE false) Hz)
abbrev Zjv:List HS:=[Zja,Zjn,Zjo,Zjd,Zje,Zjp,.dead,Zjs,.dead,Zje,Zjk,.dead,Zjt,.dead,Zju,Zjl]
abbrev Zjw:List AV:=[vB false,pv 10 0,Zj7,vI 0,pv 16 0]
abbrev Zjx:SV:=.d (.val (.slice none 0 0))
abbrev Zjy:St:=⟨Zjw,[Zja,Zjn,Zjo,Zjd,Zje,Zjp,.dead,Zjs,.dead,Zje,Zjk,.dead,Zjt,.dead,Zju,Zjl,.live (.box 44 [dI 3,dI 0,dI 0,Zjx,dI 0,dI 0,dI 0,dI 0,dI 0,dS [],Zjx,dI 0,dI 0,Zjx,Zjx,Zjx,dI 0,dI 2,dB false])]⟩
abbrev Zjz:List HS:=[Zja,Zjn,Zjo,Zjd,Zje,Zjp,.dead,Zjs,.dead,Zje,Zjk,.dead,Zjt,.dead,Zju,Zjl,.live (.box 44 [dI 3,dI 0,dI 0,dU ([]:List UInt8),dI 0,dI 0,dI 0,dI 0,dI 0,dS [],dU ([]:List UInt8),dI 0,dI 0,.d (dsl false false (kE false) ([]:List aE)),.d (dsl false false (kE false) ([]:List aE)),.d (dsl false false (kC false) ([]:List aC)),dI 0,dI 2,dB false])]
abbrev Zk0:List SV:=[dI (Y8 0).X3,dI (Y8 0).X4,dI (Y8 0).Wv,dU (Y8 0).Ys,dI (Y8 0).Ya.X3,dI (Y8 0).Ya.Xt,dI (Y8 0).Ya.Xy,dI (Y8 0).Ya.Xb,dI (Y8 0).Ya.Xv,dS (Y8 0).Ya.Xc,dU (Y8 0).Ya.Xk,dI (Y8 0).Ya.X1.Xs,dI (Y8 0).Ya.X1.Xo,.d (dsl false false (kE false) (Y8 0).Ya.Xf),.d (dsl false false (kE false) (Y8 0).Ya.Xr),.d (dsl false false (kC false) (Y8 0).Ya.X7),dI (Y8 0).X1.Xs,dI (Y8 0).X1.Xo,dB (Y8 0).Yn]
abbrev Zk1:HS:=.live (.box 44 Zk0)
abbrev Zk2:List HS:=[Zja,Zjn,Zjo,Zjd,Zje,Zjp,.dead,Zjs,.dead,Zje,Zjk,.dead,Zjt,.dead,Zju,Zjl,Zk1]
abbrev Zk3:=(Yj (fOf 1) (cOf (max 1 1)) Hz (Y8 0) 1)
abbrev Zk4:=(Wu (fOf 1) (cOf (max 1 1)) Hz 1 ([]:List X6) (Y8 0))
abbrev Zk5:List HS:=[Zja,.live (mpK Xa Y5 (Yt Zk3)),Zjo,.live (mpK (W0 .i64) (Xi false) (V0 (fOf 1) (cOf (max 1 1)) Hz 1 ([]:List (Int×Xd)) (Y8 0))),Zje,.live (.box 106 [dB true,Zjf,Zj9,.own 17 (kE false).sz 0 Zk3.length]),.dead,.live (.box 70 [.ptr 5 0,Zjb,dI 1,dB true,Zjq,Zjr,.own 18 (X0 false).sz 0 Zk4.length,Zji]),.dead,Zje,Zjk,.dead,Zjt,.dead,.dead,.dead,Zk1,.live (Xe 48 (kE false) Zk3),.live (Xe 116 (X0 false) Zk4)]
abbrev Zk6:List HS:=[Zja,.live (mpK Xa Y5 (Yt Hy)),Zjo,.live (mpK (W0 .i64) (Xi false) X4c),Zje,.live (.box 106 [dB true,Zjf,Zj9,.own 17 (kE false).sz 0 Hy.length]),.dead,.live (.box 70 [.ptr 5 0,Zjb,dI 1,dB true,Zjq,Zjr,.own 18 (X0 false).sz 0 X76.length,Zji]),.dead,Zje,Zjk,.dead,Zjt,.dead,.dead,.dead,Zk1,.live (Xe 48 (kE false) Hy),.live (Xe 116 (X0 false) X76)]
abbrev Zk7:=(Yj (fOf 1) (cOf (max 1 1)) Hy (Y8 0) 1)
abbrev Zk8:=(Wu (fOf 1) (cOf (max 1 1)) Hy 1 X76 (Y8 0))
abbrev Zk9:List HS:=[Zja,.live (mpK Xa Y5 (Yt Zk7)),Zjo,.live (mpK (W0 .i64) (Xi false) (V0 (fOf 1) (cOf (max 1 1)) Hy 1 X4c (Y8 0))),Zje,.live (.box 106 [dB true,Zjf,Zj9,.own 19 (kE false).sz 0 Zk7.length]),.dead,.live (.box 70 [.ptr 5 0,Zjb,dI 1,dB true,Zjq,Zjr,.own 20 (X0 false).sz 0 Zk8.length,Zji]),.dead,Zje,Zjk,.dead,Zjt,.dead,.dead,.dead,Zk1,.dead,.dead,.live (Xe 48 (kE false) Zk7),.live (Xe 116 (X0 false) Zk8)]
abbrev Zka:HS:=.live (mpK Xa Y5 (Yt X1e))
abbrev Zkb:HS:=.live (mpK (W0 .i64) (Xi false) X77)
abbrev Zkc:HS:=.live (.box 106 [dB true,Zjf,Zj9,.own 19 (kE false).sz 0 X1e.length])
abbrev Zkd:HS:=.live (.box 70 [.ptr 5 0,Zjb,dI 1,dB true,Zjq,Zjr,.own 20 (X0 false).sz 0 Xbw.length,Zji])
abbrev Zke:HS:=.live (Xe 48 (kE false) X1e)
abbrev Zkf:HS:=.live (Xe 116 (X0 false) Xbw)
abbrev Zkg:List HS:=[Zja,Zka,Zjo,Zkb,Zje,Zkc,.dead,Zkd,.dead,Zje,Zjk,.dead,Zjt,.dead,.dead,.dead,Zk1,.dead,.dead,Zke,Zkf]
abbrev Zkh:List AV:=[vB false,pv 10 0,Zj7,vI 0,pv 16 0,vB (decide (((([]:List Xj).length:Nat):Int)=0))]
abbrev Zki:List HS:=[Zja,Zka,Zjo,Zkb,Zje,Zkc,.dead,Zkd,.dead,Zje,Zjk,.dead,Zjt,.dead,.dead,.dead,.live (.box 44 [dI (Y8 0).X3,dI 1,dI (Y8 0).Wv,dU (Y8 0).Ys,dI (Y8 0).Ya.X3,dI (Y8 0).Ya.Xt,dI (Y8 0).Ya.Xy,dI (Y8 0).Ya.Xb,dI (Y8 0).Ya.Xv,dS (Y8 0).Ya.Xc,dU (Y8 0).Ya.Xk,dI (Y8 0).Ya.X1.Xs,dI (Y8 0).Ya.X1.Xo,.d (dsl false false (kE false) (Y8 0).Ya.Xf),.d (dsl false false (kE false) (Y8 0).Ya.Xr),.d (dsl false false (kC false) (Y8 0).Ya.X7),dI (Y8 0).X1.Xs,dI (Y8 0).X1.Xo,dB (Y8 0).Yn]),.dead,.dead,Zke,Zkf]
abbrev Zkj:List SV:=[dI (Y8 1).X3,dI (Y8 1).X4,dI (Y8 1).Wv,dU (Y8 1).Ys,dI (Y8 1).Ya.X3,dI (Y8 1).Ya.Xt,dI (Y8 1).Ya.Xy,dI (Y8 1).Ya.Xb,dI (Y8 1).Ya.Xv,dS (Y8 1).Ya.Xc,dU (Y8 1).Ya.Xk,dI (Y8 1).Ya.X1.Xs,dI (Y8 1).Ya.X1.Xo,.d (dsl false false (kE false) (Y8 1).Ya.Xf),.d (dsl false false (kE false) (Y8 1).Ya.Xr),.d (dsl false false (kC false) (Y8 1).Ya.X7),dI (Y8 1).X1.Xs,dI (Y8 1).X1.Xo,dB (Y8 1).Yn]
abbrev Zkk:List HS:=[Zja,Zka,Zjo,Zkb,Zje,Zkc,.dead,Zkd,.dead,Zje,Zjk,.dead,Zjt,.dead,.dead,.dead,.live (.box 44 Zkj),.dead,.dead,Zke,Zkf]
theorem Ux:Holds Try.prog 11 ⟨[],[],vB true,[]⟩:=by
 refine Holds.of Try.func11 rfl (N:=72) Try.ntmps11 rfl fun w0 B0 S0 U0=>?_
 show T _ (Xz 72 0 w0 S0 U0 B0) ⟨[],[]⟩ _ _
 have hcl:Yr (cOf (max 1 1)) 1000:=Hc 1
 have hff:0≤fOf 1∧fOf 1≤2:=X3o 1
 have hff1:=hff.1
 have hff2:=hff.2
 have huu:0≤cOf (max 1 1)∧cOf (max 1 1)≤8:=X3t (max 1 1)
 obtain ⟨hl1,hl2,hl3,hl4,hl5,hl6,hl7,hl8⟩:=aw_len18
 obtain ⟨hd1,hd2,hd3⟩:=aw_dec18
 obtain ⟨hr1,hr2⟩:=aw_rel18
 have hr0:Vj ([]:List (Int×Xd)) ([]:List X6):=X0l
 obtain ⟨hy0,hf0⟩:=Xek 0 (by unfold Un;omega)
 obtain ⟨hy1,hf1⟩:=Xek 1 (by unfold Un;omega)
 refine sR [] (sR [hR 1 rfl rfl (rCa (Hw (Yx.mk 1 1) ) Try.func8 [0,1,2,3,4,5,6,7,8,9] [(.tmp 7,.tv (.agg [dI 1,dI 1]))] 0 10)] ?_)
 by_cases hq1:(([(111:UInt8),(112:UInt8)].length:Nat):Int)>4096
 ·exact absurd hq1 (by decide)
 refine sR [hR 2 rfl rfl (Yd 11 5 kU8 Vc [(111:UInt8),(112:UInt8)] [⟨0,.const (.int .u8 111),.one (.d (.val (.int .u8 111))),0⟩,⟨1,.const (.int .u8 112),.one (.d (.val (.int .u8 112))),1⟩] (cs:=[.d (.val (.int .u8 111)),.d (.val (.int .u8 112))]) Try.underlying34 Ut rfl I4 rfl rfl rfl pf (Ws rfl rfl pf (Ws rfl rfl pf Wn)) pZ4 (Vz pZ4) (X8 rfl) ⟨rfl,⟨rfl,trivial⟩⟩),hR 3 rfl rfl (X8c 11 5 kU8 [(111:UInt8),(112:UInt8)] Try.underlying34 Try.underlying5 (by decide) (X8 rfl) trivial),hR 4 rfl rfl (rCa (X1a (fOf 1) (cOf (max 1 1)) ([]:List (Xw×Bool)) 1000 0 ([]:List (Int×Xd)) ([]:List Xj) false true [(111:UInt8),(112:UInt8)] ‹_› ‹_› (by omega) (by omega) ‹_›) Try.func20 [0,1,2,3,4,12] [(.tmp 11,pv 2 0),(.tmp 13,Zj4)] 5 6)] ?_
 refine sR [hR 2 rfl rfl (Yd 13 5 kU8 Vc [(111:UInt8),(112:UInt8)] [⟨0,.const (.int .u8 111),.one (.d (.val (.int .u8 111))),0⟩,⟨1,.const (.int .u8 112),.one (.d (.val (.int .u8 112))),1⟩] (cs:=[.d (.val (.int .u8 111)),.d (.val (.int .u8 112))]) Try.underlying34 Ut rfl I4 rfl rfl rfl pf (Ws rfl rfl pf (Ws rfl rfl pf Wn)) pZ4 (Vz pZ4) (X8 rfl) ⟨rfl,⟨rfl,trivial⟩⟩),hR 3 rfl rfl (X8c 13 5 kU8 [(111:UInt8),(112:UInt8)] Try.underlying34 Try.underlying5 (by decide) (X8 rfl) trivial),hR 4 rfl rfl (rCa (X2d (fOf 1) (cOf (max 1 1)) ([]:List aE) 1000 0 zE ([]:List X6) ([]:List Xj) false true [(111:UInt8),(112:UInt8)] ‹_› ‹_› (by omega) (by omega) (by (simp [maxLen,-List.getD_eq_getElem?_getD]<;>omega)) ‹_›) Try.func24 [5,6,7,8,9,14,15] [(.tmp 18,pv 7 0),(.tmp 20,Zj4)] 5 7)] ?_
 refine tN ⟨Zj8,Zjm⟩ ?_
 refine Vh (s':=⟨Zj8,Zjv⟩) (fun _ _ hG=>Wp [0,1,2,3,4,5,23,7,32,9,10,44,12,58,14,15] (bm 4 15) (h1:=Zjv) (h2:=Zjm) (t1:=Zj8) rfl (cg9 (fun (q1:List (Xw×Bool)) (q2:Int) (q3:Nat) (q4:Int) (q5:Int) (q6:List UInt8) (q7:Int) (q8:List UInt8) (q9:List aE)=>([Zja,.live (mpK Xa Y5 q1),.live (.box 82 [.ptr 0 0,Zjb,dI q2,.ptr 12 0,.mref 3,Zjc]),Zjd,Zje,.live (.box 106 [dB true,Zjf,Zj9,.own 14 (kE false).sz 0 q3]),.dead,.live (.box 70 [.ptr 5 0,Zjb,dI q4,dB true,dI q5,dU q6,Zjh,Zji]),.dead,Zje,Zjk,.dead,.live (.box 48 [dI q7,dU q8]),.dead,.live (Xe 48 (kE false) q9),Zjl]:List HS)) (by rfl) (by rfl) (by rfl) (by rfl) (by rfl) (by rfl) (by rfl) (by rfl) (by rfl)) hG) (sR [] ?_)
 by_cases hq2:It (fOf 1) (cOf (max 1 1)) Hz 1 ([]:List (Int×Xd)) (Y8 0)
 ·exact absurd hq2 hd1
 refine tN Zjy ?_
 refine Vh (s':=⟨Zjw,Zjz⟩) (fun _ _ hG=>W7 (s:=Zjy) ⟨.inl rfl,(kk4 trivial)⟩ (X6p ⟨(.inr ⟨rfl,⟨.inl rfl,(kk2 ⟨pZ9,(kk2 (kk4 ⟨pZ9,(kk2 ⟨pZ9,⟨pZ9,⟨pZ9,⟨.inl rfl,(kk2 trivial)⟩⟩⟩⟩)⟩))⟩)⟩⟩),trivial⟩) hG) ?_
 refine Vh (s':=⟨Zjw,Zk2⟩) (fun _ _ hG=>Wp [0,1,2,3,4,5,24,7,33,9,10,45,12,59,14,15,16] (bm 5 31) (h1:=Zk2) (h2:=Zjz) (t1:=Zjw) rfl (by have e1:((Y8 0).X3:Int)=3:=(by rfl);have e2:((Y8 0).X4:Int)=0:=(by rfl);have e3:((Y8 0).Wv:Int)=0:=(by rfl);have e4:((Y8 0).Ys:List UInt8)=([]:List UInt8):=(by rfl);have e5:((Y8 0).Ya.X3:Int)=0:=(by rfl);have e6:((Y8 0).Ya.Xt:Int)=0:=(by rfl);have e7:((Y8 0).Ya.Xy:Int)=0:=(by rfl);have e8:((Y8 0).Ya.Xb:Int)=0:=(by rfl);have e9:((Y8 0).Ya.Xv:Int)=0:=(by rfl);have e10:((Y8 0).Ya.Xc:List UInt8)=[]:=(by rfl);have e11:((Y8 0).Ya.Xk:List UInt8)=([]:List UInt8):=(by rfl);have e12:((Y8 0).Ya.X1.Xs:Int)=0:=(by rfl);have e13:((Y8 0).Ya.X1.Xo:Int)=0:=(by rfl);have e14:((Y8 0).Ya.Xf:List aE)=([]:List aE):=(by rfl);have e15:((Y8 0).Ya.Xr:List aE)=([]:List aE):=(by rfl);have e16:((Y8 0).Ya.X7:List aC)=([]:List aC):=(by rfl);have e17:((Y8 0).X1.Xs:Int)=0:=(by rfl);have e18:((Y8 0).X1.Xo:Int)=2:=(by rfl);have e19:((Y8 0).Yn:Bool)=false:=(by rfl);have hE:=congr (congr (congr (congr (congr (congr (congr (congr (congr (congr (congr (congr (congr (congr (congr (congr (congr (congr (congrArg (fun (q1:Int) (q2:Int) (q3:Int) (q4:List UInt8) (q5:Int) (q6:Int) (q7:Int) (q8:Int) (q9:Int) (q10:List UInt8) (q11:List UInt8) (q12:Int) (q13:Int) (q14:List aE) (q15:List aE) (q16:List aC) (q17:Int) (q18:Int) (q19:Bool)=>([Zja,Zjn,Zjo,Zjd,Zje,Zjp,.dead,Zjs,.dead,Zje,Zjk,.dead,Zjt,.dead,Zju,Zjl,.live (.box 44 [dI q1,dI q2,dI q3,dU q4,dI q5,dI q6,dI q7,dI q8,dI q9,dS q10,dU q11,dI q12,dI q13,.d (dsl false false (kE false) q14),.d (dsl false false (kE false) q15),.d (dsl false false (kC false) q16),dI q17,dI q18,dB q19])]:List HS)) e1) e2) e3) e4) e5) e6) e7) e8) e9) e10) e11) e12) e13) e14) e15) e16) e17) e18) e19;exact hE) hG) ?_
 refine sR [hR 2 rfl rfl (rCa (Fv (fOf 1) (cOf (max 1 1)) (Yt Hz) Hz 1 ([]:List (Int×Xd)) ([]:List X6) ([]:List Xj) X78 (Y8 0) ‹_› ‹_› (by rfl) (by omega) (by omega) (by (simp [maxLen,-List.getD_eq_getElem?_getD]<;>omega)) (by (simp [maxLen,-List.getD_eq_getElem?_getD]<;>omega)) (by (simp [maxLen,-List.getD_eq_getElem?_getD]<;>omega)) ‹_› ‹_› ‹_› ‹_› (by omega) ‹_›) Try.func9 [0,1,2,3,4,5,14,7,15,9,12,17,18] [(.tmp 24,.tv (.agg Zjj)),(.tmp 25,.tv (.agg Zk0))] 11 13)] ?_
 by_cases hq3:It (fOf 1) (cOf (max 1 1)) Hy 1 X4c (Y8 0)
 ·exact absurd hq3 hd2
 refine tN ⟨Zjw,Zk5⟩ ?_
 refine Vh (s':=⟨Zjw,Zk6⟩) (fun _ _ hG=>Wp [0,1,2,3,4,5,26,7,35,9,10,47,12,61,76,92,16,17,18] (bm 5 31) (h1:=Zk6) (h2:=Zk5) (t1:=Zjw) rfl (cg6 (fun (q1:List (Xw×Bool)) (q2:List (Int×Xd)) (q3:Nat) (q4:Nat) (q5:List aE) (q6:List X6)=>([Zja,.live (mpK Xa Y5 q1),Zjo,.live (mpK (W0 .i64) (Xi false) q2),Zje,.live (.box 106 [dB true,Zjf,Zj9,.own 17 (kE false).sz 0 q3]),.dead,.live (.box 70 [.ptr 5 0,Zjb,dI 1,dB true,Zjq,Zjr,.own 18 (X0 false).sz 0 q4,Zji]),.dead,Zje,Zjk,.dead,Zjt,.dead,.dead,.dead,Zk1,.live (Xe 48 (kE false) q5),.live (Xe 116 (X0 false) q6)]:List HS)) (by rfl) (by rfl) (by rfl) (by rfl) (by rfl) (by rfl)) hG) ?_
 refine sR [hR 2 rfl rfl (rCa (Fv (fOf 1) (cOf (max 1 1)) (Yt Hy) Hy 1 X4c X76 ([]:List Xj) X78 (Y8 0) ‹_› ‹_› (by rfl) (by omega) (by omega) (by omega) (by omega) (by (simp [maxLen,-List.getD_eq_getElem?_getD]<;>omega)) ‹_› ‹_› ‹_› ‹_› (by omega) ‹_›) Try.func9 [0,1,2,3,4,5,17,7,18,9,12,19,20] [(.tmp 27,.tv (.agg Zjj)),(.tmp 28,.tv (.agg Zk0))] 11 13)] ?_
 refine tN ⟨Zjw,Zk9⟩ ?_
 refine Vh (s':=⟨Zjw,Zkg⟩) (fun _ _ hG=>Wp [0,1,2,3,4,5,28,7,37,9,10,49,12,63,78,94,16,112,131,19,20] (bm 5 31) (h1:=Zkg) (h2:=Zk9) (t1:=Zjw) rfl (cg6 (fun (q1:List (Xw×Bool)) (q2:List (Int×Xd)) (q3:Nat) (q4:Nat) (q5:List aE) (q6:List X6)=>([Zja,.live (mpK Xa Y5 q1),Zjo,.live (mpK (W0 .i64) (Xi false) q2),Zje,.live (.box 106 [dB true,Zjf,Zj9,.own 19 (kE false).sz 0 q3]),.dead,.live (.box 70 [.ptr 5 0,Zjb,dI 1,dB true,Zjq,Zjr,.own 20 (X0 false).sz 0 q4,Zji]),.dead,Zje,Zjk,.dead,Zjt,.dead,.dead,.dead,Zk1,.dead,.dead,.live (Xe 48 (kE false) q5),.live (Xe 116 (X0 false) q6)]:List HS)) (by rfl) (by rfl) (by rfl) (by rfl) (by rfl) (by rfl)) hG) ?_
 refine sR [hR 2 rfl rfl (rCa (Uf (fOf 1) (cOf (max 1 1)) (Yt X1e) 1000 1 X77 ([]:List Xj) X78 (by (simp [maxLen,-List.getD_eq_getElem?_getD]<;>omega))) Try.func13 [0,1,2,3,4,12] [(.tmp 31,pv 2 0)] 6 6)] ?_
 refine sR [] ?_
 by_cases hq4:It (fOf 1) (cOf (max 1 1)) X1e 1 X77 (Y8 1)
 ·refine tN ⟨Zkh,Zki⟩ ?_
  refine Vh (s':=⟨Zkh,Zkk⟩) (fun _ _ hG=>Wp [0,1,2,3,4,5,28,7,37,9,10,49,12,63,78,94,16,112,131,19,20] (bm 6 63) (h1:=Zkk) (h2:=Zki) (t1:=Zkh) rfl (by have e1:((Y8 1).X3:Int)=(Y8 0).X3:=(by rfl);have e2:((Y8 1).X4:Int)=1:=(by rfl);have e3:((Y8 1).Wv:Int)=(Y8 0).Wv:=(by rfl);have e4:((Y8 1).Ys:List UInt8)=(Y8 0).Ys:=(by rfl);have e5:((Y8 1).Ya.X3:Int)=(Y8 0).Ya.X3:=(by rfl);have e6:((Y8 1).Ya.Xt:Int)=(Y8 0).Ya.Xt:=(by rfl);have e7:((Y8 1).Ya.Xy:Int)=(Y8 0).Ya.Xy:=(by rfl);have e8:((Y8 1).Ya.Xb:Int)=(Y8 0).Ya.Xb:=(by rfl);have e9:((Y8 1).Ya.Xv:Int)=(Y8 0).Ya.Xv:=(by rfl);have e10:((Y8 1).Ya.Xc:List UInt8)=(Y8 0).Ya.Xc:=(by rfl);have e11:((Y8 1).Ya.Xk:List UInt8)=(Y8 0).Ya.Xk:=(by rfl);have e12:((Y8 1).Ya.X1.Xs:Int)=(Y8 0).Ya.X1.Xs:=(by rfl);have e13:((Y8 1).Ya.X1.Xo:Int)=(Y8 0).Ya.X1.Xo:=(by rfl);have e14:((Y8 1).Ya.Xf:List aE)=(Y8 0).Ya.Xf:=(by rfl);have e15:((Y8 1).Ya.Xr:List aE)=(Y8 0).Ya.Xr:=(by rfl);have e16:((Y8 1).Ya.X7:List aC)=(Y8 0).Ya.X7:=(by rfl);have e17:((Y8 1).X1.Xs:Int)=(Y8 0).X1.Xs:=(by rfl);have e18:((Y8 1).X1.Xo:Int)=(Y8 0).X1.Xo:=(by rfl);have e19:((Y8 1).Yn:Bool)=(Y8 0).Yn:=(by rfl);have hE:=congr (congr (congr (congr (congr (congr (congr (congr (congr (congr (congr (congr (congr (congr (congr (congr (congr (congr (congrArg (fun (q1:Int) (q2:Int) (q3:Int) (q4:List UInt8) (q5:Int) (q6:Int) (q7:Int) (q8:Int) (q9:Int) (q10:List UInt8) (q11:List UInt8) (q12:Int) (q13:Int) (q14:List aE) (q15:List aE) (q16:List aC) (q17:Int) (q18:Int) (q19:Bool)=>([Zja,Zka,Zjo,Zkb,Zje,Zkc,.dead,Zkd,.dead,Zje,Zjk,.dead,Zjt,.dead,.dead,.dead,.live (.box 44 [dI q1,dI q2,dI q3,dU q4,dI q5,dI q6,dI q7,dI q8,dI q9,dS q10,dU q11,dI q12,dI q13,.d (dsl false false (kE false) q14),.d (dsl false false (kE false) q15),.d (dsl false false (kC false) q16),dI q17,dI q18,dB q19]),.dead,.dead,Zke,Zkf]:List HS)) e1) e2) e3) e4) e5) e6) e7) e8) e9) e10) e11) e12) e13) e14) e15) e16) e17) e18) e19;exact hE) hG) ?_
  refine sR [hR 2 rfl rfl (rCa (X1t (fOf 1) (cOf (max 1 1)) (Yt X1e) X1e 1 X77 Xbw ([]:List Xj) X78 (Y8 1) ‹_› ‹_› (by rfl) (by omega) (by omega) (by omega) (by omega) (by (simp [maxLen,-List.getD_eq_getElem?_getD]<;>omega)) ‹_› ‹_› ‹_› ‹_› (by omega) ‹_›) Try.func9 [0,1,2,3,4,5,19,7,20,9,12,21,22,23,24] [(.tmp 36,.tv (.agg Zjj)),(.tmp 37,.tv (.agg Zkj))] 11 15)] ?_
  refine sR [hR 2 rfl rfl (rCa (J5 (fOf 1) (cOf (max 1 1)) (Yt (Yj (fOf 1) (cOf (max 1 1)) X1e (Y8 1) 1)) 1000 1 ([]:List (Int×Xd)) (([]:List Xj)++[(Ua 1 (Y8 1))]) (by (simp [maxLen,-List.getD_eq_getElem?_getD]<;>omega))) Try.func13 [0,1,2,3,23] [(.tmp 40,pv 2 0)] 5 5)] ?_
  by_cases hq5:(((Vb 1000 (W2 (fOf 1) (cOf (max 1 1)) 1000 (Yh (Yi 1000 (0+1) [(111:UInt8),(112:UInt8)])))).length:Nat):Int)=1
  ·by_cases hq6:((Vb 1000 (W2 (fOf 1) (cOf (max 1 1)) 1000 (Yh (Yi 1000 (0+1) [(111:UInt8),(112:UInt8)])))).getD 0 Yv).f_To=(-1)
   ·by_cases hq7:((([]:List Xj).length:Nat):Int)=0
    ·by_cases hq8:(((([]:List Xj)++[(Ua 1 (Y8 1))]).length:Nat):Int)=1
     ·refine sR (Xl hY1 [3,4,5] (hP1 6::(hY 8 (dT hq5)::(hS 9 (oY rfl rfl rfl rfl (X8 rfl) (dT hq5) (Wc false false (Y0 false) (Vb 1000 (W2 (fOf 1) (cOf (max 1 1)) 1000 (Yh (Yi 1000 (0+1) [(111:UInt8),(112:UInt8)])))) 0 (k:=.i64) (i:=0) Try.underlying57 Fa rfl rfl (by omega) (X8 rfl) ⟨rfl,trivial⟩))::(Xl (hY · (dT hq5)) [10,11,12] (hP 13 (dT hq5)::(hY 15 (dT hq6)::(hP 16 (dT hq6)::(Xl (hY · (dT hq7)) [18,19,20] (hP 21 (dT hq7)::(hY 23 (dT hq8)::(hS 24 (oY rfl rfl rfl rfl (X8 rfl) (dT hq8) (Wc false false (X5 false) (([]:List Xj)++[(Ua 1 (Y8 1))]) 0 (k:=.i64) (i:=0) Try.underlying51 Fx rfl rfl (by omega) (X8 rfl) ⟨rfl,trivial⟩))::(Xl (hY · (dT hq8)) [25,26,27,28] (hP 29 (dT hq8)::[])))))))))))))) (T.ret ?_)
      exact eRt 0 (.one (dB (decide (((([]:List Xj)++[(Ua 1 (Y8 1))]).getD 0 Yl).X1.Xo=2)))) [] (cB (by rfl)) trivial
     exact absurd (by rfl) hq8
    exact absurd (by rfl) hq7
   exact absurd (by rfl) hq6
  exact absurd (by rfl) hq5
 exact absurd hd3 hq4
end Go.Proofs.Ythnefnknoahbkaa.Q
namespace Go.Proofs.Ythnefnknoahbkaa.Q
set_option linter.unusedVariables false
set_option linter.unusedSimpArgs false
set_option maxRecDepth 100000
theorem Xff (l:List aE) (e:aE):e∈X39 l e:=by
  unfold X39;split
  · assumption
  · simp
theorem putL_mem {l:List aE} {e x:aE} (h:x∈l):x∈X39 l e:=by
  unfold X39;split
  · exact h
  · exact List.mem_append_left _ h
theorem Xf1 {f u s:Int} {l:List aE} {b:List UInt8} {x:aE} (h:x∈l):x∈Wz f u l s b:=by
  unfold Wz;split
  · exact putL_mem h
  · exact h
section
variable {f u st:Int} {L:List aE} {y:Xn} {x E:aE}
theorem X89 (h:x∈L):x∈Yj f u L y st:=by
  unfold Yj;split
  · unfold Wh;split
    · exact h
    · exact Xf1 h
  · exact h
theorem Xc4 (h:Yr u 1000) (hs:Ef y):Wt f u y st∈U9 f u L y st:=by
  have h1:=Fg 1000 (st+1) y.Ys hs.2
  have h2:Ix f u 1000 (Yh (Yi 1000 (st+1) y.Ys))=0:=by
    unfold Ix;rw [if_pos (.inr h),if_neg (by omega)]
  rw [X35 h hs]
  unfold U9 Wz;rw [if_pos h2]
  exact Xff _ _
theorem X8t (h:Yr u 1000) (hE:E.X4=1000) (hm:E∈L):Wy f u (Yt L) (Yf 1000 E)=0:=by
  rw [X8u,Xav hE]
  unfold Wr
  rw [hE,if_pos (.inr h),if_pos hm]
def X0s (E:aE) (st:Int):Prop:=E0 (Yf 1000 E).X9=0∧(Y6 (Yf 1000 E).X9).X3=1∧(Y6 (Yf 1000 E).X9).Xv=st
theorem Xca {st:Int} {b:List UInt8} (hs:1≤st∧st≤1000000) (h:¬((b.length:Nat):Int)>4096):Hd (Yi 1000 st b):=by
  unfold Hd
  have e1:Y4 1=⟨20,0,1,7⟩:=rfl
  simp only [Yi,e1]
  refine ⟨by unfold okK;omega,?_,?_,?_,?_,?_,?_,?_,?_,?_,.inr rfl,.inr (by omega),.inl (by decide),fun c hc=>by cases hc⟩
  · unfold inM;rw [if_pos (by decide)];omega
  · unfold inM;rw [if_pos (by decide)];omega
  · unfold inM;rw [if_neg (by decide)];omega
  · unfold inM;rw [if_neg (by decide)];omega
  · unfold inM;rw [if_pos (by decide)];decide
  · unfold inM;rw [if_pos (by decide)];decide
  · unfold inM;rw [if_pos (by decide)];decide
  · unfold inM;rw [if_pos (by decide)];decide
  · unfold inM;rw [if_neg (by decide)];omega
theorem Xcb {st:Int} {b:List UInt8} (hs:1≤st∧st≤1000000) (h:¬((b.length:Nat):Int)>4096):Y6 (Yh (Yi 1000 st b))=Yi 1000 st b∧E0 (Yh (Yi 1000 st b))=0:=by
  have hw:=Xca hs h
  have hl:=X38 1000 st b h
  refine dec_back hw (by omega) (rng_of hw (by unfold Un;simp [Yi]) (by unfold Un;simp [Yi]) (by omega) (fun e he=>by cases he) (fun e he=>by cases he) (fun e he=>by cases he))
theorem Xc5 (h:Yr u 1000) (hs:Ef y) (h1:0≤st∧st≤100000):X0s (Wt f u y st) (st+1):=by
  obtain ⟨a,b⟩:=Xcb (st:=st+1) (b:=y.Ys) (by omega) hs.2
  unfold X0s
  rw [X35 h hs]
  exact ⟨b,by rw [show (Yf 1000 ⟨1000,Yh (Yi 1000 (st+1) y.Ys)⟩).X9=Yh (Yi 1000 (st+1) y.Ys) from rfl,a],by rw [show (Yf 1000 ⟨1000,Yh (Yi 1000 (st+1) y.Ys)⟩).X9=Yh (Yi 1000 (st+1) y.Ys) from rfl,a]⟩
theorem snoc_len {α:Type} (l:List α) (x:α):(((l++[x]).length:Nat):Int)=((l.length:Nat):Int)+1:=by
  rw [List.length_append];simp
theorem X3e {id:Int}:Yr (cOf 2) id↔¬(id<1000∨id>1001):=by
  have:cOf 2=2:=rfl
  rw [this];unfold Yr;omega
end
end Go.Proofs.Ythnefnknoahbkaa.Q
namespace Go.Proofs.Ythnefnknoahbkaa.Q
set_option linter.unusedVariables false
set_option linter.unusedSimpArgs false
section
variable {P:Program}
def Xbd {H:Type} (P:Program) (t:TypeId) (d:DataW H):Prop:=∀ n,n∈d.weights P t→n≤reachBytes
def RdS {α:Type} (P:Program) (t:TypeId) (K:Kd α) (ok:α→Prop):Prop :=
  ∀ (H:Type) (enc:TypeId×Value→H) (w:World) (base:Nat) (sp:Nat→Bool) (held:Bool) (fuel:Nat) (cs:List Value) (x:DataW H×List MemPlace),DataW.trod enc P w base sp held fuel t cs=some x→Xbd P t x.1→∃ a:α,ok a∧X0w w K a cs
theorem Rd.s {α:Type} {t:TypeId} {K:Kd α} {ok:α→Prop} (h:Rd P t K ok):RdS P t K ok:=fun H enc w base sp held fuel cs x hx _=>h H enc w base sp held fuel cs x hx
theorem Ew {H:Type} {e:TypeId} {n:Nat}:∀ {l:List (DataW H)} {i:Nat} {d:DataW H},l[i]?=some d→n∈d.weights P e→n∈DataW.weightsAll P e l
  | a::l,0,d,h,hn=>by
    simp only [List.getElem?_cons_zero,Option.some.injEq] at h
    subst h
    simp only [DataW.weightsAll,List.mem_append]
    exact .inl hn
  | a::l,i+1,d,h,hn=>by
    simp only [List.getElem?_cons_succ] at h
    simp only [DataW.weightsAll,List.mem_append]
    exact .inr (Ew h hn)
  | [],_,_,h,_=>by simp at h
theorem J8 {α:Type} {t e:TypeId} {K:Kd α} {ok:α→Prop} (ht:P.underlying t=some (.slice e)) (hc:P.cellsOf e=K.sz) (hK:0<K.sz) (hb:0<P.bytesOf e) (h:RdS P e K ok):RdS P t (kSl false K) (fun xs=>xs.length≤reachBytes∧∀ x,x∈xs→ok x):=fun H enc w base sp held fuel cs x hx hfit=>by
  have mk:∀ (xs:List α) (u:Value),cs=[u]→dOk (inW w) (inW w) w (dsl false false K xs) u→X0w w (kSl false K) xs cs:=fun xs u e hd=>⟨by rw [e];rfl,fun j hj=>by
    have hj:j<1:=hj
    obtain rfl:j=0:=by omega
    exact ⟨u,by rw [e];rfl,hd⟩⟩
  rcases DataW.trod_slice ht hx with ⟨hcs,_⟩|⟨a,len,cap,elems,rest,n,_,hcs,hxx,hb2,hl,hm,hlen,hel,_,_⟩
  · exact ⟨[],⟨by simp,fun x hx=>by cases hx⟩,mk [] _ hcs ⟨none,0,rfl,Nat.le_refl _,fun _=>rfl,Um,fun i hi=>absurd hi (Nat.not_lt_zero _)⟩⟩
  · have hw:∀ n,n∈((elems.map (·.1)).length+(rest.map (·.1)).length)*P.bytesOf e::(DataW.weightsAll P e (elems.map (·.1))++DataW.weightsAll P e (rest.map (·.1)))→n≤reachBytes:=fun n hn=>hfit n (by
      rw [hxx]
      simp only [DataW.weights,ht]
      exact hn)
    have hlenR:len≤reachBytes:=by
      have h1:=hw _ (List.mem_cons_self ..)
      simp only [List.length_map,hlen] at h1
      have h2:len*1≤(len+rest.length)*P.bytesOf e:=Nat.mul_le_mul (Nat.le_add_right _ _) hb
      omega
    have hr:∀ i,i<len→∃ b:α,ok b∧∃ cs',w.cells? base (a.add (i*P.cellsOf e)) (P.cellsOf e)=some cs'∧X0w w K b cs':=fun i hi=>by
      have h1:=hel i hi
      rw [List.getElem?_eq_getElem (by omega),Option.bind_eq_some_iff] at h1
      obtain ⟨cs',h2,h3⟩:=h1
      obtain ⟨b,hb1,hb2⟩:=h H enc w base sp held n cs' _ h3 fun n hn=>hw n (List.mem_cons_of_mem _ (List.mem_append_left _ (Ew (i:=i) (by rw [List.getElem?_map,List.getElem?_eq_getElem (by omega)];rfl) hn)))
      exact ⟨b,hb1,cs',h2,hb2⟩
    obtain ⟨xs,hxl,hxs⟩:=X48 len hr
    refine ⟨xs,⟨by omega,fun x hx=>?_⟩,mk xs _ hcs ⟨some a,cap,by rw [hxl],by rw [hxl];exact hl,by simp,by simp,fun i hi=>?_⟩⟩
    · obtain ⟨i,hi,rfl⟩:=List.getElem_of_mem hx
      exact (hxs i _ (List.getElem?_eq_getElem hi)).1
    · have hi0:0<xs.length:=by omega
      obtain ⟨_,cs0,hc0,ho0⟩:=hxs 0 _ (List.getElem?_eq_getElem hi0)
      obtain ⟨_,hl0,hg0⟩:=World.cells?_some hc0
      have h00:=hg0 0 (by rw [hc];exact hK)
      obtain ⟨u0,hu0,_⟩:=ho0.2 0 hK
      rw [hu0] at h00
      have hcell:w.cell? a=some u0:=by simpa [Addr.add] using h00
      have hspot:a.spot=none:=by
        unfold World.cell? at hcell
        split at hcell
        · cases hs:a.spot with
          | none=>rfl
          | some q=>rw [hs] at hcell;simp at hcell
        · cases hcell
      have hblk:a.block<w.heap.size:=World.cells?_block (a:=a.add (0*P.cellsOf e)) hc0 (by rw [hc];exact hK) |> fun h=>by simpa [Addr.add] using h
      refine ⟨a,rfl,hspot,hblk,fun j hj=>?_⟩
      obtain ⟨_,cs',hc',ho'⟩:=hxs i _ (List.getElem?_eq_getElem hi)
      obtain ⟨_,hl',hg'⟩:=World.cells?_some hc'
      have hij:=hg' j (by rw [hc];exact hj)
      obtain ⟨u,hu,hd⟩:=ho'.2 j hj
      rw [hu,hc] at hij
      refine ⟨u,?_,?_⟩
      · rw [← hij]
        congr 1
        obtain ⟨b,o,s⟩:=a
        simp only at hspot
        subst hspot
        simp only [Addr.add]
        split<;>split<;>simp_all
        · omega
      · show dOk _ _ w (K.cell (xs.getD i K.z) j) u
        rw [List.getD_eq_getElem?_getD,List.getElem?_eq_getElem hi]
        exact hd
theorem rds_str {t:TypeId} (ht:P.underlying t=some .string):RdS P t kStr (fun l=>l.length≤reachBytes):=fun H enc w base sp held fuel cs x h hfit=>by
  obtain ⟨s,rfl,hx,hw⟩:=DataW.trod_string ht h
  refine ⟨s.data.toList,hfit _ (by rw [hx];simp [DataW.weights]),rfl,fun j hj=>?_⟩
  have hj:j<1:=hj
  obtain rfl:j=0:=by omega
  exact ⟨_,rfl,rfl⟩
theorem In {H:Type} {enc:TypeId×Value→H} {w:World} {base:Nat} {sp:Nat→Bool} {held:Bool} {fuel:Nat} {cs:List Value} {x:DataW H×List MemPlace} {t:TypeId} {fs:Array Field} (ht:P.underlying t=some (.struct fs)) (h:DataW.trod enc P w base sp held fuel t cs=some x) (hfit:Xbd P t x.1) :
    ∃ (xs:List (DataW H×List MemPlace)) (n:Nat),cs.length=P.cellsOf t∧xs.length=fs.size∧(∀ (i:Nat) (f:Field),fs[i]?=some f→DataW.trod enc P w base sp held n f.type ((cs.drop f.offset).take (P.cellsOf f.type))=xs[i]?)∧∀ (i:Nat) (f:Field) (y:DataW H×List MemPlace),fs[i]?=some f→xs[i]?=some y→Xbd P f.type y.1:=by
  obtain ⟨xs,n,_,hx,hl,hxl,hf⟩:=DataW.trod_struct ht h
  refine ⟨xs,n,hl,hxl,hf,fun i f y h1 h2 k hk=>hfit k ?_⟩
  rw [hx]
  simp only [DataW.weights,ht]
  exact DataW.weights_mem_each (j:=i) (t:=f.type) (d:=y.1) (by rw [List.getElem?_map,Array.getElem?_toList,h1];rfl) (by rw [List.getElem?_map,h2];rfl) k hk
theorem W8 {α:Type} {K:Kd α} {ok:α→Prop} {H:Type} {enc:TypeId×Value→H} {w:World} {base:Nat} {sp:Nat→Bool} {held:Bool} {n:Nat} {cs:List Value} {xs:List (DataW H×List MemPlace)} {fs:Array Field} (hx:xs.length=fs.size)
    (h:∀ (i:Nat) (f:Field),fs[i]?=some f→DataW.trod enc P w base sp held n f.type ((cs.drop f.offset).take (P.cellsOf f.type))=xs[i]?) (hw:∀ (i:Nat) (f:Field) (y:DataW H×List MemPlace),fs[i]?=some f→xs[i]?=some y→Xbd P f.type y.1) (i:Nat) {f:Field} (hf:fs[i]?=some f) {t:TypeId} {off:Nat} (ht:f.type=t) (ho:f.offset=off) (hr:RdS P t K ok) :
    ∃ a:α,ok a∧∀ j,j<K.sz→∃ u,cs[off+j]?=some u∧dOk (inW w) (inW w) w (K.cell a j) u:=by
  subst ht ho
  have hi:i<xs.length:=by rw [hx];exact (Array.getElem?_eq_some_iff.1 hf).1
  have h1:=h i f hf
  have hi2:=List.getElem?_eq_getElem hi
  rw [hi2] at h1
  obtain ⟨a,h2,h3,h4⟩:=hr H enc w base sp held n _ _ h1 (hw i f _ hf hi2)
  refine ⟨a,h2,fun j hj=>?_⟩
  obtain ⟨u,hu,hd⟩:=h4 j hj
  refine ⟨u,?_,hd⟩
  rw [List.getElem?_take] at hu
  split at hu
  · rwa [List.getElem?_drop] at hu
  · cases hu
theorem H0 {H:Type} {ts:List TypeId} {ds:List (DataW H)} (h:(DataW.weightsEach P ts ds).all (·≤reachBytes)=true) {j:Nat} {t:TypeId} {d:DataW H} (ht:ts[j]?=some t) (hd:ds[j]?=some d):Xbd P t d:=fun n hn=>by
  have:=List.all_eq_true.1 h _ (DataW.weights_mem_each ht hd n hn)
  simpa using this
end
end Go.Proofs.Ythnefnknoahbkaa.Q
namespace Go.Proofs.Ythnefnknoahbkaa.Q
open Go Go.RowKit
set_option linter.unusedVariables false
set_option linter.unusedSimpArgs false
set_option maxRecDepth 100000
set_option maxHeartbeats 4000000
def Ft (x:Yx):Prop:=(fun (n:Int)=>(Lit.int .i64 n).wf=true) x.Wj∧(fun (n:Int)=>(Lit.int .i64 n).wf=true) x.Xg
theorem Uz:RdS Try.prog 23 (Ex false) Ft:=fun H enc w base sp held fuel cs x h hfit=>by
  obtain ⟨xs,n,hl,hxl,hf,hw⟩:=In Try.underlying23 h hfit
  obtain ⟨a0,o0,c0⟩:=W8 hxl hf hw 0 rfl (t:=3) (off:=0) rfl rfl (Rd.s (Ig Try.underlying3))
  obtain ⟨a1,o1,c1⟩:=W8 hxl hf hw 1 rfl (t:=3) (off:=1) rfl rfl (Rd.s (Ig Try.underlying3))
  refine ⟨⟨a0,a1⟩,⟨o0,o1⟩,by rw [hl];kernel_rfl,fun j hj=>?_⟩
  replace hj:j<2:=hj
  rcases j with _|_|j
  · exact c0 0 (by decide)
  · exact c1 0 (by decide)
  · omega
def Hg (x:Xd):Prop:=(fun (n:Int)=>(Lit.int .i64 n).wf=true) x.Xs∧(fun (n:Int)=>(Lit.int .i64 n).wf=true) x.Xo
theorem Eo:RdS Try.prog 38 (Xi false) Hg:=fun H enc w base sp held fuel cs x h hfit=>by
  obtain ⟨xs,n,hl,hxl,hf,hw⟩:=In Try.underlying38 h hfit
  obtain ⟨a0,o0,c0⟩:=W8 hxl hf hw 0 rfl (t:=36) (off:=0) rfl rfl (Rd.s (Ig Try.underlying36))
  obtain ⟨a1,o1,c1⟩:=W8 hxl hf hw 1 rfl (t:=3) (off:=1) rfl rfl (Rd.s (Ig Try.underlying3))
  refine ⟨⟨a0,a1⟩,⟨o0,o1⟩,by rw [hl];kernel_rfl,fun j hj=>?_⟩
  replace hj:j<2:=hj
  rcases j with _|_|j
  · exact c0 0 (by decide)
  · exact c1 0 (by decide)
  · omega
def Us (x:aE):Prop:=(fun (n:Int)=>(Lit.int .i64 n).wf=true) x.X4∧(fun (xs:List UInt8)=>xs.length≤reachBytes∧∀ x,x∈xs→(fun (_:UInt8)=>True) x) x.X9
theorem Jn:RdS Try.prog 48 (kE false) Us:=fun H enc w base sp held fuel cs x h hfit=>by
  obtain ⟨xs,n,hl,hxl,hf,hw⟩:=In Try.underlying48 h hfit
  obtain ⟨a0,o0,c0⟩:=W8 hxl hf hw 0 rfl (t:=3) (off:=0) rfl rfl (Rd.s (Ig Try.underlying3))
  obtain ⟨a1,o1,c1⟩:=W8 hxl hf hw 1 rfl (t:=34) (off:=1) rfl rfl (J8 Try.underlying34 pZ4 (by decide) (of_decide_eq_true pZ4) (Rd.s (rd_u8 Try.underlying5)))
  refine ⟨⟨a0,a1⟩,⟨o0,o1⟩,by rw [hl];kernel_rfl,fun j hj=>?_⟩
  replace hj:j<2:=hj
  rcases j with _|_|j
  · exact c0 0 (by decide)
  · exact c1 0 (by decide)
  · omega
def X2m (x:aC):Prop:=Us x.V4∧(fun (xs:List aE)=>xs.length≤reachBytes∧∀ x,x∈xs→Us x) x.Yg
theorem X98:RdS Try.prog 113 (kC false) X2m:=fun H enc w base sp held fuel cs x h hfit=>by
  obtain ⟨xs,n,hl,hxl,hf,hw⟩:=In Try.underlying113 h hfit
  obtain ⟨a0,o0,c0⟩:=W8 hxl hf hw 0 rfl (t:=48) (off:=0) rfl rfl Jn
  obtain ⟨a1,o1,c1⟩:=W8 hxl hf hw 1 rfl (t:=39) (off:=2) rfl rfl (J8 Try.underlying39 pZ4 (by decide) (of_decide_eq_true pZ4) Jn)
  refine ⟨⟨a0,a1⟩,⟨o0,o1⟩,by rw [hl];kernel_rfl,fun j hj=>?_⟩
  replace hj:j<3:=hj
  rcases j with _|_|_|j
  · exact c0 0 (by decide)
  · exact c0 1 (by decide)
  · exact c1 0 (by decide)
  · omega
def E3 (x:aM):Prop:=(fun (n:Int)=>(Lit.int .i64 n).wf=true) x.X3∧(fun (n:Int)=>(Lit.int .i64 n).wf=true) x.Xt∧(fun (n:Int)=>(Lit.int .i64 n).wf=true) x.Xy∧(fun (n:Int)=>(Lit.int .i64 n).wf=true) x.Xb∧(fun (n:Int)=>(Lit.int .i64 n).wf=true) x.Xv∧(fun (l:List UInt8)=>l.length≤reachBytes) x.Xc∧(fun (xs:List UInt8)=>xs.length≤reachBytes∧∀ x,x∈xs→(fun (_:UInt8)=>True) x) x.Xk∧Hg x.X1∧(fun (xs:List aE)=>xs.length≤reachBytes∧∀ x,x∈xs→Us x) x.Xf∧(fun (xs:List aE)=>xs.length≤reachBytes∧∀ x,x∈xs→Us x) x.Xr∧(fun (xs:List aC)=>xs.length≤reachBytes∧∀ x,x∈xs→X2m x) x.X7
theorem X4i:RdS Try.prog 42 (X7p false) E3:=fun H enc w base sp held fuel cs x h hfit=>by
  obtain ⟨xs,n,hl,hxl,hf,hw⟩:=In Try.underlying42 h hfit
  obtain ⟨a0,o0,c0⟩:=W8 hxl hf hw 0 rfl (t:=3) (off:=0) rfl rfl (Rd.s (Ig Try.underlying3))
  obtain ⟨a1,o1,c1⟩:=W8 hxl hf hw 1 rfl (t:=3) (off:=1) rfl rfl (Rd.s (Ig Try.underlying3))
  obtain ⟨a2,o2,c2⟩:=W8 hxl hf hw 2 rfl (t:=3) (off:=2) rfl rfl (Rd.s (Ig Try.underlying3))
  obtain ⟨a3,o3,c3⟩:=W8 hxl hf hw 3 rfl (t:=3) (off:=3) rfl rfl (Rd.s (Ig Try.underlying3))
  obtain ⟨a4,o4,c4⟩:=W8 hxl hf hw 4 rfl (t:=3) (off:=4) rfl rfl (Rd.s (Ig Try.underlying3))
  obtain ⟨a5,o5,c5⟩:=W8 hxl hf hw 5 rfl (t:=35) (off:=5) rfl rfl (rds_str Try.underlying35)
  obtain ⟨a6,o6,c6⟩:=W8 hxl hf hw 6 rfl (t:=34) (off:=6) rfl rfl (J8 Try.underlying34 pZ4 (by decide) (of_decide_eq_true pZ4) (Rd.s (rd_u8 Try.underlying5)))
  obtain ⟨a7,o7,c7⟩:=W8 hxl hf hw 7 rfl (t:=38) (off:=7) rfl rfl Eo
  obtain ⟨a8,o8,c8⟩:=W8 hxl hf hw 8 rfl (t:=39) (off:=9) rfl rfl (J8 Try.underlying39 pZ4 (by decide) (of_decide_eq_true pZ4) Jn)
  obtain ⟨a9,o9,c9⟩:=W8 hxl hf hw 9 rfl (t:=39) (off:=10) rfl rfl (J8 Try.underlying39 pZ4 (by decide) (of_decide_eq_true pZ4) Jn)
  obtain ⟨a10,o10,c10⟩:=W8 hxl hf hw 10 rfl (t:=40) (off:=11) rfl rfl (J8 Try.underlying40 pZ4 (by decide) (of_decide_eq_true pZ4) X98)
  refine ⟨⟨a0,a1,a2,a3,a4,a5,a6,a7,a8,a9,a10⟩,⟨o0,o1,o2,o3,o4,o5,o6,o7,o8,o9,o10⟩,by rw [hl];kernel_rfl,fun j hj=>?_⟩
  replace hj:j<12:=hj
  rcases j with _|_|_|_|_|_|_|_|_|_|_|_|j
  · exact c0 0 (by decide)
  · exact c1 0 (by decide)
  · exact c2 0 (by decide)
  · exact c3 0 (by decide)
  · exact c4 0 (by decide)
  · exact c5 0 (by decide)
  · exact c6 0 (by decide)
  · exact c7 0 (by decide)
  · exact c7 1 (by decide)
  · exact c8 0 (by decide)
  · exact c9 0 (by decide)
  · exact c10 0 (by decide)
  · omega
def Il (x:Xn):Prop:=(fun (n:Int)=>(Lit.int .i64 n).wf=true) x.X3∧(fun (n:Int)=>(Lit.int .i64 n).wf=true) x.X4∧(fun (n:Int)=>(Lit.int .i64 n).wf=true) x.Wv∧(fun (xs:List UInt8)=>xs.length≤reachBytes∧∀ x,x∈xs→(fun (_:UInt8)=>True) x) x.Ys∧E3 x.Ya∧Hg x.X1∧(fun (_:Bool)=>True) x.Yn
theorem U6:RdS Try.prog 44 (Y2 false) Il:=fun H enc w base sp held fuel cs x h hfit=>by
  obtain ⟨xs,n,hl,hxl,hf,hw⟩:=In Try.underlying44 h hfit
  obtain ⟨a0,o0,c0⟩:=W8 hxl hf hw 0 rfl (t:=3) (off:=0) rfl rfl (Rd.s (Ig Try.underlying3))
  obtain ⟨a1,o1,c1⟩:=W8 hxl hf hw 1 rfl (t:=3) (off:=1) rfl rfl (Rd.s (Ig Try.underlying3))
  obtain ⟨a2,o2,c2⟩:=W8 hxl hf hw 2 rfl (t:=3) (off:=2) rfl rfl (Rd.s (Ig Try.underlying3))
  obtain ⟨a3,o3,c3⟩:=W8 hxl hf hw 3 rfl (t:=34) (off:=3) rfl rfl (J8 Try.underlying34 pZ4 (by decide) (of_decide_eq_true pZ4) (Rd.s (rd_u8 Try.underlying5)))
  obtain ⟨a4,o4,c4⟩:=W8 hxl hf hw 4 rfl (t:=42) (off:=4) rfl rfl X4i
  obtain ⟨a5,o5,c5⟩:=W8 hxl hf hw 5 rfl (t:=38) (off:=16) rfl rfl Eo
  obtain ⟨a6,o6,c6⟩:=W8 hxl hf hw 6 rfl (t:=4) (off:=18) rfl rfl (Rd.s (rd_bool Try.underlying4))
  refine ⟨⟨a0,a1,a2,a3,a4,a5,a6⟩,⟨o0,o1,o2,o3,o4,o5,o6⟩,by rw [hl];kernel_rfl,fun j hj=>?_⟩
  replace hj:j<19:=hj
  rcases j with _|_|_|_|_|_|_|_|_|_|_|_|_|_|_|_|_|_|_|j
  · exact c0 0 (by decide)
  · exact c1 0 (by decide)
  · exact c2 0 (by decide)
  · exact c3 0 (by decide)
  · exact c4 0 (by decide)
  · exact c4 1 (by decide)
  · exact c4 2 (by decide)
  · exact c4 3 (by decide)
  · exact c4 4 (by decide)
  · exact c4 5 (by decide)
  · exact c4 6 (by decide)
  · exact c4 7 (by decide)
  · exact c4 8 (by decide)
  · exact c4 9 (by decide)
  · exact c4 10 (by decide)
  · exact c4 11 (by decide)
  · exact c5 0 (by decide)
  · exact c5 1 (by decide)
  · exact c6 0 (by decide)
  · omega
end Go.Proofs.Ythnefnknoahbkaa.Q
namespace Go.Proofs.Ythnefnknoahbkaa.Q
set_option linter.unusedVariables false
set_option linter.unusedSimpArgs false
theorem X3i {n:Nat} (h:n≤reachBytes):n≤9223372036854775807:=Nat.le_trans h (by decide)
theorem Hb {n:Nat} (h:n≤reachBytes):n≤140737488355328:=Nat.le_trans h (by decide)
theorem X0g {a:Xn} (h:Il a):E4 a:=by
  obtain ⟨_,h2,h3,h4,h5,h6,_⟩:=h
  obtain ⟨_,_,_,_,_,m6,m7,m8,m9,m10,m11⟩:=h5
  exact ⟨X1h h2,X1h h3,⟨Hb h4.1,Hb m7.1,Hb m6,Hb m9.1,Hb m10.1,Hb m11.1⟩,X1h m8.1,X1h m8.2,X1h h6.1,X1h h6.2⟩
end Go.Proofs.Ythnefnknoahbkaa.Q
