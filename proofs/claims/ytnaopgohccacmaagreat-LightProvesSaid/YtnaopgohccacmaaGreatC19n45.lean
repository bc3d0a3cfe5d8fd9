import Derived.Test.YtnaopgohccacmaaGreatC19n41
namespace Go.Proofs.YtnaopgohccacmaaGreat.Q
open Go Go.RowKit
set_option linter.unusedVariables false
set_option linter.unusedSimpArgs false
set_option maxRecDepth 100000
set_option maxHeartbeats 4000000
theorem iat_39:Tryz.prog.info? 39=some Tryz.t39:=by kernel_rfl
theorem wide_39:Wide Tryz.prog 39 (some 6):=⟨_,_,Tryz.underlying39,.inl ⟨_,rfl⟩,iat_39,rfl⟩
section
variable (x:V1) (c:Y3) (k:Nat) (k2:Nat) (k3:Nat)
abbrev Zrn:List SV:=[.d (dsl false false (Vv .i64) c.X4),dU c.Uf,.d (dsl false false (Vv .i64) c.Xy),dB c.Iy]
abbrev Zro:AV:=vI ((k:Nat):Int)
abbrev Zrp:SV:=dI (cOf x.Yp)
abbrev Zrq:HS:=.live (.box 130 [dI (3*(fOf x.H4)+1),(Zrp x),.mref 1])
abbrev Zrr:HS:=.live (mpK Xx Yg ([]:List (Yl×Bool)))
abbrev Zrs:SV:=dI (fOf x.H4)
abbrev Zrt:HS:=.live (.box 135 [dB true,(Zrs x),(Zrp x),.own 3 (kE false).sz 0 ([]:List aE).length])
abbrev Zru:HS:=.live (Xf 43 (kE false) ([]:List aE))
abbrev Zrv:=(ofB 6 ([]:List (List UInt8)))
abbrev Zrw:SV:=dS Zrv
abbrev Zrx:HS:=.live (.box 149 [dI 0,Zrw,dB true,.own 5 (Xk false).sz 0 (Yn (Ym c.X4 k)).length])
abbrev Zry:HS:=.live (Xf 152 (Xk false) (Yn (Ym c.X4 k)))
abbrev Zrz:HS:=.live (.box 106 [dB true,dI 0,Zrw,.own 7 (Xr false).sz 0 (Ym c.X4 k).length])
abbrev Zs0:HS:=.live (Xf 65 (Xr false) (Ym c.X4 k))
abbrev Zs1:HS:=.live (.box 27 (Zrn c))
abbrev Zs2:SV:=.d (.val (.pointer none))
abbrev Zs3:SV:=.d (.val (.slice none 0 0))
abbrev Zs4:HS:=.live (.box 39 [Zs2,Zs2,Zs2,Zs2,Zs3,Zs3])
abbrev Zs5:HS:=.live (.box 39 [.ptr 0 0,.ptr 2 0,.ptr 4 0,.ptr 6 0,Zs3,Zs3])
abbrev Zs6:List HS:=[(Zrq x),Zrr,(Zrt x),Zru,(Zrx c k),(Zry c k),(Zrz c k),(Zs0 c k),(Zs1 c),Zs4,Zs5]
abbrev Zs7:HS:=.live (.box 130 [dI (3*(fOf x.H4)+1),(Zrp x),.mref 4])
abbrev Zs8:HS:=.live (.box 135 [dB true,(Zrs x),(Zrp x),.own 6 (kE false).sz 0 ([]:List aE).length])
abbrev Zs9:HS:=.live (.box 39 [.ptr 3 0,.ptr 5 0,.ptr 7 0,.ptr 9 0,Zs3,Zs3])
abbrev Zsa:List AV:=[aa,aa,aa,pv 8 0,pv 9 0,pv 10 0,(Zro k),pv 11 0,vI 0,aa,aa,aa,aa,aa,aa,aa,aa,aa,aa,aa,aa,aa,aa,aa,aa,aa,aa,aa,aa,aa,vB (decide (((k:Nat):Int)<((c.X4.length:Nat):Int)))]
abbrev Zsb:SV:=dI ((k+1:Nat):Int)
abbrev Zsc:SV:=dS (atB Zrv (Ym c.X4 k) (Ym c.X4 k).length)
abbrev Zsd:SV:=.own 12 (kE false).sz 0 0
abbrev Zse:List HS:=[(Zrq x),Zrr,(Zrt x),Zru,(Zrx c k),(Zry c k),(Zrz c k),(Zs0 c k),(Zs1 c),Zs4,Zs5,.live (.box 65 [(Zsb k),(Zsc c k),Zsd,.own 13 (Xe false).sz 0 0]),Zru,.live (Xf 46 (Xe false) ([]:List Y6))]
abbrev Zsf:List AV:=[aa,aa,aa,pv 8 0,pv 9 0,pv 10 0,(Zro k),pv 11 0,vI ((k2:Nat):Int)]
abbrev Zsg:SV:=dI (I2 (Ym c.X4 k) k 0).Xg
abbrev Zsh:SV:=dS (I2 (Ym c.X4 k) k 0).Y0
abbrev Zsi:List HS:=[(Zrq x),Zrr,(Zrt x),Zru,(Zrx c k),(Zry c k),(Zrz c k),(Zs0 c k),(Zs1 c),Zs4,Zs5,.live (.box 65 [(Zsg c k),(Zsh c k),.own 12 (kE false).sz 0 (Il k k2).length,.own 13 (Xe false).sz 0 (Ik k k2).length]),.live (Xf 43 (kE false) (Il k k2)),.live (Xf 46 (Xe false) (Ik k k2))]
abbrev Zsl:=(aE.mk ((1000+k2:Nat):Int) [(UInt8.ofNat k),(UInt8.ofNat k2)])
abbrev Zsm:=(Y6.mk 0 ((k+k2:Nat):Int))
abbrev Zsn:List AV:=[aa,aa,aa,pv 8 0,pv 9 0,pv 10 0,(Zro k),pv 11 0,vI ((k2+1:Nat):Int)]
abbrev Zso:List AV:=[aa,aa,aa,pv 8 0,pv 9 0,pv 10 0,(Zro k),pv 11 0,vI ((k2:Nat):Int),aa,aa,aa,aa,aa,aa,aa,aa,aa,aa,aa,aa,aa,aa,aa,aa,aa,aa,aa,aa,aa,aa,aa,aa,aa,aa,aa,aa,aa,aa,aa,aa,aa,aa,aa,aa,aa,aa,aa,vB (decide (((k2:Nat):Int)<(((Int.tmod (c.X4.getD k 0) 5)+5) % 5)))]
abbrev Zsp:=(I2 (Ym c.X4 k) k (Jr (c.X4.getD k 0)).toNat)
abbrev Zsq:List HS:=[(Zrq x),Zrr,(Zrt x),Zru,(Zrx c k),(Zry c k),(Zrz c k),(Zs0 c k),(Zs1 c),Zs4,Zs5,.live (.box 65 [dI (Zsp c k).Xg,dS (Zsp c k).Y0,.own 12 (kE false).sz 0 (Zsp c k).Xb.length,.own 13 (Xe false).sz 0 (Zsp c k).Xj.length]),.live (Xf 43 (kE false) (Zsp c k).Xb),.live (Xf 46 (Xe false) (Zsp c k).Xj)]
abbrev Zsr:St:=⟨(Zso c k k2),[(Zrq x),Zrr,(Zrt x),Zru,(Zrx c k),(Zry c k),(Zrz c k),(Zs0 c k),(Zs1 c),Zs4,Zs5,.live (.box 65 [dI (Zsp c k).Xg,dS (Zsp c k).Y0,.d (dsl false false (kE false) (Zsp c k).Xb),.own 13 (Xe false).sz 0 (Zsp c k).Xj.length]),.dead,.live (Xf 46 (Xe false) (Zsp c k).Xj)]⟩
abbrev Zss:List SV:=[dI (Zsp c k).Xg,dS (Zsp c k).Y0,.d (dsl false false (kE false) (Zsp c k).Xb),.d (dsl false false (Xe false) (Zsp c k).Xj)]
abbrev Zst:List AV:=[aa,aa,aa,pv 8 0,pv 9 0,pv 10 0,vI ((k+1:Nat):Int)]
abbrev Zsu:List AV:=[aa,aa,aa,pv 8 0,pv 9 0,pv 10 0]
abbrev Zsv:=(Ym c.X4 c.X4.length)
abbrev Zsw:HS:=.live (.box 149 [dI 0,Zrw,dB true,.own 5 (Xk false).sz 0 (Yn (Zsv c)).length])
abbrev Zsx:HS:=.live (Xf 152 (Xk false) (Yn (Zsv c)))
abbrev Zsy:HS:=.live (.box 106 [dB true,dI 0,Zrw,.own 7 (Xr false).sz 0 (Zsv c).length])
abbrev Zsz:HS:=.live (Xf 65 (Xr false) (Zsv c))
abbrev Zt0:List HS:=[(Zrq x),Zrr,(Zrt x),Zru,(Zsw c),(Zsx c),(Zsy c),(Zsz c),(Zs1 c),Zs4,Zs5]
abbrev Zt1:List AV:=[aa,aa,aa,pv 8 0,pv 9 0,pv 10 0,aa,aa,aa,vI (0+(((Zsv c).length:Nat):Int))]
abbrev Zt2:List HS:=[(Zrq x),Zrr,(Zrt x),Zru,(Zsw c),(Zsx c),(Zsy c),(Zsz c),(Zs1 c),Zs4,.live (.box 39 [.ptr 0 0,.ptr 2 0,.ptr 4 0,.ptr 6 0,.own 11 kU8.sz 0 (Jh (0+(((Zsv c).length:Nat):Int)) (atB Zrv (Zsv c) (Zsv c).length) c.Uf).length,Zs3]),.live (Xf 5 kU8 (Jh (0+(((Zsv c).length:Nat):Int)) (atB Zrv (Zsv c) (Zsv c).length) c.Uf))]
abbrev Zt3:AV:=vI ((c.X4.length:Nat):Int)
abbrev Zt4:List AV:=[aa,aa,aa,pv 8 0,pv 9 0,pv 10 0,aa,aa,aa,(Zt3 c)]
abbrev Zt5:List HS:=[(Zrq x),Zrr,(Zrt x),Zru,(Zsw c),(Zsx c),(Zsy c),(Zsz c),(Zs1 c),Zs4,.live (.box 39 [.ptr 0 0,.ptr 2 0,.ptr 4 0,.ptr 6 0,.own 11 kU8.sz 0 (V8 c).length,Zs3]),.live (Xf 5 kU8 (V8 c))]
abbrev Zt6:SV:=dU (V8 c)
abbrev Zt7:HS:=.live (.box 39 [.ptr 0 0,.ptr 2 0,.ptr 4 0,.ptr 6 0,(Zt6 c),Zs3])
abbrev Zt8:List AV:=[aa,aa,aa,pv 8 0,pv 9 0,pv 10 0,aa,aa,aa,(Zt3 c),pv 12 0,aa,aa,aa,aa,aa,aa,aa,aa,aa,aa,aa,aa,aa,aa,aa,aa,aa,aa,aa,aa,aa,aa,aa,aa,aa,aa,aa,aa,aa,aa,aa,aa,aa,aa,aa,aa,aa,aa,aa,aa,aa,aa,aa,aa,aa,aa,aa,aa,aa,aa,aa,aa,aa,aa,aa,aa,aa,aa,aa,aa,aa,aa,aa,aa,aa,aa,aa,aa,aa,aa,aa,aa,aa,aa,aa,aa,aa,aa,aa,aa,aa,aa,aa,aa,aa,aa,aa,aa,vB c.Iy]
abbrev Zt9:List SV:=[dI (Ul c).X1,dI (Ul c).Y1,dI (Ul c).Xs,dI (Ul c).Xh,dI (Ul c).Yh,dS (Ul c).X9,dU (Ul c).Xc,dI (Ul c).X0.Xt,dI (Ul c).X0.Xn,.d (dsl false false (kE false) (Ul c).Xp),.d (dsl false false (kE false) (Ul c).Y4),.d (dsl false false (kC false) (Ul c).X6)]
abbrev Zta:HS:=.live (.box 78 (Zt9 c))
abbrev Ztb:List HS:=[(Zrq x),Zrr,(Zrt x),Zru,(Zsw c),(Zsx c),(Zsy c),(Zsz c),(Zs1 c),Zs4,(Zt7 c),.dead,(Zta c)]
abbrev Ztc:SV:=dI (max 1 ((c.X4.length:Nat):Int))
abbrev Ztd:St:=⟨(Zt8 c),[(Zrq x),Zrr,(Zrt x),Zru,(Zsw c),(Zsx c),(Zsy c),(Zsz c),(Zs1 c),Zs4,(Zt7 c),.dead,.live (.box 78 [dI 5,dI 0,(Ztc c),dI 0,dI 0,dS [97,110,111,116,104,101,114,32,111,110,101],Zs3,dI 0,dI 0,Zs3,Zs3,Zs3])]⟩
abbrev Zte:SV:=.d (dsl false false (kE false) ([]:List aE))
abbrev Ztf:List HS:=[(Zrq x),Zrr,(Zrt x),Zru,(Zsw c),(Zsx c),(Zsy c),(Zsz c),(Zs1 c),Zs4,(Zt7 c),.dead,.live (.box 78 [dI 5,dI 0,(Ztc c),dI 0,dI 0,dS [97,110,111,116,104,101,114,32,111,110,101],dU ([]:List UInt8),dI 0,dI 0,Zte,Zte,.d (dsl false false (kC false) ([]:List aC))])]
abbrev Ztg:St:=⟨(Zt8 c),[(Zrq x),Zrr,(Zrt x),Zru,(Zsw c),(Zsx c),(Zsy c),(Zsz c),(Zs1 c),Zs4,(Zt7 c),.dead,.live (.box 78 [dI 5,dI 0,(Ztc c),dI 0,dI 0,dS (ofB 7 [(V8 c)]),Zs3,dI 0,dI 0,Zs3,Zs3,Zs3])]⟩
abbrev Zth:List HS:=[(Zrq x),Zrr,(Zrt x),Zru,(Zsw c),(Zsx c),(Zsy c),(Zsz c),(Zs1 c),Zs4,(Zt7 c),.dead,.live (.box 78 [dI 5,dI 0,(Ztc c),dI 0,dI 0,dS (ofB 7 [(V8 c)]),dU ([]:List UInt8),dI 0,dI 0,Zte,Zte,.d (dsl false false (kC false) ([]:List aC))])]
abbrev Zti:List AV:=[aa,aa,aa,pv 8 0,pv 9 0,pv 10 0,aa,aa,aa,(Zt3 c),pv 12 0,vI 0,aa,aa,aa,aa,aa,aa,aa,aa,aa,aa,aa,aa,aa,aa,aa,aa,aa,aa,aa,aa,aa,aa,aa,aa,aa,aa,aa,aa,aa,aa,aa,aa,aa,aa,aa,aa,aa,aa,aa,aa,aa,aa,aa,aa,aa,aa,aa,aa,aa,aa,aa,aa,aa,aa,aa,aa,aa,aa,aa,aa,aa,aa,aa,aa,aa,aa,aa,aa,aa,aa,aa,aa,aa,aa,aa,aa,aa,aa,aa,aa,aa,aa,aa,aa,aa,aa,aa,vB c.Iy]
abbrev Ztj:HS:=.live (.box 39 [.ptr 0 0,.ptr 2 0,.ptr 4 0,.ptr 6 0,(Zt6 c),.own 13 (kE false).sz 0 0])
abbrev Ztk:=(H0 (fOf x.H4) (cOf x.Yp) c k3)
abbrev Ztl:HS:=.live (.box 135 [dB true,(Zrs x),(Zrp x),.own 3 (kE false).sz 0 (Ztk x c k3).length])
abbrev Ztm:HS:=.live (.box 39 [.ptr 0 0,.ptr 2 0,.ptr 4 0,.ptr 6 0,(Zt6 c),.own 12 (kE false).sz 0 (Vn c k3).length])
abbrev Ztn:St:=⟨[aa,aa,aa,pv 8 0,pv 9 0,pv 10 0,aa,aa,aa,aa,pv 11 0,vI ((k3:Nat):Int)],[(Zrq x),.live (mpK Xx Yg (J1 (Ztk x c k3))),(Ztl x c k3),.live (Xf 43 (kE false) (Ztk x c k3)),(Zsw c),(Zsx c),(Zsy c),(Zsz c),(Zs1 c),Zs4,(Ztm c k3),(Zta c),.live (Xf 43 (kE false) (Vn c k3))]⟩
abbrev Zto:=(H0 (fOf x.H4) (cOf x.Yp) c 0)
abbrev Ztp:=(aE.mk (c.Xy.getD k3 0) (F2 (Ul c)))
abbrev Ztq:List AV:=[aa,aa,aa,pv 8 0,pv 9 0,pv 10 0,aa,aa,aa,aa,pv 11 0,vI ((k3+1:Nat):Int)]
abbrev Ztr:=(H0 (fOf x.H4) (cOf x.Yp) c (k3+1))
abbrev Zts:List AV:=[aa,aa,aa,pv 8 0,pv 9 0,pv 10 0,aa,aa,aa,aa,pv 11 0,vI ((k3:Nat):Int),aa,aa,aa,aa,aa,aa,aa,aa,aa,aa,aa,aa,aa,aa,aa,aa,aa,aa,aa,aa,aa,aa,aa,aa,aa,aa,aa,aa,aa,aa,aa,aa,aa,aa,aa,aa,aa,aa,aa,aa,aa,aa,aa,aa,aa,aa,aa,aa,aa,aa,aa,aa,aa,aa,aa,aa,aa,aa,aa,aa,aa,aa,aa,aa,aa,aa,aa,aa,aa,aa,aa,aa,aa,aa,aa,aa,aa,aa,aa,aa,aa,aa,aa,aa,aa,aa,aa,aa,aa,aa,aa,aa,aa,vB (decide (((k3:Nat):Int)<((c.Xy.length:Nat):Int)))]
abbrev Ztt:St:=⟨(Zts c k3),[(Zrq x),.live (mpK Xx Yg (J1 (Ztk x c k3))),(Ztl x c k3),.live (Xf 43 (kE false) (Ztk x c k3)),(Zsw c),(Zsx c),(Zsy c),(Zsz c),(Zs1 c),(Ztm c k3),(Ztm c k3),(Zta c),.live (Xf 43 (kE false) (Vn c k3))]⟩
abbrev Ztu:List SV:=[.ptr 0 0,.ptr 2 0,.ptr 4 0,.ptr 6 0,(Zt6 c),.d (dsl false false (kE false) (Vn c k3))]
end
theorem Xei (x:V1) (c:Y3) (hs:Uj c) (hr:rngW c):Holds Tryz.prog 10 ⟨[.tv (.agg [dI x.H4,dI x.Yp]),.tv (.agg [.d (dsl false false (Vv .i64) c.X4),dU c.Uf,.d (dsl false false (Vv .i64) c.Xy),dB c.Iy])],[],.tv (.agg [.ptr 0 0,.ptr 2 0,.ptr 4 0,.ptr 6 0,dU (V8 c),.d (dsl false false (kE false) (Vn c c.Xy.length))]),[.live (.box 130 [dI (3*(fOf x.H4)+1),dI (cOf x.Yp),.mref 1]),.live (mpK Xx Yg (J1 (H0 (fOf x.H4) (cOf x.Yp) c c.Xy.length))),.live (.box 135 [dB true,dI (fOf x.H4),dI (cOf x.Yp),.own 3 (kE false).sz 0 (H0 (fOf x.H4) (cOf x.Yp) c c.Xy.length).length]),.live (Xf 43 (kE false) (H0 (fOf x.H4) (cOf x.Yp) c c.Xy.length)),.live (.box 149 [dI 0,dS (ofB 6 ([]:List (List UInt8))),dB true,.own 5 (Xk false).sz 0 (Yn (Ym c.X4 c.X4.length)).length]),.live (Xf 152 (Xk false) (Yn (Ym c.X4 c.X4.length))),.live (.box 106 [dB true,dI 0,dS (ofB 6 ([]:List (List UInt8))),.own 7 (Xr false).sz 0 (Ym c.X4 c.X4.length).length]),.live (Xf 65 (Xr false) (Ym c.X4 c.X4.length))]⟩:=by
 refine Holds.of Tryz.func10 rfl (N:=137) Tryz.ntmps10 rfl fun w0 B0 S0 U0=>?_
 show T _ (Y2 137 0 w0 S0 U0 B0) ⟨[.tv (.agg [dI x.H4,dI x.Yp]),.tv (.agg (Zrn c))],[]⟩ _ _
 have hfx:=Xh0 x.H4
 have hux:=Xh9 x.Yp
 obtain ⟨hs1,hs2,hs3⟩:=hs
 have hsm:Uj c:=⟨hs1,hs2,hs3⟩
 have hdl:=X25 hsm
 have hml:=Xf8 hsm
 have hbl:=Xfa hsm
 have hcdl:=Xf9 hsm
 have ok1:(Ya (Ul c) 9).length≤10000000:=(by omega)
 have ok2:(Ul c).Xp.length≤1:=Nat.zero_le _
 have ok3:(Ul c).Y4.length≤1:=Nat.zero_le _
 have ok4:(Ul c).X6.length≤1:=Nat.zero_le _
 have ok5:(Ul c).Xc.length≤1:=Nat.zero_le _
 have ok6:(Ul c).X9.length≤1000000:=Nat.le_trans hcdl (by decide)
 refine sR [] ?_
 refine sD [[],[0],[],[2],[0,1,2,3],[],[5],[],[7],[0,1,2,3,4,5,6,7,8],[0,1,2,3,4,5,6,7,8,9],[0,1,2,3,4,5,6,7,8,9,10],[0,1,2,3,4,5,6,7,8,9,10,11],[],[0,1,2,3,4,5,6,7,8,9,10,11,12,13]] [hR 4 rfl rfl (rCa (Xkr x.H4 x.Yp ) Tryz.func34 [3,4] [(.tmp 14,vI x.H4),(.tmp 16,vI x.Yp)] 0 2),hR 9 rfl rfl (rCa (Xjk x.H4 x.Yp ) Tryz.func35 [5,6] [(.tmp 19,vI x.H4),(.tmp 21,vI x.Yp)] 0 2),hR 10 rfl rfl (rCa (Xgv  ) Tryz.func36 [7,8] [] 0 2),hR 11 rfl rfl (rCa (Xjj  ) Tryz.func37 [9,10] [] 0 2)] (T.seq (sR [] (T.block ?_)))
 refine T.loop (ι:=Nat) (fun (k:Nat)=>⟨[aa,aa,aa,pv 8 0,pv 9 0,pv 10 0,(Zro k)],(Zs6 x c k)⟩) (fun (k:Nat)=>(k≤c.X4.length)) (fun (k:Nat)=>c.X4.length-k) (0) (Nat.zero_le _) (fun _ _ hG=>Wf [3,4,5,6,7,8,9,10,1,2,11] (bm 7 120) (h1:=[(Zs7 x),Zrr,(Zs8 x),Zru,.live (.box 149 [dI 0,Zrw,dB true,.own 8 (Xk false).sz 0 (Yn (Ym c.X4 0)).length]),.live (Xf 152 (Xk false) (Yn (Ym c.X4 0))),.live (.box 106 [dB true,dI 0,Zrw,.own 10 (Xr false).sz 0 (Ym c.X4 0).length]),.live (Xf 65 (Xr false) (Ym c.X4 0)),(Zs1 c),Zs4,Zs9]) (h2:=[(Zs7 x),Zrr,(Zs8 x),Zru,.live (.box 149 [dI 0,Zrw,dB true,.own 8 (Xk false).sz 0 ([]:List Yq).length]),.live (Xf 152 (Xk false) ([]:List Yq)),.live (.box 106 [dB true,dI 0,Zrw,.own 10 (Xr false).sz 0 ([]:List Xq).length]),.live (Xf 65 (Xr false) ([]:List Xq)),(Zs1 c),Zs4,Zs9]) (t1:=[aa,aa,aa,pv 1 0,pv 2 0,pv 11 0,vI 0]) rfl (cg4 (fun (q1:Nat) (q2:List Yq) (q3:Nat) (q4:List Xq)=>([(Zs7 x),Zrr,(Zs8 x),Zru,.live (.box 149 [dI 0,Zrw,dB true,.own 8 (Xk false).sz 0 q1]),.live (Xf 152 (Xk false) q2),.live (.box 106 [dB true,dI 0,Zrw,.own 10 (Xr false).sz 0 q3]),.live (Xf 65 (Xr false) q4),(Zs1 c),Zs4,Zs9]:List HS)) (by rfl) (by rfl) (by rfl) (by rfl)) hG) ?_
 rintro k hk
 show T _ _ ⟨[aa,aa,aa,pv 8 0,pv 9 0,pv 10 0,(Zro k)],(Zs6 x c k)⟩ _ _
 replace hk:k≤c.X4.length:=hk
 have hcl:=Iw c.X4 k
 have hco:=E9 c.X4 k (by omega)
 have hco1:=hco.1
 have hco2:=hco.2
 have hll:=Uy (Ym c.X4 k)
 have hlk:=X5p hco2
 have hcb:=X4t (c.X4.getD k 0)
 have ht5:=tmod5 (c.X4.getD k 0)
 refine T.seq (sR [] ?_)
 by_cases hq1:((k:Nat):Int)<((c.X4.length:Nat):Int)
 ·refine cT (dT hq1) (T.skip (nT (T.seq (T.block (sR [hR 1 rfl rfl (Yd (u1:=.int .i64 ((k:Nat):Int)) (u2:=.int .i64 1) (v:=.int .i64 ((k+1:Nat):Int)) (Wb pc) (X3 rfl) ⟨rfl,trivial⟩),hR 4 rfl rfl (rCa (X3d 0 (ofB 6 ([]:List (List UInt8))) (Ym c.X4 k) (by omega) (by omega) (by omega)) Tryz.func38 [6,7] [(.tmp 36,pv 6 0)] 2 2)] (T.seq (sR [] (T.block ?_))))))))
  refine tN ⟨(Zsa c k),[(Zrq x),Zrr,(Zrt x),Zru,(Zrx c k),(Zry c k),(Zrz c k),(Zs0 c k),(Zs1 c),Zs4,Zs5,.live (.box 65 [(Zsb k),(Zsc c k),Zs3,Zs3])]⟩ ?_
  refine Wx (s':=⟨(Zsa c k),[(Zrq x),Zrr,(Zrt x),Zru,(Zrx c k),(Zry c k),(Zrz c k),(Zs0 c k),(Zs1 c),Zs4,Zs5,.live (.box 65 [(Zsb k),(Zsc c k),Zsd,Zs3]),Zru]⟩) (fun _ _ hG=>J7 12 11 2 43 (kE false) (Tb:=65) (cs:=[(Zsb k),(Zsc c k),Zs3,Zs3]) rfl rfl rfl hG) ?_
  refine Wx (s':=⟨(Zsa c k),(Zse x c k)⟩) (fun _ _ hG=>J7 13 11 3 46 (Xe false) (Tb:=65) (cs:=[(Zsb k),(Zsc c k),Zsd,Zs3]) rfl rfl rfl hG) ?_
  refine T.loop (ι:=Nat) (fun (k2:Nat)=>⟨(Zsf k k2),(Zsi x c k k2)⟩) (fun (k2:Nat)=>(((k2:Nat):Int)≤Jr (c.X4.getD k 0))) (fun (k2:Nat)=>(Jr (c.X4.getD k 0)).toNat-k2) (0) (by omega) (fun _ _ hG=>Yv [0,1,2,3,4,5,6,7,8,9,10,11,12,13] (bm 9 504) (h2:=(Zse x c k)) rfl (cg6 (fun (q1:Int) (q2:List UInt8) (q3:Nat) (q4:Nat) (q5:List aE) (q6:List Y6)=>([(Zrq x),Zrr,(Zrt x),Zru,(Zrx c k),(Zry c k),(Zrz c k),(Zs0 c k),(Zs1 c),Zs4,Zs5,.live (.box 65 [dI q1,dS q2,.own 12 (kE false).sz 0 q3,.own 13 (Xe false).sz 0 q4]),.live (Xf 43 (kE false) q5),.live (Xf 46 (Xe false) q6)]:List HS)) (by rfl) (by rfl) (by rfl) (by rfl) (by rfl) (by rfl)) hG) ?_
  rintro k2 hk2
  show T _ _ ⟨(Zsf k k2),(Zsi x c k k2)⟩ _ _
  replace hk2:((k2:Nat):Int)≤Jr (c.X4.getD k 0):=hk2
  have hrl:=X5b k k2
  have hsl:=X5a k k2
  have hcb:=X4t (c.X4.getD k 0)
  have ht5:=tmod5 (c.X4.getD k 0)
  refine T.seq (sR [hR 4 rfl rfl (We false false (Vv .i64) c.X4 k (k:=.i64) (i:=((k:Nat):Int)) Tryz.underlying24 X1z rfl rfl (by omega) (X3 rfl) trivial),hR 6 rfl rfl (Yd (u1:=.int .i64 (c.X4.getD k 0)) (u2:=.int .i64 5) (v:=.int .i64 (Int.tmod (c.X4.getD k 0) 5)) (b_rem (by omega) rfl) (X3 rfl) ⟨rfl,trivial⟩),hR 7 rfl rfl (Yd (u1:=.int .i64 (Int.tmod (c.X4.getD k 0) 5)) (u2:=.int .i64 5) (v:=.int .i64 ((Int.tmod (c.X4.getD k 0) 5)+5)) (Wb pc) (X3 rfl) ⟨rfl,trivial⟩),hR 8 rfl rfl (Yd (u1:=.int .i64 ((Int.tmod (c.X4.getD k 0) 5)+5)) (u2:=.int .i64 5) (v:=.int .i64 (((Int.tmod (c.X4.getD k 0) 5)+5) % 5)) (b_remP (by omega) (by omega)) (X3 rfl) ⟨rfl,trivial⟩)] ?_)
  by_cases hq2:((k2:Nat):Int)<(((Int.tmod (c.X4.getD k 0) 5)+5) % 5)
  ·have hk3:((k2:Nat):Int)<Jr (c.X4.getD k 0):=hq2
   refine cT (dT hq2) (T.skip (nT (T.seq (T.block ?_))))
   refine sR [hR 3 rfl rfl (Yd (u1:=.int .i64 1000) (u2:=.int .i64 ((k2:Nat):Int)) (v:=.int .i64 ((1000+k2:Nat):Int)) (Wb pc) (X3 rfl) ⟨rfl,trivial⟩),hR 5 rfl rfl (Vb (u:=.int .i64 ((k:Nat):Int)) (v:=.int .u8 (((UInt8.ofNat k).toNat:Nat):Int)) (Hm Tryz.underlying3 Tryz.underlying5) (X3 rfl) trivial),hR 7 rfl rfl (Vb (u:=.int .i64 ((k2:Nat):Int)) (v:=.int .u8 (((UInt8.ofNat k2).toNat:Nat):Int)) (Hm Tryz.underlying3 Tryz.underlying5) (X3 rfl) trivial),hR 8 rfl rfl (Yc 14 5 kU8 Vu [(UInt8.ofNat k),(UInt8.ofNat k2)] [⟨0,.tmp 56,.one (.d (.val (.int .u8 (((UInt8.ofNat k).toNat:Nat):Int)))),0⟩,⟨1,.tmp 58,.one (.d (.val (.int .u8 (((UInt8.ofNat k2).toNat:Nat):Int)))),1⟩] (cs:=[.d (.val (.int .u8 (((UInt8.ofNat k).toNat:Nat):Int))),.d (.val (.int .u8 (((UInt8.ofNat k2).toNat:Nat):Int)))]) Tryz.underlying25 Ji rfl Im rfl rfl rfl pd (Yr rfl rfl pd (Yr rfl rfl pd W5)) pZ8 (V4 pZ8) (X3 rfl) trivial),hR 10 rfl rfl (Uz 0 60 14 5 kU8 [(UInt8.ofNat k),(UInt8.ofNat k2)] (av:=.tv (.agg [dI ((1000+k2:Nat):Int),.own 14 kU8.sz 0 [(UInt8.ofNat k),(UInt8.ofNat k2)].length])) (Yc 15 43 (kE false) (W4 false) [(aE.mk ((1000+k2:Nat):Int) [(UInt8.ofNat k),(UInt8.ofNat k2)])] [⟨0,.tmp 60,.agg [dI ((1000+k2:Nat):Int),dU [(UInt8.ofNat k),(UInt8.ofNat k2)]],0⟩] (cs:=[dI ((1000+k2:Nat):Int),dU [(UInt8.ofNat k),(UInt8.ofNat k2)]]) Tryz.underlying37 Vi rfl F4 rfl rfl rfl pd (Yr rfl rfl pd W5) pZ8 (V4 pZ8) (X3 rfl) trivial) rfl p52 X71 rfl rfl),hR 11 rfl rfl (W2 12 16 43 32 (kE false) (W4 false) (Il k k2) [(aE.mk ((1000+k2:Nat):Int) [(UInt8.ofNat k),(UInt8.ofNat k2)])] ((Il k k2)++[(aE.mk ((1000+k2:Nat):Int) [(UInt8.ofNat k),(UInt8.ofNat k2)])]) (Il k k2).length (sy:=(.own 15 (kE false).sz 0 [(Zsl k k2)].length)) (rhs:=[(15,.live (Xf 43 (kE false) [(Zsl k k2)]))]) F9 (by omega) (Wv 15 43 (kE false) [(aE.mk ((1000+k2:Nat):Int) [(UInt8.ofNat k),(UInt8.ofNat k2)])]) Jy X72 X72 (X3 rfl) trivial)] ?_
   refine xR [hR 4 rfl rfl (Yd (u1:=.int .i64 ((k:Nat):Int)) (u2:=.int .i64 ((k2:Nat):Int)) (v:=.int .i64 ((k+k2:Nat):Int)) (Wb pc) (X3 rfl) trivial),hR 6 rfl rfl (Yc 17 46 (Xe false) (Vz false) [(Y6.mk 0 ((k+k2:Nat):Int))] [⟨0,.tmp 69,.agg [dI 0,dI ((k+k2:Nat):Int)],0⟩] (cs:=[dI 0,dI ((k+k2:Nat):Int)]) Tryz.underlying63 Ej rfl X79 rfl rfl rfl pd (Yr rfl rfl pd W5) pZ8 (V4 pZ8) (X3 rfl) trivial),hR 7 rfl rfl (W2 13 18 46 16 (Xe false) (Vz false) (Ik k k2) [(Y6.mk 0 ((k+k2:Nat):Int))] ((Ik k k2)++[(Y6.mk 0 ((k+k2:Nat):Int))]) (Ik k k2).length (sy:=(.own 17 (Xe false).sz 0 [(Zsm k k2)].length)) (rhs:=[(17,.live (Xf 46 (Xe false) [(Zsm k k2)]))]) X7l (by omega) (Wv 17 46 (Xe false) [(Y6.mk 0 ((k+k2:Nat):Int))]) Jy X72 X72 (X3 rfl) trivial)] pZ8 pZ8 ?_
   refine nB (nT (xK [hR 1 rfl rfl (Yd (u1:=.int .i64 ((k2:Nat):Int)) (u2:=.int .i64 1) (v:=.int .i64 ((k2+1:Nat):Int)) (Wb pc) (X3 rfl) ⟨rfl,trivial⟩)] ?_))
   refine nL (k2+1) (show (((k2+1):Nat):Int)≤Jr (c.X4.getD k 0) from (by omega)) (show ((Jr (c.X4.getD k 0)).toNat-(k2+1):Nat)<(Jr (c.X4.getD k 0)).toNat-k2 from (by omega)) (fun _ _ hG=>Wf [0,1,2,3,4,5,6,7,8,9,10,11,16,18] (bm 9 504) (h1:=[(Zrq x),Zrr,(Zrt x),Zru,(Zrx c k),(Zry c k),(Zrz c k),(Zs0 c k),(Zs1 c),Zs4,Zs5,.live (.box 65 [(Zsg c k),(Zsh c k),.own 16 (kE false).sz 0 (Il k (k2+1)).length,.own 18 (Xe false).sz 0 (Ik k (k2+1)).length]),.live (Xf 43 (kE false) (Il k (k2+1))),.live (Xf 46 (Xe false) (Ik k (k2+1)))]) (h2:=[(Zrq x),Zrr,(Zrt x),Zru,(Zrx c k),(Zry c k),(Zrz c k),(Zs0 c k),(Zs1 c),Zs4,Zs5,.live (.box 65 [(Zsg c k),(Zsh c k),.own 16 (kE false).sz 0 ((Il k k2)++[(Zsl k k2)]).length,.own 18 (Xe false).sz 0 ((Ik k k2)++[(Zsm k k2)]).length]),.live (Xf 43 (kE false) ((Il k k2)++[(Zsl k k2)])),.live (Xf 46 (Xe false) ((Ik k k2)++[(Zsm k k2)]))]) (t1:=(Zsn k k2)) rfl (by have e1:((Il k (k2+1)).length:Nat)=((Il k k2)++[(aE.mk ((1000+k2:Nat):Int) [(UInt8.ofNat k),(UInt8.ofNat k2)])]).length:=(by (rw [X8d]));have e2:((Ik k (k2+1)).length:Nat)=((Ik k k2)++[(Y6.mk 0 ((k+k2:Nat):Int))]).length:=(by (rw [X8c]));have e3:((Il k (k2+1)):List aE)=(Il k k2)++[(aE.mk ((1000+k2:Nat):Int) [(UInt8.ofNat k),(UInt8.ofNat k2)])]:=(by (rw [X8d]));have e4:((Ik k (k2+1)):List Y6)=(Ik k k2)++[(Y6.mk 0 ((k+k2:Nat):Int))]:=(by (rw [X8c]));have hE:=congr (congr (congr (congrArg (fun (q1:Nat) (q2:Nat) (q3:List aE) (q4:List Y6)=>([(Zrq x),Zrr,(Zrt x),Zru,(Zrx c k),(Zry c k),(Zrz c k),(Zs0 c k),(Zs1 c),Zs4,Zs5,.live (.box 65 [(Zsg c k),(Zsh c k),.own 16 (kE false).sz 0 q1,.own 18 (Xe false).sz 0 q2]),.live (Xf 43 (kE false) q3),.live (Xf 46 (Xe false) q4)]:List HS)) e1) e2) e3) e4;exact hE) hG)
  have hk3:¬((k2:Nat):Int)<Jr (c.X4.getD k 0):=hq2;have hke:(Jr (c.X4.getD k 0)).toNat=k2:=(by omega);have hfb:=X62 (L:=(Ym c.X4 k)) (i:=k) (n:=(Jr (c.X4.getD k 0)).toNat) (by omega) (by omega);have hap:=app_chn9 (bs:=c.X4) (i:=k) (by omega)
  refine cF (dF hq2) (T.exit (xT (xT (xH (nT ?_)))))
  refine tN ⟨(Zso c k k2),(Zsi x c k k2)⟩ ?_
  refine Wx (s':=⟨(Zso c k k2),(Zsq x c k)⟩) (fun _ _ hG=>Yv [0,1,2,3,4,5,6,7,8,9,10,11,12,13] (bm 49 281474976711160) (h2:=(Zsi x c k k2)) rfl (by have e1:((I2 (Ym c.X4 k) k (Jr (c.X4.getD k 0)).toNat).Xg:Int)=(I2 (Ym c.X4 k) k 0).Xg:=(by rfl);have e2:((I2 (Ym c.X4 k) k (Jr (c.X4.getD k 0)).toNat).Y0:List UInt8)=(I2 (Ym c.X4 k) k 0).Y0:=(by rfl);have e3:((I2 (Ym c.X4 k) k (Jr (c.X4.getD k 0)).toNat).Xb.length:Nat)=(Il k k2).length:=(by (rw [hke];rfl));have e4:((I2 (Ym c.X4 k) k (Jr (c.X4.getD k 0)).toNat).Xj.length:Nat)=(Ik k k2).length:=(by (rw [hke];rfl));have e5:((I2 (Ym c.X4 k) k (Jr (c.X4.getD k 0)).toNat).Xb:List aE)=(Il k k2):=(by (rw [hke];rfl));have e6:((I2 (Ym c.X4 k) k (Jr (c.X4.getD k 0)).toNat).Xj:List Y6)=(Ik k k2):=(by (rw [hke];rfl));have hE:=congr (congr (congr (congr (congr (congrArg (fun (q1:Int) (q2:List UInt8) (q3:Nat) (q4:Nat) (q5:List aE) (q6:List Y6)=>([(Zrq x),Zrr,(Zrt x),Zru,(Zrx c k),(Zry c k),(Zrz c k),(Zs0 c k),(Zs1 c),Zs4,Zs5,.live (.box 65 [dI q1,dS q2,.own 12 (kE false).sz 0 q3,.own 13 (Xe false).sz 0 q4]),.live (Xf 43 (kE false) q5),.live (Xf 46 (Xe false) q6)]:List HS)) e1) e2) e3) e4) e5) e6;exact hE) hG) ?_
  refine Wx (s':=(Zsr x c k k2)) (fun _ _ hG=>Gs.freeze (s:=⟨(Zso c k k2),(Zsq x c k)⟩) 12 (el:=W7 (kE false) (I2 (Ym c.X4 k) k (Jr (c.X4.getD k 0)).toNat).Xb) (sz:=(kE false).sz) (n:=(I2 (Ym c.X4 k) k (Jr (c.X4.getD k 0)).toNat).Xb.length) rfl ⟨.inl rfl,p37⟩ ⟨pZ9,⟨pZ9,⟨pZ9,⟨pZ9,⟨pZ9,⟨pZ9,⟨pZ9,⟨pZ9,⟨pZ9,⟨pZ9,⟨pZ9,⟨pZ23,⟨(.inl ⟨rfl,rfl⟩),⟨pZ9,trivial⟩⟩⟩⟩⟩⟩⟩⟩⟩⟩⟩⟩⟩⟩ hG) ?_
  refine Wx (s':=⟨(Zso c k k2),[(Zrq x),Zrr,(Zrt x),Zru,(Zrx c k),(Zry c k),(Zrz c k),(Zs0 c k),(Zs1 c),Zs4,Zs5,.live (.box 65 (Zss c k)),.dead,.dead]⟩) (fun _ _ hG=>Gs.freeze (s:=(Zsr x c k k2)) 13 (el:=W7 (Xe false) (I2 (Ym c.X4 k) k (Jr (c.X4.getD k 0)).toNat).Xj) (sz:=(Xe false).sz) (n:=(I2 (Ym c.X4 k) k (Jr (c.X4.getD k 0)).toNat).Xj.length) rfl ⟨.inl rfl,p37⟩ ⟨pZ9,⟨pZ9,⟨pZ9,⟨pZ9,⟨pZ9,⟨pZ9,⟨pZ9,⟨pZ9,⟨pZ9,⟨pZ9,⟨pZ9,⟨pZ22,⟨pZ9,⟨(.inl ⟨rfl,rfl⟩),trivial⟩⟩⟩⟩⟩⟩⟩⟩⟩⟩⟩⟩⟩⟩ hG) ?_
  refine sR [hR 3 rfl rfl (rCa (Xac 0 (ofB 6 ([]:List (List UInt8))) (Yn (Ym c.X4 k)) (I2 (Ym c.X4 k) k (Jr (c.X4.getD k 0)).toNat) (by omega) (by omega) ‹_›) Tryz.func39 [4,5,14] [(.tmp 74,pv 4 0),(.tmp 75,.tv (.agg (Zss c k)))] 2 3)] (xK [hR 3 rfl rfl (rCa (Xbw 0 (ofB 6 ([]:List (List UInt8))) (Ym c.X4 k) (I2 (Ym c.X4 k) k (Jr (c.X4.getD k 0)).toNat) (by omega) (by omega) (by omega) (by omega)) Tryz.func40 [6,7,15] [(.tmp 78,pv 6 0),(.tmp 79,.tv (.agg (Zss c k)))] 2 3)] (nB (nT (xK [hR 1 rfl rfl (Yd (u1:=.int .i64 ((k:Nat):Int)) (u2:=.int .i64 1) (v:=.int .i64 ((k+1:Nat):Int)) (Wb pc) (X3 rfl) ⟨rfl,trivial⟩)] ?_))))
  refine nL (k+1) (show (k+1)≤c.X4.length from (by omega)) (show (c.X4.length-(k+1):Nat)<c.X4.length-k from (by omega)) (fun _ _ hG=>Wf [0,1,2,3,4,14,6,15,8,9,10] (bm 7 120) (h1:=[(Zrq x),Zrr,(Zrt x),Zru,.live (.box 149 [dI 0,Zrw,dB true,.own 14 (Xk false).sz 0 (Yn (Ym c.X4 (k+1))).length]),.live (Xf 152 (Xk false) (Yn (Ym c.X4 (k+1)))),.live (.box 106 [dB true,dI 0,Zrw,.own 15 (Xr false).sz 0 (Ym c.X4 (k+1)).length]),.live (Xf 65 (Xr false) (Ym c.X4 (k+1))),(Zs1 c),Zs4,Zs5]) (h2:=[(Zrq x),Zrr,(Zrt x),Zru,.live (.box 149 [dI 0,Zrw,dB true,.own 14 (Xk false).sz 0 (X0v 0 Zrv (Yn (Ym c.X4 k)) (Zsp c k)).length]),.live (Xf 152 (Xk false) (X0v 0 Zrv (Yn (Ym c.X4 k)) (Zsp c k))),.live (.box 106 [dB true,dI 0,Zrw,.own 15 (Xr false).sz 0 (H9 0 Zrv (Ym c.X4 k) (Zsp c k)).length]),.live (Xf 65 (Xr false) (H9 0 Zrv (Ym c.X4 k) (Zsp c k))),(Zs1 c),Zs4,Zs5]) (t1:=(Zst k)) rfl (by have e1:((Yn (Ym c.X4 (k+1))).length:Nat)=(X0v 0 (ofB 6 ([]:List (List UInt8))) (Yn (Ym c.X4 k)) (I2 (Ym c.X4 k) k (Jr (c.X4.getD k 0)).toNat)).length:=(by (rw [hap.1]));have e2:((Yn (Ym c.X4 (k+1))):List Yq)=(X0v 0 (ofB 6 ([]:List (List UInt8))) (Yn (Ym c.X4 k)) (I2 (Ym c.X4 k) k (Jr (c.X4.getD k 0)).toNat)):=(by exact hap.1.symm);have e3:((Ym c.X4 (k+1)).length:Nat)=(H9 0 (ofB 6 ([]:List (List UInt8))) (Ym c.X4 k) (I2 (Ym c.X4 k) k (Jr (c.X4.getD k 0)).toNat)).length:=(by (rw [hap.2]));have e4:((Ym c.X4 (k+1)):List Xq)=(H9 0 (ofB 6 ([]:List (List UInt8))) (Ym c.X4 k) (I2 (Ym c.X4 k) k (Jr (c.X4.getD k 0)).toNat)):=(by exact hap.2.symm);have hE:=congr (congr (congr (congrArg (fun (q1:Nat) (q2:List Yq) (q3:Nat) (q4:List Xq)=>([(Zrq x),Zrr,(Zrt x),Zru,.live (.box 149 [dI 0,Zrw,dB true,.own 14 (Xk false).sz 0 q1]),.live (Xf 152 (Xk false) q2),.live (.box 106 [dB true,dI 0,Zrw,.own 15 (Xr false).sz 0 q3]),.live (Xf 65 (Xr false) q4),(Zs1 c),Zs4,Zs5]:List HS)) e1) e2) e3) e4;exact hE) hG)
 have hkb:k=c.X4.length:=(by omega);have hcl:=Iw c.X4 c.X4.length;have hco:=E9 c.X4 c.X4.length (by omega);have hco1:=hco.1;have hco2:=hco.2;have hco3:(atB (ofB 6 ([]:List (List UInt8))) (Ym c.X4 c.X4.length) (Ym c.X4 c.X4.length).length).length≤1000000:=Nat.le_trans hco1 (by omega);have hdt:V8 c=Jh (0+(((Ym c.X4 c.X4.length).length:Nat):Int)) (atB d9 (Ym c.X4 c.X4.length) (Ym c.X4 c.X4.length).length) c.Uf:=(by unfold V8;rw [hcl,Int.zero_add])
 refine cF (dF hq1) (T.exit (xT (xT (xH (nT ?_)))))
 refine tN ⟨[aa,aa,aa,pv 8 0,pv 9 0,pv 10 0,(Zro k),aa,aa,aa,aa,aa,aa,aa,aa,aa,aa,aa,aa,aa,aa,aa,aa,aa,aa,aa,aa,aa,aa,aa,vB (decide (((k:Nat):Int)<((c.X4.length:Nat):Int)))],(Zs6 x c k)⟩ ?_
 refine Wx (s':=⟨Zsu,(Zt0 x c)⟩) (fun _ _ hG=>Yv [0,1,2,3,4,5,6,7,8,9,10] (bm 6 56) (h2:=(Zs6 x c k)) rfl (by have e1:((Yn (Ym c.X4 c.X4.length)).length:Nat)=(Yn (Ym c.X4 k)).length:=(by (rw [hkb]));have e2:((Yn (Ym c.X4 c.X4.length)):List Yq)=(Yn (Ym c.X4 k)):=(by (rw [hkb]));have e3:((Ym c.X4 c.X4.length).length:Nat)=(Ym c.X4 k).length:=(by (rw [hkb]));have e4:((Ym c.X4 c.X4.length):List Xq)=(Ym c.X4 k):=(by (rw [hkb]));have hE:=congr (congr (congr (congrArg (fun (q1:Nat) (q2:List Yq) (q3:Nat) (q4:List Xq)=>([(Zrq x),Zrr,(Zrt x),Zru,.live (.box 149 [dI 0,Zrw,dB true,.own 5 (Xk false).sz 0 q1]),.live (Xf 152 (Xk false) q2),.live (.box 106 [dB true,dI 0,Zrw,.own 7 (Xr false).sz 0 q3]),.live (Xf 65 (Xr false) q4),(Zs1 c),Zs4,Zs5]:List HS)) e1) e2) e3) e4;exact hE) hG) ?_
 refine sR [hR 2 rfl rfl (rCa (F6 0 (ofB 6 ([]:List (List UInt8))) (Ym c.X4 c.X4.length) (by omega) (by omega)) Tryz.func12 [6,7] [(.tmp 82,pv 6 0)] 2 2)] ?_
 refine sD [[],[],[1],[1,2],[],[4],[0,1,2,3,4,5],[0,1,2,3,4,5,6],[0,1,2,3,4,5,6,7]] [hR 3 rfl rfl (rCa (X3d 0 (ofB 6 ([]:List (List UInt8))) (Ym c.X4 c.X4.length) (by omega) (by omega) (by omega)) Tryz.func38 [6,7] [(.tmp 86,pv 6 0)] 2 2),hR 6 rfl rfl (rCa (Xg4 (0+(((Ym c.X4 c.X4.length).length:Nat):Int)) (atB (ofB 6 ([]:List (List UInt8))) (Ym c.X4 c.X4.length) (Ym c.X4 c.X4.length).length) false false c.Uf (by omega) (by omega)) Tryz.func41 [11] [(.tmp 84,vI (0+(((Zsv c).length:Nat):Int))),(.tmp 87,dv (Yk (atB Zrv (Zsv c) (Zsv c).length))),(.tmp 89,slV false false kU8 c.Uf)] 0 1)] ?_
 refine tN ⟨(Zt1 c),(Zt2 x c)⟩ ?_
 refine Wx (s':=⟨(Zt4 c),(Zt5 x c)⟩) (fun _ _ hG=>Yv [0,1,2,3,4,5,6,7,8,9,10,11] (bm 10 568) (t2:=(Zt1 c)) (h2:=(Zt2 x c)) (congrArg (fun (q1:Int)=>([aa,aa,aa,pv 8 0,pv 9 0,pv 10 0,aa,aa,aa,vI q1]:List AV)) (show (((c.X4.length:Nat):Int):Int)=0+(((Ym c.X4 c.X4.length).length:Nat):Int) from (by omega))) (cg2 (fun (q1:Nat) (q2:List UInt8)=>([(Zrq x),Zrr,(Zrt x),Zru,(Zsw c),(Zsx c),(Zsy c),(Zsz c),(Zs1 c),Zs4,.live (.box 39 [.ptr 0 0,.ptr 2 0,.ptr 4 0,.ptr 6 0,.own 11 kU8.sz 0 q1,Zs3]),.live (Xf 5 kU8 q2)]:List HS)) (by rfl) (show ((V8 c):List UInt8)=Jh (0+(((Ym c.X4 c.X4.length).length:Nat):Int)) (atB (ofB 6 ([]:List (List UInt8))) (Ym c.X4 c.X4.length) (Ym c.X4 c.X4.length).length) c.Uf from (by omega))) hG) ?_
 refine Wx (s':=⟨(Zt4 c),[(Zrq x),Zrr,(Zrt x),Zru,(Zsw c),(Zsx c),(Zsy c),(Zsz c),(Zs1 c),Zs4,(Zt7 c),.dead]⟩) (fun _ _ hG=>Gs.freeze (s:=⟨(Zt4 c),(Zt5 x c)⟩) 11 (el:=W7 kU8 (V8 c)) (sz:=kU8.sz) (n:=(V8 c).length) rfl (kk2 (kk8 trivial)) ⟨pZ9,⟨pZ9,⟨pZ9,⟨pZ9,⟨pZ9,⟨pZ9,⟨pZ9,⟨pZ9,⟨pZ9,⟨pZ9,⟨(.inr ⟨by decide,.inr ⟨rfl,(kk4 ⟨pZ0,⟨.inl rfl,trivial⟩⟩)⟩⟩),⟨(.inl ⟨rfl,rfl⟩),trivial⟩⟩⟩⟩⟩⟩⟩⟩⟩⟩⟩⟩ hG) ?_
 refine sR [hR 1 rfl rfl (X1m (k:=.i64) (a:=1) (b:=((c.X4.length:Nat):Int)) (X3 rfl) ⟨rfl,trivial⟩),hR 4 rfl rfl (rCa (X8h false false (V8 c) (by omega)) Tryz.func42 [] [(.tmp 95,slV false false kU8 (V8 c))] 0 0)] ?_
 refine Um ⟨(Zt8 c),(Ztb x c)⟩ ?_ ?_
 ·refine sR [] ?_
  by_cases hq3:c.Iy=true
  ·have hcd:ckD9 c=Xi4:=if_pos hq3
   refine cT hq3 (xK [] ?_)
   refine eN (Ztd x c) ?_
   refine X7 (s':=⟨(Zt8 c),(Ztf x c)⟩) (fun _ _ hG=>Yt (s:=(Ztd x c)) (kk4 (X3n p2b)) (kk4 (kk8 ⟨pp,trivial⟩)) hG) ?_
   refine X7 (s':=⟨(Zt8 c),(Ztb x c)⟩) (fun _ _ hG=>Wf [0,1,2,3,4,5,6,7,8,9,10,25,12] (bm 100 633825300114114700748351604280) (h1:=(Ztb x c)) (h2:=(Ztf x c)) (t1:=(Zt8 c)) rfl (cg12 (fun (q1:Int) (q2:Int) (q3:Int) (q4:Int) (q5:Int) (q6:List UInt8) (q7:List UInt8) (q8:Int) (q9:Int) (q10:List aE) (q11:List aE) (q12:List aC)=>([(Zrq x),Zrr,(Zrt x),Zru,(Zsw c),(Zsx c),(Zsy c),(Zsz c),(Zs1 c),Zs4,(Zt7 c),.dead,.live (.box 78 [dI q1,dI q2,dI q3,dI q4,dI q5,dS q6,dU q7,dI q8,dI q9,.d (dsl false false (kE false) q10),.d (dsl false false (kE false) q11),.d (dsl false false (kC false) q12)])]:List HS)) (by rfl) (by rfl) (by rfl) (by rfl) (by rfl) (by exact hcd) (by rfl) (by rfl) (by rfl) (by rfl) (by rfl) (by rfl)) hG) ?_
   exact nJ
  have hcd:ckD9 c=ofB 7 [V8 c]:=if_neg hq3
  replace hq3:=Bool.eq_false_iff.2 hq3
  refine cF hq3 (T.skip ?_)
  refine eN (Ztg x c) ?_
  refine X7 (s':=⟨(Zt8 c),(Zth x c)⟩) (fun _ _ hG=>Yt (s:=(Ztg x c)) (kk4 (X3n p2b)) (kk4 (kk8 ⟨pp,trivial⟩)) hG) ?_
  refine X7 (s':=⟨(Zt8 c),(Ztb x c)⟩) (fun _ _ hG=>Wf [0,1,2,3,4,5,6,7,8,9,10,25,12] (bm 100 633825300114114700748351604280) (h1:=(Ztb x c)) (h2:=(Zth x c)) (t1:=(Zt8 c)) rfl (cg12 (fun (q1:Int) (q2:Int) (q3:Int) (q4:Int) (q5:Int) (q6:List UInt8) (q7:List UInt8) (q8:Int) (q9:Int) (q10:List aE) (q11:List aE) (q12:List aC)=>([(Zrq x),Zrr,(Zrt x),Zru,(Zsw c),(Zsx c),(Zsy c),(Zsz c),(Zs1 c),Zs4,(Zt7 c),.dead,.live (.box 78 [dI q1,dI q2,dI q3,dI q4,dI q5,dS q6,dU q7,dI q8,dI q9,.d (dsl false false (kE false) q10),.d (dsl false false (kE false) q11),.d (dsl false false (kC false) q12)])]:List HS)) (by rfl) (by rfl) (by rfl) (by rfl) (by rfl) (by exact hcd) (by rfl) (by rfl) (by rfl) (by rfl) (by rfl) (by rfl)) hG) ?_
  exact nJ
 refine T.seq (sR [] (T.block ?_))
 refine tN ⟨(Zti c),(Ztb x c)⟩ ?_
 refine Wx (s':=⟨(Zti c),[(Zrq x),Zrr,(Zrt x),Zru,(Zsw c),(Zsx c),(Zsy c),(Zsz c),(Zs1 c),Zs4,(Ztj c),.dead,(Zta c),Zru]⟩) (fun _ _ hG=>J7 13 10 5 43 (kE false) (Tb:=39) (cs:=[.ptr 0 0,.ptr 2 0,.ptr 4 0,.ptr 6 0,(Zt6 c),Zs3]) rfl rfl rfl hG) ?_
 refine T.loop (ι:=Nat) (fun (k3:Nat)=>(Ztn x c k3)) (fun (k3:Nat)=>(k3≤c.Xy.length)) (fun (k3:Nat)=>c.Xy.length-k3) (0) (Nat.zero_le _) (fun _ _ hG=>Wf [0,1,2,3,4,5,6,7,8,9,10,12,13] (bm 12 3128) (h1:=[(Zrq x),.live (mpK Xx Yg (J1 (Zto x c))),.live (.box 135 [dB true,(Zrs x),(Zrp x),.own 3 (kE false).sz 0 (Zto x c).length]),.live (Xf 43 (kE false) (Zto x c)),(Zsw c),(Zsx c),(Zsy c),(Zsz c),(Zs1 c),Zs4,.live (.box 39 [.ptr 0 0,.ptr 2 0,.ptr 4 0,.ptr 6 0,(Zt6 c),.own 13 (kE false).sz 0 (Vn c 0).length]),(Zta c),.live (Xf 43 (kE false) (Vn c 0))]) (h2:=[(Zrq x),Zrr,(Zrt x),Zru,(Zsw c),(Zsx c),(Zsy c),(Zsz c),(Zs1 c),Zs4,(Ztj c),(Zta c),Zru]) (t1:=[aa,aa,aa,pv 8 0,pv 9 0,pv 10 0,aa,aa,aa,aa,pv 12 0,vI 0]) rfl (cg5 (fun (q1:List (Yl×Bool)) (q2:Nat) (q3:List aE) (q4:Nat) (q5:List aE)=>([(Zrq x),.live (mpK Xx Yg q1),.live (.box 135 [dB true,(Zrs x),(Zrp x),.own 3 (kE false).sz 0 q2]),.live (Xf 43 (kE false) q3),(Zsw c),(Zsx c),(Zsy c),(Zsz c),(Zs1 c),Zs4,.live (.box 39 [.ptr 0 0,.ptr 2 0,.ptr 4 0,.ptr 6 0,(Zt6 c),.own 13 (kE false).sz 0 q4]),(Zta c),.live (Xf 43 (kE false) q5)]:List HS)) (by rfl) (by rfl) (by rfl) (by rfl) (by rfl)) hG) ?_
 rintro k3 hk3
 show T _ _ (Ztn x c k3) _ _
 replace hk3:k3≤c.Xy.length:=hk3
 have hvl:=Xd6 (c:=c) hk3
 have hal:=X9v (fOf x.H4) (cOf x.Yp) c k3
 refine T.seq (sR [] ?_)
 by_cases hq4:((k3:Nat):Int)<((c.Xy.length:Nat):Int)
 ·have hrs:-9223372036854775808≤(c.Xy.getD k3 0)∧(c.Xy.getD k3 0)≤9223372036854775807:=hr _ (J3 (z:=0) (show k3<c.Xy.length by omega))
  refine cT (dT hq4) (T.skip (nT (T.seq (T.block ?_))))
  refine sD [[],[0],[],[0,1,2],[0,1,2,3],[],[5],[0,1,2,3,4,5,6],[],[0,1,2,3,4,5,6,7,8]] [hR 3 rfl rfl (We false false (Vv .i64) c.Xy k3 (k:=.i64) (i:=((k3:Nat):Int)) Tryz.underlying24 X1z rfl rfl (by omega) (X3 rfl) trivial),hR 6 rfl rfl (rCa (Xbu false (Ul c) (Nat.le_trans ok1 (by decide)) (Nat.le_trans ok2 (by decide)) (Nat.le_trans ok3 (by decide)) (Nat.le_trans ok4 (by decide)) (Nat.le_trans ok5 (by decide)) (Nat.le_trans ok6 (by decide))) Tryz.func25 [] [(.tmp 113,.tv (.agg (Zt9 c)))] 0 0)] ?_
  refine sR [hR 6 rfl rfl (rCa (Xhd (fOf x.H4) (cOf x.Yp) (J1 (H0 (fOf x.H4) (cOf x.Yp) c k3)) (c.Xy.getD k3 0) false false (F2 (Ul c)) (by omega) (by omega) (by omega) (by omega)) Tryz.func26 [0,1] [(.tmp 117,pv 0 0),(.tmp 119,vI (c.Xy.getD k3 0)),(.tmp 121,slV false false kU8 (F2 (Ul c)))] 2 2)] (sR [hR 6 rfl rfl (rCa (Xga (fOf x.H4) (cOf x.Yp) (H0 (fOf x.H4) (cOf x.Yp) c k3) (c.Xy.getD k3 0) false false (F2 (Ul c)) (by omega) (by omega) (by omega) (by omega) (by omega)) Tryz.func27 [2,3,14] [(.tmp 124,pv 2 0),(.tmp 126,vI (c.Xy.getD k3 0)),(.tmp 128,slV false false kU8 (F2 (Ul c)))] 2 3)] ?_)
  refine xR [hR 3 rfl rfl (Yc 15 43 (kE false) (W4 false) [(aE.mk (c.Xy.getD k3 0) (F2 (Ul c)))] [⟨0,.tmp 132,.agg [dI (c.Xy.getD k3 0),dU (F2 (Ul c))],0⟩] (cs:=[dI (c.Xy.getD k3 0),dU (F2 (Ul c))]) Tryz.underlying37 Vi rfl F4 rfl rfl rfl pd (Yr rfl rfl pd W5) pZ8 (V4 pZ8) (X3 rfl) trivial),hR 4 rfl rfl (W2 12 16 43 32 (kE false) (W4 false) (Vn c k3) [(aE.mk (c.Xy.getD k3 0) (F2 (Ul c)))] ((Vn c k3)++[(aE.mk (c.Xy.getD k3 0) (F2 (Ul c)))]) (Vn c k3).length (sy:=(.own 15 (kE false).sz 0 [(Ztp c k3)].length)) (rhs:=[(15,.live (Xf 43 (kE false) [(Ztp c k3)]))]) F9 (by omega) (Wv 15 43 (kE false) [(aE.mk (c.Xy.getD k3 0) (F2 (Ul c)))]) Jy X72 X72 (X3 rfl) trivial)] pZ8 pZ8 ?_
  refine nB (nT (xK [hR 1 rfl rfl (Yd (u1:=.int .i64 ((k3:Nat):Int)) (u2:=.int .i64 1) (v:=.int .i64 ((k3+1:Nat):Int)) (Wb pc) (X3 rfl) ⟨rfl,trivial⟩)] ?_))
  refine nL (k3+1) (show (k3+1)≤c.Xy.length from (by omega)) (show (c.Xy.length-(k3+1):Nat)<c.Xy.length-k3 from (by omega)) (fun _ _ hG=>Wf [0,1,2,14,4,5,6,7,8,9,10,11,16] (bm 12 3128) (h1:=[(Zrq x),.live (mpK Xx Yg (J1 (Ztr x c k3))),.live (.box 135 [dB true,(Zrs x),(Zrp x),.own 14 (kE false).sz 0 (Ztr x c k3).length]),.live (Xf 43 (kE false) (Ztr x c k3)),(Zsw c),(Zsx c),(Zsy c),(Zsz c),(Zs1 c),Zs4,.live (.box 39 [.ptr 0 0,.ptr 2 0,.ptr 4 0,.ptr 6 0,(Zt6 c),.own 16 (kE false).sz 0 (Vn c (k3+1)).length]),(Zta c),.live (Xf 43 (kE false) (Vn c (k3+1)))]) (h2:=[(Zrq x),.live (mpK Xx Yg (X6c (fOf x.H4) (cOf x.Yp) (J1 (Ztk x c k3)) (c.Xy.getD k3 0) (F2 (Ul c)))),.live (.box 135 [dB true,(Zrs x),(Zrp x),.own 14 (kE false).sz 0 (Ht (fOf x.H4) (cOf x.Yp) (Ztk x c k3) (c.Xy.getD k3 0) (F2 (Ul c))).length]),.live (Xf 43 (kE false) (Ht (fOf x.H4) (cOf x.Yp) (Ztk x c k3) (c.Xy.getD k3 0) (F2 (Ul c)))),(Zsw c),(Zsx c),(Zsy c),(Zsz c),(Zs1 c),Zs4,.live (.box 39 [.ptr 0 0,.ptr 2 0,.ptr 4 0,.ptr 6 0,(Zt6 c),.own 16 (kE false).sz 0 ((Vn c k3)++[(Ztp c k3)]).length]),(Zta c),.live (Xf 43 (kE false) ((Vn c k3)++[(Ztp c k3)]))]) (t1:=(Ztq k3)) rfl (by have e1:((J1 (H0 (fOf x.H4) (cOf x.Yp) c (k3+1))):List (Yl×Bool))=(X6c (fOf x.H4) (cOf x.Yp) (J1 (H0 (fOf x.H4) (cOf x.Yp) c k3)) (c.Xy.getD k3 0) (F2 (Ul c))):=(by (rw [sign_tab];rfl));have e2:((H0 (fOf x.H4) (cOf x.Yp) c (k3+1)).length:Nat)=(Ht (fOf x.H4) (cOf x.Yp) (H0 (fOf x.H4) (cOf x.Yp) c k3) (c.Xy.getD k3 0) (F2 (Ul c))).length:=(by rfl);have e3:((H0 (fOf x.H4) (cOf x.Yp) c (k3+1)):List aE)=(Ht (fOf x.H4) (cOf x.Yp) (H0 (fOf x.H4) (cOf x.Yp) c k3) (c.Xy.getD k3 0) (F2 (Ul c))):=(by rfl);have e4:((Vn c (k3+1)).length:Nat)=((Vn c k3)++[(aE.mk (c.Xy.getD k3 0) (F2 (Ul c)))]).length:=(by (rw [Xal (by omega)];rfl));have e5:((Vn c (k3+1)):List aE)=(Vn c k3)++[(aE.mk (c.Xy.getD k3 0) (F2 (Ul c)))]:=(by (rw [Xal (by omega)];rfl));have hE:=congr (congr (congr (congr (congrArg (fun (q1:List (Yl×Bool)) (q2:Nat) (q3:List aE) (q4:Nat) (q5:List aE)=>([(Zrq x),.live (mpK Xx Yg q1),.live (.box 135 [dB true,(Zrs x),(Zrp x),.own 14 (kE false).sz 0 q2]),.live (Xf 43 (kE false) q3),(Zsw c),(Zsx c),(Zsy c),(Zsz c),(Zs1 c),Zs4,.live (.box 39 [.ptr 0 0,.ptr 2 0,.ptr 4 0,.ptr 6 0,(Zt6 c),.own 16 (kE false).sz 0 q4]),(Zta c),.live (Xf 43 (kE false) q5)]:List HS)) e1) e2) e3) e4) e5;exact hE) hG)
 have hks:k3=c.Xy.length:=(by omega)
 refine cF (dF hq4) (T.exit (xT (xT (xH (nT (sR [] (T.ret ?_)))))))
 refine eN (Ztt x c k3) ?_
 refine X7 (s':=⟨(Zts c k3),[(Zrq x),.live (mpK Xx Yg (J1 (Ztk x c k3))),(Ztl x c k3),.live (Xf 43 (kE false) (Ztk x c k3)),(Zsw c),(Zsx c),(Zsy c),(Zsz c),(Zs1 c),.live (.box 39 (Ztu c k3)),.live (.box 39 (Ztu c k3)),(Zta c),.dead]⟩) (fun _ _ hG=>Gs.freeze (s:=(Ztt x c k3)) 12 (el:=W7 (kE false) (Vn c k3)) (sz:=(kE false).sz) (n:=(Vn c k3).length) rfl (kk2 (kk8 (X3n p2b))) ⟨pZ9,⟨pZ9,⟨pZ9,⟨pZ9,⟨pZ9,⟨pZ9,⟨pZ9,⟨pZ9,⟨pZ9,⟨p51,⟨p51,⟨pZ9,⟨(.inl ⟨rfl,rfl⟩),trivial⟩⟩⟩⟩⟩⟩⟩⟩⟩⟩⟩⟩⟩ hG) ?_
 exact eX [.c 4 9 39 0 39 [.ptr 0 0,.ptr 2 0,.ptr 4 0,.ptr 6 0,(Zt6 c),.d (dsl false false (kE false) (Vn c k3))] (.agg (Ztu c k3))] ⟨⟨rfl,rfl,by kernel_rfl,by kernel_rfl,.inl ⟨6,wide_39,rfl,Nat.le_of_ble_eq_true rfl⟩⟩,trivial⟩ [0,1,2,3,4,5,6,7] (by have e1:((Vn c c.Xy.length):List aE)=(Vn c k3):=(by (rw [hks];done));have hE:=congrArg (fun (q1:List aE)=>(.tv (.agg [.ptr 0 0,.ptr 2 0,.ptr 4 0,.ptr 6 0,(Zt6 c),.d (dsl false false (kE false) q1)]):AV)) e1;exact hE) (ix ⟨⟨rfl,(by have e1:((J1 (H0 (fOf x.H4) (cOf x.Yp) c k3)):List (Yl×Bool))=(J1 (H0 (fOf x.H4) (cOf x.Yp) c c.Xy.length)):=(by (rw [hks];done));have hE:=congrArg (fun (q1:List (Yl×Bool))=>(.live (mpK Xx Yg q1):HS)) e1;exact Eq.trans pZ8 hE)⟩,⟨⟨rfl,(by have e1:((H0 (fOf x.H4) (cOf x.Yp) c k3).length:Nat)=(H0 (fOf x.H4) (cOf x.Yp) c c.Xy.length).length:=(by (rw [hks];done));have hE:=congrArg (fun (q1:Nat)=>(.live (.box 135 [dB true,(Zrs x),(Zrp x),.own 3 (kE false).sz 0 q1]):HS)) e1;exact Eq.trans pZ8 hE)⟩,⟨⟨rfl,(by have e1:((H0 (fOf x.H4) (cOf x.Yp) c k3):List aE)=(H0 (fOf x.H4) (cOf x.Yp) c c.Xy.length):=(by (rw [hks];done));have hE:=congrArg (fun (q1:List aE)=>(.live (Xf 43 (kE false) q1):HS)) e1;exact Eq.trans pZ8 hE)⟩,(ix (ix (ix (ix trivial))))⟩⟩⟩)
end Go.Proofs.YtnaopgohccacmaaGreat.Q
namespace Go.Proofs.YtnaopgohccacmaaGreat.Q
set_option linter.unusedVariables false
set_option linter.unusedSimpArgs false
set_option maxRecDepth 100000
def ix9 (l:List Yb) (a:Int):Nat:=if 0<l.length then ((Int.tmod a ((l.length:Nat):Int)+((l.length:Nat):Int)) % ((l.length:Nat):Int)).toNat else 0
theorem X5s {l:List Yb} {a:Int} (h:0<l.length):((ix9 l a:Nat):Int)=(Int.tmod a ((l.length:Nat):Int)+((l.length:Nat):Int)) % ((l.length:Nat):Int)∧ix9 l a<l.length:=by
  unfold ix9
  rw [if_pos h]
  have h1:=Int.emod_nonneg (Int.tmod a ((l.length:Nat):Int)+((l.length:Nat):Int)) (b:=((l.length:Nat):Int)) (by omega)
  have h2:=Int.emod_lt_of_pos (Int.tmod a ((l.length:Nat):Int)+((l.length:Nat):Int)) (b:=((l.length:Nat):Int)) (by omega)
  omega
theorem ix_09 {l:List Yb} {a:Int} (h:¬0<l.length):ix9 l a=0:=if_neg h
def hdX9 (h:Yb):Yb:=⟨h.Xg,h.Y0++[120],h.Ye,h.W3⟩
section
variable (c:Wr) (t:Yo)
abbrev J9:Nat:=ix9 c.X2 t.Wm
def W0:Wr :=
  if t.Wq=1∧0<c.X2.length then ⟨c.Xs,c.Xu,c.Xc,c.X2.take (J9 c t)++c.X2.drop (J9 c t+1),c.Vp,c.Xl,c.X0,c.Yu⟩
  else if t.Wq=2 then ⟨c.Xs,c.Xu,c.Xc,c.X2,c.Vp,c.Xl,⟨c.X0.Xt,c.X0.Xn+1⟩,c.Yu⟩
  else if t.Wq=3 then ⟨c.Xs,c.Xu,c.Xc,c.X2,c.Vp+1,c.Xl,c.X0,c.Yu⟩
  else if t.Wq=4 then ⟨c.Xs+1,c.Xu,c.Xc,c.X2,c.Vp,c.Xl,c.X0,c.Yu⟩
  else if t.Wq=5∧0<c.X2.length then ⟨c.Xs,c.Xu,c.Xc,c.X2.set (J9 c t) (hdX9 (c.X2.getD (J9 c t) Xo)),c.Vp,c.Xl,c.X0,c.Yu⟩
  else if t.Wq=6 then ⟨c.Xs,c.Xu,c.Xc++[0],c.X2,c.Vp,c.Xl,c.X0,c.Yu⟩
  else if t.Wq=7 then ⟨c.Xs,c.Xu,c.Xc,c.X2,c.Vp,⟨c.Xl.X5+1,c.Xl.Xd⟩,c.X0,c.Yu⟩
  else if t.Wq=8∧0<c.Yu.length then ⟨c.Xs,c.Xu,c.Xc,c.X2,c.Vp,c.Xl,c.X0,c.Yu.drop 1⟩
  else if t.Wq=9∧0<c.Xu.length then ⟨c.Xs,c.Xu.drop 1,c.Xc,c.X2,c.Vp,c.Xl,c.X0,c.Yu⟩
  else c
end
section
variable {c:Wr} {t:Yo}
theorem trn_1 (h:t.Wq=1) (h0:0<c.X2.length):W0 c t=⟨c.Xs,c.Xu,c.Xc,c.X2.take (J9 c t)++c.X2.drop (J9 c t+1),c.Vp,c.Xl,c.X0,c.Yu⟩:=if_pos ⟨h,h0⟩
theorem trn_2 (h:t.Wq=2):W0 c t=⟨c.Xs,c.Xu,c.Xc,c.X2,c.Vp,c.Xl,⟨c.X0.Xt,c.X0.Xn+1⟩,c.Yu⟩:=by unfold W0;rw [if_neg (by omega),if_pos h]
theorem trn_3 (h:t.Wq=3):W0 c t=⟨c.Xs,c.Xu,c.Xc,c.X2,c.Vp+1,c.Xl,c.X0,c.Yu⟩:=by unfold W0;rw [if_neg (by omega),if_neg (by omega),if_pos h]
theorem trn_4 (h:t.Wq=4):W0 c t=⟨c.Xs+1,c.Xu,c.Xc,c.X2,c.Vp,c.Xl,c.X0,c.Yu⟩:=by unfold W0;rw [if_neg (by omega),if_neg (by omega),if_neg (by omega),if_pos h]
theorem trn_5 (h:t.Wq=5) (h0:0<c.X2.length):W0 c t=⟨c.Xs,c.Xu,c.Xc,c.X2.set (J9 c t) (hdX9 (c.X2.getD (J9 c t) Xo)),c.Vp,c.Xl,c.X0,c.Yu⟩:=by unfold W0;rw [if_neg (by omega),if_neg (by omega),if_neg (by omega),if_neg (by omega),if_pos ⟨h,h0⟩]
theorem trn_6 (h:t.Wq=6):W0 c t=⟨c.Xs,c.Xu,c.Xc++[0],c.X2,c.Vp,c.Xl,c.X0,c.Yu⟩:=by unfold W0;rw [if_neg (by omega),if_neg (by omega),if_neg (by omega),if_neg (by omega),if_neg (by omega),if_pos h]
theorem trn_7 (h:t.Wq=7):W0 c t=⟨c.Xs,c.Xu,c.Xc,c.X2,c.Vp,⟨c.Xl.X5+1,c.Xl.Xd⟩,c.X0,c.Yu⟩:=by unfold W0;rw [if_neg (by omega),if_neg (by omega),if_neg (by omega),if_neg (by omega),if_neg (by omega),if_neg (by omega),if_pos h]
theorem trn_8 (h:t.Wq=8) (h0:0<c.Yu.length):W0 c t=⟨c.Xs,c.Xu,c.Xc,c.X2,c.Vp,c.Xl,c.X0,c.Yu.drop 1⟩:=by unfold W0;rw [if_neg (by omega),if_neg (by omega),if_neg (by omega),if_neg (by omega),if_neg (by omega),if_neg (by omega),if_neg (by omega),if_pos ⟨h,h0⟩]
theorem trn_9 (h:t.Wq=9) (h0:0<c.Xu.length):W0 c t=⟨c.Xs,c.Xu.drop 1,c.Xc,c.X2,c.Vp,c.Xl,c.X0,c.Yu⟩:=by unfold W0;rw [if_neg (by omega),if_neg (by omega),if_neg (by omega),if_neg (by omega),if_neg (by omega),if_neg (by omega),if_neg (by omega),if_neg (by omega),if_pos ⟨h,h0⟩]
theorem Xd7 (h1:¬(t.Wq=1∧0<c.X2.length)) (h2:¬t.Wq=2) (h3:¬t.Wq=3) (h4:¬t.Wq=4) (h5:¬(t.Wq=5∧0<c.X2.length)) (h6:¬t.Wq=6) (h7:¬t.Wq=7) (h8:¬(t.Wq=8∧0<c.Yu.length)) (h9:¬(t.Wq=9∧0<c.Xu.length)):W0 c t=c:=by
  unfold W0;rw [if_neg h1,if_neg h2,if_neg h3,if_neg h4,if_neg h5,if_neg h6,if_neg h7,if_neg h8,if_neg h9]
end
def smT9 (c:Wr):Prop:=c.X2.length≤1000000∧c.Xc.length≤1000000000∧(0≤c.Xs∧c.Xs≤1000000000000000)∧(0≤c.Vp∧c.Vp≤1000000000000000)∧(0≤c.X0.Xn∧c.X0.Xn≤1000000000000000)∧(0≤c.Xl.X5∧c.Xl.X5≤1000000000000000)∧(c.Yu.length≤1000000∧c.Xu.length≤1000000)∧∀ h,h∈c.X2→h.Y0.length≤10000000
instance (c:Wr):Decidable (smT9 c):=by unfold smT9;infer_instance
theorem smT_prev {c:Wr} (h:smT9 c) (k:Nat):(c.X2.getD k Xo).Y0.length≤10000000:=by
  by_cases hk:k<c.X2.length
  · exact h.2.2.2.2.2.2.2 _ (J3 hk)
  · rw [List.getD_eq_getElem?_getD,List.getElem?_eq_none (by omega)];exact Nat.zero_le _
theorem cut9 {l:List Yb} {j:Nat} (hj:j<l.length):l.take j++(l.take (j+1+l.length-(j+1))).drop (j+1)=l.take j++l.drop (j+1):=by
  rw [List.take_of_length_le (l:=l) (i:=j+1+l.length-(j+1)) (by omega)]
end Go.Proofs.YtnaopgohccacmaaGreat.Q
namespace Go.Proofs.YtnaopgohccacmaaGreat.Q
open Go Go.RowKit
set_option linter.unusedVariables false
set_option linter.unusedSimpArgs false
set_option maxRecDepth 100000
set_option maxHeartbeats 4000000
section
variable (c:Wr) (t:Yo)
abbrev Ztv:SV:=dI c.Xs
abbrev Ztw:SV:=.d (dsl false false (kE false) c.Xu)
abbrev Ztx:SV:=dU c.Xc
abbrev Zty:SV:=.d (dsl false false (X8 false) c.X2)
abbrev Ztz:SV:=dI c.Vp
abbrev Zu0:SV:=dI c.Xl.X5
abbrev Zu1:SV:=dU c.Xl.Xd
abbrev Zu2:SV:=dI c.X0.Xt
abbrev Zu3:SV:=dI c.X0.Xn
abbrev Zu4:SV:=.d (dsl false false (Xa false) c.Yu)
abbrev Zu5:List SV:=[(Ztv c),(Ztw c),(Ztx c),(Zty c),(Ztz c),(Zu0 c),(Zu1 c),(Zu2 c),(Zu3 c),(Zu4 c)]
abbrev Zu6:AV:=.tv (.agg (Zu5 c))
abbrev Zu7:AV:=.tv (.agg [dI t.Wq,dI t.Wm])
abbrev Zu8:=(ix9 c.X2 t.Wm)
abbrev Zu9:AV:=vI (((Zu8 c t):Nat):Int)
abbrev Zua:AV:=vB (decide (((c.X2.length:Nat):Int)>0))
abbrev Zub:List AV:=[(Zu6 c),(Zu7 t),pv 0 0,pv 1 0,pv 2 0,(Zu9 c t),aa,aa,aa,(Zua c)]
abbrev Zuc:HS:=.live (.box 29 [dI t.Wq,dI t.Wm])
abbrev Zud:SV:=.d (.val (.slice none 0 0))
abbrev Zue:HS:=.live (.box 49 [dI 0,Zud,Zud,Zud,dI 0,dI 0,Zud,dI 0,dI 0,Zud])
abbrev Zuf:List HS:=[.live (.box 49 (Zu5 c)),(Zuc t),Zue]
abbrev Zug:List AV:=[(Zu6 c),(Zu7 t),pv 0 0,pv 1 0,pv 2 0,vI (((Int.tmod t.Wm ((c.X2.length:Nat):Int))+((c.X2.length:Nat):Int)) % ((c.X2.length:Nat):Int)),aa,aa,aa,(Zua c)]
abbrev Zuh:List AV:=[(Zu6 c),(Zu7 t),pv 0 0,pv 1 0,pv 2 0,vI 0,aa,aa,aa,(Zua c)]
abbrev Zui:List SV:=[dI (W0 c t).Xs,.d (dsl false false (kE false) (W0 c t).Xu),dU (W0 c t).Xc,.d (dsl false false (X8 false) (W0 c t).X2),dI (W0 c t).Vp,dI (W0 c t).Xl.X5,dU (W0 c t).Xl.Xd,dI (W0 c t).X0.Xt,dI (W0 c t).X0.Xn,.d (dsl false false (Xa false) (W0 c t).Yu)]
abbrev Zuj:List HS:=[.live (.box 49 (Zui c t)),Zue]
abbrev Zuk:St:=⟨[aa,aa,pv 0 0,aa,pv 1 0],(Zuj c t)⟩
abbrev Zul:HS:=.live (Xf 69 (X8 false) c.X2)
abbrev Zum:List HS:=[.live (.box 49 [(Ztv c),(Ztw c),(Ztx c),.own 5 (X8 false).sz 0 ((c.X2.take (Zu8 c t))++((c.X2.take ((Zu8 c t)+1+c.X2.length-((Zu8 c t)+1))).drop ((Zu8 c t)+1))).length,(Ztz c),(Zu0 c),(Zu1 c),(Zu2 c),(Zu3 c),(Zu4 c)]),(Zuc t),Zue,.dead,.dead,.live (Xf 69 (X8 false) ((c.X2.take (Zu8 c t))++((c.X2.take ((Zu8 c t)+1+c.X2.length-((Zu8 c t)+1))).drop ((Zu8 c t)+1))))]
abbrev Zun:List AV:=[aa,aa,pv 0 0,aa,pv 2 0]
abbrev Zuo:HS:=.live (.box 49 [(Ztv c),(Ztw c),(Ztx c),.d (dsl false false (X8 false) ((c.X2.take (Zu8 c t))++((c.X2.take ((Zu8 c t)+1+c.X2.length-((Zu8 c t)+1))).drop ((Zu8 c t)+1)))),(Ztz c),(Zu0 c),(Zu1 c),(Zu2 c),(Zu3 c),(Zu4 c)])
abbrev Zup:AV:=vB (decide (t.Wq=2))
abbrev Zuq:AV:=vB (decide (t.Wq=3))
abbrev Zur:AV:=vB (decide (t.Wq=4))
abbrev Zus:AV:=vB (decide (t.Wq=6))
abbrev Zut:AV:=vB (decide (t.Wq=7))
abbrev Zuu:SV:=.own 4 (X8 false).sz 0 c.X2.length
abbrev Zuv:HS:=.live (.box 49 [(Ztv c),(Ztw c),(Ztx c),(Zuu c),(Ztz c),(Zu0 c),(Zu1 c),(Zu2 c),(Zu3 c),(Zu4 c)])
abbrev Zuw:List HS:=[(Zuv c),(Zuc t),Zue,.dead,(Zul c)]
abbrev Zux:St:=⟨Zun,(Zuw c t)⟩
abbrev Zuy:St:=⟨Zun,[.live (.box 49 (Zu5 c)),(Zuc t),Zue,.dead,.dead]⟩
abbrev Zuz:List HS:=[.live (.box 49 (Zu5 c)),Zue]
abbrev Zv0:List HS:=[.live (.box 49 [(Ztv c),(Ztw c),(Ztx c),(Zuu c),(Ztz c),(Zu0 c),(Zu1 c),(Zu2 c),dI (c.X0.Xn+1),(Zu4 c)]),(Zuc t),Zue,.dead,(Zul c)]
abbrev Zv1:HS:=.live (.box 49 [(Ztv c),(Ztw c),(Ztx c),(Zty c),(Ztz c),(Zu0 c),(Zu1 c),(Zu2 c),dI (c.X0.Xn+1),(Zu4 c)])
abbrev Zv2:List HS:=[.live (.box 49 [(Ztv c),(Ztw c),(Ztx c),(Zuu c),dI (c.Vp+1),(Zu0 c),(Zu1 c),(Zu2 c),(Zu3 c),(Zu4 c)]),(Zuc t),Zue,.dead,(Zul c)]
abbrev Zv3:HS:=.live (.box 49 [(Ztv c),(Ztw c),(Ztx c),(Zty c),dI (c.Vp+1),(Zu0 c),(Zu1 c),(Zu2 c),(Zu3 c),(Zu4 c)])
abbrev Zv4:List HS:=[.live (.box 49 [dI (c.Xs+1),(Ztw c),(Ztx c),(Zuu c),(Ztz c),(Zu0 c),(Zu1 c),(Zu2 c),(Zu3 c),(Zu4 c)]),(Zuc t),Zue,.dead,(Zul c)]
abbrev Zv5:HS:=.live (.box 49 [dI (c.Xs+1),(Ztw c),(Ztx c),(Zty c),(Ztz c),(Zu0 c),(Zu1 c),(Zu2 c),(Zu3 c),(Zu4 c)])
abbrev Zv6:=(Yb.mk (c.X2.getD (Zu8 c t) Xo).Xg ((c.X2.getD (Zu8 c t) Xo).Y0++[120]) (c.X2.getD (Zu8 c t) Xo).Ye (c.X2.getD (Zu8 c t) Xo).W3)
abbrev Zv7:HS:=.live (Xf 69 (X8 false) (c.X2.set (Zu8 c t) (Zv6 c t)))
abbrev Zv8:List HS:=[(Zuv c),(Zuc t),Zue,.dead,(Zv7 c t)]
abbrev Zv9:List HS:=[.live (.box 49 [(Ztv c),(Ztw c),(Ztx c),.own 4 (X8 false).sz 0 (c.X2.set (Zu8 c t) (Zv6 c t)).length,(Ztz c),(Zu0 c),(Zu1 c),(Zu2 c),(Zu3 c),(Zu4 c)]),(Zuc t),Zue,.dead,(Zv7 c t)]
abbrev Zva:HS:=.live (.box 49 [(Ztv c),(Ztw c),(Ztx c),.d (dsl false false (X8 false) (c.X2.set (Zu8 c t) (Zv6 c t))),(Ztz c),(Zu0 c),(Zu1 c),(Zu2 c),(Zu3 c),(Zu4 c)])
abbrev Zvb:HS:=.live (Xf 5 kU8 [(0:UInt8)])
abbrev Zvc:List HS:=[.live (.box 49 [(Ztv c),(Ztw c),.own 8 kU8.sz 0 (c.Xc++[(0:UInt8)]).length,(Zuu c),(Ztz c),(Zu0 c),(Zu1 c),(Zu2 c),(Zu3 c),(Zu4 c)]),(Zuc t),Zue,.dead,(Zul c),.dead,.dead,Zvb,.live (Xf 5 kU8 (c.Xc++[(0:UInt8)]))]
abbrev Zvd:St:=⟨Zun,[.live (.box 49 [(Ztv c),(Ztw c),dU (c.Xc++[(0:UInt8)]),(Zuu c),(Ztz c),(Zu0 c),(Zu1 c),(Zu2 c),(Zu3 c),(Zu4 c)]),(Zuc t),Zue,.dead,(Zul c),.dead,.dead,Zvb,.dead]⟩
abbrev Zve:HS:=.live (.box 49 [(Ztv c),(Ztw c),dU (c.Xc++[(0:UInt8)]),(Zty c),(Ztz c),(Zu0 c),(Zu1 c),(Zu2 c),(Zu3 c),(Zu4 c)])
abbrev Zvf:List HS:=[.live (.box 49 [(Ztv c),(Ztw c),(Ztx c),(Zuu c),(Ztz c),dI (c.Xl.X5+1),(Zu1 c),(Zu2 c),(Zu3 c),(Zu4 c)]),(Zuc t),Zue,.dead,(Zul c)]
abbrev Zvg:HS:=.live (.box 49 [(Ztv c),(Ztw c),(Ztx c),(Zty c),(Ztz c),dI (c.Xl.X5+1),(Zu1 c),(Zu2 c),(Zu3 c),(Zu4 c)])
abbrev Zvh:List HS:=[.live (.box 49 [(Ztv c),(Ztw c),(Ztx c),(Zuu c),(Ztz c),(Zu0 c),(Zu1 c),(Zu2 c),(Zu3 c),.d (dsl false false (Xa false) (c.Yu.drop 1))]),(Zuc t),Zue,.dead,(Zul c)]
abbrev Zvi:HS:=.live (.box 49 [(Ztv c),(Ztw c),(Ztx c),(Zty c),(Ztz c),(Zu0 c),(Zu1 c),(Zu2 c),(Zu3 c),.d (dsl false false (Xa false) (c.Yu.drop 1))])
abbrev Zvj:List AV:=[(Zu6 c),(Zu7 t),pv 0 0,pv 1 0,pv 2 0,(Zu9 c t),aa,aa,aa,(Zua c),aa,aa,aa,aa,aa,aa,aa,aa,aa,aa,aa,aa,aa,aa,aa,aa,aa,aa,aa,vB false,aa,aa,aa,aa,aa,aa,aa,aa,aa,aa,aa,aa,aa,aa,aa,aa,aa,aa,aa,aa,(Zup t),aa,aa,aa,aa,aa,aa,aa,aa,aa,(Zuq t),aa,aa,aa,aa,aa,aa,aa,(Zur t),aa,aa,aa,aa,aa,aa,aa,vB false,aa,aa,aa,aa,aa,aa,aa,aa,aa,aa,aa,aa,aa,aa,aa,aa,aa,aa,(Zus t),aa,aa,aa,aa,aa,aa,aa,aa,aa,aa,(Zut t),aa,aa,aa,aa,aa,aa,aa,aa,aa,vB false,aa,aa,aa,aa,aa,aa,aa,aa,aa,aa,aa,aa,aa,vB (decide (((c.Xu.length:Nat):Int)>0))]
abbrev Zvk:List HS:=[.live (.box 49 [(Ztv c),.d (dsl false false (kE false) (c.Xu.drop 1)),(Ztx c),(Zuu c),(Ztz c),(Zu0 c),(Zu1 c),(Zu2 c),(Zu3 c),(Zu4 c)]),(Zuc t),Zue,.dead,(Zul c)]
abbrev Zvl:HS:=.live (.box 49 [(Ztv c),.d (dsl false false (kE false) (c.Xu.drop 1)),(Ztx c),(Zty c),(Ztz c),(Zu0 c),(Zu1 c),(Zu2 c),(Zu3 c),(Zu4 c)])
end
theorem X3m (c:Wr) (t:Yo) (hb:smT9 c):Holds Tryz.prog 13 ⟨[.tv (.agg [dI c.Xs,.d (dsl false false (kE false) c.Xu),dU c.Xc,.d (dsl false false (X8 false) c.X2),dI c.Vp,dI c.Xl.X5,dU c.Xl.Xd,dI c.X0.Xt,dI c.X0.Xn,.d (dsl false false (Xa false) c.Yu)]),.tv (.agg [dI t.Wq,dI t.Wm])],[],.tv (.agg [dI (W0 c t).Xs,.d (dsl false false (kE false) (W0 c t).Xu),dU (W0 c t).Xc,.d (dsl false false (X8 false) (W0 c t).X2),dI (W0 c t).Vp,dI (W0 c t).Xl.X5,dU (W0 c t).Xl.Xd,dI (W0 c t).X0.Xt,dI (W0 c t).X0.Xn,.d (dsl false false (Xa false) (W0 c t).Yu)]),[]⟩:=by
 refine Holds.of Tryz.func13 rfl (N:=145) Tryz.ntmps13 rfl fun w0 B0 S0 U0=>?_
 show T _ (Y2 145 0 w0 S0 U0 B0) ⟨[(Zu6 c),(Zu7 t)],[]⟩ _ _
 have hpv:=smT_prev hb (ix9 c.X2 t.Wm)
 obtain ⟨hb1,hb2,hb3,hb4,hb5,hb6,hb7,hb8⟩:=hb
 obtain ⟨hb7a,hb7b⟩:=hb7
 have hjl2:0<c.X2.length→(ix9 c.X2 t.Wm)<c.X2.length:=fun q=>(X5s q).2
 refine sR [] (sR [] ?_)
 refine Um ⟨(Zub c t),(Zuf c t)⟩ ?_ ?_
 ·refine sR [] ?_
  by_cases hq1:((c.X2.length:Nat):Int)>0
  ·have hbd:=Xbm (a:=t.Wm) (b:=((c.X2.length:Nat):Int)) (by omega);have hjl:=(X5s (l:=c.X2) (a:=t.Wm) (by omega)).2
   refine cT (dT hq1) ?_
   refine xD [[],[0],[],[2],[2,3],[0,1,2,3,4],[],[6],[6,7],[0,1,2,3,4,5,6,7,8],[],[10],[10,11],[0,1,2,3,4,5,6,7,8,9,10,11,12],[0,1,2,3,4,5,6,7,8,9,10,11,12,13]] [hR 5 rfl rfl (Yd (u1:=.int .i64 t.Wm) (u2:=.int .i64 ((c.X2.length:Nat):Int)) (v:=.int .i64 (Int.tmod t.Wm ((c.X2.length:Nat):Int))) (b_rem (by omega) rfl) (X3 rfl) trivial),hR 9 rfl rfl (Yd (u1:=.int .i64 (Int.tmod t.Wm ((c.X2.length:Nat):Int))) (u2:=.int .i64 ((c.X2.length:Nat):Int)) (v:=.int .i64 ((Int.tmod t.Wm ((c.X2.length:Nat):Int))+((c.X2.length:Nat):Int))) (Wb pc) (X3 rfl) trivial),hR 13 rfl rfl (Yd (u1:=.int .i64 ((Int.tmod t.Wm ((c.X2.length:Nat):Int))+((c.X2.length:Nat):Int))) (u2:=.int .i64 ((c.X2.length:Nat):Int)) (v:=.int .i64 (((Int.tmod t.Wm ((c.X2.length:Nat):Int))+((c.X2.length:Nat):Int)) % ((c.X2.length:Nat):Int))) (b_remP (by omega) ‹_›) (X3 rfl) trivial)] pZ8 pZ8 pZ8 pZ8 pZ8 pZ8 ?_
   refine eN ⟨(Zug c t),(Zuf c t)⟩ ?_
   refine X7 (s':=⟨(Zub c t),(Zuf c t)⟩) (fun _ _ hG=>Yv [0,1,2] (bm 10 575) (t2:=(Zug c t)) (congrArg (fun (q1:Int)=>([(Zu6 c),(Zu7 t),pv 0 0,pv 1 0,pv 2 0,vI q1,aa,aa,aa,(Zua c)]:List AV)) (by exact (X5s (by omega)).1)) rfl hG) ?_
   exact nJ
  refine cF (dF hq1) (T.skip ?_)
  refine eN ⟨(Zuh c t),(Zuf c t)⟩ ?_
  refine X7 (s':=⟨(Zub c t),(Zuf c t)⟩) (fun _ _ hG=>Yv [0,1,2] (bm 10 575) (t2:=(Zuh c t)) (by have e1:((((ix9 c.X2 t.Wm):Nat):Int):Int)=0:=(by (rw [ix_09 (by omega)];rfl));have hE:=congrArg (fun (q1:Int)=>([(Zu6 c),(Zu7 t),pv 0 0,pv 1 0,pv 2 0,vI q1,aa,aa,aa,(Zua c)]:List AV)) e1;exact hE) rfl hG) ?_
  exact nJ
 refine sR [hR 0 rfl rfl (Yc 3 69 (X8 false) (Vm false) ([]:List Yb) [] (cs:=[]) Tryz.underlying41 Jz rfl X78 rfl rfl rfl pd W5 pZ8 (V4 pZ8) (X3 rfl) trivial),hR 3 rfl rfl (W2 3 4 69 48 (X8 false) (Vm false) ([]:List Yb) c.X2 c.X2 ([]:List Yb).length (sy:=((Zty c))) (rhs:=[]) X4r (by omega) (Jf false false (X8 false) c.X2) (by simp) (by (simp [maxLen,-List.getD_eq_getElem?_getD]<;>omega)) (by (simp [maxLen,-List.getD_eq_getElem?_getD]<;>omega)) (X3 rfl) trivial)] ?_
 refine Um (Zuk c t) ?_ ?_
 ·refine T.block ?_
  by_cases hq2:t.Wq=1
  ·refine sR (Xm (hY · (dT hq2)) [4,5,6,7] (hP 8 (dT hq2)::[])) ?_
   by_cases hq3:((c.X2.length:Nat):Int)>0
   ·have hbd:=Xbm (a:=t.Wm) (b:=((c.X2.length:Nat):Int)) (by omega);have hjl:=(X5s (l:=c.X2) (a:=t.Wm) (by omega)).2
    refine cT (dT hq3) ?_
    refine xD [[],[0],[],[0,1,2],[],[4],[],[6],[4,5,6,7],[0,1,2,3,4,5,6,7,8],[0,1,2,3,4,5,6,7,8,9],[0,1,2,3,4,5,6,7,8,9,10]] [hR 3 rfl rfl (Xdu (lo0:=4) (sz:=(X8 false).sz) (off:=0) (n:=c.X2.length) (l:=0) (h:=(ix9 c.X2 t.Wm)) (off':=0) (n':=(ix9 c.X2 t.Wm)) (lo:=none) (hi:=some (.tmp 41,(((ix9 c.X2 t.Wm):Nat):Int))) Tryz.underlying41 Jz rfl rfl rfl rfl rfl (by omega) (by omega) (by omega) (by omega) (X3 rfl) trivial),hR 7 rfl rfl (Yd (u1:=.int .i64 (((ix9 c.X2 t.Wm):Nat):Int)) (u2:=.int .i64 1) (v:=.int .i64 (((ix9 c.X2 t.Wm)+1:Nat):Int)) (Wb pc) (X3 rfl) ⟨rfl,trivial⟩),hR 8 rfl rfl (Xdu (lo0:=4) (sz:=(X8 false).sz) (off:=0) (n:=c.X2.length) (l:=((ix9 c.X2 t.Wm)+1)) (h:=c.X2.length) (off':=(ix9 c.X2 t.Wm)+1) (n':=(c.X2.length-((ix9 c.X2 t.Wm)+1))) (lo:=some (.tmp 46,(((ix9 c.X2 t.Wm)+1:Nat):Int))) (hi:=none) Tryz.underlying41 Jz rfl rfl rfl rfl rfl ‹_› (by omega) (by omega) (by omega) (X3 rfl) trivial),hR 9 rfl rfl (W2 4 5 69 48 (X8 false) (Vm false) c.X2 ((c.X2.take ((ix9 c.X2 t.Wm)+1+c.X2.length-((ix9 c.X2 t.Wm)+1))).drop ((ix9 c.X2 t.Wm)+1)) ((c.X2.take (ix9 c.X2 t.Wm))++((c.X2.take ((ix9 c.X2 t.Wm)+1+c.X2.length-((ix9 c.X2 t.Wm)+1))).drop ((ix9 c.X2 t.Wm)+1))) (ix9 c.X2 t.Wm) (sy:=(.own 4 (X8 false).sz ((Zu8 c t)+1) (c.X2.length-((Zu8 c t)+1)))) (rhs:=[(4,(Zul c))]) X4r (by omega) (src_cut 4 69 (X8 false) c.X2 ((c.X2.take ((ix9 c.X2 t.Wm)+1+c.X2.length-((ix9 c.X2 t.Wm)+1))).drop ((ix9 c.X2 t.Wm)+1)) ((ix9 c.X2 t.Wm)+1) ((ix9 c.X2 t.Wm)+1+c.X2.length-((ix9 c.X2 t.Wm)+1)) (by omega) (by omega) (by rfl) (by (simp [maxLen,-List.getD_eq_getElem?_getD]<;>omega))) rfl (by (simp [maxLen,-List.getD_eq_getElem?_getD]<;>omega)) (by (simp [maxLen,-List.getD_eq_getElem?_getD]<;>omega)) (X3 rfl) trivial)] pZ8 pZ8 pZ8 pZ8 pZ8 pZ8 ?_
    refine nB ?_
    refine eN ⟨[(Zu6 c),(Zu7 t),pv 0 0,pv 1 0,pv 2 0,(Zu9 c t),aa,aa,aa,(Zua c),aa,aa,aa,aa,aa,aa,aa,aa,aa,aa,aa,aa,aa,aa,aa,aa,aa,aa,aa,(Zua c)],(Zum c t)⟩ ?_
    refine X7 (s':=⟨Zun,(Zum c t)⟩) (fun _ _ hG=>Wf [0,1,2,10,15,5] (bm 5 20) (t1:=Zun) (h1:=(Zum c t)) rfl rfl hG) ?_
    refine X7 (s':=⟨Zun,[(Zuo c t),(Zuc t),Zue,.dead,.dead,.dead]⟩) (fun _ _ hG=>Gs.freeze (s:=⟨Zun,(Zum c t)⟩) 5 (el:=W7 (X8 false) ((c.X2.take (ix9 c.X2 t.Wm))++((c.X2.take ((ix9 c.X2 t.Wm)+1+c.X2.length-((ix9 c.X2 t.Wm)+1))).drop ((ix9 c.X2 t.Wm)+1)))) (sz:=(X8 false).sz) (n:=((c.X2.take (ix9 c.X2 t.Wm))++((c.X2.take ((ix9 c.X2 t.Wm)+1+c.X2.length-((ix9 c.X2 t.Wm)+1))).drop ((ix9 c.X2 t.Wm)+1))).length) rfl ⟨.inl rfl,(kk4 trivial)⟩ ⟨pq,⟨pZ9,⟨pZ9,⟨pZ9,⟨pZ9,⟨(.inl ⟨rfl,rfl⟩),trivial⟩⟩⟩⟩⟩⟩ hG) ?_
    have hx9:=trn_1 (c:=c) (t:=t) (by omega) (by omega)
    refine X7 (s':=(Zuk c t)) (fun _ _ hG=>Wf [0,2] (bm 5 20) (h1:=(Zuj c t)) (h2:=[(Zuo c t),Zue]) (t1:=Zun) rfl (by have e1:((W0 c t).Xs:Int)=c.Xs:=pe;have e2:((W0 c t).Xu:List aE)=c.Xu:=pe;have e3:((W0 c t).Xc:List UInt8)=c.Xc:=pe;have e4:((W0 c t).X2:List Yb)=(c.X2.take (ix9 c.X2 t.Wm))++((c.X2.take ((ix9 c.X2 t.Wm)+1+c.X2.length-((ix9 c.X2 t.Wm)+1))).drop ((ix9 c.X2 t.Wm)+1)):=(by (rw [hx9,← cut9 hjl];done));have e5:((W0 c t).Vp:Int)=c.Vp:=pe;have e6:((W0 c t).Xl.X5:Int)=c.Xl.X5:=pe;have e7:((W0 c t).Xl.Xd:List UInt8)=c.Xl.Xd:=pe;have e8:((W0 c t).X0.Xt:Int)=c.X0.Xt:=pe;have e9:((W0 c t).X0.Xn:Int)=c.X0.Xn:=pe;have e10:((W0 c t).Yu:List Xz)=c.Yu:=pe;have hE:=congr pZ3 e10;exact hE) hG) ?_
    exact nJ
   refine cF (dF hq3) (sR [] ?_)
   by_cases hq4:t.Wq=2
   ·exact absurd hq4 (by omega)
   refine cF (dF hq4) (sR [] ?_)
   by_cases hq5:t.Wq=3
   ·exact absurd hq5 (by omega)
   refine cF (dF hq5) (sR [] ?_)
   by_cases hq6:t.Wq=4
   ·exact absurd hq6 (by omega)
   refine cF (dF hq6) ?_
   by_cases hq7:t.Wq=5
   ·exact absurd hq7 (by omega)
   refine sR (Xm (hN · true (dF hq7)) [4,5,6,7] (hP 8 (dF hq7)::[])) (cF (b:=false) rfl (sR [] ?_))
   by_cases hq8:t.Wq=6
   ·exact absurd hq8 (by omega)
   refine cF (dF hq8) (sR [] ?_)
   by_cases hq9:t.Wq=7
   ·exact absurd hq9 (by omega)
   refine cF (dF hq9) ?_
   by_cases hq10:t.Wq=8
   ·exact absurd hq10 (by omega)
   refine sR (Xm (hN · true (dF hq10)) [4,5,6,7] (hP 8 (dF hq10)::[])) (cF (b:=false) rfl ?_)
   by_cases hq11:t.Wq=9
   ·exact absurd hq11 (by omega)
   refine sR (Xm (hN · true (dF hq11)) [4,5,6,7] (hP 8 (dF hq11)::[])) (cF (b:=false) rfl (T.skip (nB ?_)))
   refine eN ⟨[(Zu6 c),(Zu7 t),pv 0 0,pv 1 0,pv 2 0,(Zu9 c t),aa,aa,aa,(Zua c),aa,aa,aa,aa,aa,aa,aa,aa,aa,aa,aa,aa,aa,aa,aa,aa,aa,aa,aa,(Zua c),aa,aa,aa,aa,aa,aa,aa,aa,aa,aa,aa,aa,aa,aa,aa,aa,aa,aa,aa,aa,(Zup t),aa,aa,aa,aa,aa,aa,aa,aa,aa,(Zuq t),aa,aa,aa,aa,aa,aa,aa,(Zur t),aa,aa,aa,aa,aa,aa,aa,vB false,aa,aa,aa,aa,aa,aa,aa,aa,aa,aa,aa,aa,aa,aa,aa,aa,aa,aa,(Zus t),aa,aa,aa,aa,aa,aa,aa,aa,aa,aa,(Zut t),aa,aa,aa,aa,aa,aa,aa,aa,aa,vB false,aa,aa,aa,aa,aa,aa,aa,aa,aa,aa,aa,aa,aa,vB false],(Zuw c t)⟩ ?_
   refine X7 (s':=(Zux c t)) (fun _ _ hG=>Wf [0,1,2,9,4] (bm 5 20) (t1:=Zun) (h1:=(Zuw c t)) rfl rfl hG) ?_
   refine X7 (s':=(Zuy c t)) (fun _ _ hG=>Gs.freeze (s:=(Zux c t)) 4 (el:=W7 (X8 false) c.X2) (sz:=(X8 false).sz) (n:=c.X2.length) rfl ⟨.inl rfl,(kk4 trivial)⟩ ⟨pq,⟨pZ9,⟨pZ9,⟨pZ9,⟨(.inl ⟨rfl,rfl⟩),trivial⟩⟩⟩⟩⟩ hG) ?_
   have hx9:=Xd7 (c:=c) (t:=t) (by omega) (by omega) (by omega) (by omega) (by omega) (by omega) (by omega) (by omega) (by omega)
   refine X7 (s':=(Zuk c t)) (fun _ _ hG=>Wf [0,2] (bm 5 20) (h1:=(Zuj c t)) (h2:=(Zuz c)) (t1:=Zun) rfl po hG) ?_
   exact nJ
  refine sR (Xm (hN · true (dF hq2)) [4,5,6,7] (hP 8 (dF hq2)::[])) (cF (b:=false) rfl (sR [] ?_))
  by_cases hq12:t.Wq=2
  ·refine cT (dT hq12) (xK [hR 3 rfl rfl (Yd (u1:=.int .i64 c.X0.Xn) (u2:=.int .i64 1) (v:=.int .i64 (c.X0.Xn+1)) (Wb pc) (X3 rfl) ⟨rfl,trivial⟩)] (nB ?_))
   refine eN ⟨[(Zu6 c),(Zu7 t),pv 0 0,pv 1 0,pv 2 0,(Zu9 c t),aa,aa,aa,(Zua c),aa,aa,aa,aa,aa,aa,aa,aa,aa,aa,aa,aa,aa,aa,aa,aa,aa,aa,aa,vB false,aa,aa,aa,aa,aa,aa,aa,aa,aa,aa,aa,aa,aa,aa,aa,aa,aa,aa,aa,aa,(Zup t)],(Zv0 c t)⟩ ?_
   refine X7 (s':=⟨Zun,(Zv0 c t)⟩) (fun _ _ hG=>Wf [0,1,2,9,4] (bm 5 20) (t1:=Zun) (h1:=(Zv0 c t)) rfl rfl hG) ?_
   refine X7 (s':=⟨Zun,[(Zv1 c),(Zuc t),Zue,.dead,.dead]⟩) (fun _ _ hG=>Gs.freeze (s:=⟨Zun,(Zv0 c t)⟩) 4 (el:=W7 (X8 false) c.X2) (sz:=(X8 false).sz) (n:=c.X2.length) rfl ⟨.inl rfl,(kk4 trivial)⟩ ⟨pq,⟨pZ9,⟨pZ9,⟨pZ9,⟨(.inl ⟨rfl,rfl⟩),trivial⟩⟩⟩⟩⟩ hG) ?_
   have hx9:=trn_2 (c:=c) (t:=t) (by omega)
   refine X7 (s':=(Zuk c t)) (fun _ _ hG=>Wf [0,2] (bm 5 20) (h1:=(Zuj c t)) (h2:=[(Zv1 c),Zue]) (t1:=Zun) rfl (by have e1:((W0 c t).Xs:Int)=c.Xs:=pe;have e2:((W0 c t).Xu:List aE)=c.Xu:=pe;have e3:((W0 c t).Xc:List UInt8)=c.Xc:=pe;have e4:((W0 c t).X2:List Yb)=c.X2:=pe;have e5:((W0 c t).Vp:Int)=c.Vp:=pe;have e6:((W0 c t).Xl.X5:Int)=c.Xl.X5:=pe;have e7:((W0 c t).Xl.Xd:List UInt8)=c.Xl.Xd:=pe;have e8:((W0 c t).X0.Xt:Int)=c.X0.Xt:=pe;have e9:((W0 c t).X0.Xn:Int)=c.X0.Xn+1:=pe;have e10:((W0 c t).Yu:List Xz)=c.Yu:=pe;have hE:=congr pZ3 e10;exact hE) hG) ?_
   exact nJ
  refine cF (dF hq12) (sR [] ?_)
  by_cases hq13:t.Wq=3
  ·refine cT (dT hq13) (xK [hR 2 rfl rfl (Yd (u1:=.int .i64 c.Vp) (u2:=.int .i64 1) (v:=.int .i64 (c.Vp+1)) (Wb pc) (X3 rfl) ⟨rfl,trivial⟩)] (nB ?_))
   refine eN ⟨[(Zu6 c),(Zu7 t),pv 0 0,pv 1 0,pv 2 0,(Zu9 c t),aa,aa,aa,(Zua c),aa,aa,aa,aa,aa,aa,aa,aa,aa,aa,aa,aa,aa,aa,aa,aa,aa,aa,aa,vB false,aa,aa,aa,aa,aa,aa,aa,aa,aa,aa,aa,aa,aa,aa,aa,aa,aa,aa,aa,aa,(Zup t),aa,aa,aa,aa,aa,aa,aa,aa,aa,(Zuq t)],(Zv2 c t)⟩ ?_
   refine X7 (s':=⟨Zun,(Zv2 c t)⟩) (fun _ _ hG=>Wf [0,1,2,9,4] (bm 5 20) (t1:=Zun) (h1:=(Zv2 c t)) rfl rfl hG) ?_
   refine X7 (s':=⟨Zun,[(Zv3 c),(Zuc t),Zue,.dead,.dead]⟩) (fun _ _ hG=>Gs.freeze (s:=⟨Zun,(Zv2 c t)⟩) 4 (el:=W7 (X8 false) c.X2) (sz:=(X8 false).sz) (n:=c.X2.length) rfl ⟨.inl rfl,(kk4 trivial)⟩ ⟨pq,⟨pZ9,⟨pZ9,⟨pZ9,⟨(.inl ⟨rfl,rfl⟩),trivial⟩⟩⟩⟩⟩ hG) ?_
   have hx9:=trn_3 (c:=c) (t:=t) (by omega)
   refine X7 (s':=(Zuk c t)) (fun _ _ hG=>Wf [0,2] (bm 5 20) (h1:=(Zuj c t)) (h2:=[(Zv3 c),Zue]) (t1:=Zun) rfl (by have e1:((W0 c t).Xs:Int)=c.Xs:=pe;have e2:((W0 c t).Xu:List aE)=c.Xu:=pe;have e3:((W0 c t).Xc:List UInt8)=c.Xc:=pe;have e4:((W0 c t).X2:List Yb)=c.X2:=pe;have e5:((W0 c t).Vp:Int)=c.Vp+1:=pe;have e6:((W0 c t).Xl.X5:Int)=c.Xl.X5:=pe;have e7:((W0 c t).Xl.Xd:List UInt8)=c.Xl.Xd:=pe;have e8:((W0 c t).X0.Xt:Int)=c.X0.Xt:=pe;have e9:((W0 c t).X0.Xn:Int)=c.X0.Xn:=pe;have e10:((W0 c t).Yu:List Xz)=c.Yu:=pe;have hE:=congr pZ3 e10;exact hE) hG) ?_
   exact nJ
  refine cF (dF hq13) (sR [] ?_)
  by_cases hq14:t.Wq=4
  ·refine cT (dT hq14) (xK [hR 2 rfl rfl (Yd (u1:=.int .i64 c.Xs) (u2:=.int .i64 1) (v:=.int .i64 (c.Xs+1)) (Wb pc) (X3 rfl) ⟨rfl,trivial⟩)] (nB ?_))
   refine eN ⟨[(Zu6 c),(Zu7 t),pv 0 0,pv 1 0,pv 2 0,(Zu9 c t),aa,aa,aa,(Zua c),aa,aa,aa,aa,aa,aa,aa,aa,aa,aa,aa,aa,aa,aa,aa,aa,aa,aa,aa,vB false,aa,aa,aa,aa,aa,aa,aa,aa,aa,aa,aa,aa,aa,aa,aa,aa,aa,aa,aa,aa,(Zup t),aa,aa,aa,aa,aa,aa,aa,aa,aa,(Zuq t),aa,aa,aa,aa,aa,aa,aa,(Zur t)],(Zv4 c t)⟩ ?_
   refine X7 (s':=⟨Zun,(Zv4 c t)⟩) (fun _ _ hG=>Wf [0,1,2,9,4] (bm 5 20) (t1:=Zun) (h1:=(Zv4 c t)) rfl rfl hG) ?_
   refine X7 (s':=⟨Zun,[(Zv5 c),(Zuc t),Zue,.dead,.dead]⟩) (fun _ _ hG=>Gs.freeze (s:=⟨Zun,(Zv4 c t)⟩) 4 (el:=W7 (X8 false) c.X2) (sz:=(X8 false).sz) (n:=c.X2.length) rfl ⟨.inl rfl,(kk4 trivial)⟩ ⟨pq,⟨pZ9,⟨pZ9,⟨pZ9,⟨(.inl ⟨rfl,rfl⟩),trivial⟩⟩⟩⟩⟩ hG) ?_
   have hx9:=trn_4 (c:=c) (t:=t) (by omega)
   refine X7 (s':=(Zuk c t)) (fun _ _ hG=>Wf [0,2] (bm 5 20) (h1:=(Zuj c t)) (h2:=[(Zv5 c),Zue]) (t1:=Zun) rfl (by have e1:((W0 c t).Xs:Int)=c.Xs+1:=pe;have e2:((W0 c t).Xu:List aE)=c.Xu:=pe;have e3:((W0 c t).Xc:List UInt8)=c.Xc:=pe;have e4:((W0 c t).X2:List Yb)=c.X2:=pe;have e5:((W0 c t).Vp:Int)=c.Vp:=pe;have e6:((W0 c t).Xl.X5:Int)=c.Xl.X5:=pe;have e7:((W0 c t).Xl.Xd:List UInt8)=c.Xl.Xd:=pe;have e8:((W0 c t).X0.Xt:Int)=c.X0.Xt:=pe;have e9:((W0 c t).X0.Xn:Int)=c.X0.Xn:=pe;have e10:((W0 c t).Yu:List Xz)=c.Yu:=pe;have hE:=congr pZ3 e10;exact hE) hG) ?_
   exact nJ
  refine cF (dF hq14) ?_
  by_cases hq15:t.Wq=5
  ·refine sR (Xm (hY · (dT hq15)) [4,5,6,7] (hP 8 (dT hq15)::[])) ?_
   by_cases hq16:((c.X2.length:Nat):Int)>0
   ·have hbd:=Xbm (a:=t.Wm) (b:=((c.X2.length:Nat):Int)) (by omega);have hjl:=(X5s (l:=c.X2) (a:=t.Wm) (by omega)).2
    refine cT (dT hq16) ?_
    refine xR [hR 3 rfl rfl (Vh (k:=.i64) (l:=4) (sz:=(X8 false).sz) (off:=0) (n:=c.X2.length) (i:=(((ix9 c.X2 t.Wm):Nat):Int)) (m:=(ix9 c.X2 t.Wm)) (o':=(ix9 c.X2 t.Wm)*(X8 false).sz+0) Tryz.underlying41 Jz rfl rfl ‹_› (by simp) (X3 rfl) trivial),hR 5 rfl rfl (F7 (l:=4) (off:=(ix9 c.X2 t.Wm)*(X8 false).sz+1) (i:=(ix9 c.X2 t.Wm)) (j:=1) (T:=69) (sz:=(X8 false).sz) (n:=c.X2.length) (el:=W7 (X8 false) c.X2) (c:=.val (Yk (c.X2.getD (Zu8 c t) Xo).Y0)) X2e rfl ‹_› (by decide) rfl (X3 rfl) trivial),hR 6 rfl rfl (Yd (u1:=Yk (c.X2.getD (ix9 c.X2 t.Wm) Xo).Y0) (u2:=Yk [120]) (v:=Yk ((c.X2.getD (ix9 c.X2 t.Wm) Xo).Y0++[120])) (b_addS (a:=(c.X2.getD (ix9 c.X2 t.Wm) Xo).Y0) (b:=[120]) (by (simp [maxLen,-List.getD_eq_getElem?_getD]<;>omega))) (X3 rfl) ⟨rfl,trivial⟩),hR 7 rfl rfl (Vh (k:=.i64) (l:=4) (sz:=(X8 false).sz) (off:=0) (n:=c.X2.length) (i:=(((ix9 c.X2 t.Wm):Nat):Int)) (m:=(ix9 c.X2 t.Wm)) (o':=(ix9 c.X2 t.Wm)*(X8 false).sz+0) Tryz.underlying41 Jz rfl rfl ‹_› (by simp) (X3 rfl) trivial),hR 9 rfl rfl (Fi 4 69 (X8 false) c.X2 (Yb.mk (c.X2.getD (ix9 c.X2 t.Wm) Xo).Xg ((c.X2.getD (ix9 c.X2 t.Wm) Xo).Y0++[120]) (c.X2.getD (ix9 c.X2 t.Wm) Xo).Ye (c.X2.getD (ix9 c.X2 t.Wm) Xo).W3) (ix9 c.X2 t.Wm) 1 1 [.val (Yk ((c.X2.getD (Zu8 c t) Xo).Y0++[120]))] (tv:=.one (dS ((c.X2.getD (Zu8 c t) Xo).Y0++[120]))) (off:=(ix9 c.X2 t.Wm)*(X8 false).sz+1) cells_60 ⟨.inl rfl,trivial⟩ rfl rfl ‹_› (by decide) rfl (by intro j hj;replace hj:j<4:=hj;rcases j with _|_|_|_|j<;>rfl) trivial)] pZ8 pZ8 ?_
    refine nB ?_
    refine eN ⟨[(Zu6 c),(Zu7 t),pv 0 0,pv 1 0,pv 2 0,(Zu9 c t),aa,aa,aa,(Zua c),aa,aa,aa,aa,aa,aa,aa,aa,aa,aa,aa,aa,aa,aa,aa,aa,aa,aa,aa,vB false,aa,aa,aa,aa,aa,aa,aa,aa,aa,aa,aa,aa,aa,aa,aa,aa,aa,aa,aa,aa,(Zup t),aa,aa,aa,aa,aa,aa,aa,aa,aa,(Zuq t),aa,aa,aa,aa,aa,aa,aa,(Zur t),aa,aa,aa,aa,aa,aa,aa,(Zua c)],(Zv8 c t)⟩ ?_
    refine X7 (s':=⟨Zun,(Zv8 c t)⟩) (fun _ _ hG=>Wf [0,1,2,9,4] (bm 5 20) (t1:=Zun) (h1:=(Zv8 c t)) rfl rfl hG) ?_
    refine X7 (s':=⟨Zun,(Zv9 c t)⟩) (fun _ _ hG=>Wf [0,1,2,9,4] (bm 5 20) (h1:=(Zv9 c t)) (h2:=(Zv8 c t)) (t1:=Zun) rfl (by have e1:((c.X2.set (ix9 c.X2 t.Wm) (Yb.mk (c.X2.getD (ix9 c.X2 t.Wm) Xo).Xg ((c.X2.getD (ix9 c.X2 t.Wm) Xo).Y0++[120]) (c.X2.getD (ix9 c.X2 t.Wm) Xo).Ye (c.X2.getD (ix9 c.X2 t.Wm) Xo).W3)).length:Nat)=c.X2.length:=(by (simp only [List.length_append,List.length_take,List.length_drop,List.length_set];done));have hE:=congrArg (fun (q1:Nat)=>([.live (.box 49 [(Ztv c),(Ztw c),(Ztx c),.own 4 (X8 false).sz 0 q1,(Ztz c),(Zu0 c),(Zu1 c),(Zu2 c),(Zu3 c),(Zu4 c)]),(Zuc t),Zue,.dead,(Zv7 c t)]:List HS)) e1;exact hE) hG) ?_
    refine X7 (s':=⟨Zun,[(Zva c t),(Zuc t),Zue,.dead,.dead]⟩) (fun _ _ hG=>Gs.freeze (s:=⟨Zun,(Zv9 c t)⟩) 4 (el:=W7 (X8 false) (c.X2.set (ix9 c.X2 t.Wm) (Yb.mk (c.X2.getD (ix9 c.X2 t.Wm) Xo).Xg ((c.X2.getD (ix9 c.X2 t.Wm) Xo).Y0++[120]) (c.X2.getD (ix9 c.X2 t.Wm) Xo).Ye (c.X2.getD (ix9 c.X2 t.Wm) Xo).W3))) (sz:=(X8 false).sz) (n:=(c.X2.set (ix9 c.X2 t.Wm) (Yb.mk (c.X2.getD (ix9 c.X2 t.Wm) Xo).Xg ((c.X2.getD (ix9 c.X2 t.Wm) Xo).Y0++[120]) (c.X2.getD (ix9 c.X2 t.Wm) Xo).Ye (c.X2.getD (ix9 c.X2 t.Wm) Xo).W3)).length) rfl ⟨.inl rfl,(kk4 trivial)⟩ ⟨pq,⟨pZ9,⟨pZ9,⟨pZ9,⟨(.inl ⟨rfl,rfl⟩),trivial⟩⟩⟩⟩⟩ hG) ?_
    have hx9:=trn_5 (c:=c) (t:=t) (by omega) (by omega)
    refine X7 (s':=(Zuk c t)) (fun _ _ hG=>Wf [0,2] (bm 5 20) (h1:=(Zuj c t)) (h2:=[(Zva c t),Zue]) (t1:=Zun) rfl (by have e1:((W0 c t).Xs:Int)=c.Xs:=pe;have e2:((W0 c t).Xu:List aE)=c.Xu:=pe;have e3:((W0 c t).Xc:List UInt8)=c.Xc:=pe;have e4:((W0 c t).X2:List Yb)=(c.X2.set (ix9 c.X2 t.Wm) (Yb.mk (c.X2.getD (ix9 c.X2 t.Wm) Xo).Xg ((c.X2.getD (ix9 c.X2 t.Wm) Xo).Y0++[120]) (c.X2.getD (ix9 c.X2 t.Wm) Xo).Ye (c.X2.getD (ix9 c.X2 t.Wm) Xo).W3)):=(by (rw [hx9];rfl));have e5:((W0 c t).Vp:Int)=c.Vp:=pe;have e6:((W0 c t).Xl.X5:Int)=c.Xl.X5:=pe;have e7:((W0 c t).Xl.Xd:List UInt8)=c.Xl.Xd:=pe;have e8:((W0 c t).X0.Xt:Int)=c.X0.Xt:=pe;have e9:((W0 c t).X0.Xn:Int)=c.X0.Xn:=pe;have e10:((W0 c t).Yu:List Xz)=c.Yu:=pe;have hE:=congr pZ3 e10;exact hE) hG) ?_
    exact nJ
   refine cF (dF hq16) (sR [] ?_)
   by_cases hq17:t.Wq=6
   ·exact absurd hq17 (by omega)
   refine cF (dF hq17) (sR [] ?_)
   by_cases hq18:t.Wq=7
   ·exact absurd hq18 (by omega)
   refine cF (dF hq18) ?_
   by_cases hq19:t.Wq=8
   ·exact absurd hq19 (by omega)
   refine sR (Xm (hN · true (dF hq19)) [4,5,6,7] (hP 8 (dF hq19)::[])) (cF (b:=false) rfl ?_)
   by_cases hq20:t.Wq=9
   ·exact absurd hq20 (by omega)
   refine sR (Xm (hN · true (dF hq20)) [4,5,6,7] (hP 8 (dF hq20)::[])) (cF (b:=false) rfl (T.skip (nB ?_)))
   refine eN ⟨[(Zu6 c),(Zu7 t),pv 0 0,pv 1 0,pv 2 0,(Zu9 c t),aa,aa,aa,(Zua c),aa,aa,aa,aa,aa,aa,aa,aa,aa,aa,aa,aa,aa,aa,aa,aa,aa,aa,aa,vB false,aa,aa,aa,aa,aa,aa,aa,aa,aa,aa,aa,aa,aa,aa,aa,aa,aa,aa,aa,aa,(Zup t),aa,aa,aa,aa,aa,aa,aa,aa,aa,(Zuq t),aa,aa,aa,aa,aa,aa,aa,(Zur t),aa,aa,aa,aa,aa,aa,aa,(Zua c),aa,aa,aa,aa,aa,aa,aa,aa,aa,aa,aa,aa,aa,aa,aa,aa,aa,aa,(Zus t),aa,aa,aa,aa,aa,aa,aa,aa,aa,aa,(Zut t),aa,aa,aa,aa,aa,aa,aa,aa,aa,vB false,aa,aa,aa,aa,aa,aa,aa,aa,aa,aa,aa,aa,aa,vB false],(Zuw c t)⟩ ?_
   refine X7 (s':=(Zux c t)) (fun _ _ hG=>Wf [0,1,2,9,4] (bm 5 20) (t1:=Zun) (h1:=(Zuw c t)) rfl rfl hG) ?_
   refine X7 (s':=(Zuy c t)) (fun _ _ hG=>Gs.freeze (s:=(Zux c t)) 4 (el:=W7 (X8 false) c.X2) (sz:=(X8 false).sz) (n:=c.X2.length) rfl ⟨.inl rfl,(kk4 trivial)⟩ ⟨pq,⟨pZ9,⟨pZ9,⟨pZ9,⟨(.inl ⟨rfl,rfl⟩),trivial⟩⟩⟩⟩⟩ hG) ?_
   have hx9:=Xd7 (c:=c) (t:=t) (by omega) (by omega) (by omega) (by omega) (by omega) (by omega) (by omega) (by omega) (by omega)
   refine X7 (s':=(Zuk c t)) (fun _ _ hG=>Wf [0,2] (bm 5 20) (h1:=(Zuj c t)) (h2:=(Zuz c)) (t1:=Zun) rfl po hG) ?_
   exact nJ
  refine sR (Xm (hN · true (dF hq15)) [4,5,6,7] (hP 8 (dF hq15)::[])) (cF (b:=false) rfl (sR [] ?_))
  by_cases hq21:t.Wq=6
  ·refine cT (dT hq21) ?_
   refine xR [hR 0 rfl rfl (Yc 5 5 kU8 Vu ([]:List UInt8) [] (cs:=[]) Tryz.underlying25 Ji rfl Im rfl rfl rfl pd W5 pZ8 (V4 pZ8) (X3 rfl) trivial),hR 3 rfl rfl (W2 5 6 5 1 kU8 Vu ([]:List UInt8) c.Xc c.Xc ([]:List UInt8).length (sy:=((Ztx c))) (rhs:=[]) Jb (by omega) (Jf false false kU8 c.Xc) (by simp) (by (simp [maxLen,-List.getD_eq_getElem?_getD]<;>omega)) (by (simp [maxLen,-List.getD_eq_getElem?_getD]<;>omega)) (X3 rfl) trivial),hR 4 rfl rfl (Yc 7 5 kU8 Vu [(0:UInt8)] [⟨0,.const (.int .u8 0),.one (.d (.val (.int .u8 0))),0⟩] (cs:=[.d (.val (.int .u8 0))]) Tryz.underlying25 Ji rfl Im rfl rfl rfl pd (Yr rfl rfl pd W5) pZ8 (V4 pZ8) (X3 rfl) ⟨rfl,trivial⟩),hR 5 rfl rfl (W2 6 8 5 1 kU8 Vu c.Xc [(0:UInt8)] (c.Xc++[(0:UInt8)]) c.Xc.length (sy:=(.own 7 kU8.sz 0 [(0:UInt8)].length)) (rhs:=[(7,Zvb)]) Jb (by omega) (Wv 7 5 kU8 [(0:UInt8)]) Jy (by (simp [maxLen,-List.getD_eq_getElem?_getD]<;>omega)) (by (simp [maxLen,-List.getD_eq_getElem?_getD]<;>omega)) (X3 rfl) trivial)] pZ8 pZ8 ?_
   refine nB ?_
   refine eN ⟨[(Zu6 c),(Zu7 t),pv 0 0,pv 1 0,pv 2 0,(Zu9 c t),aa,aa,aa,(Zua c),aa,aa,aa,aa,aa,aa,aa,aa,aa,aa,aa,aa,aa,aa,aa,aa,aa,aa,aa,vB false,aa,aa,aa,aa,aa,aa,aa,aa,aa,aa,aa,aa,aa,aa,aa,aa,aa,aa,aa,aa,(Zup t),aa,aa,aa,aa,aa,aa,aa,aa,aa,(Zuq t),aa,aa,aa,aa,aa,aa,aa,(Zur t),aa,aa,aa,aa,aa,aa,aa,vB false,aa,aa,aa,aa,aa,aa,aa,aa,aa,aa,aa,aa,aa,aa,aa,aa,aa,aa,(Zus t)],(Zvc c t)⟩ ?_
   refine X7 (s':=⟨Zun,(Zvc c t)⟩) (fun _ _ hG=>Wf [0,1,2,13,4,19,26,7,8] (bm 5 20) (t1:=Zun) (h1:=(Zvc c t)) rfl rfl hG) ?_
   refine X7 (s':=(Zvd c t)) (fun _ _ hG=>Gs.freeze (s:=⟨Zun,(Zvc c t)⟩) 8 (el:=W7 kU8 (c.Xc++[(0:UInt8)])) (sz:=kU8.sz) (n:=(c.Xc++[(0:UInt8)]).length) rfl ⟨.inl rfl,(kk4 trivial)⟩ ⟨p3c,⟨pZ9,⟨pZ9,⟨pZ9,⟨pZ9,⟨pZ9,⟨pZ9,⟨pZ9,⟨(.inl ⟨rfl,rfl⟩),trivial⟩⟩⟩⟩⟩⟩⟩⟩⟩ hG) ?_
   refine X7 (s':=⟨Zun,[(Zve c),(Zuc t),Zue,.dead,.dead,.dead,.dead,Zvb,.dead]⟩) (fun _ _ hG=>Gs.freeze (s:=(Zvd c t)) 4 (el:=W7 (X8 false) c.X2) (sz:=(X8 false).sz) (n:=c.X2.length) rfl ⟨.inl rfl,(kk4 trivial)⟩ ⟨pq,⟨pZ9,⟨pZ9,⟨pZ9,⟨(.inl ⟨rfl,rfl⟩),⟨pZ9,⟨pZ9,⟨pZ9,⟨pZ9,trivial⟩⟩⟩⟩⟩⟩⟩⟩⟩ hG) ?_
   have hx9:=trn_6 (c:=c) (t:=t) (by omega)
   refine X7 (s':=(Zuk c t)) (fun _ _ hG=>Wf [0,2] (bm 5 20) (h1:=(Zuj c t)) (h2:=[(Zve c),Zue]) (t1:=Zun) rfl (by have e1:((W0 c t).Xs:Int)=c.Xs:=pe;have e2:((W0 c t).Xu:List aE)=c.Xu:=pe;have e3:((W0 c t).Xc:List UInt8)=c.Xc++[(0:UInt8)]:=pe;have e4:((W0 c t).X2:List Yb)=c.X2:=pe;have e5:((W0 c t).Vp:Int)=c.Vp:=pe;have e6:((W0 c t).Xl.X5:Int)=c.Xl.X5:=pe;have e7:((W0 c t).Xl.Xd:List UInt8)=c.Xl.Xd:=pe;have e8:((W0 c t).X0.Xt:Int)=c.X0.Xt:=pe;have e9:((W0 c t).X0.Xn:Int)=c.X0.Xn:=pe;have e10:((W0 c t).Yu:List Xz)=c.Yu:=pe;have hE:=congr pZ3 e10;exact hE) hG) ?_
   exact nJ
  refine cF (dF hq21) (sR [] ?_)
  by_cases hq22:t.Wq=7
  ·refine cT (dT hq22) (xK [hR 3 rfl rfl (Yd (u1:=.int .i64 c.Xl.X5) (u2:=.int .i64 1) (v:=.int .i64 (c.Xl.X5+1)) (Wb pc) (X3 rfl) ⟨rfl,trivial⟩)] (nB ?_))
   refine eN ⟨[(Zu6 c),(Zu7 t),pv 0 0,pv 1 0,pv 2 0,(Zu9 c t),aa,aa,aa,(Zua c),aa,aa,aa,aa,aa,aa,aa,aa,aa,aa,aa,aa,aa,aa,aa,aa,aa,aa,aa,vB false,aa,aa,aa,aa,aa,aa,aa,aa,aa,aa,aa,aa,aa,aa,aa,aa,aa,aa,aa,aa,(Zup t),aa,aa,aa,aa,aa,aa,aa,aa,aa,(Zuq t),aa,aa,aa,aa,aa,aa,aa,(Zur t),aa,aa,aa,aa,aa,aa,aa,vB false,aa,aa,aa,aa,aa,aa,aa,aa,aa,aa,aa,aa,aa,aa,aa,aa,aa,aa,(Zus t),aa,aa,aa,aa,aa,aa,aa,aa,aa,aa,(Zut t)],(Zvf c t)⟩ ?_
   refine X7 (s':=⟨Zun,(Zvf c t)⟩) (fun _ _ hG=>Wf [0,1,2,9,4] (bm 5 20) (t1:=Zun) (h1:=(Zvf c t)) rfl rfl hG) ?_
   refine X7 (s':=⟨Zun,[(Zvg c),(Zuc t),Zue,.dead,.dead]⟩) (fun _ _ hG=>Gs.freeze (s:=⟨Zun,(Zvf c t)⟩) 4 (el:=W7 (X8 false) c.X2) (sz:=(X8 false).sz) (n:=c.X2.length) rfl ⟨.inl rfl,(kk4 trivial)⟩ ⟨pq,⟨pZ9,⟨pZ9,⟨pZ9,⟨(.inl ⟨rfl,rfl⟩),trivial⟩⟩⟩⟩⟩ hG) ?_
   have hx9:=trn_7 (c:=c) (t:=t) (by omega)
   refine X7 (s':=(Zuk c t)) (fun _ _ hG=>Wf [0,2] (bm 5 20) (h1:=(Zuj c t)) (h2:=[(Zvg c),Zue]) (t1:=Zun) rfl (by have e1:((W0 c t).Xs:Int)=c.Xs:=pe;have e2:((W0 c t).Xu:List aE)=c.Xu:=pe;have e3:((W0 c t).Xc:List UInt8)=c.Xc:=pe;have e4:((W0 c t).X2:List Yb)=c.X2:=pe;have e5:((W0 c t).Vp:Int)=c.Vp:=pe;have e6:((W0 c t).Xl.X5:Int)=c.Xl.X5+1:=pe;have e7:((W0 c t).Xl.Xd:List UInt8)=c.Xl.Xd:=pe;have e8:((W0 c t).X0.Xt:Int)=c.X0.Xt:=pe;have e9:((W0 c t).X0.Xn:Int)=c.X0.Xn:=pe;have e10:((W0 c t).Yu:List Xz)=c.Yu:=pe;have hE:=congr pZ3 e10;exact hE) hG) ?_
   exact nJ
  refine cF (dF hq22) ?_
  by_cases hq23:t.Wq=8
  ·refine sR (Xm (hY · (dT hq23)) [4,5,6,7] (hP 8 (dT hq23)::[])) ?_
   by_cases hq24:((c.Yu.length:Nat):Int)>0
   ·refine cT (dT hq24) (xK [hR 2 rfl rfl (U7 false false (Xa false) c.Yu (c.Yu.drop 1) 1 c.Yu.length (lo:=some (.const (.int .i64 1),1)) (hi:=none) Tryz.underlying47 Ja rfl rfl rfl rfl rfl (by omega) (by omega) Jy (X3 rfl) ⟨rfl,trivial⟩)] (nB ?_))
    refine eN ⟨[(Zu6 c),(Zu7 t),pv 0 0,pv 1 0,pv 2 0,(Zu9 c t),aa,aa,aa,(Zua c),aa,aa,aa,aa,aa,aa,aa,aa,aa,aa,aa,aa,aa,aa,aa,aa,aa,aa,aa,vB false,aa,aa,aa,aa,aa,aa,aa,aa,aa,aa,aa,aa,aa,aa,aa,aa,aa,aa,aa,aa,(Zup t),aa,aa,aa,aa,aa,aa,aa,aa,aa,(Zuq t),aa,aa,aa,aa,aa,aa,aa,(Zur t),aa,aa,aa,aa,aa,aa,aa,vB false,aa,aa,aa,aa,aa,aa,aa,aa,aa,aa,aa,aa,aa,aa,aa,aa,aa,aa,(Zus t),aa,aa,aa,aa,aa,aa,aa,aa,aa,aa,(Zut t),aa,aa,aa,aa,aa,aa,aa,aa,aa,vB (decide (((c.Yu.length:Nat):Int)>0))],(Zvh c t)⟩ ?_
    refine X7 (s':=⟨Zun,(Zvh c t)⟩) (fun _ _ hG=>Wf [0,1,2,9,4] (bm 5 20) (t1:=Zun) (h1:=(Zvh c t)) rfl rfl hG) ?_
    refine X7 (s':=⟨Zun,[(Zvi c),(Zuc t),Zue,.dead,.dead]⟩) (fun _ _ hG=>Gs.freeze (s:=⟨Zun,(Zvh c t)⟩) 4 (el:=W7 (X8 false) c.X2) (sz:=(X8 false).sz) (n:=c.X2.length) rfl ⟨.inl rfl,(kk4 trivial)⟩ ⟨pq,⟨pZ9,⟨pZ9,⟨pZ9,⟨(.inl ⟨rfl,rfl⟩),trivial⟩⟩⟩⟩⟩ hG) ?_
    have hx9:=trn_8 (c:=c) (t:=t) (by omega) (by omega)
    refine X7 (s':=(Zuk c t)) (fun _ _ hG=>Wf [0,2] (bm 5 20) (h1:=(Zuj c t)) (h2:=[(Zvi c),Zue]) (t1:=Zun) rfl (by have e1:((W0 c t).Xs:Int)=c.Xs:=pe;have e2:((W0 c t).Xu:List aE)=c.Xu:=pe;have e3:((W0 c t).Xc:List UInt8)=c.Xc:=pe;have e4:((W0 c t).X2:List Yb)=c.X2:=pe;have e5:((W0 c t).Vp:Int)=c.Vp:=pe;have e6:((W0 c t).Xl.X5:Int)=c.Xl.X5:=pe;have e7:((W0 c t).Xl.Xd:List UInt8)=c.Xl.Xd:=pe;have e8:((W0 c t).X0.Xt:Int)=c.X0.Xt:=pe;have e9:((W0 c t).X0.Xn:Int)=c.X0.Xn:=pe;have e10:((W0 c t).Yu:List Xz)=(c.Yu.drop 1):=pe;have hE:=congr pZ3 e10;exact hE) hG) ?_
    exact nJ
   refine cF (dF hq24) ?_
   by_cases hq25:t.Wq=9
   ·exact absurd hq25 (by omega)
   refine sR (Xm (hN · true (dF hq25)) [4,5,6,7] (hP 8 (dF hq25)::[])) (cF (b:=false) rfl (T.skip (nB ?_)))
   refine eN ⟨[(Zu6 c),(Zu7 t),pv 0 0,pv 1 0,pv 2 0,(Zu9 c t),aa,aa,aa,(Zua c),aa,aa,aa,aa,aa,aa,aa,aa,aa,aa,aa,aa,aa,aa,aa,aa,aa,aa,aa,vB false,aa,aa,aa,aa,aa,aa,aa,aa,aa,aa,aa,aa,aa,aa,aa,aa,aa,aa,aa,aa,(Zup t),aa,aa,aa,aa,aa,aa,aa,aa,aa,(Zuq t),aa,aa,aa,aa,aa,aa,aa,(Zur t),aa,aa,aa,aa,aa,aa,aa,vB false,aa,aa,aa,aa,aa,aa,aa,aa,aa,aa,aa,aa,aa,aa,aa,aa,aa,aa,(Zus t),aa,aa,aa,aa,aa,aa,aa,aa,aa,aa,(Zut t),aa,aa,aa,aa,aa,aa,aa,aa,aa,vB (decide (((c.Yu.length:Nat):Int)>0)),aa,aa,aa,aa,aa,aa,aa,aa,aa,aa,aa,aa,aa,vB false],(Zuw c t)⟩ ?_
   refine X7 (s':=(Zux c t)) (fun _ _ hG=>Wf [0,1,2,9,4] (bm 5 20) (t1:=Zun) (h1:=(Zuw c t)) rfl rfl hG) ?_
   refine X7 (s':=(Zuy c t)) (fun _ _ hG=>Gs.freeze (s:=(Zux c t)) 4 (el:=W7 (X8 false) c.X2) (sz:=(X8 false).sz) (n:=c.X2.length) rfl ⟨.inl rfl,(kk4 trivial)⟩ ⟨pq,⟨pZ9,⟨pZ9,⟨pZ9,⟨(.inl ⟨rfl,rfl⟩),trivial⟩⟩⟩⟩⟩ hG) ?_
   have hx9:=Xd7 (c:=c) (t:=t) (by omega) (by omega) (by omega) (by omega) (by omega) (by omega) (by omega) (by omega) (by omega)
   refine X7 (s':=(Zuk c t)) (fun _ _ hG=>Wf [0,2] (bm 5 20) (h1:=(Zuj c t)) (h2:=(Zuz c)) (t1:=Zun) rfl po hG) ?_
   exact nJ
  refine sR (Xm (hN · true (dF hq23)) [4,5,6,7] (hP 8 (dF hq23)::[])) (cF (b:=false) rfl ?_)
  by_cases hq26:t.Wq=9
  ·refine sR (Xm (hY · (dT hq26)) [4,5,6,7] (hP 8 (dT hq26)::[])) ?_
   by_cases hq27:((c.Xu.length:Nat):Int)>0
   ·refine cT (dT hq27) (xK [hR 2 rfl rfl (U7 false false (kE false) c.Xu (c.Xu.drop 1) 1 c.Xu.length (lo:=some (.const (.int .i64 1),1)) (hi:=none) Tryz.underlying37 Vi rfl rfl rfl rfl rfl (by omega) (by omega) Jy (X3 rfl) ⟨rfl,trivial⟩)] (nB ?_))
    refine eN ⟨(Zvj c t),(Zvk c t)⟩ ?_
    refine X7 (s':=⟨Zun,(Zvk c t)⟩) (fun _ _ hG=>Wf [0,1,2,9,4] (bm 5 20) (t1:=Zun) (h1:=(Zvk c t)) rfl rfl hG) ?_
    refine X7 (s':=⟨Zun,[(Zvl c),(Zuc t),Zue,.dead,.dead]⟩) (fun _ _ hG=>Gs.freeze (s:=⟨Zun,(Zvk c t)⟩) 4 (el:=W7 (X8 false) c.X2) (sz:=(X8 false).sz) (n:=c.X2.length) rfl ⟨.inl rfl,(kk4 trivial)⟩ ⟨pq,⟨pZ9,⟨pZ9,⟨pZ9,⟨(.inl ⟨rfl,rfl⟩),trivial⟩⟩⟩⟩⟩ hG) ?_
    have hx9:=trn_9 (c:=c) (t:=t) (by omega) (by omega)
    refine X7 (s':=(Zuk c t)) (fun _ _ hG=>Wf [0,2] (bm 5 20) (h1:=(Zuj c t)) (h2:=[(Zvl c),Zue]) (t1:=Zun) rfl (by have e1:((W0 c t).Xs:Int)=c.Xs:=pe;have e2:((W0 c t).Xu:List aE)=(c.Xu.drop 1):=pe;have e3:((W0 c t).Xc:List UInt8)=c.Xc:=pe;have e4:((W0 c t).X2:List Yb)=c.X2:=pe;have e5:((W0 c t).Vp:Int)=c.Vp:=pe;have e6:((W0 c t).Xl.X5:Int)=c.Xl.X5:=pe;have e7:((W0 c t).Xl.Xd:List UInt8)=c.Xl.Xd:=pe;have e8:((W0 c t).X0.Xt:Int)=c.X0.Xt:=pe;have e9:((W0 c t).X0.Xn:Int)=c.X0.Xn:=pe;have e10:((W0 c t).Yu:List Xz)=c.Yu:=pe;have hE:=congr pZ3 e10;exact hE) hG) ?_
    exact nJ
   refine cF (dF hq27) (T.skip (nB ?_))
   refine eN ⟨(Zvj c t),(Zuw c t)⟩ ?_
   refine X7 (s':=(Zux c t)) (fun _ _ hG=>Wf [0,1,2,9,4] (bm 5 20) (t1:=Zun) (h1:=(Zuw c t)) rfl rfl hG) ?_
   refine X7 (s':=(Zuy c t)) (fun _ _ hG=>Gs.freeze (s:=(Zux c t)) 4 (el:=W7 (X8 false) c.X2) (sz:=(X8 false).sz) (n:=c.X2.length) rfl ⟨.inl rfl,(kk4 trivial)⟩ ⟨pq,⟨pZ9,⟨pZ9,⟨pZ9,⟨(.inl ⟨rfl,rfl⟩),trivial⟩⟩⟩⟩⟩ hG) ?_
   have hx9:=Xd7 (c:=c) (t:=t) (by omega) (by omega) (by omega) (by omega) (by omega) (by omega) (by omega) (by omega) (by omega)
   refine X7 (s':=(Zuk c t)) (fun _ _ hG=>Wf [0,2] (bm 5 20) (h1:=(Zuj c t)) (h2:=(Zuz c)) (t1:=Zun) rfl po hG) ?_
   exact nJ
  refine sR (Xm (hN · true (dF hq26)) [4,5,6,7] (hP 8 (dF hq26)::[])) (cF (b:=false) rfl (T.skip (nB ?_)))
  refine eN ⟨[(Zu6 c),(Zu7 t),pv 0 0,pv 1 0,pv 2 0,(Zu9 c t),aa,aa,aa,(Zua c),aa,aa,aa,aa,aa,aa,aa,aa,aa,aa,aa,aa,aa,aa,aa,aa,aa,aa,aa,vB false,aa,aa,aa,aa,aa,aa,aa,aa,aa,aa,aa,aa,aa,aa,aa,aa,aa,aa,aa,aa,(Zup t),aa,aa,aa,aa,aa,aa,aa,aa,aa,(Zuq t),aa,aa,aa,aa,aa,aa,aa,(Zur t),aa,aa,aa,aa,aa,aa,aa,vB false,aa,aa,aa,aa,aa,aa,aa,aa,aa,aa,aa,aa,aa,aa,aa,aa,aa,aa,(Zus t),aa,aa,aa,aa,aa,aa,aa,aa,aa,aa,(Zut t),aa,aa,aa,aa,aa,aa,aa,aa,aa,vB false,aa,aa,aa,aa,aa,aa,aa,aa,aa,aa,aa,aa,aa,vB false],(Zuw c t)⟩ ?_
  refine X7 (s':=(Zux c t)) (fun _ _ hG=>Wf [0,1,2,9,4] (bm 5 20) (t1:=Zun) (h1:=(Zuw c t)) rfl rfl hG) ?_
  refine X7 (s':=(Zuy c t)) (fun _ _ hG=>Gs.freeze (s:=(Zux c t)) 4 (el:=W7 (X8 false) c.X2) (sz:=(X8 false).sz) (n:=c.X2.length) rfl ⟨.inl rfl,(kk4 trivial)⟩ ⟨pq,⟨pZ9,⟨pZ9,⟨pZ9,⟨(.inl ⟨rfl,rfl⟩),trivial⟩⟩⟩⟩⟩ hG) ?_
  have hx9:=Xd7 (c:=c) (t:=t) (by omega) (by omega) (by omega) (by omega) (by omega) (by omega) (by omega) (by omega) (by omega)
  refine X7 (s':=(Zuk c t)) (fun _ _ hG=>Wf [0,2] (bm 5 20) (h1:=(Zuj c t)) (h2:=(Zuz c)) (t1:=Zun) rfl po hG) ?_
  exact nJ
 refine sR [] (T.ret ?_)
 exact eX [.c 4 1 49 0 49 [dI (W0 c t).Xs,.d (dsl false false (kE false) (W0 c t).Xu),dU (W0 c t).Xc,.d (dsl false false (X8 false) (W0 c t).X2),dI (W0 c t).Vp,dI (W0 c t).Xl.X5,dU (W0 c t).Xl.Xd,dI (W0 c t).X0.Xt,dI (W0 c t).X0.Xn,.d (dsl false false (Xa false) (W0 c t).Yu)] (.agg (Zui c t))] ⟨⟨rfl,rfl,by kernel_rfl,by kernel_rfl,.inl ⟨10,J0,rfl,Nat.le_of_ble_eq_true rfl⟩⟩,trivial⟩ [] rfl trivial
abbrev Zvm (a:List aE) (b:List aE):AV:=vB (decide (((a.length:Nat):Int)≠((b.length:Nat):Int)))
theorem Xjl (ta:Bool) (na:Bool) (sa:Bool) (tb:Bool) (nb:Bool) (sb:Bool) (a:List aE) (b:List aE) (hl:a.length≤9223372036854775807):Holds Tryz.prog 55 ⟨[slV ta na (kE sa) a,slV tb nb (kE sb) b],[],vB (decide (a=b)),[]⟩:=by
 refine Holds.of Tryz.func55 rfl (N:=27) Tryz.ntmps55 rfl fun w0 B0 S0 U0=>?_
 show T _ (Y2 27 0 w0 S0 U0 B0) ⟨[slV ta na (kE sa) a,slV tb nb (kE sb) b],[]⟩ _ _
 refine sR [] (T.seq (sR [] ?_))
 by_cases hq1:((a.length:Nat):Int)≠((b.length:Nat):Int)
 ·refine cT (dT hq1) (sR [] (T.ret (rT ?_)))
  exact eRt 4 (.one (dB false)) [] p3d trivial
 refine cF (dF hq1) (T.skip (nT (T.seq (sR [] (T.block ?_)))))
 refine T.loop (ι:=Nat) (fun (k:Nat)=>⟨[slV ta na (kE sa) a,slV tb nb (kE sb) b,aa,aa,vB false,vI ((k:Nat):Int),aa,aa,aa,aa,(Zvm a b)],[]⟩) (fun (k:Nat)=>(k≤a.length)∧(a.length=b.length)∧(∀ j,j<k→a.getD j zE=b.getD j zE)) (fun (k:Nat)=>a.length-k) (0) ⟨(Nat.zero_le _),(by omega),(fun j hj=>absurd hj (Nat.not_lt_zero _))⟩ (fun _ _ hG=>Yv [] (bm 11 1075) rfl rfl hG) ?_
 rintro k ⟨hk,hab,hb⟩
 show T _ _ ⟨[slV ta na (kE sa) a,slV tb nb (kE sb) b,aa,aa,vB false,vI ((k:Nat):Int),aa,aa,aa,aa,(Zvm a b)],[]⟩ _ _
 replace hk:k≤a.length:=hk
 replace hab:a.length=b.length:=hab
 replace hb:∀ j,j<k→a.getD j zE=b.getD j zE:=hb
 refine T.seq (sR [] ?_)
 by_cases hq2:((k:Nat):Int)<((a.length:Nat):Int)
 ·refine cT (dT hq2) (T.skip (nT (T.seq (T.block ?_))))
  refine sD [[],[],[0,1],[0,1,2],[],[],[4,5],[4,5,6],[0,1,2,3,4,5,6,7],[0,1,2,3,4,5,6,7,8]] [hR 2 rfl rfl (We ta na (kE sa) a k (k:=.i64) (i:=((k:Nat):Int)) Tryz.underlying37 Vi rfl rfl (by omega) (X3 rfl) trivial),hR 6 rfl rfl (We tb nb (kE sb) b k (k:=.i64) (i:=((k:Nat):Int)) Tryz.underlying37 Vi rfl rfl (by omega) (X3 rfl) trivial),hR 8 rfl rfl (rCa (X8l sa sb (a.getD k zE) (b.getD k zE) ) Tryz.func21 [] [(.tmp 20,.tv (.agg [dI (a.getD k zE).X5,.d (dsl sa false kU8 (a.getD k zE).Xd)])),(.tmp 24,.tv (.agg [dI (b.getD k zE).X5,.d (dsl sb false kU8 (b.getD k zE).Xd)]))] 0 0)] ?_
  by_cases hq3:(a.getD k zE)=(b.getD k zE)
  ·refine cF (cn (dT hq3)) (T.skip (nB (nT (xK [hR 1 rfl rfl (Yd (u1:=.int .i64 ((k:Nat):Int)) (u2:=.int .i64 1) (v:=.int .i64 ((k+1:Nat):Int)) (Wb pc) (X3 rfl) ⟨rfl,trivial⟩)] ?_))))
   refine nL (k+1) ⟨(show (k+1)≤a.length from (by omega)),(show a.length=b.length from hab),(show ∀ j,j<(k+1)→a.getD j zE=b.getD j zE from (Ut hb ‹_›))⟩ (show (a.length-(k+1):Nat)<a.length-k from (by omega)) (fun _ _ hG=>Yv [] (bm 11 1075) rfl rfl hG)
  refine cT (cn (dF hq3)) (sR [] (T.ret (rB (rT (rT (rB (rT ?_)))))))
  exact eRt 4 (.one (dB false)) [] (by have e1:((decide (a=b)):Bool)=false:=(by exact dF (fun e=>by have h9:a.getD k zE≠b.getD k zE:=‹_›;exact h9 (by rw [e])));have hE:=cB e1;exact hE) trivial
 refine cF (dF hq2) (T.exit (xT (xT (xH (nT (sR [] (T.ret ?_)))))))
 exact eRt 4 (.one (dB true)) [] (cB (by exact dT (Xbo (z:=zE) (k:=k) hab (by omega) hb))) trivial
theorem seq_69:SEq Tryz.prog 69 (fun x:Yb=>.agg #[.int .i64 x.Xg,Yk x.Y0,.int .i64 x.Ye,Yk x.W3]):=Xfx (g:=fun x:Yb=>#[.int .i64 x.Xg,Yk x.Y0,.int .i64 x.Ye,Yk x.W3]) (bs':=fun a b=>[decide (a.Xg=b.Xg),decide (a.Y0=b.Y0),decide (a.Ye=b.Ye),decide (a.W3=b.W3)]) Tryz.underlying69 pZ8 pZ8 (fun a b=>⟨by decide,⟨_,_,rfl,rfl,.int Tryz.underlying3⟩,⟨by decide,⟨_,_,rfl,rfl,.str Tryz.underlying60⟩,⟨by decide,⟨_,_,rfl,rfl,.int Tryz.underlying3⟩,⟨by decide,⟨_,_,rfl,rfl,.str Tryz.underlying60⟩,trivial⟩⟩⟩⟩) (fun a b=>by rw [Bool.eq_iff_iff];simp [X9z])
section
variable (c:Wr) (k:Nat)
abbrev Zvq:List SV:=[dI c.Xs,.d (dsl false false (kE false) c.Xu),dU c.Xc,.d (dsl false false (X8 false) c.X2),dI c.Vp,dI c.Xl.X5,dU c.Xl.Xd,dI c.X0.Xt,dI c.X0.Xn,.d (dsl false false (Xa false) c.Yu)]
abbrev Zvr:AV:=.tv (.agg [dI c.Xl.X5,dU c.Xl.Xd])
abbrev Zvs:AV:=.tv (.agg [dI c.X0.Xt,dI c.X0.Xn])
abbrev Zvt:AV:=vB (decide (c.X0≠c.X0))
abbrev Zvu:List HS:=[.live (.box 49 (Zvq c)),.live (.box 49 (Zvq c))]
abbrev Zvv:St:=⟨[.tv (.agg (Zvq c)),.tv (.agg (Zvq c)),pv 0 0,pv 1 0,vB false,vI ((k:Nat):Int),aa,aa,aa,aa,aa,aa,aa,aa,aa,aa,aa,aa,aa,aa,aa,aa,aa,aa,aa,aa,aa,aa,aa,aa,aa,aa,aa,aa,aa,aa,aa,aa,aa,aa,aa,aa,aa,aa,aa,aa,aa,aa,aa,aa,aa,aa,aa,aa,aa,aa,aa,(Zvt c)],(Zvu c)⟩
abbrev Zvx:AV:=.tv (.agg [dI (c.X2.getD k Xo).Xg,dS (c.X2.getD k Xo).Y0,dI (c.X2.getD k Xo).Ye,dS (c.X2.getD k Xo).W3])
end
theorem law_same (c:Wr) (hb:smT9 c) (hp:c.Yu.length≤70):Holds Tryz.prog 18 ⟨[.tv (.agg [dI c.Xs,.d (dsl false false (kE false) c.Xu),dU c.Xc,.d (dsl false false (X8 false) c.X2),dI c.Vp,dI c.Xl.X5,dU c.Xl.Xd,dI c.X0.Xt,dI c.X0.Xn,.d (dsl false false (Xa false) c.Yu)]),.tv (.agg [dI c.Xs,.d (dsl false false (kE false) c.Xu),dU c.Xc,.d (dsl false false (X8 false) c.X2),dI c.Vp,dI c.Xl.X5,dU c.Xl.Xd,dI c.X0.Xt,dI c.X0.Xn,.d (dsl false false (Xa false) c.Yu)])],[],vB true,[]⟩:=by
 refine Holds.of Tryz.func18 rfl (N:=81) Tryz.ntmps18 rfl fun w0 B0 S0 U0=>?_
 show T _ (Y2 81 0 w0 S0 U0 B0) ⟨[.tv (.agg (Zvq c)),.tv (.agg (Zvq c))],[]⟩ _ _
 obtain ⟨hb1,hb2,hb3,hb4,hb5,hb6,hb7,hb8⟩:=hb
 obtain ⟨hb7a,hb7b⟩:=hb7
 refine sR [] (T.seq ?_)
 refine sR (Xm (hY · (show decide (c.Xs≠c.Xs)=false from dF (fun h=>h rfl))) [6,7,8,9] (hS 10 (oY rfl rfl rfl rfl (X3 rfl) (show decide (c.Xs≠c.Xs)=false from dF (fun h=>h rfl)) (rCa (Xjl false false false false false false c.Xu c.Xu (by omega)) Tryz.func55 [] [(.tmp 13,slV false false (kE false) c.Xu),(.tmp 15,slV false false (kE false) c.Xu)] 0 0))::(hY 11 (show decide (c.Xs≠c.Xs)=false from dF (fun h=>h rfl))::(hP 12 (show decide (c.Xs≠c.Xs)=false from dF (fun h=>h rfl))::(Xm (hY · (cn (show decide (c.Xu=c.Xu)=true from dT (Eq.refl _)))) [14,15,16,17] (hS 18 (oY rfl rfl rfl rfl (X3 rfl) (cn (show decide (c.Xu=c.Xu)=true from dT (Eq.refl _))) (rCa (X3f false false false false c.Xc c.Xc ) Tryz.func23 [] [(.tmp 21,slV false false kU8 c.Xc),(.tmp 23,slV false false kU8 c.Xc)] 0 0))::(hY 19 (cn (show decide (c.Xu=c.Xu)=true from dT (Eq.refl _)))::(hP 20 (cn (show decide (c.Xu=c.Xu)=true from dT (Eq.refl _)))::(Xm (hY · (cn (show decide (c.Xc=c.Xc)=true from dT (Eq.refl _)))) [22,23,24,25,26,27,28] (hP 29 (cn (show decide (c.Xc=c.Xc)=true from dT (Eq.refl _)))::(Xm (hY · (show decide (((c.X2.length:Nat):Int)≠((c.X2.length:Nat):Int))=false from dF (fun h=>h rfl))) [31,32,33,34,35] (hP 36 (show decide (((c.X2.length:Nat):Int)≠((c.X2.length:Nat):Int))=false from dF (fun h=>h rfl))::(Xm (hY · (show decide (c.Vp≠c.Vp)=false from dF (fun h=>h rfl))) [38,39,40,41] (hS 42 (oY rfl rfl rfl rfl (X3 rfl) (show decide (c.Vp≠c.Vp)=false from dF (fun h=>h rfl)) (rCa (X8l false false c.Xl c.Xl ) Tryz.func21 [] [(.tmp 45,(Zvr c)),(.tmp 47,(Zvr c))] 0 0))::(hY 43 (show decide (c.Vp≠c.Vp)=false from dF (fun h=>h rfl))::(hP 44 (show decide (c.Vp≠c.Vp)=false from dF (fun h=>h rfl))::(Xm (hY · (cn (show decide (c.Xl=c.Xl)=true from dT (Eq.refl _)))) [46,47,48,49] (hS 50 (oY rfl rfl rfl rfl (X3 rfl) (cn (show decide (c.Xl=c.Xl)=true from dT (Eq.refl _))) (Jm (ax:=(Zvs c)) (ay:=(Zvs c)) (a:=c.X0) (b:=c.X0) Jx ⟨[.int .i64 c.X0.Xt,.int .i64 c.X0.Xn],rfl,rfl⟩ ⟨[.int .i64 c.X0.Xt,.int .i64 c.X0.Xn],rfl,rfl⟩ (X3 rfl) p1s))::(hP 51 (cn (show decide (c.Xl=c.Xl)=true from dT (Eq.refl _)))::[]))))))))))))))))))) ?_
 refine cF (show decide (c.X0≠c.X0)=false from dF (fun h=>h rfl)) (T.skip (nT (T.seq (sR [] (T.block ?_)))))
 refine T.loop (ι:=Nat) (fun (k:Nat)=>(Zvv c k)) (fun (k:Nat)=>(k≤c.X2.length)) (fun (k:Nat)=>c.X2.length-k) (0) (Nat.zero_le _) (fun _ _ hG=>Yv [0,1] (bm 58 144115188075855935) rfl rfl hG) ?_
 rintro k hk
 show T _ _ (Zvv c k) _ _
 replace hk:k≤c.X2.length:=hk
 refine T.seq (sR [] ?_)
 by_cases hq1:((k:Nat):Int)<((c.X2.length:Nat):Int)
 ·refine cT (dT hq1) (T.skip (nT (T.seq (T.block ?_))))
  refine sD [[],[0],[],[0,1,2],[0,1,2,3],[],[5],[],[5,6,7],[5,6,7,8],[0,1,2,3,4,5,6,7,8,9]] [hR 3 rfl rfl (We false false (X8 false) c.X2 k (k:=.i64) (i:=((k:Nat):Int)) Tryz.underlying41 Jz rfl rfl (by omega) (X3 rfl) trivial),hR 8 rfl rfl (We false false (X8 false) c.X2 k (k:=.i64) (i:=((k:Nat):Int)) Tryz.underlying41 Jz rfl rfl (by omega) (X3 rfl) trivial),hR 10 rfl rfl (Jm (ax:=(Zvx c k)) (ay:=(Zvx c k)) (a:=(c.X2.getD k Xo)) (b:=(c.X2.getD k Xo)) seq_69 ⟨[.int .i64 (c.X2.getD k Xo).Xg,Yk (c.X2.getD k Xo).Y0,.int .i64 (c.X2.getD k Xo).Ye,Yk (c.X2.getD k Xo).W3],rfl,rfl⟩ ⟨[.int .i64 (c.X2.getD k Xo).Xg,Yk (c.X2.getD k Xo).Y0,.int .i64 (c.X2.getD k Xo).Ye,Yk (c.X2.getD k Xo).W3],rfl,rfl⟩ (X3 rfl) trivial)] ?_
  refine cF (show decide ((c.X2.getD k Xo)≠(c.X2.getD k Xo))=false from dF (fun h=>h rfl)) (T.skip (nB (nT (xK [hR 1 rfl rfl (Yd (u1:=.int .i64 ((k:Nat):Int)) (u2:=.int .i64 1) (v:=.int .i64 ((k+1:Nat):Int)) (Wb pc) (X3 rfl) ⟨rfl,trivial⟩)] ?_))))
  refine nL (k+1) (show (k+1)≤c.X2.length from (by omega)) (show (c.X2.length-(k+1):Nat)<c.X2.length-k from (by omega)) (fun _ _ hG=>Yv [0,1] (bm 58 144115188075855935) rfl rfl hG)
 refine cF (dF hq1) (T.exit (xT (xT (xH (nT (sR [hR 4 rfl rfl (rCa (Xg7 false false false false false false c.Yu c.Yu (by omega)) Tryz.func56 [] [(.tmp 77,slV false false (Xa false) c.Yu),(.tmp 79,slV false false (Xa false) c.Yu)] 0 0)] (T.ret ?_)))))))
 exact eRt 4 (.one (dB (decide (c.Yu=c.Yu)))) [] (by have e1:(true:Bool)=(decide (c.Yu=c.Yu)):=(by (simp;done));have hE:=cB e1;exact hE) trivial
end Go.Proofs.YtnaopgohccacmaaGreat.Q
namespace Go.Proofs.YtnaopgohccacmaaGreat.Q
set_option linter.unusedVariables false
set_option linter.unusedSimpArgs false
set_option maxRecDepth 100000
section
variable {C:aE→Int} {f:Int} {c:aC} {i:Int} {e:aE}
end
end Go.Proofs.YtnaopgohccacmaaGreat.Q
namespace Go.Proofs.YtnaopgohccacmaaGreat.Q
open Go Go.RowKit
set_option linter.unusedVariables false
set_option linter.unusedSimpArgs false
set_option maxRecDepth 100000
set_option maxHeartbeats 4000000
end Go.Proofs.YtnaopgohccacmaaGreat.Q
namespace Go.Proofs.YtnaopgohccacmaaGreat.Q
set_option linter.unusedVariables false
set_option linter.unusedSimpArgs false
set_option maxRecDepth 100000
def gdB (b:Xq):Prop:=Hl b∧(0≤b.Xg∧b.Xg≤1000)∧b.Y0.length≤1000000∧(∀ e,e∈b.Xb→0≤e.X5∧e.X5≤100000)∧∀ r,r∈b.Xj→(0≤r.Xn∧r.Xn≤100000)∧r.Xt=0
theorem gdB_z:gdB W1:=⟨by decide,by decide,by decide,fun e he=>(by cases he),fun r hr=>(by cases hr)⟩
theorem blk_gd9 {L:List Xq} {i n:Nat} (hn:n≤4) (hi:i≤100) (hL:(atB d9 L L.length).length≤1000000):gdB (I2 L i n):=by
  refine ⟨X62 hn (by omega),⟨?_,?_⟩,hL,fun e he=>?_,fun r hr=>?_⟩
  · show (0:Int)≤((i+1:Nat):Int);omega
  · show ((i+1:Nat):Int)≤1000;omega
  · obtain ⟨k,hk,rfl⟩:=List.mem_map.1 he
    have:=List.mem_range.1 hk
    show (0:Int)≤((1000+k:Nat):Int)∧((1000+k:Nat):Int)≤100000
    omega
  · obtain ⟨k,hk,rfl⟩:=List.mem_map.1 hr
    have:=List.mem_range.1 hk
    refine ⟨?_,rfl⟩
    show (0:Int)≤((i+k:Nat):Int)∧((i+k:Nat):Int)≤100000
    omega
theorem Xit (bs:List Int):∀ i,i≤30→∀ b,b∈Ym bs i→gdB b
  | 0,_=>fun b hb=>by cases hb
  | i+1,hi=>fun b hb=>by
    have hc:=X4t (bs.getD i 0)
    have h1:=(E9 bs i (by omega)).1
    rw [Ym] at hb
    rcases List.mem_append.1 hb with hb|hb
    · exact Xit bs i (by omega) b hb
    · rw [List.mem_singleton] at hb;rw [hb];exact blk_gd9 (by omega) (by omega) (by omega)
theorem Xdt {bs:List Int} {i:Nat} (hi:i≤30) (x:Int):gdB (rblk 0 (Ym bs i) x):=by
  unfold rblk
  split
  · rename_i h
    have h1:=h.1
    have h2:=h.2
    exact Xit bs i hi _ (J3 (by omega))
  · exact gdB_z
def gdH (h:Yb):Prop:=h.Y0.length≤1000000∧h.W3.length≤1000000∧(0≤h.Ye∧h.Ye≤100000)∧Ek h.Xg
theorem gdH_of {b:Xq} (h:gdB b):gdH (Wp b):=by
  have h1:=J6 h.1
  have h2:(W6 (Y9 b)).length≤25400:=Ua h1
  have h3:=h1.1
  have h4:=h.2.1
  refine ⟨h.2.2.1,Nat.le_trans h2 (by decide),?_,?_⟩
  · show 0≤(((Y9 b).length:Nat):Int)∧(((Y9 b).length:Nat):Int)≤100000;omega
  · show Ek b.Xg;unfold Ek;omega
def gd9 (c:Wr):Prop:=X16 c.Xu∧c.Xc.length≤1000000∧(c.X2.length≤1000∧∀ h,h∈c.X2→gdH h)∧I0 szS 70 30000 c.Yu∧c.Xl.Xd.length≤500∧(0≤c.Xs∧c.Xs≤1000000)∧(0≤c.Vp∧c.Vp≤1000000)∧(0≤c.X0.Xn∧c.X0.Xn≤1000000)∧(0≤c.Xl.X5∧c.Xl.X5≤1000000)∧c.X0.Xt=0
theorem gd_z:gd9 I7:=⟨⟨by decide,fun e he=>(by cases he)⟩,by decide,⟨by decide,fun e he=>(by cases he)⟩,⟨by decide,fun e he=>(by cases he)⟩,by decide,by decide,by decide,by decide,by decide,rfl⟩
theorem gd_path {c:Wr} (h:gd9 c):c.Yu.length≤70:=h.2.2.2.1.1
theorem gd_sm {c:Wr} (h:gd9 c):smT9 c:=by
  obtain ⟨h1,h2,⟨h3,h3b⟩,h4,h5,h6,h7,h8,h9,h10⟩:=h
  have h11:=h1.1
  have h41:=h4.1
  exact ⟨by omega,by omega,by omega,by omega,by omega,by omega,⟨by omega,by omega⟩,fun x hx=>Nat.le_trans (h3b x hx).1 (by decide)⟩
theorem gd_hs {l:List Yb} (h:∀ x,x∈l→gdH x):okHs l:=fun x hx=>by
  obtain ⟨h1,h2,h3,h4⟩:=h x hx
  exact ⟨by omega,by omega,by omega,h4⟩
theorem gd_ok {c:Wr} (h:gd9 c):okC9 c:=by
  obtain ⟨h1,h2,⟨h3,h3b⟩,h4,h5,h6,h7,h8,h9,h10⟩:=h
  exact ⟨h1,by omega,gd_hs h3b,by omega,h4,h5,by unfold Ek;omega⟩
theorem Xjz {l:List aE} (h:X16 l) (k:Nat):X16 (l.drop k):=⟨by have:=h.1;rw [List.length_drop];omega,fun e he=>h.2 e (List.mem_of_mem_drop he)⟩
theorem hdX_ok {l:List Yb} (h:∀ x,x∈l→gdH x) (j:Nat) (hj:j<l.length):okHs (l.set j (hdX9 (l.getD j Xo))):=fun x hx=>by
  rcases List.mem_or_eq_of_mem_set hx with hx|hx
  · exact gd_hs h x hx
  · obtain ⟨h1,h2,h3,h4⟩:=h _ (J3 (z:=Xo) hj)
    rw [hx]
    refine ⟨?_,Nat.le_trans h2 (by decide),by show (l.getD j Xo).Ye≤_;omega,h4⟩
    show ((l.getD j Xo).Y0++[120]).length≤_
    rw [List.length_append,List.length_singleton];omega
theorem Xch {c:Wr} (h:gd9 c) (t:Yo):okC9 (W0 c t):=by
  have hk:=gd_ok h
  obtain ⟨h1,h2,⟨h3,h3b⟩,h4,h5,h6,h7,h8,h9,h10⟩:=h
  obtain ⟨k1,k2,k3,k4,k5,k6,k7⟩:=hk
  unfold W0
  split
  · rename_i q
    refine ⟨h1,by omega,fun x hx=>?_,?_,h4,h5,k7⟩
    · rcases List.mem_append.1 hx with hx|hx
      · exact k3 x (List.mem_of_mem_take hx)
      · exact k3 x (List.mem_of_mem_drop hx)
    · show (c.X2.take _++c.X2.drop _).length≤_
      rw [List.length_append,List.length_take,List.length_drop];omega
  split
  · exact ⟨h1,by omega,k3,k4,h4,h5,k7⟩
  split
  · exact ⟨h1,by omega,k3,k4,h4,h5,k7⟩
  split
  · exact ⟨h1,by omega,k3,k4,h4,h5,by show Ek (c.Xs+1);unfold Ek;omega⟩
  split
  · rename_i q
    refine ⟨h1,by omega,hdX_ok h3b _ (X5s q.2).2,?_,h4,h5,k7⟩
    show (c.X2.set _ _).length≤_
    rw [List.length_set];omega
  split
  · refine ⟨h1,?_,k3,k4,h4,h5,k7⟩
    show (c.Xc++[0]).length≤_
    rw [List.length_append,List.length_singleton];omega
  split
  · exact ⟨h1,by omega,k3,k4,h4,h5,k7⟩
  split
  · exact ⟨h1,by omega,k3,k4,Jw h4 1,h5,k7⟩
  split
  · exact ⟨Xjz h1 1,by omega,k3,k4,h4,h5,k7⟩
  · exact ⟨h1,by omega,k3,k4,h4,h5,k7⟩
theorem Xi0 {bf:Int→Xq} {n:Nat} {seq:Int} {b:List UInt8} {h i:Int} (q:Hy bf n seq b h i=0):¬(h<1∨h>seq∨seq-h>999)∧¬seq>((n:Nat):Int)∧J8 (bf h) i=0:=by
  unfold Hy at q
  split at q
  · exact absurd q (by decide)
  split at q
  · exact absurd q (by decide)
  rename_i h1
  split at q
  · exact absurd q (by decide)
  rename_i h2
  exact ⟨h1,h2,q⟩
theorem prv_gd {bf:Int→Xq} {n:Nat} {seq:Int} {x:List aE} {b:List UInt8} {h i:Int} (hb:∀ y,gdB (bf y)) (hn:n≤1000) (hx:X16 x) (hd:b.length≤1000000):gd9 (Vc bf n seq x b h i):=by
  unfold Vc
  split
  · rename_i q
    obtain ⟨q1,q2,q3⟩:=Xi0 q
    obtain ⟨p1,p2,p3,p4,p5,p6,p7⟩:=X7i (hb h).1 q3
    have hf:=(hb h).1
    have hr:=hf.2.1
    obtain ⟨r1,r2,r3,r4,r5⟩:=hb h
    refine ⟨hx,hd,⟨?_,fun y hy=>?_⟩,p6,p7,⟨show (0:Int)≤seq by omega,show seq≤1000000 by omega⟩,⟨show (0:Int)≤i by omega,show i≤1000000 by omega⟩,?_,?_,?_⟩
    · rw [X4m];omega
    · obtain ⟨t,_,rfl⟩:=List.mem_map.1 hy
      exact gdH_of (hb _)
    · have:=r5 _ (J3 (z:=Yj) (show i.toNat<(bf h).Xj.length by omega))
      exact ⟨this.1.1,Int.le_trans this.1.2 (by decide)⟩
    · have:=r4 _ (J3 (z:=zE) (show i.toNat<(bf h).Xb.length by omega))
      exact ⟨this.1,Int.le_trans this.2 (by decide)⟩
    · exact (r5 _ (J3 (z:=Yj) (show i.toNat<(bf h).Xj.length by omega))).2
  · exact gd_z
theorem Xeb {c:Y3} (hs:Uj c) (hr:rngW c) (k:Nat) (seq h i:Int):gd9 (Vc (rblk 0 (chL c)) (chL c).length seq (Vn c k) (V8 c) h i):=by
  have h0:=hs.1
  have hd:=X25 hs
  exact prv_gd (fun y=>Xdt (by omega) y) (by rw [Iw];omega) (Xbk hs hr) (by omega)
end Go.Proofs.YtnaopgohccacmaaGreat.Q
namespace Go.Proofs.YtnaopgohccacmaaGreat.Q
set_option linter.unusedVariables false
set_option linter.unusedSimpArgs false
set_option maxRecDepth 100000
def X9u:Y3:=⟨[1,2],[],[0,1,3],false⟩
def X77:List aE:=H0 (fOf 1) (cOf 1) X9u X9u.Xy.length
def Js:List Xq:=Ym X9u.X4 X9u.X4.length
def X2c:List aE:=Vn X9u X9u.Xy.length
def X0u:List UInt8:=V8 X9u
def Jn:Wr:=Vc (rblk 0 Js) Js.length 2 X2c X0u 1 0
theorem X3t:Uj X9u∧rngW X9u:=⟨by decide,fun s hs=>by
  have h:s=0∨s=1∨s=3:=by simpa [X9u] using hs
  unfold Ek;omega⟩
theorem X9t:gd9 Jn:=Xeb X3t.1 X3t.2 3 2 1 0
theorem aw_pr9:Vc (Yz 0 (Yn Js)) (Yn Js).length 2 X2c X0u 1 0=Jn∧Hy (Yz 0 (Yn Js)) (Yn Js).length 2 X0u 1 0=0:=by
  rw [Xcs,Uy]
  exact ⟨rfl,by decide +kernel⟩
abbrev awF9:aE→Int:=Y5 (fOf 1) (cOf 1) (J1 X77)
theorem Xhc:c9E awF9 (fOf 1) Jn=0∧c9E awF9 (fOf 1) (W0 Jn ⟨2,0⟩)=90∧c9E awF9 (fOf 1) (W0 Jn ⟨9,0⟩)=32∧c9E awF9 (fOf 1) (W0 Jn ⟨1,1⟩)=100:=by decide +kernel
theorem aw_few9:X16 X2c∧X0u.length≤1000000∧X12 Js∧Js.length=2:=⟨Xbk X3t.1 X3t.2,Nat.le_trans (X25 X3t.1) (by decide),(E9 X9u.X4 2 (by decide)).2,rfl⟩
end Go.Proofs.YtnaopgohccacmaaGreat.Q
