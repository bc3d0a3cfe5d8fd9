import Derived.Test.YtnaopgohccacmaaGreatC19n41
namespace Go.Proofs.YtnaopgohccacmaaGreat.Q
open Go Go.RowKit
set_option linter.unusedVariables false
set_option linter.unusedSimpArgs false
set_option maxRecDepth 100000
set_option maxHeartbeats 4000000
theorem iat_39:Tryz.prog.info? 39=some Tryz.t39:=by kernel_rfl
theorem wide_39:Wide Tryz.prog 39 (some 6):=⟨_,_,Tryz.underlying39,.inl ⟨_,rfl⟩,iat_39,rfl⟩
section
variable (x:Wm) (c:Y3) (k:Nat) (k2:Nat) (k3:Nat)
abbrev Zrn:List SV:=[.d (dsl false false (Vi .i64) c.X6),dU c.U4,.d (dsl false false (Vi .i64) c.Xt),dB c.I2]
abbrev Zro:AV:=vI ((k:Nat):Int)
abbrev Zrp:SV:=dI (cOf x.Xy)
abbrev Zrq:HS:=.live (.box 130 [dI (3*(fOf x.Vj)+1),(Zrp x),.mref 1])
abbrev Zrr:HS:=.live (mpK Y0 Yc ([]:List (Yn×Bool)))
abbrev Zrs:SV:=dI (fOf x.Vj)
abbrev Zrt:HS:=.live (.box 135 [dB true,(Zrs x),(Zrp x),.own 3 (kE false).sz 0 ([]:List aE).length])
abbrev Zru:HS:=.live (Xe 43 (kE false) ([]:List aE))
abbrev Zrv:=(ofB 6 ([]:List (List UInt8)))
abbrev Zrw:SV:=dS Zrv
abbrev Zrx:HS:=.live (.box 149 [dI 0,Zrw,dB true,.own 5 (Xk false).sz 0 (W1 (W8 c.X6 k)).length])
abbrev Zry:HS:=.live (Xe 152 (Xk false) (W1 (W8 c.X6 k)))
abbrev Zrz:HS:=.live (.box 106 [dB true,dI 0,Zrw,.own 7 (Xr false).sz 0 (W8 c.X6 k).length])
abbrev Zs0:HS:=.live (Xe 65 (Xr false) (W8 c.X6 k))
abbrev Zs1:HS:=.live (.box 27 (Zrn c))
abbrev Zs2:SV:=.d (.val (.pointer none))
abbrev Zs3:SV:=.d (.val (.slice none 0 0))
abbrev Zs4:HS:=.live (.box 39 [Zs2,Zs2,Zs2,Zs2,Zs3,Zs3])
abbrev Zs5:HS:=.live (.box 39 [.ptr 0 0,.ptr 2 0,.ptr 4 0,.ptr 6 0,Zs3,Zs3])
abbrev Zs6:List HS:=[(Zrq x),Zrr,(Zrt x),Zru,(Zrx c k),(Zry c k),(Zrz c k),(Zs0 c k),(Zs1 c),Zs4,Zs5]
abbrev Zs7:HS:=.live (.box 130 [dI (3*(fOf x.Vj)+1),(Zrp x),.mref 4])
abbrev Zs8:HS:=.live (.box 135 [dB true,(Zrs x),(Zrp x),.own 6 (kE false).sz 0 ([]:List aE).length])
abbrev Zs9:HS:=.live (.box 39 [.ptr 3 0,.ptr 5 0,.ptr 7 0,.ptr 9 0,Zs3,Zs3])
abbrev Zsa:List AV:=[aa,aa,aa,pv 8 0,pv 9 0,pv 10 0,(Zro k),pv 11 0,vI 0,aa,aa,aa,aa,aa,aa,aa,aa,aa,aa,aa,aa,aa,aa,aa,aa,aa,aa,aa,aa,aa,vB (decide (((k:Nat):Int)<((c.X6.length:Nat):Int)))]
abbrev Zsb:SV:=dI ((k+1:Nat):Int)
abbrev Zsc:SV:=dS (atB Zrv (W8 c.X6 k) (W8 c.X6 k).length)
abbrev Zsd:SV:=.own 12 (kE false).sz 0 0
abbrev Zse:List HS:=[(Zrq x),Zrr,(Zrt x),Zru,(Zrx c k),(Zry c k),(Zrz c k),(Zs0 c k),(Zs1 c),Zs4,Zs5,.live (.box 65 [(Zsb k),(Zsc c k),Zsd,.own 13 (Xd false).sz 0 0]),Zru,.live (Xe 46 (Xd false) ([]:List Y6))]
abbrev Zsf:List AV:=[aa,aa,aa,pv 8 0,pv 9 0,pv 10 0,(Zro k),pv 11 0,vI ((k2:Nat):Int)]
abbrev Zsg:SV:=dI (I4 (W8 c.X6 k) k 0).Xg
abbrev Zsh:SV:=dS (I4 (W8 c.X6 k) k 0).Y4
abbrev Zsi:List HS:=[(Zrq x),Zrr,(Zrt x),Zru,(Zrx c k),(Zry c k),(Zrz c k),(Zs0 c k),(Zs1 c),Zs4,Zs5,.live (.box 65 [(Zsg c k),(Zsh c k),.own 12 (kE false).sz 0 (Im k k2).length,.own 13 (Xd false).sz 0 (Il k k2).length]),.live (Xe 43 (kE false) (Im k k2)),.live (Xe 46 (Xd false) (Il k k2))]
abbrev Zsl:=(aE.mk ((1000+k2:Nat):Int) [(UInt8.ofNat k),(UInt8.ofNat k2)])
abbrev Zsm:=(Y6.mk 0 ((k+k2:Nat):Int))
abbrev Zsn:List AV:=[aa,aa,aa,pv 8 0,pv 9 0,pv 10 0,(Zro k),pv 11 0,vI ((k2+1:Nat):Int)]
abbrev Zso:List AV:=[aa,aa,aa,pv 8 0,pv 9 0,pv 10 0,(Zro k),pv 11 0,vI ((k2:Nat):Int),aa,aa,aa,aa,aa,aa,aa,aa,aa,aa,aa,aa,aa,aa,aa,aa,aa,aa,aa,aa,aa,aa,aa,aa,aa,aa,aa,aa,aa,aa,aa,aa,aa,aa,aa,aa,aa,aa,aa,vB (decide (((k2:Nat):Int)<(((Int.tmod (c.X6.getD k 0) 5)+5) % 5)))]
abbrev Zsp:=(I4 (W8 c.X6 k) k (Jz (c.X6.getD k 0)).toNat)
abbrev Zsq:List HS:=[(Zrq x),Zrr,(Zrt x),Zru,(Zrx c k),(Zry c k),(Zrz c k),(Zs0 c k),(Zs1 c),Zs4,Zs5,.live (.box 65 [dI (Zsp c k).Xg,dS (Zsp c k).Y4,.own 12 (kE false).sz 0 (Zsp c k).X9.length,.own 13 (Xd false).sz 0 (Zsp c k).Xl.length]),.live (Xe 43 (kE false) (Zsp c k).X9),.live (Xe 46 (Xd false) (Zsp c k).Xl)]
abbrev Zsr:St:=⟨(Zso c k k2),[(Zrq x),Zrr,(Zrt x),Zru,(Zrx c k),(Zry c k),(Zrz c k),(Zs0 c k),(Zs1 c),Zs4,Zs5,.live (.box 65 [dI (Zsp c k).Xg,dS (Zsp c k).Y4,.d (dsl false false (kE false) (Zsp c k).X9),.own 13 (Xd false).sz 0 (Zsp c k).Xl.length]),.dead,.live (Xe 46 (Xd false) (Zsp c k).Xl)]⟩
abbrev Zss:List SV:=[dI (Zsp c k).Xg,dS (Zsp c k).Y4,.d (dsl false false (kE false) (Zsp c k).X9),.d (dsl false false (Xd false) (Zsp c k).Xl)]
abbrev Zst:List AV:=[aa,aa,aa,pv 8 0,pv 9 0,pv 10 0,vI ((k+1:Nat):Int)]
abbrev Zsu:List AV:=[aa,aa,aa,pv 8 0,pv 9 0,pv 10 0]
abbrev Zsv:=(W8 c.X6 c.X6.length)
abbrev Zsw:HS:=.live (.box 149 [dI 0,Zrw,dB true,.own 5 (Xk false).sz 0 (W1 (Zsv c)).length])
abbrev Zsx:HS:=.live (Xe 152 (Xk false) (W1 (Zsv c)))
abbrev Zsy:HS:=.live (.box 106 [dB true,dI 0,Zrw,.own 7 (Xr false).sz 0 (Zsv c).length])
abbrev Zsz:HS:=.live (Xe 65 (Xr false) (Zsv c))
abbrev Zt0:List HS:=[(Zrq x),Zrr,(Zrt x),Zru,(Zsw c),(Zsx c),(Zsy c),(Zsz c),(Zs1 c),Zs4,Zs5]
abbrev Zt1:List AV:=[aa,aa,aa,pv 8 0,pv 9 0,pv 10 0,aa,aa,aa,vI (0+(((Zsv c).length:Nat):Int))]
abbrev Zt2:List HS:=[(Zrq x),Zrr,(Zrt x),Zru,(Zsw c),(Zsx c),(Zsy c),(Zsz c),(Zs1 c),Zs4,.live (.box 39 [.ptr 0 0,.ptr 2 0,.ptr 4 0,.ptr 6 0,.own 11 kU8.sz 0 (X3a (0+(((Zsv c).length:Nat):Int)) (atB Zrv (Zsv c) (Zsv c).length) c.U4).length,Zs3]),.live (Xe 5 kU8 (X3a (0+(((Zsv c).length:Nat):Int)) (atB Zrv (Zsv c) (Zsv c).length) c.U4))]
abbrev Zt3:AV:=vI ((c.X6.length:Nat):Int)
abbrev Zt4:List AV:=[aa,aa,aa,pv 8 0,pv 9 0,pv 10 0,aa,aa,aa,(Zt3 c)]
abbrev Zt5:List HS:=[(Zrq x),Zrr,(Zrt x),Zru,(Zsw c),(Zsx c),(Zsy c),(Zsz c),(Zs1 c),Zs4,.live (.box 39 [.ptr 0 0,.ptr 2 0,.ptr 4 0,.ptr 6 0,.own 11 kU8.sz 0 (Ud c).length,Zs3]),.live (Xe 5 kU8 (Ud c))]
abbrev Zt6:SV:=dU (Ud c)
abbrev Zt7:HS:=.live (.box 39 [.ptr 0 0,.ptr 2 0,.ptr 4 0,.ptr 6 0,(Zt6 c),Zs3])
abbrev Zt8:List AV:=[aa,aa,aa,pv 8 0,pv 9 0,pv 10 0,aa,aa,aa,(Zt3 c),pv 12 0,aa,aa,aa,aa,aa,aa,aa,aa,aa,aa,aa,aa,aa,aa,aa,aa,aa,aa,aa,aa,aa,aa,aa,aa,aa,aa,aa,aa,aa,aa,aa,aa,aa,aa,aa,aa,aa,aa,aa,aa,aa,aa,aa,aa,aa,aa,aa,aa,aa,aa,aa,aa,aa,aa,aa,aa,aa,aa,aa,aa,aa,aa,aa,aa,aa,aa,aa,aa,aa,aa,aa,aa,aa,aa,aa,aa,aa,aa,aa,aa,aa,aa,aa,aa,aa,aa,aa,aa,vB c.I2]
abbrev Zt9:List SV:=[dI (Un c).X2,dI (Un c).Y1,dI (Un c).Xo,dI (Un c).Xi,dI (Un c).Yj,dS (Un c).X8,dU (Un c).Xa,dI (Un c).X1.Xw,dI (Un c).X1.Xn,.d (dsl false false (kE false) (Un c).Xp),.d (dsl false false (kE false) (Un c).Y5),.d (dsl false false (kC false) (Un c).X5)]
abbrev Zta:HS:=.live (.box 78 (Zt9 c))
abbrev Ztb:List HS:=[(Zrq x),Zrr,(Zrt x),Zru,(Zsw c),(Zsx c),(Zsy c),(Zsz c),(Zs1 c),Zs4,(Zt7 c),.dead,(Zta c)]
abbrev Ztc:SV:=dI (max 1 ((c.X6.length:Nat):Int))
abbrev Ztd:St:=⟨(Zt8 c),[(Zrq x),Zrr,(Zrt x),Zru,(Zsw c),(Zsx c),(Zsy c),(Zsz c),(Zs1 c),Zs4,(Zt7 c),.dead,.live (.box 78 [dI 5,dI 0,(Ztc c),dI 0,dI 0,dS [97,110,111,116,104,101,114,32,111,110,101],Zs3,dI 0,dI 0,Zs3,Zs3,Zs3])]⟩
abbrev Zte:SV:=.d (dsl false false (kE false) ([]:List aE))
abbrev Ztf:List HS:=[(Zrq x),Zrr,(Zrt x),Zru,(Zsw c),(Zsx c),(Zsy c),(Zsz c),(Zs1 c),Zs4,(Zt7 c),.dead,.live (.box 78 [dI 5,dI 0,(Ztc c),dI 0,dI 0,dS [97,110,111,116,104,101,114,32,111,110,101],dU ([]:List UInt8),dI 0,dI 0,Zte,Zte,.d (dsl false false (kC false) ([]:List aC))])]
abbrev Ztg:St:=⟨(Zt8 c),[(Zrq x),Zrr,(Zrt x),Zru,(Zsw c),(Zsx c),(Zsy c),(Zsz c),(Zs1 c),Zs4,(Zt7 c),.dead,.live (.box 78 [dI 5,dI 0,(Ztc c),dI 0,dI 0,dS (ofB 7 [(Ud c)]),Zs3,dI 0,dI 0,Zs3,Zs3,Zs3])]⟩
abbrev Zth:List HS:=[(Zrq x),Zrr,(Zrt x),Zru,(Zsw c),(Zsx c),(Zsy c),(Zsz c),(Zs1 c),Zs4,(Zt7 c),.dead,.live (.box 78 [dI 5,dI 0,(Ztc c),dI 0,dI 0,dS (ofB 7 [(Ud c)]),dU ([]:List UInt8),dI 0,dI 0,Zte,Zte,.d (dsl false false (kC false) ([]:List aC))])]
abbrev Zti:List AV:=[aa,aa,aa,pv 8 0,pv 9 0,pv 10 0,aa,aa,aa,(Zt3 c),pv 12 0,vI 0,aa,aa,aa,aa,aa,aa,aa,aa,aa,aa,aa,aa,aa,aa,aa,aa,aa,aa,aa,aa,aa,aa,aa,aa,aa,aa,aa,aa,aa,aa,aa,aa,aa,aa,aa,aa,aa,aa,aa,aa,aa,aa,aa,aa,aa,aa,aa,aa,aa,aa,aa,aa,aa,aa,aa,aa,aa,aa,aa,aa,aa,aa,aa,aa,aa,aa,aa,aa,aa,aa,aa,aa,aa,aa,aa,aa,aa,aa,aa,aa,aa,aa,aa,aa,aa,aa,aa,vB c.I2]
abbrev Ztj:HS:=.live (.box 39 [.ptr 0 0,.ptr 2 0,.ptr 4 0,.ptr 6 0,(Zt6 c),.own 13 (kE false).sz 0 0])
abbrev Ztk:=(Uh (fOf x.Vj) (cOf x.Xy) c k3)
abbrev Ztl:HS:=.live (.box 135 [dB true,(Zrs x),(Zrp x),.own 3 (kE false).sz 0 (Ztk x c k3).length])
abbrev Ztm:HS:=.live (.box 39 [.ptr 0 0,.ptr 2 0,.ptr 4 0,.ptr 6 0,(Zt6 c),.own 12 (kE false).sz 0 (Vq c k3).length])
abbrev Ztn:St:=⟨[aa,aa,aa,pv 8 0,pv 9 0,pv 10 0,aa,aa,aa,aa,pv 11 0,vI ((k3:Nat):Int)],[(Zrq x),.live (mpK Y0 Yc (U8 (Ztk x c k3))),(Ztl x c k3),.live (Xe 43 (kE false) (Ztk x c k3)),(Zsw c),(Zsx c),(Zsy c),(Zsz c),(Zs1 c),Zs4,(Ztm c k3),(Zta c),.live (Xe 43 (kE false) (Vq c k3))]⟩
abbrev Zto:=(Uh (fOf x.Vj) (cOf x.Xy) c 0)
abbrev Ztp:=(aE.mk (c.Xt.getD k3 0) (F5 (Un c)))
abbrev Ztq:List AV:=[aa,aa,aa,pv 8 0,pv 9 0,pv 10 0,aa,aa,aa,aa,pv 11 0,vI ((k3+1:Nat):Int)]
abbrev Ztr:=(Uh (fOf x.Vj) (cOf x.Xy) c (k3+1))
abbrev Zts:List AV:=[aa,aa,aa,pv 8 0,pv 9 0,pv 10 0,aa,aa,aa,aa,pv 11 0,vI ((k3:Nat):Int),aa,aa,aa,aa,aa,aa,aa,aa,aa,aa,aa,aa,aa,aa,aa,aa,aa,aa,aa,aa,aa,aa,aa,aa,aa,aa,aa,aa,aa,aa,aa,aa,aa,aa,aa,aa,aa,aa,aa,aa,aa,aa,aa,aa,aa,aa,aa,aa,aa,aa,aa,aa,aa,aa,aa,aa,aa,aa,aa,aa,aa,aa,aa,aa,aa,aa,aa,aa,aa,aa,aa,aa,aa,aa,aa,aa,aa,aa,aa,aa,aa,aa,aa,aa,aa,aa,aa,aa,aa,aa,aa,aa,aa,vB (decide (((k3:Nat):Int)<((c.Xt.length:Nat):Int)))]
abbrev Ztt:St:=⟨(Zts c k3),[(Zrq x),.live (mpK Y0 Yc (U8 (Ztk x c k3))),(Ztl x c k3),.live (Xe 43 (kE false) (Ztk x c k3)),(Zsw c),(Zsx c),(Zsy c),(Zsz c),(Zs1 c),(Ztm c k3),(Ztm c k3),(Zta c),.live (Xe 43 (kE false) (Vq c k3))]⟩
abbrev Ztu:List SV:=[.ptr 0 0,.ptr 2 0,.ptr 4 0,.ptr 6 0,(Zt6 c),.d (dsl false false (kE false) (Vq c k3))]
end
theorem X9j (x:Wm) (c:Y3) (hs:Ux c) (hr:rngW c):Holds Tryz.prog 10 ⟨[.tv (.agg [dI x.Vj,dI x.Xy]),.tv (.agg [.d (dsl false false (Vi .i64) c.X6),dU c.U4,.d (dsl false false (Vi .i64) c.Xt),dB c.I2])],[],.tv (.agg [.ptr 0 0,.ptr 2 0,.ptr 4 0,.ptr 6 0,dU (Ud c),.d (dsl false false (kE false) (Vq c c.Xt.length))]),[.live (.box 130 [dI (3*(fOf x.Vj)+1),dI (cOf x.Xy),.mref 1]),.live (mpK Y0 Yc (U8 (Uh (fOf x.Vj) (cOf x.Xy) c c.Xt.length))),.live (.box 135 [dB true,dI (fOf x.Vj),dI (cOf x.Xy),.own 3 (kE false).sz 0 (Uh (fOf x.Vj) (cOf x.Xy) c c.Xt.length).length]),.live (Xe 43 (kE false) (Uh (fOf x.Vj) (cOf x.Xy) c c.Xt.length)),.live (.box 149 [dI 0,dS (ofB 6 ([]:List (List UInt8))),dB true,.own 5 (Xk false).sz 0 (W1 (W8 c.X6 c.X6.length)).length]),.live (Xe 152 (Xk false) (W1 (W8 c.X6 c.X6.length))),.live (.box 106 [dB true,dI 0,dS (ofB 6 ([]:List (List UInt8))),.own 7 (Xr false).sz 0 (W8 c.X6 c.X6.length).length]),.live (Xe 65 (Xr false) (W8 c.X6 c.X6.length))]⟩:=by
 refine Holds.of Tryz.func10 rfl (N:=137) Tryz.ntmps10 rfl fun w0 B0 S0 U0=>?_
 show T _ (Y2 137 0 w0 S0 U0 B0) ⟨[.tv (.agg [dI x.Vj,dI x.Xy]),.tv (.agg (Zrn c))],[]⟩ _ _
 have hfx:=Xcr x.Vj
 have hux:=Xcw x.Xy
 obtain ⟨hs1,hs2,hs3⟩:=hs
 have hsm:Ux c:=⟨hs1,hs2,hs3⟩
 have hdl:=X06 hsm
 have hml:=Xf6 hsm
 have hbl:=Xf8 hsm
 have hcdl:=Xf7 hsm
 have ok1:(Yb (Un c) 9).length≤10000000:=(by omega)
 have ok2:(Un c).Xp.length≤1:=Nat.zero_le _
 have ok3:(Un c).Y5.length≤1:=Nat.zero_le _
 have ok4:(Un c).X5.length≤1:=Nat.zero_le _
 have ok5:(Un c).Xa.length≤1:=Nat.zero_le _
 have ok6:(Un c).X8.length≤1000000:=Nat.le_trans hcdl (by decide)
 refine sR [] ?_
 refine sD [[],[0],[],[2],[0,1,2,3],[],[5],[],[7],[0,1,2,3,4,5,6,7,8],[0,1,2,3,4,5,6,7,8,9],[0,1,2,3,4,5,6,7,8,9,10],[0,1,2,3,4,5,6,7,8,9,10,11],[],[0,1,2,3,4,5,6,7,8,9,10,11,12,13]] [hR 4 rfl rfl (rCa (Xk3 x.Vj x.Xy ) Tryz.func34 [3,4] [(.tmp 14,vI x.Vj),(.tmp 16,vI x.Xy)] 0 2),hR 9 rfl rfl (rCa (Xj0 x.Vj x.Xy ) Tryz.func35 [5,6] [(.tmp 19,vI x.Vj),(.tmp 21,vI x.Xy)] 0 2),hR 10 rfl rfl (rCa (Xgm  ) Tryz.func36 [7,8] [] 0 2),hR 11 rfl rfl (rCa (Xiz  ) Tryz.func37 [9,10] [] 0 2)] ?_
 refine T.seq ?_
 refine sR [] ?_
 refine T.block ?_
 refine T.loop (ι:=Nat) (fun (k:Nat)=>⟨[aa,aa,aa,pv 8 0,pv 9 0,pv 10 0,(Zro k)],(Zs6 x c k)⟩) (fun (k:Nat)=>(k≤c.X6.length)) (fun (k:Nat)=>c.X6.length-k) (0) (Nat.zero_le _) (fun _ _ hG=>Vb [3,4,5,6,7,8,9,10,1,2,11] (bm 7 120) (h1:=[(Zs7 x),Zrr,(Zs8 x),Zru,.live (.box 149 [dI 0,Zrw,dB true,.own 8 (Xk false).sz 0 (W1 (W8 c.X6 0)).length]),.live (Xe 152 (Xk false) (W1 (W8 c.X6 0))),.live (.box 106 [dB true,dI 0,Zrw,.own 10 (Xr false).sz 0 (W8 c.X6 0).length]),.live (Xe 65 (Xr false) (W8 c.X6 0)),(Zs1 c),Zs4,Zs9]) (h2:=[(Zs7 x),Zrr,(Zs8 x),Zru,.live (.box 149 [dI 0,Zrw,dB true,.own 8 (Xk false).sz 0 ([]:List Yq).length]),.live (Xe 152 (Xk false) ([]:List Yq)),.live (.box 106 [dB true,dI 0,Zrw,.own 10 (Xr false).sz 0 ([]:List Xq).length]),.live (Xe 65 (Xr false) ([]:List Xq)),(Zs1 c),Zs4,Zs9]) (t1:=[aa,aa,aa,pv 1 0,pv 2 0,pv 11 0,vI 0]) rfl (cg4 (fun (q1:Nat) (q2:List Yq) (q3:Nat) (q4:List Xq)=>([(Zs7 x),Zrr,(Zs8 x),Zru,.live (.box 149 [dI 0,Zrw,dB true,.own 8 (Xk false).sz 0 q1]),.live (Xe 152 (Xk false) q2),.live (.box 106 [dB true,dI 0,Zrw,.own 10 (Xr false).sz 0 q3]),.live (Xe 65 (Xr false) q4),(Zs1 c),Zs4,Zs9]:List HS)) (by rfl) (by rfl) (by rfl) (by rfl)) hG) ?_
 rintro k hk
 show T _ _ ⟨[aa,aa,aa,pv 8 0,pv 9 0,pv 10 0,(Zro k)],(Zs6 x c k)⟩ _ _
 replace hk:k≤c.X6.length:=hk
 have hcl:=Fx c.X6 k
 have hco:=Ed c.X6 k (by omega)
 have hco1:=hco.1
 have hco2:=hco.2
 have hll:=Jk (W8 c.X6 k)
 have hlk:=X2r hco2
 have hcb:=X55 (c.X6.getD k 0)
 have ht5:=tmod5 (c.X6.getD k 0)
 refine T.seq ?_
 refine sR [] ?_
 by_cases hq1:((k:Nat):Int)<((c.X6.length:Nat):Int)
 ·refine cT (dT hq1) ?_
  refine T.skip (nT (T.seq ?_))
  refine T.block ?_
  refine sR [hR 1 rfl rfl (Ye (u1:=.int .i64 ((k:Nat):Int)) (u2:=.int .i64 1) (v:=.int .i64 ((k+1:Nat):Int)) (Wa pa) (X3 rfl) ⟨rfl,trivial⟩),hR 4 rfl rfl (rCa (X3m 0 (ofB 6 ([]:List (List UInt8))) (W8 c.X6 k) (by omega) (by omega) (by omega)) Tryz.func38 [6,7] [(.tmp 36,pv 6 0)] 2 2)] ?_
  refine T.seq ?_
  refine sR [] ?_
  refine T.block ?_
  refine tN ⟨(Zsa c k),[(Zrq x),Zrr,(Zrt x),Zru,(Zrx c k),(Zry c k),(Zrz c k),(Zs0 c k),(Zs1 c),Zs4,Zs5,.live (.box 65 [(Zsb k),(Zsc c k),Zs3,Zs3])]⟩ ?_
  refine Wv (s':=⟨(Zsa c k),[(Zrq x),Zrr,(Zrt x),Zru,(Zrx c k),(Zry c k),(Zrz c k),(Zs0 c k),(Zs1 c),Zs4,Zs5,.live (.box 65 [(Zsb k),(Zsc c k),Zsd,Zs3]),Zru]⟩) (fun _ _ hG=>Jd 12 11 2 43 (kE false) (Tb:=65) (cs:=[(Zsb k),(Zsc c k),Zs3,Zs3]) rfl rfl rfl hG) ?_
  refine Wv (s':=⟨(Zsa c k),(Zse x c k)⟩) (fun _ _ hG=>Jd 13 11 3 46 (Xd false) (Tb:=65) (cs:=[(Zsb k),(Zsc c k),Zsd,Zs3]) rfl rfl rfl hG) ?_
  refine T.loop (ι:=Nat) (fun (k2:Nat)=>⟨(Zsf k k2),(Zsi x c k k2)⟩) (fun (k2:Nat)=>(((k2:Nat):Int)≤Jz (c.X6.getD k 0))) (fun (k2:Nat)=>(Jz (c.X6.getD k 0)).toNat-k2) (0) (by omega) (fun _ _ hG=>Yt [0,1,2,3,4,5,6,7,8,9,10,11,12,13] (bm 9 504) (h2:=(Zse x c k)) rfl (cg6 (fun (q1:Int) (q2:List UInt8) (q3:Nat) (q4:Nat) (q5:List aE) (q6:List Y6)=>([(Zrq x),Zrr,(Zrt x),Zru,(Zrx c k),(Zry c k),(Zrz c k),(Zs0 c k),(Zs1 c),Zs4,Zs5,.live (.box 65 [dI q1,dS q2,.own 12 (kE false).sz 0 q3,.own 13 (Xd false).sz 0 q4]),.live (Xe 43 (kE false) q5),.live (Xe 46 (Xd false) q6)]:List HS)) (by rfl) (by rfl) (by rfl) (by rfl) (by rfl) (by rfl)) hG) ?_
  rintro k2 hk2
  show T _ _ ⟨(Zsf k k2),(Zsi x c k k2)⟩ _ _
  replace hk2:((k2:Nat):Int)≤Jz (c.X6.getD k 0):=hk2
  have hrl:=X5q k k2
  have hsl:=X5p k k2
  have hcb:=X55 (c.X6.getD k 0)
  have ht5:=tmod5 (c.X6.getD k 0)
  refine T.seq ?_
  refine sR [hR 4 rfl rfl (Wd false false (Vi .i64) c.X6 k (k:=.i64) (i:=((k:Nat):Int)) Tryz.underlying24 X23 rfl rfl (by omega) (X3 rfl) trivial),hR 6 rfl rfl (Ye (u1:=.int .i64 (c.X6.getD k 0)) (u2:=.int .i64 5) (v:=.int .i64 (Int.tmod (c.X6.getD k 0) 5)) (b_rem (by omega) rfl) (X3 rfl) ⟨rfl,trivial⟩),hR 7 rfl rfl (Ye (u1:=.int .i64 (Int.tmod (c.X6.getD k 0) 5)) (u2:=.int .i64 5) (v:=.int .i64 ((Int.tmod (c.X6.getD k 0) 5)+5)) (Wa pa) (X3 rfl) ⟨rfl,trivial⟩),hR 8 rfl rfl (Ye (u1:=.int .i64 ((Int.tmod (c.X6.getD k 0) 5)+5)) (u2:=.int .i64 5) (v:=.int .i64 (((Int.tmod (c.X6.getD k 0) 5)+5) % 5)) (b_remP (by omega) (by omega)) (X3 rfl) ⟨rfl,trivial⟩)] ?_
  by_cases hq2:((k2:Nat):Int)<(((Int.tmod (c.X6.getD k 0) 5)+5) % 5)
  ·have hk3:((k2:Nat):Int)<Jz (c.X6.getD k 0):=hq2
   refine cT (dT hq2) ?_
   refine T.skip (nT (T.seq ?_))
   refine T.block ?_
   refine sR [hR 3 rfl rfl (Ye (u1:=.int .i64 1000) (u2:=.int .i64 ((k2:Nat):Int)) (v:=.int .i64 ((1000+k2:Nat):Int)) (Wa pa) (X3 rfl) ⟨rfl,trivial⟩),hR 5 rfl rfl (Vc (u:=.int .i64 ((k:Nat):Int)) (v:=.int .u8 (((UInt8.ofNat k).toNat:Nat):Int)) (Hn Tryz.underlying3 Tryz.underlying5) (X3 rfl) trivial),hR 7 rfl rfl (Vc (u:=.int .i64 ((k2:Nat):Int)) (v:=.int .u8 (((UInt8.ofNat k2).toNat:Nat):Int)) (Hn Tryz.underlying3 Tryz.underlying5) (X3 rfl) trivial),hR 8 rfl rfl (Yd 14 5 kU8 Vr [(UInt8.ofNat k),(UInt8.ofNat k2)] [⟨0,.tmp 56,.one (.d (.val (.int .u8 (((UInt8.ofNat k).toNat:Nat):Int)))),0⟩,⟨1,.tmp 58,.one (.d (.val (.int .u8 (((UInt8.ofNat k2).toNat:Nat):Int)))),1⟩] (cs:=[.d (.val (.int .u8 (((UInt8.ofNat k).toNat:Nat):Int))),.d (.val (.int .u8 (((UInt8.ofNat k2).toNat:Nat):Int)))]) Tryz.underlying25 Jl rfl Io rfl rfl rfl pd (Yp rfl rfl pd (Yp rfl rfl pd W4)) pZ7 (V1 pZ7) (X3 rfl) trivial),hR 10 rfl rfl (J0 0 60 14 5 kU8 [(UInt8.ofNat k),(UInt8.ofNat k2)] (av:=.tv (.agg [dI ((1000+k2:Nat):Int),.own 14 kU8.sz 0 [(UInt8.ofNat k),(UInt8.ofNat k2)].length])) (Yd 15 43 (kE false) (W5 false) [(aE.mk ((1000+k2:Nat):Int) [(UInt8.ofNat k),(UInt8.ofNat k2)])] [⟨0,.tmp 60,.agg [dI ((1000+k2:Nat):Int),dU [(UInt8.ofNat k),(UInt8.ofNat k2)]],0⟩] (cs:=[dI ((1000+k2:Nat):Int),dU [(UInt8.ofNat k),(UInt8.ofNat k2)]]) Tryz.underlying37 Vs rfl F7 rfl rfl rfl pd (Yp rfl rfl pd W4) pZ7 (V1 pZ7) (X3 rfl) trivial) rfl p5c p3c rfl rfl),hR 11 rfl rfl (Yy 12 16 43 32 (kE false) (W5 false) (Im k k2) [(aE.mk ((1000+k2:Nat):Int) [(UInt8.ofNat k),(UInt8.ofNat k2)])] ((Im k k2)++[(aE.mk ((1000+k2:Nat):Int) [(UInt8.ofNat k),(UInt8.ofNat k2)])]) (Im k k2).length (sy:=(.own 15 (kE false).sz 0 [(Zsl k k2)].length)) (rhs:=[(15,.live (Xe 43 (kE false) [(Zsl k k2)]))]) Fb (by omega) (Wu 15 43 (kE false) [(aE.mk ((1000+k2:Nat):Int) [(UInt8.ofNat k),(UInt8.ofNat k2)])]) Jn X7a X7a (X3 rfl) trivial)] ?_
   refine xR [hR 4 rfl rfl (Ye (u1:=.int .i64 ((k:Nat):Int)) (u2:=.int .i64 ((k2:Nat):Int)) (v:=.int .i64 ((k+k2:Nat):Int)) (Wa pa) (X3 rfl) trivial),hR 6 rfl rfl (Yd 17 46 (Xd false) (Vz false) [(Y6.mk 0 ((k+k2:Nat):Int))] [⟨0,.tmp 69,.agg [dI 0,dI ((k+k2:Nat):Int)],0⟩] (cs:=[dI 0,dI ((k+k2:Nat):Int)]) Tryz.underlying63 Em rfl X7j rfl rfl rfl pd (Yp rfl rfl pd W4) pZ7 (V1 pZ7) (X3 rfl) trivial),hR 7 rfl rfl (Yy 13 18 46 16 (Xd false) (Vz false) (Il k k2) [(Y6.mk 0 ((k+k2:Nat):Int))] ((Il k k2)++[(Y6.mk 0 ((k+k2:Nat):Int))]) (Il k k2).length (sy:=(.own 17 (Xd false).sz 0 [(Zsm k k2)].length)) (rhs:=[(17,.live (Xe 46 (Xd false) [(Zsm k k2)]))]) X7w (by omega) (Wu 17 46 (Xd false) [(Y6.mk 0 ((k+k2:Nat):Int))]) Jn X7a X7a (X3 rfl) trivial)] pZ7 pZ7 ?_
   refine nB ?_
   refine nT ?_
   refine xK [hR 1 rfl rfl (Ye (u1:=.int .i64 ((k2:Nat):Int)) (u2:=.int .i64 1) (v:=.int .i64 ((k2+1:Nat):Int)) (Wa pa) (X3 rfl) ⟨rfl,trivial⟩)] ?_
   refine nL (k2+1) (show (((k2+1):Nat):Int)≤Jz (c.X6.getD k 0) from (by omega)) (show ((Jz (c.X6.getD k 0)).toNat-(k2+1):Nat)<(Jz (c.X6.getD k 0)).toNat-k2 from (by omega)) (fun _ _ hG=>Vb [0,1,2,3,4,5,6,7,8,9,10,11,16,18] (bm 9 504) (h1:=[(Zrq x),Zrr,(Zrt x),Zru,(Zrx c k),(Zry c k),(Zrz c k),(Zs0 c k),(Zs1 c),Zs4,Zs5,.live (.box 65 [(Zsg c k),(Zsh c k),.own 16 (kE false).sz 0 (Im k (k2+1)).length,.own 18 (Xd false).sz 0 (Il k (k2+1)).length]),.live (Xe 43 (kE false) (Im k (k2+1))),.live (Xe 46 (Xd false) (Il k (k2+1)))]) (h2:=[(Zrq x),Zrr,(Zrt x),Zru,(Zrx c k),(Zry c k),(Zrz c k),(Zs0 c k),(Zs1 c),Zs4,Zs5,.live (.box 65 [(Zsg c k),(Zsh c k),.own 16 (kE false).sz 0 ((Im k k2)++[(Zsl k k2)]).length,.own 18 (Xd false).sz 0 ((Il k k2)++[(Zsm k k2)]).length]),.live (Xe 43 (kE false) ((Im k k2)++[(Zsl k k2)])),.live (Xe 46 (Xd false) ((Il k k2)++[(Zsm k k2)]))]) (t1:=(Zsn k k2)) rfl (by have e1:((Im k (k2+1)).length:Nat)=((Im k k2)++[(aE.mk ((1000+k2:Nat):Int) [(UInt8.ofNat k),(UInt8.ofNat k2)])]).length:=(by (rw [X8q]));have e2:((Il k (k2+1)).length:Nat)=((Il k k2)++[(Y6.mk 0 ((k+k2:Nat):Int))]).length:=(by (rw [X8p]));have e3:((Im k (k2+1)):List aE)=(Im k k2)++[(aE.mk ((1000+k2:Nat):Int) [(UInt8.ofNat k),(UInt8.ofNat k2)])]:=(by (rw [X8q]));have e4:((Il k (k2+1)):List Y6)=(Il k k2)++[(Y6.mk 0 ((k+k2:Nat):Int))]:=(by (rw [X8p]));have hE:=congr (congr (congr (congrArg (fun (q1:Nat) (q2:Nat) (q3:List aE) (q4:List Y6)=>([(Zrq x),Zrr,(Zrt x),Zru,(Zrx c k),(Zry c k),(Zrz c k),(Zs0 c k),(Zs1 c),Zs4,Zs5,.live (.box 65 [(Zsg c k),(Zsh c k),.own 16 (kE false).sz 0 q1,.own 18 (Xd false).sz 0 q2]),.live (Xe 43 (kE false) q3),.live (Xe 46 (Xd false) q4)]:List HS)) e1) e2) e3) e4;exact hE) hG)
  have hk3:¬((k2:Nat):Int)<Jz (c.X6.getD k 0):=hq2;have hke:(Jz (c.X6.getD k 0)).toNat=k2:=(by omega);have hfb:=X6c (L:=(W8 c.X6 k)) (i:=k) (n:=(Jz (c.X6.getD k 0)).toNat) (by omega) (by omega);have hap:=app_chn9 (bs:=c.X6) (i:=k) (by omega)
  refine cF (dF hq2) ?_
  refine T.exit ?_
  refine xT ?_
  refine xT ?_
  refine xH ?_
  refine nT ?_
  refine tN ⟨(Zso c k k2),(Zsi x c k k2)⟩ ?_
  refine Wv (s':=⟨(Zso c k k2),(Zsq x c k)⟩) (fun _ _ hG=>Yt [0,1,2,3,4,5,6,7,8,9,10,11,12,13] (bm 49 281474976711160) (h2:=(Zsi x c k k2)) rfl (by have e1:((I4 (W8 c.X6 k) k (Jz (c.X6.getD k 0)).toNat).Xg:Int)=(I4 (W8 c.X6 k) k 0).Xg:=(by rfl);have e2:((I4 (W8 c.X6 k) k (Jz (c.X6.getD k 0)).toNat).Y4:List UInt8)=(I4 (W8 c.X6 k) k 0).Y4:=(by rfl);have e3:((I4 (W8 c.X6 k) k (Jz (c.X6.getD k 0)).toNat).X9.length:Nat)=(Im k k2).length:=(by (rw [hke];rfl));have e4:((I4 (W8 c.X6 k) k (Jz (c.X6.getD k 0)).toNat).Xl.length:Nat)=(Il k k2).length:=(by (rw [hke];rfl));have e5:((I4 (W8 c.X6 k) k (Jz (c.X6.getD k 0)).toNat).X9:List aE)=(Im k k2):=(by (rw [hke];rfl));have e6:((I4 (W8 c.X6 k) k (Jz (c.X6.getD k 0)).toNat).Xl:List Y6)=(Il k k2):=(by (rw [hke];rfl));have hE:=congr (congr (congr (congr (congr (congrArg (fun (q1:Int) (q2:List UInt8) (q3:Nat) (q4:Nat) (q5:List aE) (q6:List Y6)=>([(Zrq x),Zrr,(Zrt x),Zru,(Zrx c k),(Zry c k),(Zrz c k),(Zs0 c k),(Zs1 c),Zs4,Zs5,.live (.box 65 [dI q1,dS q2,.own 12 (kE false).sz 0 q3,.own 13 (Xd false).sz 0 q4]),.live (Xe 43 (kE false) q5),.live (Xe 46 (Xd false) q6)]:List HS)) e1) e2) e3) e4) e5) e6;exact hE) hG) ?_
  refine Wv (s':=(Zsr x c k k2)) (fun _ _ hG=>Gs.freeze (s:=⟨(Zso c k k2),(Zsq x c k)⟩) 12 (el:=W6 (kE false) (I4 (W8 c.X6 k) k (Jz (c.X6.getD k 0)).toNat).X9) (sz:=(kE false).sz) (n:=(I4 (W8 c.X6 k) k (Jz (c.X6.getD k 0)).toNat).X9.length) rfl ⟨.inl rfl,X5v⟩ ⟨pc,⟨pc,⟨pc,⟨pc,⟨pc,⟨pc,⟨pc,⟨pc,⟨pc,⟨pc,⟨pc,⟨p2c,⟨(.inl ⟨rfl,rfl⟩),⟨pc,trivial⟩⟩⟩⟩⟩⟩⟩⟩⟩⟩⟩⟩⟩⟩ hG) ?_
  refine Wv (s':=⟨(Zso c k k2),[(Zrq x),Zrr,(Zrt x),Zru,(Zrx c k),(Zry c k),(Zrz c k),(Zs0 c k),(Zs1 c),Zs4,Zs5,.live (.box 65 (Zss c k)),.dead,.dead]⟩) (fun _ _ hG=>Gs.freeze (s:=(Zsr x c k k2)) 13 (el:=W6 (Xd false) (I4 (W8 c.X6 k) k (Jz (c.X6.getD k 0)).toNat).Xl) (sz:=(Xd false).sz) (n:=(I4 (W8 c.X6 k) k (Jz (c.X6.getD k 0)).toNat).Xl.length) rfl ⟨.inl rfl,X5v⟩ ⟨pc,⟨pc,⟨pc,⟨pc,⟨pc,⟨pc,⟨pc,⟨pc,⟨pc,⟨pc,⟨pc,⟨p2b,⟨pc,⟨(.inl ⟨rfl,rfl⟩),trivial⟩⟩⟩⟩⟩⟩⟩⟩⟩⟩⟩⟩⟩⟩ hG) ?_
  refine sR [hR 3 rfl rfl (rCa (Xai 0 (ofB 6 ([]:List (List UInt8))) (W1 (W8 c.X6 k)) (I4 (W8 c.X6 k) k (Jz (c.X6.getD k 0)).toNat) (by omega) (by omega) ‹_›) Tryz.func39 [4,5,14] [(.tmp 74,pv 4 0),(.tmp 75,.tv (.agg (Zss c k)))] 2 3)] ?_
  refine xK [hR 3 rfl rfl (rCa (Xc1 0 (ofB 6 ([]:List (List UInt8))) (W8 c.X6 k) (I4 (W8 c.X6 k) k (Jz (c.X6.getD k 0)).toNat) (by omega) (by omega) (by omega) (by omega)) Tryz.func40 [6,7,15] [(.tmp 78,pv 6 0),(.tmp 79,.tv (.agg (Zss c k)))] 2 3)] ?_
  refine nB ?_
  refine nT ?_
  refine xK [hR 1 rfl rfl (Ye (u1:=.int .i64 ((k:Nat):Int)) (u2:=.int .i64 1) (v:=.int .i64 ((k+1:Nat):Int)) (Wa pa) (X3 rfl) ⟨rfl,trivial⟩)] ?_
  refine nL (k+1) (show (k+1)≤c.X6.length from (by omega)) (show (c.X6.length-(k+1):Nat)<c.X6.length-k from (by omega)) (fun _ _ hG=>Vb [0,1,2,3,4,14,6,15,8,9,10] (bm 7 120) (h1:=[(Zrq x),Zrr,(Zrt x),Zru,.live (.box 149 [dI 0,Zrw,dB true,.own 14 (Xk false).sz 0 (W1 (W8 c.X6 (k+1))).length]),.live (Xe 152 (Xk false) (W1 (W8 c.X6 (k+1)))),.live (.box 106 [dB true,dI 0,Zrw,.own 15 (Xr false).sz 0 (W8 c.X6 (k+1)).length]),.live (Xe 65 (Xr false) (W8 c.X6 (k+1))),(Zs1 c),Zs4,Zs5]) (h2:=[(Zrq x),Zrr,(Zrt x),Zru,.live (.box 149 [dI 0,Zrw,dB true,.own 14 (Xk false).sz 0 (X12 0 Zrv (W1 (W8 c.X6 k)) (Zsp c k)).length]),.live (Xe 152 (Xk false) (X12 0 Zrv (W1 (W8 c.X6 k)) (Zsp c k))),.live (.box 106 [dB true,dI 0,Zrw,.own 15 (Xr false).sz 0 (H9 0 Zrv (W8 c.X6 k) (Zsp c k)).length]),.live (Xe 65 (Xr false) (H9 0 Zrv (W8 c.X6 k) (Zsp c k))),(Zs1 c),Zs4,Zs5]) (t1:=(Zst k)) rfl (by have e1:((W1 (W8 c.X6 (k+1))).length:Nat)=(X12 0 (ofB 6 ([]:List (List UInt8))) (W1 (W8 c.X6 k)) (I4 (W8 c.X6 k) k (Jz (c.X6.getD k 0)).toNat)).length:=(by (rw [hap.1]));have e2:((W1 (W8 c.X6 (k+1))):List Yq)=(X12 0 (ofB 6 ([]:List (List UInt8))) (W1 (W8 c.X6 k)) (I4 (W8 c.X6 k) k (Jz (c.X6.getD k 0)).toNat)):=(by exact hap.1.symm);have e3:((W8 c.X6 (k+1)).length:Nat)=(H9 0 (ofB 6 ([]:List (List UInt8))) (W8 c.X6 k) (I4 (W8 c.X6 k) k (Jz (c.X6.getD k 0)).toNat)).length:=(by (rw [hap.2]));have e4:((W8 c.X6 (k+1)):List Xq)=(H9 0 (ofB 6 ([]:List (List UInt8))) (W8 c.X6 k) (I4 (W8 c.X6 k) k (Jz (c.X6.getD k 0)).toNat)):=(by exact hap.2.symm);have hE:=congr (congr (congr (congrArg (fun (q1:Nat) (q2:List Yq) (q3:Nat) (q4:List Xq)=>([(Zrq x),Zrr,(Zrt x),Zru,.live (.box 149 [dI 0,Zrw,dB true,.own 14 (Xk false).sz 0 q1]),.live (Xe 152 (Xk false) q2),.live (.box 106 [dB true,dI 0,Zrw,.own 15 (Xr false).sz 0 q3]),.live (Xe 65 (Xr false) q4),(Zs1 c),Zs4,Zs5]:List HS)) e1) e2) e3) e4;exact hE) hG)
 have hkb:k=c.X6.length:=(by omega);have hcl:=Fx c.X6 c.X6.length;have hco:=Ed c.X6 c.X6.length (by omega);have hco1:=hco.1;have hco2:=hco.2;have hco3:(atB (ofB 6 ([]:List (List UInt8))) (W8 c.X6 c.X6.length) (W8 c.X6 c.X6.length).length).length≤1000000:=Nat.le_trans hco1 (by omega);have hdt:Ud c=X3a (0+(((W8 c.X6 c.X6.length).length:Nat):Int)) (atB d9 (W8 c.X6 c.X6.length) (W8 c.X6 c.X6.length).length) c.U4:=(by unfold Ud;rw [hcl,Int.zero_add])
 refine cF (dF hq1) ?_
 refine T.exit ?_
 refine xT ?_
 refine xT ?_
 refine xH ?_
 refine nT ?_
 refine tN ⟨[aa,aa,aa,pv 8 0,pv 9 0,pv 10 0,(Zro k),aa,aa,aa,aa,aa,aa,aa,aa,aa,aa,aa,aa,aa,aa,aa,aa,aa,aa,aa,aa,aa,aa,aa,vB (decide (((k:Nat):Int)<((c.X6.length:Nat):Int)))],(Zs6 x c k)⟩ ?_
 refine Wv (s':=⟨Zsu,(Zt0 x c)⟩) (fun _ _ hG=>Yt [0,1,2,3,4,5,6,7,8,9,10] (bm 6 56) (h2:=(Zs6 x c k)) rfl (by have e1:((W1 (W8 c.X6 c.X6.length)).length:Nat)=(W1 (W8 c.X6 k)).length:=(by (rw [hkb]));have e2:((W1 (W8 c.X6 c.X6.length)):List Yq)=(W1 (W8 c.X6 k)):=(by (rw [hkb]));have e3:((W8 c.X6 c.X6.length).length:Nat)=(W8 c.X6 k).length:=(by (rw [hkb]));have e4:((W8 c.X6 c.X6.length):List Xq)=(W8 c.X6 k):=(by (rw [hkb]));have hE:=congr (congr (congr (congrArg (fun (q1:Nat) (q2:List Yq) (q3:Nat) (q4:List Xq)=>([(Zrq x),Zrr,(Zrt x),Zru,.live (.box 149 [dI 0,Zrw,dB true,.own 5 (Xk false).sz 0 q1]),.live (Xe 152 (Xk false) q2),.live (.box 106 [dB true,dI 0,Zrw,.own 7 (Xr false).sz 0 q3]),.live (Xe 65 (Xr false) q4),(Zs1 c),Zs4,Zs5]:List HS)) e1) e2) e3) e4;exact hE) hG) ?_
 refine sR [hR 2 rfl rfl (rCa (H7 0 (ofB 6 ([]:List (List UInt8))) (W8 c.X6 c.X6.length) (by omega) (by omega)) Tryz.func12 [6,7] [(.tmp 82,pv 6 0)] 2 2)] ?_
 refine sD [[],[],[1],[1,2],[],[4],[0,1,2,3,4,5],[0,1,2,3,4,5,6],[0,1,2,3,4,5,6,7]] [hR 3 rfl rfl (rCa (X3m 0 (ofB 6 ([]:List (List UInt8))) (W8 c.X6 c.X6.length) (by omega) (by omega) (by omega)) Tryz.func38 [6,7] [(.tmp 86,pv 6 0)] 2 2),hR 6 rfl rfl (rCa (Xfx (0+(((W8 c.X6 c.X6.length).length:Nat):Int)) (atB (ofB 6 ([]:List (List UInt8))) (W8 c.X6 c.X6.length) (W8 c.X6 c.X6.length).length) false false c.U4 (by omega) (by omega)) Tryz.func41 [11] [(.tmp 84,vI (0+(((Zsv c).length:Nat):Int))),(.tmp 87,dv (Yh (atB Zrv (Zsv c) (Zsv c).length))),(.tmp 89,slV false false kU8 c.U4)] 0 1)] ?_
 refine tN ⟨(Zt1 c),(Zt2 x c)⟩ ?_
 refine Wv (s':=⟨(Zt4 c),(Zt5 x c)⟩) (fun _ _ hG=>Yt [0,1,2,3,4,5,6,7,8,9,10,11] (bm 10 568) (t2:=(Zt1 c)) (h2:=(Zt2 x c)) (congrArg (fun (q1:Int)=>([aa,aa,aa,pv 8 0,pv 9 0,pv 10 0,aa,aa,aa,vI q1]:List AV)) (show (((c.X6.length:Nat):Int):Int)=0+(((W8 c.X6 c.X6.length).length:Nat):Int) from (by omega))) (cg2 (fun (q1:Nat) (q2:List UInt8)=>([(Zrq x),Zrr,(Zrt x),Zru,(Zsw c),(Zsx c),(Zsy c),(Zsz c),(Zs1 c),Zs4,.live (.box 39 [.ptr 0 0,.ptr 2 0,.ptr 4 0,.ptr 6 0,.own 11 kU8.sz 0 q1,Zs3]),.live (Xe 5 kU8 q2)]:List HS)) (by rfl) (show ((Ud c):List UInt8)=X3a (0+(((W8 c.X6 c.X6.length).length:Nat):Int)) (atB (ofB 6 ([]:List (List UInt8))) (W8 c.X6 c.X6.length) (W8 c.X6 c.X6.length).length) c.U4 from (by omega))) hG) ?_
 refine Wv (s':=⟨(Zt4 c),[(Zrq x),Zrr,(Zrt x),Zru,(Zsw c),(Zsx c),(Zsy c),(Zsz c),(Zs1 c),Zs4,(Zt7 c),.dead]⟩) (fun _ _ hG=>Gs.freeze (s:=⟨(Zt4 c),(Zt5 x c)⟩) 11 (el:=W6 kU8 (Ud c)) (sz:=kU8.sz) (n:=(Ud c).length) rfl (kk2 (kk8 trivial)) ⟨pc,⟨pc,⟨pc,⟨pc,⟨pc,⟨pc,⟨pc,⟨pc,⟨pc,⟨pc,⟨(.inr ⟨by decide,.inr ⟨rfl,(kk4 ⟨pZ0,⟨.inl rfl,trivial⟩⟩)⟩⟩),⟨(.inl ⟨rfl,rfl⟩),trivial⟩⟩⟩⟩⟩⟩⟩⟩⟩⟩⟩⟩ hG) ?_
 refine sR [hR 1 rfl rfl (X1p (k:=.i64) (a:=1) (b:=((c.X6.length:Nat):Int)) (X3 rfl) ⟨rfl,trivial⟩),hR 4 rfl rfl (rCa (X8u false false (Ud c) (by omega)) Tryz.func42 [] [(.tmp 95,slV false false kU8 (Ud c))] 0 0)] ?_
 refine Uu ⟨(Zt8 c),(Ztb x c)⟩ ?_ ?_
 ·refine sR [] ?_
  by_cases hq3:c.I2=true
  ·have hcd:ckD9 c=Xhn:=if_pos hq3
   refine cT hq3 ?_
   refine xK [] ?_
   refine eN (Ztd x c) ?_
   refine Xc (s':=⟨(Zt8 c),(Ztf x c)⟩) (fun _ _ hG=>Ys (s:=(Ztd x c)) (kk4 p1i) (kk4 (kk8 ⟨pq,trivial⟩)) hG) ?_
   refine Xc (s':=⟨(Zt8 c),(Ztb x c)⟩) (fun _ _ hG=>Vb [0,1,2,3,4,5,6,7,8,9,10,25,12] (bm 100 633825300114114700748351604280) (h1:=(Ztb x c)) (h2:=(Ztf x c)) (t1:=(Zt8 c)) rfl (cg12 (fun (q1:Int) (q2:Int) (q3:Int) (q4:Int) (q5:Int) (q6:List UInt8) (q7:List UInt8) (q8:Int) (q9:Int) (q10:List aE) (q11:List aE) (q12:List aC)=>([(Zrq x),Zrr,(Zrt x),Zru,(Zsw c),(Zsx c),(Zsy c),(Zsz c),(Zs1 c),Zs4,(Zt7 c),.dead,.live (.box 78 [dI q1,dI q2,dI q3,dI q4,dI q5,dS q6,dU q7,dI q8,dI q9,.d (dsl false false (kE false) q10),.d (dsl false false (kE false) q11),.d (dsl false false (kC false) q12)])]:List HS)) (by rfl) (by rfl) (by rfl) (by rfl) (by rfl) (by exact hcd) (by rfl) (by rfl) (by rfl) (by rfl) (by rfl) (by rfl)) hG) ?_
   exact nJ
  have hcd:ckD9 c=ofB 7 [Ud c]:=if_neg hq3
  replace hq3:=Bool.eq_false_iff.2 hq3
  refine cF hq3 ?_
  refine T.skip ?_
  refine eN (Ztg x c) ?_
  refine Xc (s':=⟨(Zt8 c),(Zth x c)⟩) (fun _ _ hG=>Ys (s:=(Ztg x c)) (kk4 p1i) (kk4 (kk8 ⟨pq,trivial⟩)) hG) ?_
  refine Xc (s':=⟨(Zt8 c),(Ztb x c)⟩) (fun _ _ hG=>Vb [0,1,2,3,4,5,6,7,8,9,10,25,12] (bm 100 633825300114114700748351604280) (h1:=(Ztb x c)) (h2:=(Zth x c)) (t1:=(Zt8 c)) rfl (cg12 (fun (q1:Int) (q2:Int) (q3:Int) (q4:Int) (q5:Int) (q6:List UInt8) (q7:List UInt8) (q8:Int) (q9:Int) (q10:List aE) (q11:List aE) (q12:List aC)=>([(Zrq x),Zrr,(Zrt x),Zru,(Zsw c),(Zsx c),(Zsy c),(Zsz c),(Zs1 c),Zs4,(Zt7 c),.dead,.live (.box 78 [dI q1,dI q2,dI q3,dI q4,dI q5,dS q6,dU q7,dI q8,dI q9,.d (dsl false false (kE false) q10),.d (dsl false false (kE false) q11),.d (dsl false false (kC false) q12)])]:List HS)) (by rfl) (by rfl) (by rfl) (by rfl) (by rfl) (by exact hcd) (by rfl) (by rfl) (by rfl) (by rfl) (by rfl) (by rfl)) hG) ?_
  exact nJ
 refine T.seq ?_
 refine sR [] ?_
 refine T.block ?_
 refine tN ⟨(Zti c),(Ztb x c)⟩ ?_
 refine Wv (s':=⟨(Zti c),[(Zrq x),Zrr,(Zrt x),Zru,(Zsw c),(Zsx c),(Zsy c),(Zsz c),(Zs1 c),Zs4,(Ztj c),.dead,(Zta c),Zru]⟩) (fun _ _ hG=>Jd 13 10 5 43 (kE false) (Tb:=39) (cs:=[.ptr 0 0,.ptr 2 0,.ptr 4 0,.ptr 6 0,(Zt6 c),Zs3]) rfl rfl rfl hG) ?_
 refine T.loop (ι:=Nat) (fun (k3:Nat)=>(Ztn x c k3)) (fun (k3:Nat)=>(k3≤c.Xt.length)) (fun (k3:Nat)=>c.Xt.length-k3) (0) (Nat.zero_le _) (fun _ _ hG=>Vb [0,1,2,3,4,5,6,7,8,9,10,12,13] (bm 12 3128) (h1:=[(Zrq x),.live (mpK Y0 Yc (U8 (Zto x c))),.live (.box 135 [dB true,(Zrs x),(Zrp x),.own 3 (kE false).sz 0 (Zto x c).length]),.live (Xe 43 (kE false) (Zto x c)),(Zsw c),(Zsx c),(Zsy c),(Zsz c),(Zs1 c),Zs4,.live (.box 39 [.ptr 0 0,.ptr 2 0,.ptr 4 0,.ptr 6 0,(Zt6 c),.own 13 (kE false).sz 0 (Vq c 0).length]),(Zta c),.live (Xe 43 (kE false) (Vq c 0))]) (h2:=[(Zrq x),Zrr,(Zrt x),Zru,(Zsw c),(Zsx c),(Zsy c),(Zsz c),(Zs1 c),Zs4,(Ztj c),(Zta c),Zru]) (t1:=[aa,aa,aa,pv 8 0,pv 9 0,pv 10 0,aa,aa,aa,aa,pv 12 0,vI 0]) rfl (cg5 (fun (q1:List (Yn×Bool)) (q2:Nat) (q3:List aE) (q4:Nat) (q5:List aE)=>([(Zrq x),.live (mpK Y0 Yc q1),.live (.box 135 [dB true,(Zrs x),(Zrp x),.own 3 (kE false).sz 0 q2]),.live (Xe 43 (kE false) q3),(Zsw c),(Zsx c),(Zsy c),(Zsz c),(Zs1 c),Zs4,.live (.box 39 [.ptr 0 0,.ptr 2 0,.ptr 4 0,.ptr 6 0,(Zt6 c),.own 13 (kE false).sz 0 q4]),(Zta c),.live (Xe 43 (kE false) q5)]:List HS)) (by rfl) (by rfl) (by rfl) (by rfl) (by rfl)) hG) ?_
 rintro k3 hk3
 show T _ _ (Ztn x c k3) _ _
 replace hk3:k3≤c.Xt.length:=hk3
 have hvl:=X87 (c:=c) hk3
 have hal:=X5b (fOf x.Vj) (cOf x.Xy) c k3
 refine T.seq ?_
 refine sR [] ?_
 by_cases hq4:((k3:Nat):Int)<((c.Xt.length:Nat):Int)
 ·have hrs:-9223372036854775808≤(c.Xt.getD k3 0)∧(c.Xt.getD k3 0)≤9223372036854775807:=hr _ (J5 (z:=0) (show k3<c.Xt.length by omega))
  refine cT (dT hq4) ?_
  refine T.skip (nT (T.seq ?_))
  refine T.block ?_
  refine sD [[],[0],[],[0,1,2],[0,1,2,3],[],[5],[0,1,2,3,4,5,6],[],[0,1,2,3,4,5,6,7,8]] [hR 3 rfl rfl (Wd false false (Vi .i64) c.Xt k3 (k:=.i64) (i:=((k3:Nat):Int)) Tryz.underlying24 X23 rfl rfl (by omega) (X3 rfl) trivial),hR 6 rfl rfl (rCa (Xbz false (Un c) (Nat.le_trans ok1 (by decide)) (Nat.le_trans ok2 (by decide)) (Nat.le_trans ok3 (by decide)) (Nat.le_trans ok4 (by decide)) (Nat.le_trans ok5 (by decide)) (Nat.le_trans ok6 (by decide))) Tryz.func25 [] [(.tmp 113,.tv (.agg (Zt9 c)))] 0 0)] ?_
  refine sR [hR 6 rfl rfl (rCa (Xh2 (fOf x.Vj) (cOf x.Xy) (U8 (Uh (fOf x.Vj) (cOf x.Xy) c k3)) (c.Xt.getD k3 0) false false (F5 (Un c)) (by omega) (by omega) (by omega) (by omega)) Tryz.func26 [0,1] [(.tmp 117,pv 0 0),(.tmp 119,vI (c.Xt.getD k3 0)),(.tmp 121,slV false false kU8 (F5 (Un c)))] 2 2)] ?_
  refine sR [hR 6 rfl rfl (rCa (Xg1 (fOf x.Vj) (cOf x.Xy) (Uh (fOf x.Vj) (cOf x.Xy) c k3) (c.Xt.getD k3 0) false false (F5 (Un c)) (by omega) (by omega) (by omega) (by omega) (by omega)) Tryz.func27 [2,3,14] [(.tmp 124,pv 2 0),(.tmp 126,vI (c.Xt.getD k3 0)),(.tmp 128,slV false false kU8 (F5 (Un c)))] 2 3)] ?_
  refine xR [hR 3 rfl rfl (Yd 15 43 (kE false) (W5 false) [(aE.mk (c.Xt.getD k3 0) (F5 (Un c)))] [⟨0,.tmp 132,.agg [dI (c.Xt.getD k3 0),dU (F5 (Un c))],0⟩] (cs:=[dI (c.Xt.getD k3 0),dU (F5 (Un c))]) Tryz.underlying37 Vs rfl F7 rfl rfl rfl pd (Yp rfl rfl pd W4) pZ7 (V1 pZ7) (X3 rfl) trivial),hR 4 rfl rfl (Yy 12 16 43 32 (kE false) (W5 false) (Vq c k3) [(aE.mk (c.Xt.getD k3 0) (F5 (Un c)))] ((Vq c k3)++[(aE.mk (c.Xt.getD k3 0) (F5 (Un c)))]) (Vq c k3).length (sy:=(.own 15 (kE false).sz 0 [(Ztp c k3)].length)) (rhs:=[(15,.live (Xe 43 (kE false) [(Ztp c k3)]))]) Fb (by omega) (Wu 15 43 (kE false) [(aE.mk (c.Xt.getD k3 0) (F5 (Un c)))]) Jn X7a X7a (X3 rfl) trivial)] pZ7 pZ7 ?_
  refine nB ?_
  refine nT ?_
  refine xK [hR 1 rfl rfl (Ye (u1:=.int .i64 ((k3:Nat):Int)) (u2:=.int .i64 1) (v:=.int .i64 ((k3+1:Nat):Int)) (Wa pa) (X3 rfl) ⟨rfl,trivial⟩)] ?_
  refine nL (k3+1) (show (k3+1)≤c.Xt.length from (by omega)) (show (c.Xt.length-(k3+1):Nat)<c.Xt.length-k3 from (by omega)) (fun _ _ hG=>Vb [0,1,2,14,4,5,6,7,8,9,10,11,16] (bm 12 3128) (h1:=[(Zrq x),.live (mpK Y0 Yc (U8 (Ztr x c k3))),.live (.box 135 [dB true,(Zrs x),(Zrp x),.own 14 (kE false).sz 0 (Ztr x c k3).length]),.live (Xe 43 (kE false) (Ztr x c k3)),(Zsw c),(Zsx c),(Zsy c),(Zsz c),(Zs1 c),Zs4,.live (.box 39 [.ptr 0 0,.ptr 2 0,.ptr 4 0,.ptr 6 0,(Zt6 c),.own 16 (kE false).sz 0 (Vq c (k3+1)).length]),(Zta c),.live (Xe 43 (kE false) (Vq c (k3+1)))]) (h2:=[(Zrq x),.live (mpK Y0 Yc (X6m (fOf x.Vj) (cOf x.Xy) (U8 (Ztk x c k3)) (c.Xt.getD k3 0) (F5 (Un c)))),.live (.box 135 [dB true,(Zrs x),(Zrp x),.own 14 (kE false).sz 0 (Hv (fOf x.Vj) (cOf x.Xy) (Ztk x c k3) (c.Xt.getD k3 0) (F5 (Un c))).length]),.live (Xe 43 (kE false) (Hv (fOf x.Vj) (cOf x.Xy) (Ztk x c k3) (c.Xt.getD k3 0) (F5 (Un c)))),(Zsw c),(Zsx c),(Zsy c),(Zsz c),(Zs1 c),Zs4,.live (.box 39 [.ptr 0 0,.ptr 2 0,.ptr 4 0,.ptr 6 0,(Zt6 c),.own 16 (kE false).sz 0 ((Vq c k3)++[(Ztp c k3)]).length]),(Zta c),.live (Xe 43 (kE false) ((Vq c k3)++[(Ztp c k3)]))]) (t1:=(Ztq k3)) rfl (by have e1:((U8 (Uh (fOf x.Vj) (cOf x.Xy) c (k3+1))):List (Yn×Bool))=(X6m (fOf x.Vj) (cOf x.Xy) (U8 (Uh (fOf x.Vj) (cOf x.Xy) c k3)) (c.Xt.getD k3 0) (F5 (Un c))):=(by (rw [sign_tab];rfl));have e2:((Uh (fOf x.Vj) (cOf x.Xy) c (k3+1)).length:Nat)=(Hv (fOf x.Vj) (cOf x.Xy) (Uh (fOf x.Vj) (cOf x.Xy) c k3) (c.Xt.getD k3 0) (F5 (Un c))).length:=(by rfl);have e3:((Uh (fOf x.Vj) (cOf x.Xy) c (k3+1)):List aE)=(Hv (fOf x.Vj) (cOf x.Xy) (Uh (fOf x.Vj) (cOf x.Xy) c k3) (c.Xt.getD k3 0) (F5 (Un c))):=(by rfl);have e4:((Vq c (k3+1)).length:Nat)=((Vq c k3)++[(aE.mk (c.Xt.getD k3 0) (F5 (Un c)))]).length:=(by (rw [Xaq (by omega)];rfl));have e5:((Vq c (k3+1)):List aE)=(Vq c k3)++[(aE.mk (c.Xt.getD k3 0) (F5 (Un c)))]:=(by (rw [Xaq (by omega)];rfl));have hE:=congr (congr (congr (congr (congrArg (fun (q1:List (Yn×Bool)) (q2:Nat) (q3:List aE) (q4:Nat) (q5:List aE)=>([(Zrq x),.live (mpK Y0 Yc q1),.live (.box 135 [dB true,(Zrs x),(Zrp x),.own 14 (kE false).sz 0 q2]),.live (Xe 43 (kE false) q3),(Zsw c),(Zsx c),(Zsy c),(Zsz c),(Zs1 c),Zs4,.live (.box 39 [.ptr 0 0,.ptr 2 0,.ptr 4 0,.ptr 6 0,(Zt6 c),.own 16 (kE false).sz 0 q4]),(Zta c),.live (Xe 43 (kE false) q5)]:List HS)) e1) e2) e3) e4) e5;exact hE) hG)
 have hks:k3=c.Xt.length:=(by omega)
 refine cF (dF hq4) ?_
 refine T.exit ?_
 refine xT ?_
 refine xT ?_
 refine xH ?_
 refine nT ?_
 refine sR [] ?_
 refine T.ret ?_
 refine eN (Ztt x c k3) ?_
 refine Xc (s':=⟨(Zts c k3),[(Zrq x),.live (mpK Y0 Yc (U8 (Ztk x c k3))),(Ztl x c k3),.live (Xe 43 (kE false) (Ztk x c k3)),(Zsw c),(Zsx c),(Zsy c),(Zsz c),(Zs1 c),.live (.box 39 (Ztu c k3)),.live (.box 39 (Ztu c k3)),(Zta c),.dead]⟩) (fun _ _ hG=>Gs.freeze (s:=(Ztt x c k3)) 12 (el:=W6 (kE false) (Vq c k3)) (sz:=(kE false).sz) (n:=(Vq c k3).length) rfl (kk2 (kk8 p1i)) ⟨pc,⟨pc,⟨pc,⟨pc,⟨pc,⟨pc,⟨pc,⟨pc,⟨pc,⟨p5b,⟨p5b,⟨pc,⟨(.inl ⟨rfl,rfl⟩),trivial⟩⟩⟩⟩⟩⟩⟩⟩⟩⟩⟩⟩⟩ hG) ?_
 exact eX [.c 4 9 39 0 39 [.ptr 0 0,.ptr 2 0,.ptr 4 0,.ptr 6 0,(Zt6 c),.d (dsl false false (kE false) (Vq c k3))] (.agg (Ztu c k3))] ⟨⟨rfl,rfl,by kernel_rfl,by kernel_rfl,.inl ⟨6,wide_39,rfl,Nat.le_of_ble_eq_true rfl⟩⟩,trivial⟩ [0,1,2,3,4,5,6,7] (by have e1:((Vq c c.Xt.length):List aE)=(Vq c k3):=(by (rw [hks];done));have hE:=congrArg (fun (q1:List aE)=>(.tv (.agg [.ptr 0 0,.ptr 2 0,.ptr 4 0,.ptr 6 0,(Zt6 c),.d (dsl false false (kE false) q1)]):AV)) e1;exact hE) (ix ⟨⟨rfl,(by have e1:((U8 (Uh (fOf x.Vj) (cOf x.Xy) c k3)):List (Yn×Bool))=(U8 (Uh (fOf x.Vj) (cOf x.Xy) c c.Xt.length)):=(by (rw [hks];done));have hE:=congrArg (fun (q1:List (Yn×Bool))=>(.live (mpK Y0 Yc q1):HS)) e1;exact Eq.trans pZ7 hE)⟩,⟨⟨rfl,(by have e1:((Uh (fOf x.Vj) (cOf x.Xy) c k3).length:Nat)=(Uh (fOf x.Vj) (cOf x.Xy) c c.Xt.length).length:=(by (rw [hks];done));have hE:=congrArg (fun (q1:Nat)=>(.live (.box 135 [dB true,(Zrs x),(Zrp x),.own 3 (kE false).sz 0 q1]):HS)) e1;exact Eq.trans pZ7 hE)⟩,⟨⟨rfl,(by have e1:((Uh (fOf x.Vj) (cOf x.Xy) c k3):List aE)=(Uh (fOf x.Vj) (cOf x.Xy) c c.Xt.length):=(by (rw [hks];done));have hE:=congrArg (fun (q1:List aE)=>(.live (Xe 43 (kE false) q1):HS)) e1;exact Eq.trans pZ7 hE)⟩,(ix (ix (ix (ix trivial))))⟩⟩⟩)
end Go.Proofs.YtnaopgohccacmaaGreat.Q
