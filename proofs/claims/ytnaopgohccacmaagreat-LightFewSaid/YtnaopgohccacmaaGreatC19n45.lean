import Derived.Test.YtnaopgohccacmaaGreatC19n41
namespace Go.Proofs.YtnaopgohccacmaaGreat.Q
open Go Go.RowKit
set_option linter.unusedVariables false
set_option linter.unusedSimpArgs false
set_option maxRecDepth 100000
set_option maxHeartbeats 4000000
theorem iat_39:Tryz.prog.info? 39=some Tryz.t39:=by kernel_rfl
theorem wide_39:Wide Tryz.prog 39 (some 6):=⟨_,_,Tryz.underlying39,.inl ⟨_,rfl⟩,iat_39,rfl⟩
section
variable (x:Ws) (c:Xs) (k:Nat) (k2:Nat) (k3:Nat)
abbrev Zrn:List SV:=[.d (dsl false false (Yf .i64) c.X4),dU c.Vq,.d (dsl false false (Yf .i64) c.Y3),dB c.Us]
abbrev Zro:AV:=vI ((k:Nat):Int)
abbrev Zrp:SV:=dI (cOf x.Yd)
abbrev Zrq:HS:=.live (.box 130 [dI (3*(fOf x.Jl)+1),(Zrp x),.mref 1])
abbrev Zrr:HS:=.live (mpK Xp Yc ([]:List (Yg×Bool)))
abbrev Zrs:SV:=dI (fOf x.Jl)
abbrev Zrt:HS:=.live (.box 135 [dB true,(Zrs x),(Zrp x),.own 3 (kE false).sz 0 ([]:List aE).length])
abbrev Zru:HS:=.live (Xc 43 (kE false) ([]:List aE))
abbrev Zrv:=(ofB 6 ([]:List (List UInt8)))
abbrev Zrw:SV:=dS Zrv
abbrev Zrx:HS:=.live (.box 149 [dI 0,Zrw,dB true,.own 5 (Xj false).sz 0 (Yx (Yy c.X4 k)).length])
abbrev Zry:HS:=.live (Xc 152 (Xj false) (Yx (Yy c.X4 k)))
abbrev Zrz:HS:=.live (.box 106 [dB true,dI 0,Zrw,.own 7 (Xo false).sz 0 (Yy c.X4 k).length])
abbrev Zs0:HS:=.live (Xc 65 (Xo false) (Yy c.X4 k))
abbrev Zs1:HS:=.live (.box 27 (Zrn c))
abbrev Zs2:SV:=.d (.val (.pointer none))
abbrev Zs3:SV:=.d (.val (.slice none 0 0))
abbrev Zs4:HS:=.live (.box 39 [Zs2,Zs2,Zs2,Zs2,Zs3,Zs3])
abbrev Zs5:HS:=.live (.box 39 [.ptr 0 0,.ptr 2 0,.ptr 4 0,.ptr 6 0,Zs3,Zs3])
abbrev Zs6:List HS:=[(Zrq x),Zrr,(Zrt x),Zru,(Zrx c k),(Zry c k),(Zrz c k),(Zs0 c k),(Zs1 c),Zs4,Zs5]
abbrev Zs7:HS:=.live (.box 130 [dI (3*(fOf x.Jl)+1),(Zrp x),.mref 4])
abbrev Zs8:HS:=.live (.box 135 [dB true,(Zrs x),(Zrp x),.own 6 (kE false).sz 0 ([]:List aE).length])
abbrev Zs9:HS:=.live (.box 39 [.ptr 3 0,.ptr 5 0,.ptr 7 0,.ptr 9 0,Zs3,Zs3])
abbrev Zsa:List AV:=[aa,aa,aa,pv 8 0,pv 9 0,pv 10 0,(Zro k),pv 11 0,vI 0,aa,aa,aa,aa,aa,aa,aa,aa,aa,aa,aa,aa,aa,aa,aa,aa,aa,aa,aa,aa,aa,vB (decide (((k:Nat):Int)<((c.X4.length:Nat):Int)))]
abbrev Zsb:SV:=dI ((k+1:Nat):Int)
abbrev Zsc:SV:=dS (atB Zrv (Yy c.X4 k) (Yy c.X4 k).length)
abbrev Zsd:SV:=.own 12 (kE false).sz 0 0
abbrev Zse:List HS:=[(Zrq x),Zrr,(Zrt x),Zru,(Zrx c k),(Zry c k),(Zrz c k),(Zs0 c k),(Zs1 c),Zs4,Zs5,.live (.box 65 [(Zsb k),(Zsc c k),Zsd,.own 13 (Xb false).sz 0 0]),Zru,.live (Xc 46 (Xb false) ([]:List Xw))]
abbrev Zsf:List AV:=[aa,aa,aa,pv 8 0,pv 9 0,pv 10 0,(Zro k),pv 11 0,vI ((k2:Nat):Int)]
abbrev Zsg:SV:=dI (I0 (Yy c.X4 k) k 0).X9
abbrev Zsh:SV:=dS (I0 (Yy c.X4 k) k 0).Xy
abbrev Zsi:List HS:=[(Zrq x),Zrr,(Zrt x),Zru,(Zrx c k),(Zry c k),(Zrz c k),(Zs0 c k),(Zs1 c),Zs4,Zs5,.live (.box 65 [(Zsg c k),(Zsh c k),.own 12 (kE false).sz 0 (Is k k2).length,.own 13 (Xb false).sz 0 (Ir k k2).length]),.live (Xc 43 (kE false) (Is k k2)),.live (Xc 46 (Xb false) (Ir k k2))]
abbrev Zsl:=(aE.mk ((1000+k2:Nat):Int) [(UInt8.ofNat k),(UInt8.ofNat k2)])
abbrev Zsm:=(Xw.mk 0 ((k+k2:Nat):Int))
abbrev Zsn:List AV:=[aa,aa,aa,pv 8 0,pv 9 0,pv 10 0,(Zro k),pv 11 0,vI ((k2+1:Nat):Int)]
abbrev Zso:List AV:=[aa,aa,aa,pv 8 0,pv 9 0,pv 10 0,(Zro k),pv 11 0,vI ((k2:Nat):Int),aa,aa,aa,aa,aa,aa,aa,aa,aa,aa,aa,aa,aa,aa,aa,aa,aa,aa,aa,aa,aa,aa,aa,aa,aa,aa,aa,aa,aa,aa,aa,aa,aa,aa,aa,aa,aa,aa,aa,vB (decide (((k2:Nat):Int)<(((Int.tmod (c.X4.getD k 0) 5)+5) % 5)))]
abbrev Zsp:=(I0 (Yy c.X4 k) k (Jy (c.X4.getD k 0)).toNat)
abbrev Zsq:List HS:=[(Zrq x),Zrr,(Zrt x),Zru,(Zrx c k),(Zry c k),(Zrz c k),(Zs0 c k),(Zs1 c),Zs4,Zs5,.live (.box 65 [dI (Zsp c k).X9,dS (Zsp c k).Xy,.own 12 (kE false).sz 0 (Zsp c k).X7.length,.own 13 (Xb false).sz 0 (Zsp c k).Xf.length]),.live (Xc 43 (kE false) (Zsp c k).X7),.live (Xc 46 (Xb false) (Zsp c k).Xf)]
abbrev Zsr:St:=⟨(Zso c k k2),[(Zrq x),Zrr,(Zrt x),Zru,(Zrx c k),(Zry c k),(Zrz c k),(Zs0 c k),(Zs1 c),Zs4,Zs5,.live (.box 65 [dI (Zsp c k).X9,dS (Zsp c k).Xy,.d (dsl false false (kE false) (Zsp c k).X7),.own 13 (Xb false).sz 0 (Zsp c k).Xf.length]),.dead,.live (Xc 46 (Xb false) (Zsp c k).Xf)]⟩
abbrev Zss:List SV:=[dI (Zsp c k).X9,dS (Zsp c k).Xy,.d (dsl false false (kE false) (Zsp c k).X7),.d (dsl false false (Xb false) (Zsp c k).Xf)]
abbrev Zst:List AV:=[aa,aa,aa,pv 8 0,pv 9 0,pv 10 0,vI ((k+1:Nat):Int)]
abbrev Zsu:List AV:=[aa,aa,aa,pv 8 0,pv 9 0,pv 10 0]
abbrev Zsv:=(Yy c.X4 c.X4.length)
abbrev Zsw:HS:=.live (.box 149 [dI 0,Zrw,dB true,.own 5 (Xj false).sz 0 (Yx (Zsv c)).length])
abbrev Zsx:HS:=.live (Xc 152 (Xj false) (Yx (Zsv c)))
abbrev Zsy:HS:=.live (.box 106 [dB true,dI 0,Zrw,.own 7 (Xo false).sz 0 (Zsv c).length])
abbrev Zsz:HS:=.live (Xc 65 (Xo false) (Zsv c))
abbrev Zt0:List HS:=[(Zrq x),Zrr,(Zrt x),Zru,(Zsw c),(Zsx c),(Zsy c),(Zsz c),(Zs1 c),Zs4,Zs5]
abbrev Zt1:List AV:=[aa,aa,aa,pv 8 0,pv 9 0,pv 10 0,aa,aa,aa,vI (0+(((Zsv c).length:Nat):Int))]
abbrev Zt2:List HS:=[(Zrq x),Zrr,(Zrt x),Zru,(Zsw c),(Zsx c),(Zsy c),(Zsz c),(Zs1 c),Zs4,.live (.box 39 [.ptr 0 0,.ptr 2 0,.ptr 4 0,.ptr 6 0,.own 11 kU8.sz 0 (Jf (0+(((Zsv c).length:Nat):Int)) (atB Zrv (Zsv c) (Zsv c).length) c.Vq).length,Zs3]),.live (Xc 5 kU8 (Jf (0+(((Zsv c).length:Nat):Int)) (atB Zrv (Zsv c) (Zsv c).length) c.Vq))]
abbrev Zt3:AV:=vI ((c.X4.length:Nat):Int)
abbrev Zt4:List AV:=[aa,aa,aa,pv 8 0,pv 9 0,pv 10 0,aa,aa,aa,(Zt3 c)]
abbrev Zt5:List HS:=[(Zrq x),Zrr,(Zrt x),Zru,(Zsw c),(Zsx c),(Zsy c),(Zsz c),(Zs1 c),Zs4,.live (.box 39 [.ptr 0 0,.ptr 2 0,.ptr 4 0,.ptr 6 0,.own 11 kU8.sz 0 (Jn c).length,Zs3]),.live (Xc 5 kU8 (Jn c))]
abbrev Zt6:SV:=dU (Jn c)
abbrev Zt7:HS:=.live (.box 39 [.ptr 0 0,.ptr 2 0,.ptr 4 0,.ptr 6 0,(Zt6 c),Zs3])
abbrev Zt8:List AV:=[aa,aa,aa,pv 8 0,pv 9 0,pv 10 0,aa,aa,aa,(Zt3 c),pv 12 0,aa,aa,aa,aa,aa,aa,aa,aa,aa,aa,aa,aa,aa,aa,aa,aa,aa,aa,aa,aa,aa,aa,aa,aa,aa,aa,aa,aa,aa,aa,aa,aa,aa,aa,aa,aa,aa,aa,aa,aa,aa,aa,aa,aa,aa,aa,aa,aa,aa,aa,aa,aa,aa,aa,aa,aa,aa,aa,aa,aa,aa,aa,aa,aa,aa,aa,aa,aa,aa,aa,aa,aa,aa,aa,aa,aa,aa,aa,aa,aa,aa,aa,aa,aa,aa,aa,aa,aa,vB c.Us]
abbrev Zt9:List SV:=[dI (Vx c).X0,dI (Vx c).Y9,dI (Vx c).Xu,dI (Vx c).Xr,dI (Vx c).W0,dS (Vx c).Xe,dU (Vx c).Xd,dI (Vx c).X3.Y0,dI (Vx c).X3.Xq,.d (dsl false false (kE false) (Vx c).Xt),.d (dsl false false (kE false) (Vx c).Y8),.d (dsl false false (kC false) (Vx c).X5)]
abbrev Zta:HS:=.live (.box 78 (Zt9 c))
abbrev Ztb:List HS:=[(Zrq x),Zrr,(Zrt x),Zru,(Zsw c),(Zsx c),(Zsy c),(Zsz c),(Zs1 c),Zs4,(Zt7 c),.dead,(Zta c)]
abbrev Ztc:SV:=dI (max 1 ((c.X4.length:Nat):Int))
abbrev Ztd:St:=⟨(Zt8 c),[(Zrq x),Zrr,(Zrt x),Zru,(Zsw c),(Zsx c),(Zsy c),(Zsz c),(Zs1 c),Zs4,(Zt7 c),.dead,.live (.box 78 [dI 5,dI 0,(Ztc c),dI 0,dI 0,dS [97,110,111,116,104,101,114,32,111,110,101],Zs3,dI 0,dI 0,Zs3,Zs3,Zs3])]⟩
abbrev Zte:SV:=.d (dsl false false (kE false) ([]:List aE))
abbrev Ztf:List HS:=[(Zrq x),Zrr,(Zrt x),Zru,(Zsw c),(Zsx c),(Zsy c),(Zsz c),(Zs1 c),Zs4,(Zt7 c),.dead,.live (.box 78 [dI 5,dI 0,(Ztc c),dI 0,dI 0,dS [97,110,111,116,104,101,114,32,111,110,101],dU ([]:List UInt8),dI 0,dI 0,Zte,Zte,.d (dsl false false (kC false) ([]:List aC))])]
abbrev Ztg:St:=⟨(Zt8 c),[(Zrq x),Zrr,(Zrt x),Zru,(Zsw c),(Zsx c),(Zsy c),(Zsz c),(Zs1 c),Zs4,(Zt7 c),.dead,.live (.box 78 [dI 5,dI 0,(Ztc c),dI 0,dI 0,dS (ofB 7 [(Jn c)]),Zs3,dI 0,dI 0,Zs3,Zs3,Zs3])]⟩
abbrev Zth:List HS:=[(Zrq x),Zrr,(Zrt x),Zru,(Zsw c),(Zsx c),(Zsy c),(Zsz c),(Zs1 c),Zs4,(Zt7 c),.dead,.live (.box 78 [dI 5,dI 0,(Ztc c),dI 0,dI 0,dS (ofB 7 [(Jn c)]),dU ([]:List UInt8),dI 0,dI 0,Zte,Zte,.d (dsl false false (kC false) ([]:List aC))])]
abbrev Zti:List AV:=[aa,aa,aa,pv 8 0,pv 9 0,pv 10 0,aa,aa,aa,(Zt3 c),pv 12 0,vI 0,aa,aa,aa,aa,aa,aa,aa,aa,aa,aa,aa,aa,aa,aa,aa,aa,aa,aa,aa,aa,aa,aa,aa,aa,aa,aa,aa,aa,aa,aa,aa,aa,aa,aa,aa,aa,aa,aa,aa,aa,aa,aa,aa,aa,aa,aa,aa,aa,aa,aa,aa,aa,aa,aa,aa,aa,aa,aa,aa,aa,aa,aa,aa,aa,aa,aa,aa,aa,aa,aa,aa,aa,aa,aa,aa,aa,aa,aa,aa,aa,aa,aa,aa,aa,aa,aa,aa,vB c.Us]
abbrev Ztj:HS:=.live (.box 39 [.ptr 0 0,.ptr 2 0,.ptr 4 0,.ptr 6 0,(Zt6 c),.own 13 (kE false).sz 0 0])
abbrev Ztk:=(Ux (fOf x.Jl) (cOf x.Yd) c k3)
abbrev Ztl:HS:=.live (.box 135 [dB true,(Zrs x),(Zrp x),.own 3 (kE false).sz 0 (Ztk x c k3).length])
abbrev Ztm:HS:=.live (.box 39 [.ptr 0 0,.ptr 2 0,.ptr 4 0,.ptr 6 0,(Zt6 c),.own 12 (kE false).sz 0 (J1 c k3).length])
abbrev Ztn:St:=⟨[aa,aa,aa,pv 8 0,pv 9 0,pv 10 0,aa,aa,aa,aa,pv 11 0,vI ((k3:Nat):Int)],[(Zrq x),.live (mpK Xp Yc (Ug (Ztk x c k3))),(Ztl x c k3),.live (Xc 43 (kE false) (Ztk x c k3)),(Zsw c),(Zsx c),(Zsy c),(Zsz c),(Zs1 c),Zs4,(Ztm c k3),(Zta c),.live (Xc 43 (kE false) (J1 c k3))]⟩
abbrev Zto:=(Ux (fOf x.Jl) (cOf x.Yd) c 0)
abbrev Ztp:=(aE.mk (c.Y3.getD k3 0) (Jm (Vx c)))
abbrev Ztq:List AV:=[aa,aa,aa,pv 8 0,pv 9 0,pv 10 0,aa,aa,aa,aa,pv 11 0,vI ((k3+1:Nat):Int)]
abbrev Ztr:=(Ux (fOf x.Jl) (cOf x.Yd) c (k3+1))
abbrev Zts:List AV:=[aa,aa,aa,pv 8 0,pv 9 0,pv 10 0,aa,aa,aa,aa,pv 11 0,vI ((k3:Nat):Int),aa,aa,aa,aa,aa,aa,aa,aa,aa,aa,aa,aa,aa,aa,aa,aa,aa,aa,aa,aa,aa,aa,aa,aa,aa,aa,aa,aa,aa,aa,aa,aa,aa,aa,aa,aa,aa,aa,aa,aa,aa,aa,aa,aa,aa,aa,aa,aa,aa,aa,aa,aa,aa,aa,aa,aa,aa,aa,aa,aa,aa,aa,aa,aa,aa,aa,aa,aa,aa,aa,aa,aa,aa,aa,aa,aa,aa,aa,aa,aa,aa,aa,aa,aa,aa,aa,aa,aa,aa,aa,aa,aa,aa,vB (decide (((k3:Nat):Int)<((c.Y3.length:Nat):Int)))]
abbrev Ztt:St:=⟨(Zts c k3),[(Zrq x),.live (mpK Xp Yc (Ug (Ztk x c k3))),(Ztl x c k3),.live (Xc 43 (kE false) (Ztk x c k3)),(Zsw c),(Zsx c),(Zsy c),(Zsz c),(Zs1 c),(Ztm c k3),(Ztm c k3),(Zta c),.live (Xc 43 (kE false) (J1 c k3))]⟩
abbrev Ztu:List SV:=[.ptr 0 0,.ptr 2 0,.ptr 4 0,.ptr 6 0,(Zt6 c),.d (dsl false false (kE false) (J1 c k3))]
end
theorem X9o (x:Ws) (c:Xs) (hs:Vj c) (hr:rngW c):Holds Tryz.prog 10 ⟨[.tv (.agg [dI x.Jl,dI x.Yd]),.tv (.agg [.d (dsl false false (Yf .i64) c.X4),dU c.Vq,.d (dsl false false (Yf .i64) c.Y3),dB c.Us])],[],.tv (.agg [.ptr 0 0,.ptr 2 0,.ptr 4 0,.ptr 6 0,dU (Jn c),.d (dsl false false (kE false) (J1 c c.Y3.length))]),[.live (.box 130 [dI (3*(fOf x.Jl)+1),dI (cOf x.Yd),.mref 1]),.live (mpK Xp Yc (Ug (Ux (fOf x.Jl) (cOf x.Yd) c c.Y3.length))),.live (.box 135 [dB true,dI (fOf x.Jl),dI (cOf x.Yd),.own 3 (kE false).sz 0 (Ux (fOf x.Jl) (cOf x.Yd) c c.Y3.length).length]),.live (Xc 43 (kE false) (Ux (fOf x.Jl) (cOf x.Yd) c c.Y3.length)),.live (.box 149 [dI 0,dS (ofB 6 ([]:List (List UInt8))),dB true,.own 5 (Xj false).sz 0 (Yx (Yy c.X4 c.X4.length)).length]),.live (Xc 152 (Xj false) (Yx (Yy c.X4 c.X4.length))),.live (.box 106 [dB true,dI 0,dS (ofB 6 ([]:List (List UInt8))),.own 7 (Xo false).sz 0 (Yy c.X4 c.X4.length).length]),.live (Xc 65 (Xo false) (Yy c.X4 c.X4.length))]⟩:=by
 refine Holds.of Tryz.func10 rfl (N:=137) Tryz.ntmps10 rfl fun w0 B0 S0 U0=>?_
 show T _ (Y2 137 0 w0 S0 U0 B0) ⟨[.tv (.agg [dI x.Jl,dI x.Yd]),.tv (.agg (Zrn c))],[]⟩ _ _
 have hfx:=Xdh x.Jl
 have hux:=Xdp x.Yd
 obtain ⟨hs1,hs2,hs3⟩:=hs
 have hsm:Vj c:=⟨hs1,hs2,hs3⟩
 have hdl:=E2 hsm
 have hml:=Xa3 hsm
 have hbl:=Xg9 hsm
 have hcdl:=Xg8 hsm
 have ok1:(Y4 (Vx c) 9).length≤10000000:=(by omega)
 have ok2:(Vx c).Xt.length≤1:=Nat.zero_le _
 have ok3:(Vx c).Y8.length≤1:=Nat.zero_le _
 have ok4:(Vx c).X5.length≤1:=Nat.zero_le _
 have ok5:(Vx c).Xd.length≤1:=Nat.zero_le _
 have ok6:(Vx c).Xe.length≤1000000:=Nat.le_trans hcdl (by decide)
 refine sR [] ?_
 refine sD [[],[0],[],[2],[0,1,2,3],[],[5],[],[7],[0,1,2,3,4,5,6,7,8],[0,1,2,3,4,5,6,7,8,9],[0,1,2,3,4,5,6,7,8,9,10],[0,1,2,3,4,5,6,7,8,9,10,11],[],[0,1,2,3,4,5,6,7,8,9,10,11,12,13]] [hR 4 rfl rfl (rCa (Xlm x.Jl x.Yd ) Tryz.func34 [3,4] [(.tmp 14,vI x.Jl),(.tmp 16,vI x.Yd)] 0 2),hR 9 rfl rfl (rCa (Xkj x.Jl x.Yd ) Tryz.func35 [5,6] [(.tmp 19,vI x.Jl),(.tmp 21,vI x.Yd)] 0 2),hR 10 rfl rfl (rCa (Xht  ) Tryz.func36 [7,8] [] 0 2),hR 11 rfl rfl (rCa (Xki  ) Tryz.func37 [9,10] [] 0 2)] (T.seq (sR [] (T.block ?_)))
 refine T.loop (ι:=Nat) (fun (k:Nat)=>⟨[aa,aa,aa,pv 8 0,pv 9 0,pv 10 0,(Zro k)],(Zs6 x c k)⟩) (fun (k:Nat)=>(k≤c.X4.length)) (fun (k:Nat)=>c.X4.length-k) (0) (Nat.zero_le _) (fun _ _ hG=>Wf [3,4,5,6,7,8,9,10,1,2,11] (bm 7 120) (h1:=[(Zs7 x),Zrr,(Zs8 x),Zru,.live (.box 149 [dI 0,Zrw,dB true,.own 8 (Xj false).sz 0 (Yx (Yy c.X4 0)).length]),.live (Xc 152 (Xj false) (Yx (Yy c.X4 0))),.live (.box 106 [dB true,dI 0,Zrw,.own 10 (Xo false).sz 0 (Yy c.X4 0).length]),.live (Xc 65 (Xo false) (Yy c.X4 0)),(Zs1 c),Zs4,Zs9]) (h2:=[(Zs7 x),Zrr,(Zs8 x),Zru,.live (.box 149 [dI 0,Zrw,dB true,.own 8 (Xj false).sz 0 ([]:List Yj).length]),.live (Xc 152 (Xj false) ([]:List Yj)),.live (.box 106 [dB true,dI 0,Zrw,.own 10 (Xo false).sz 0 ([]:List Xn).length]),.live (Xc 65 (Xo false) ([]:List Xn)),(Zs1 c),Zs4,Zs9]) (t1:=[aa,aa,aa,pv 1 0,pv 2 0,pv 11 0,vI 0]) rfl (cg4 (fun (q1:Nat) (q2:List Yj) (q3:Nat) (q4:List Xn)=>([(Zs7 x),Zrr,(Zs8 x),Zru,.live (.box 149 [dI 0,Zrw,dB true,.own 8 (Xj false).sz 0 q1]),.live (Xc 152 (Xj false) q2),.live (.box 106 [dB true,dI 0,Zrw,.own 10 (Xo false).sz 0 q3]),.live (Xc 65 (Xo false) q4),(Zs1 c),Zs4,Zs9]:List HS)) (by rfl) (by rfl) (by rfl) (by rfl)) hG) ?_
 rintro k hk
 show T _ _ ⟨[aa,aa,aa,pv 8 0,pv 9 0,pv 10 0,(Zro k)],(Zs6 x c k)⟩ _ _
 replace hk:k≤c.X4.length:=hk
 have hcl:=Jz c.X4 k
 have hco:=Fm c.X4 k (by omega)
 have hco1:=hco.1
 have hco2:=hco.2
 have hll:=Jg (Yy c.X4 k)
 have hlk:=X2u hco2
 have hcb:=X2z (c.X4.getD k 0)
 have ht5:=tmod5 (c.X4.getD k 0)
 refine T.seq (sR [] ?_)
 by_cases hq1:((k:Nat):Int)<((c.X4.length:Nat):Int)
 ·refine cT (dT hq1) (T.skip (nT (T.seq (T.block (sR [hR 1 rfl rfl (Yb (u1:=.int .i64 ((k:Nat):Int)) (u2:=.int .i64 1) (v:=.int .i64 ((k+1:Nat):Int)) (Wb pZ9) (X2 rfl) ⟨rfl,trivial⟩),hR 4 rfl rfl (rCa (X3u 0 (ofB 6 ([]:List (List UInt8))) (Yy c.X4 k) (by omega) (by omega) (by omega)) Tryz.func38 [6,7] [(.tmp 36,pv 6 0)] 2 2)] (T.seq (sR [] (T.block ?_))))))))
  refine tN ⟨(Zsa c k),[(Zrq x),Zrr,(Zrt x),Zru,(Zrx c k),(Zry c k),(Zrz c k),(Zs0 c k),(Zs1 c),Zs4,Zs5,.live (.box 65 [(Zsb k),(Zsc c k),Zs3,Zs3])]⟩ ?_
  refine Wy (s':=⟨(Zsa c k),[(Zrq x),Zrr,(Zrt x),Zru,(Zrx c k),(Zry c k),(Zrz c k),(Zs0 c k),(Zs1 c),Zs4,Zs5,.live (.box 65 [(Zsb k),(Zsc c k),Zsd,Zs3]),Zru]⟩) (fun _ _ hG=>Jr 12 11 2 43 (kE false) (Tb:=65) (cs:=[(Zsb k),(Zsc c k),Zs3,Zs3]) rfl rfl rfl hG) ?_
  refine Wy (s':=⟨(Zsa c k),(Zse x c k)⟩) (fun _ _ hG=>Jr 13 11 3 46 (Xb false) (Tb:=65) (cs:=[(Zsb k),(Zsc c k),Zsd,Zs3]) rfl rfl rfl hG) ?_
  refine T.loop (ι:=Nat) (fun (k2:Nat)=>⟨(Zsf k k2),(Zsi x c k k2)⟩) (fun (k2:Nat)=>(((k2:Nat):Int)≤Jy (c.X4.getD k 0))) (fun (k2:Nat)=>(Jy (c.X4.getD k 0)).toNat-k2) (0) (by omega) (fun _ _ hG=>Yu [0,1,2,3,4,5,6,7,8,9,10,11,12,13] (bm 9 504) (h2:=(Zse x c k)) rfl (cg6 (fun (q1:Int) (q2:List UInt8) (q3:Nat) (q4:Nat) (q5:List aE) (q6:List Xw)=>([(Zrq x),Zrr,(Zrt x),Zru,(Zrx c k),(Zry c k),(Zrz c k),(Zs0 c k),(Zs1 c),Zs4,Zs5,.live (.box 65 [dI q1,dS q2,.own 12 (kE false).sz 0 q3,.own 13 (Xb false).sz 0 q4]),.live (Xc 43 (kE false) q5),.live (Xc 46 (Xb false) q6)]:List HS)) (by rfl) (by rfl) (by rfl) (by rfl) (by rfl) (by rfl)) hG) ?_
  rintro k2 hk2
  show T _ _ ⟨(Zsf k k2),(Zsi x c k k2)⟩ _ _
  replace hk2:((k2:Nat):Int)≤Jy (c.X4.getD k 0):=hk2
  have hrl:=X5u k k2
  have hsl:=X5t k k2
  have hcb:=X2z (c.X4.getD k 0)
  have ht5:=tmod5 (c.X4.getD k 0)
  refine T.seq (sR [hR 4 rfl rfl (Wi false false (Yf .i64) c.X4 k (k:=.i64) (i:=((k:Nat):Int)) Tryz.underlying24 Ut rfl rfl (by omega) (X2 rfl) trivial),hR 6 rfl rfl (Yb (u1:=.int .i64 (c.X4.getD k 0)) (u2:=.int .i64 5) (v:=.int .i64 (Int.tmod (c.X4.getD k 0) 5)) (b_rem (by omega) rfl) (X2 rfl) ⟨rfl,trivial⟩),hR 7 rfl rfl (Yb (u1:=.int .i64 (Int.tmod (c.X4.getD k 0) 5)) (u2:=.int .i64 5) (v:=.int .i64 ((Int.tmod (c.X4.getD k 0) 5)+5)) (Wb pZ9) (X2 rfl) ⟨rfl,trivial⟩),hR 8 rfl rfl (Yb (u1:=.int .i64 ((Int.tmod (c.X4.getD k 0) 5)+5)) (u2:=.int .i64 5) (v:=.int .i64 (((Int.tmod (c.X4.getD k 0) 5)+5) % 5)) (b_remP (by omega) (by omega)) (X2 rfl) ⟨rfl,trivial⟩)] ?_)
  by_cases hq2:((k2:Nat):Int)<(((Int.tmod (c.X4.getD k 0) 5)+5) % 5)
  ·have hk3:((k2:Nat):Int)<Jy (c.X4.getD k 0):=hq2
   refine cT (dT hq2) (T.skip (nT (T.seq (T.block ?_))))
   refine sR [hR 3 rfl rfl (Yb (u1:=.int .i64 1000) (u2:=.int .i64 ((k2:Nat):Int)) (v:=.int .i64 ((1000+k2:Nat):Int)) (Wb pZ9) (X2 rfl) ⟨rfl,trivial⟩),hR 5 rfl rfl (Vb (u:=.int .i64 ((k:Nat):Int)) (v:=.int .u8 (((UInt8.ofNat k).toNat:Nat):Int)) (F6 Tryz.underlying3 Tryz.underlying5) (X2 rfl) trivial),hR 7 rfl rfl (Vb (u:=.int .i64 ((k2:Nat):Int)) (v:=.int .u8 (((UInt8.ofNat k2).toNat:Nat):Int)) (F6 Tryz.underlying3 Tryz.underlying5) (X2 rfl) trivial),hR 8 rfl rfl (Y7 14 5 kU8 Vk [(UInt8.ofNat k),(UInt8.ofNat k2)] [⟨0,.tmp 56,.one (.d (.val (.int .u8 (((UInt8.ofNat k).toNat:Nat):Int)))),0⟩,⟨1,.tmp 58,.one (.d (.val (.int .u8 (((UInt8.ofNat k2).toNat:Nat):Int)))),1⟩] (cs:=[.d (.val (.int .u8 (((UInt8.ofNat k).toNat:Nat):Int))),.d (.val (.int .u8 (((UInt8.ofNat k2).toNat:Nat):Int)))]) Tryz.underlying25 Jh rfl Iu rfl rfl rfl pb (Ym rfl rfl pb (Ym rfl rfl pb W3)) pZ4 (V2 pZ4) (X2 rfl) trivial),hR 10 rfl rfl (Uz 0 60 14 5 kU8 [(UInt8.ofNat k),(UInt8.ofNat k2)] (av:=.tv (.agg [dI ((1000+k2:Nat):Int),.own 14 kU8.sz 0 [(UInt8.ofNat k),(UInt8.ofNat k2)].length])) (Y7 15 43 (kE false) (W9 false) [(aE.mk ((1000+k2:Nat):Int) [(UInt8.ofNat k),(UInt8.ofNat k2)])] [⟨0,.tmp 60,.agg [dI ((1000+k2:Nat):Int),dU [(UInt8.ofNat k),(UInt8.ofNat k2)]],0⟩] (cs:=[dI ((1000+k2:Nat):Int),dU [(UInt8.ofNat k),(UInt8.ofNat k2)]]) Tryz.underlying37 Vv rfl E7 rfl rfl rfl pb (Ym rfl rfl pb W3) pZ4 (V2 pZ4) (X2 rfl) trivial) rfl p4u p2t rfl rfl),hR 11 rfl rfl (Yv 12 16 43 32 (kE false) (W9 false) (Is k k2) [(aE.mk ((1000+k2:Nat):Int) [(UInt8.ofNat k),(UInt8.ofNat k2)])] ((Is k k2)++[(aE.mk ((1000+k2:Nat):Int) [(UInt8.ofNat k),(UInt8.ofNat k2)])]) (Is k k2).length (sy:=(.own 15 (kE false).sz 0 [(Zsl k k2)].length)) (rhs:=[(15,.live (Xc 43 (kE false) [(Zsl k k2)]))]) En (by omega) (V0 15 43 (kE false) [(aE.mk ((1000+k2:Nat):Int) [(UInt8.ofNat k),(UInt8.ofNat k2)])]) px pZ12 pZ12 (X2 rfl) trivial)] ?_
   refine xR [hR 4 rfl rfl (Yb (u1:=.int .i64 ((k:Nat):Int)) (u2:=.int .i64 ((k2:Nat):Int)) (v:=.int .i64 ((k+k2:Nat):Int)) (Wb pZ9) (X2 rfl) trivial),hR 6 rfl rfl (Y7 17 46 (Xb false) (Vu false) [(Xw.mk 0 ((k+k2:Nat):Int))] [⟨0,.tmp 69,.agg [dI 0,dI ((k+k2:Nat):Int)],0⟩] (cs:=[dI 0,dI ((k+k2:Nat):Int)]) Tryz.underlying63 E0 rfl X7l rfl rfl rfl pb (Ym rfl rfl pb W3) pZ4 (V2 pZ4) (X2 rfl) trivial),hR 7 rfl rfl (Yv 13 18 46 16 (Xb false) (Vu false) (Ir k k2) [(Xw.mk 0 ((k+k2:Nat):Int))] ((Ir k k2)++[(Xw.mk 0 ((k+k2:Nat):Int))]) (Ir k k2).length (sy:=(.own 17 (Xb false).sz 0 [(Zsm k k2)].length)) (rhs:=[(17,.live (Xc 46 (Xb false) [(Zsm k k2)]))]) X7y (by omega) (V0 17 46 (Xb false) [(Xw.mk 0 ((k+k2:Nat):Int))]) px pZ12 pZ12 (X2 rfl) trivial)] pZ4 pZ4 ?_
   refine nB (nT (xK [hR 1 rfl rfl (Yb (u1:=.int .i64 ((k2:Nat):Int)) (u2:=.int .i64 1) (v:=.int .i64 ((k2+1:Nat):Int)) (Wb pZ9) (X2 rfl) ⟨rfl,trivial⟩)] ?_))
   refine nL (k2+1) (show (((k2+1):Nat):Int)≤Jy (c.X4.getD k 0) from (by omega)) (show ((Jy (c.X4.getD k 0)).toNat-(k2+1):Nat)<(Jy (c.X4.getD k 0)).toNat-k2 from (by omega)) (fun _ _ hG=>Wf [0,1,2,3,4,5,6,7,8,9,10,11,16,18] (bm 9 504) (h1:=[(Zrq x),Zrr,(Zrt x),Zru,(Zrx c k),(Zry c k),(Zrz c k),(Zs0 c k),(Zs1 c),Zs4,Zs5,.live (.box 65 [(Zsg c k),(Zsh c k),.own 16 (kE false).sz 0 (Is k (k2+1)).length,.own 18 (Xb false).sz 0 (Ir k (k2+1)).length]),.live (Xc 43 (kE false) (Is k (k2+1))),.live (Xc 46 (Xb false) (Ir k (k2+1)))]) (h2:=[(Zrq x),Zrr,(Zrt x),Zru,(Zrx c k),(Zry c k),(Zrz c k),(Zs0 c k),(Zs1 c),Zs4,Zs5,.live (.box 65 [(Zsg c k),(Zsh c k),.own 16 (kE false).sz 0 ((Is k k2)++[(Zsl k k2)]).length,.own 18 (Xb false).sz 0 ((Ir k k2)++[(Zsm k k2)]).length]),.live (Xc 43 (kE false) ((Is k k2)++[(Zsl k k2)])),.live (Xc 46 (Xb false) ((Ir k k2)++[(Zsm k k2)]))]) (t1:=(Zsn k k2)) rfl (by have e1:((Is k (k2+1)).length:Nat)=((Is k k2)++[(aE.mk ((1000+k2:Nat):Int) [(UInt8.ofNat k),(UInt8.ofNat k2)])]).length:=(by (rw [X8u]));have e2:((Ir k (k2+1)).length:Nat)=((Ir k k2)++[(Xw.mk 0 ((k+k2:Nat):Int))]).length:=(by (rw [X8t]));have e3:((Is k (k2+1)):List aE)=(Is k k2)++[(aE.mk ((1000+k2:Nat):Int) [(UInt8.ofNat k),(UInt8.ofNat k2)])]:=(by (rw [X8u]));have e4:((Ir k (k2+1)):List Xw)=(Ir k k2)++[(Xw.mk 0 ((k+k2:Nat):Int))]:=(by (rw [X8t]));have hE:=congr (congr (congr (congrArg (fun (q1:Nat) (q2:Nat) (q3:List aE) (q4:List Xw)=>([(Zrq x),Zrr,(Zrt x),Zru,(Zrx c k),(Zry c k),(Zrz c k),(Zs0 c k),(Zs1 c),Zs4,Zs5,.live (.box 65 [(Zsg c k),(Zsh c k),.own 16 (kE false).sz 0 q1,.own 18 (Xb false).sz 0 q2]),.live (Xc 43 (kE false) q3),.live (Xc 46 (Xb false) q4)]:List HS)) e1) e2) e3) e4;exact hE) hG)
  have hk3:¬((k2:Nat):Int)<Jy (c.X4.getD k 0):=hq2;have hke:(Jy (c.X4.getD k 0)).toNat=k2:=(by omega);have hfb:=X6b (L:=(Yy c.X4 k)) (i:=k) (n:=(Jy (c.X4.getD k 0)).toNat) (by omega) (by omega);have hap:=app_chn9 (bs:=c.X4) (i:=k) (by omega)
  refine cF (dF hq2) (T.exit (xT (xT (xH (nT ?_)))))
  refine tN ⟨(Zso c k k2),(Zsi x c k k2)⟩ ?_
  refine Wy (s':=⟨(Zso c k k2),(Zsq x c k)⟩) (fun _ _ hG=>Yu [0,1,2,3,4,5,6,7,8,9,10,11,12,13] (bm 49 281474976711160) (h2:=(Zsi x c k k2)) rfl (by have e1:((I0 (Yy c.X4 k) k (Jy (c.X4.getD k 0)).toNat).X9:Int)=(I0 (Yy c.X4 k) k 0).X9:=(by rfl);have e2:((I0 (Yy c.X4 k) k (Jy (c.X4.getD k 0)).toNat).Xy:List UInt8)=(I0 (Yy c.X4 k) k 0).Xy:=(by rfl);have e3:((I0 (Yy c.X4 k) k (Jy (c.X4.getD k 0)).toNat).X7.length:Nat)=(Is k k2).length:=(by (rw [hke];rfl));have e4:((I0 (Yy c.X4 k) k (Jy (c.X4.getD k 0)).toNat).Xf.length:Nat)=(Ir k k2).length:=(by (rw [hke];rfl));have e5:((I0 (Yy c.X4 k) k (Jy (c.X4.getD k 0)).toNat).X7:List aE)=(Is k k2):=(by (rw [hke];rfl));have e6:((I0 (Yy c.X4 k) k (Jy (c.X4.getD k 0)).toNat).Xf:List Xw)=(Ir k k2):=(by (rw [hke];rfl));have hE:=congr (congr (congr (congr (congr (congrArg (fun (q1:Int) (q2:List UInt8) (q3:Nat) (q4:Nat) (q5:List aE) (q6:List Xw)=>([(Zrq x),Zrr,(Zrt x),Zru,(Zrx c k),(Zry c k),(Zrz c k),(Zs0 c k),(Zs1 c),Zs4,Zs5,.live (.box 65 [dI q1,dS q2,.own 12 (kE false).sz 0 q3,.own 13 (Xb false).sz 0 q4]),.live (Xc 43 (kE false) q5),.live (Xc 46 (Xb false) q6)]:List HS)) e1) e2) e3) e4) e5) e6;exact hE) hG) ?_
  refine Wy (s':=(Zsr x c k k2)) (fun _ _ hG=>Gs.freeze (s:=⟨(Zso c k k2),(Zsq x c k)⟩) 12 (el:=W5 (kE false) (I0 (Yy c.X4 k) k (Jy (c.X4.getD k 0)).toNat).X7) (sz:=(kE false).sz) (n:=(I0 (Yy c.X4 k) k (Jy (c.X4.getD k 0)).toNat).X7.length) rfl ⟨.inl rfl,p3c⟩ ⟨pZ7,⟨pZ7,⟨pZ7,⟨pZ7,⟨pZ7,⟨pZ7,⟨pZ7,⟨pZ7,⟨pZ7,⟨pZ7,⟨pZ7,⟨p1y,⟨(.inl ⟨rfl,rfl⟩),⟨pZ7,trivial⟩⟩⟩⟩⟩⟩⟩⟩⟩⟩⟩⟩⟩⟩ hG) ?_
  refine Wy (s':=⟨(Zso c k k2),[(Zrq x),Zrr,(Zrt x),Zru,(Zrx c k),(Zry c k),(Zrz c k),(Zs0 c k),(Zs1 c),Zs4,Zs5,.live (.box 65 (Zss c k)),.dead,.dead]⟩) (fun _ _ hG=>Gs.freeze (s:=(Zsr x c k k2)) 13 (el:=W5 (Xb false) (I0 (Yy c.X4 k) k (Jy (c.X4.getD k 0)).toNat).Xf) (sz:=(Xb false).sz) (n:=(I0 (Yy c.X4 k) k (Jy (c.X4.getD k 0)).toNat).Xf.length) rfl ⟨.inl rfl,p3c⟩ ⟨pZ7,⟨pZ7,⟨pZ7,⟨pZ7,⟨pZ7,⟨pZ7,⟨pZ7,⟨pZ7,⟨pZ7,⟨pZ7,⟨pZ7,⟨p1x,⟨pZ7,⟨(.inl ⟨rfl,rfl⟩),trivial⟩⟩⟩⟩⟩⟩⟩⟩⟩⟩⟩⟩⟩⟩ hG) ?_
  refine sR [hR 3 rfl rfl (rCa (Xaq 0 (ofB 6 ([]:List (List UInt8))) (Yx (Yy c.X4 k)) (I0 (Yy c.X4 k) k (Jy (c.X4.getD k 0)).toNat) (by omega) (by omega) ‹_›) Tryz.func39 [4,5,14] [(.tmp 74,pv 4 0),(.tmp 75,.tv (.agg (Zss c k)))] 2 3)] (xK [hR 3 rfl rfl (rCa (Xck 0 (ofB 6 ([]:List (List UInt8))) (Yy c.X4 k) (I0 (Yy c.X4 k) k (Jy (c.X4.getD k 0)).toNat) (by omega) (by omega) (by omega) (by omega)) Tryz.func40 [6,7,15] [(.tmp 78,pv 6 0),(.tmp 79,.tv (.agg (Zss c k)))] 2 3)] (nB (nT (xK [hR 1 rfl rfl (Yb (u1:=.int .i64 ((k:Nat):Int)) (u2:=.int .i64 1) (v:=.int .i64 ((k+1:Nat):Int)) (Wb pZ9) (X2 rfl) ⟨rfl,trivial⟩)] ?_))))
  refine nL (k+1) (show (k+1)≤c.X4.length from (by omega)) (show (c.X4.length-(k+1):Nat)<c.X4.length-k from (by omega)) (fun _ _ hG=>Wf [0,1,2,3,4,14,6,15,8,9,10] (bm 7 120) (h1:=[(Zrq x),Zrr,(Zrt x),Zru,.live (.box 149 [dI 0,Zrw,dB true,.own 14 (Xj false).sz 0 (Yx (Yy c.X4 (k+1))).length]),.live (Xc 152 (Xj false) (Yx (Yy c.X4 (k+1)))),.live (.box 106 [dB true,dI 0,Zrw,.own 15 (Xo false).sz 0 (Yy c.X4 (k+1)).length]),.live (Xc 65 (Xo false) (Yy c.X4 (k+1))),(Zs1 c),Zs4,Zs5]) (h2:=[(Zrq x),Zrr,(Zrt x),Zru,.live (.box 149 [dI 0,Zrw,dB true,.own 14 (Xj false).sz 0 (X0v 0 Zrv (Yx (Yy c.X4 k)) (Zsp c k)).length]),.live (Xc 152 (Xj false) (X0v 0 Zrv (Yx (Yy c.X4 k)) (Zsp c k))),.live (.box 106 [dB true,dI 0,Zrw,.own 15 (Xo false).sz 0 (Hi 0 Zrv (Yy c.X4 k) (Zsp c k)).length]),.live (Xc 65 (Xo false) (Hi 0 Zrv (Yy c.X4 k) (Zsp c k))),(Zs1 c),Zs4,Zs5]) (t1:=(Zst k)) rfl (by have e1:((Yx (Yy c.X4 (k+1))).length:Nat)=(X0v 0 (ofB 6 ([]:List (List UInt8))) (Yx (Yy c.X4 k)) (I0 (Yy c.X4 k) k (Jy (c.X4.getD k 0)).toNat)).length:=(by (rw [hap.1]));have e2:((Yx (Yy c.X4 (k+1))):List Yj)=(X0v 0 (ofB 6 ([]:List (List UInt8))) (Yx (Yy c.X4 k)) (I0 (Yy c.X4 k) k (Jy (c.X4.getD k 0)).toNat)):=(by exact hap.1.symm);have e3:((Yy c.X4 (k+1)).length:Nat)=(Hi 0 (ofB 6 ([]:List (List UInt8))) (Yy c.X4 k) (I0 (Yy c.X4 k) k (Jy (c.X4.getD k 0)).toNat)).length:=(by (rw [hap.2]));have e4:((Yy c.X4 (k+1)):List Xn)=(Hi 0 (ofB 6 ([]:List (List UInt8))) (Yy c.X4 k) (I0 (Yy c.X4 k) k (Jy (c.X4.getD k 0)).toNat)):=(by exact hap.2.symm);have hE:=congr (congr (congr (congrArg (fun (q1:Nat) (q2:List Yj) (q3:Nat) (q4:List Xn)=>([(Zrq x),Zrr,(Zrt x),Zru,.live (.box 149 [dI 0,Zrw,dB true,.own 14 (Xj false).sz 0 q1]),.live (Xc 152 (Xj false) q2),.live (.box 106 [dB true,dI 0,Zrw,.own 15 (Xo false).sz 0 q3]),.live (Xc 65 (Xo false) q4),(Zs1 c),Zs4,Zs5]:List HS)) e1) e2) e3) e4;exact hE) hG)
 have hkb:k=c.X4.length:=(by omega);have hcl:=Jz c.X4 c.X4.length;have hco:=Fm c.X4 c.X4.length (by omega);have hco1:=hco.1;have hco2:=hco.2;have hco3:(atB (ofB 6 ([]:List (List UInt8))) (Yy c.X4 c.X4.length) (Yy c.X4 c.X4.length).length).length≤1000000:=Nat.le_trans hco1 (by omega);have hdt:Jn c=Jf (0+(((Yy c.X4 c.X4.length).length:Nat):Int)) (atB d9 (Yy c.X4 c.X4.length) (Yy c.X4 c.X4.length).length) c.Vq:=(by unfold Jn;rw [hcl,Int.zero_add])
 refine cF (dF hq1) (T.exit (xT (xT (xH (nT ?_)))))
 refine tN ⟨[aa,aa,aa,pv 8 0,pv 9 0,pv 10 0,(Zro k),aa,aa,aa,aa,aa,aa,aa,aa,aa,aa,aa,aa,aa,aa,aa,aa,aa,aa,aa,aa,aa,aa,aa,vB (decide (((k:Nat):Int)<((c.X4.length:Nat):Int)))],(Zs6 x c k)⟩ ?_
 refine Wy (s':=⟨Zsu,(Zt0 x c)⟩) (fun _ _ hG=>Yu [0,1,2,3,4,5,6,7,8,9,10] (bm 6 56) (h2:=(Zs6 x c k)) rfl (by have e1:((Yx (Yy c.X4 c.X4.length)).length:Nat)=(Yx (Yy c.X4 k)).length:=(by (rw [hkb]));have e2:((Yx (Yy c.X4 c.X4.length)):List Yj)=(Yx (Yy c.X4 k)):=(by (rw [hkb]));have e3:((Yy c.X4 c.X4.length).length:Nat)=(Yy c.X4 k).length:=(by (rw [hkb]));have e4:((Yy c.X4 c.X4.length):List Xn)=(Yy c.X4 k):=(by (rw [hkb]));have hE:=congr (congr (congr (congrArg (fun (q1:Nat) (q2:List Yj) (q3:Nat) (q4:List Xn)=>([(Zrq x),Zrr,(Zrt x),Zru,.live (.box 149 [dI 0,Zrw,dB true,.own 5 (Xj false).sz 0 q1]),.live (Xc 152 (Xj false) q2),.live (.box 106 [dB true,dI 0,Zrw,.own 7 (Xo false).sz 0 q3]),.live (Xc 65 (Xo false) q4),(Zs1 c),Zs4,Zs5]:List HS)) e1) e2) e3) e4;exact hE) hG) ?_
 refine sR [hR 2 rfl rfl (rCa (Hg 0 (ofB 6 ([]:List (List UInt8))) (Yy c.X4 c.X4.length) (by omega) (by omega)) Tryz.func12 [6,7] [(.tmp 82,pv 6 0)] 2 2)] ?_
 refine sD [[],[],[1],[1,2],[],[4],[0,1,2,3,4,5],[0,1,2,3,4,5,6],[0,1,2,3,4,5,6,7]] [hR 3 rfl rfl (rCa (X3u 0 (ofB 6 ([]:List (List UInt8))) (Yy c.X4 c.X4.length) (by omega) (by omega) (by omega)) Tryz.func38 [6,7] [(.tmp 86,pv 6 0)] 2 2),hR 6 rfl rfl (rCa (Xh2 (0+(((Yy c.X4 c.X4.length).length:Nat):Int)) (atB (ofB 6 ([]:List (List UInt8))) (Yy c.X4 c.X4.length) (Yy c.X4 c.X4.length).length) false false c.Vq (by omega) (by omega)) Tryz.func41 [11] [(.tmp 84,vI (0+(((Zsv c).length:Nat):Int))),(.tmp 87,dv (Yn (atB Zrv (Zsv c) (Zsv c).length))),(.tmp 89,slV false false kU8 c.Vq)] 0 1)] ?_
 refine tN ⟨(Zt1 c),(Zt2 x c)⟩ ?_
 refine Wy (s':=⟨(Zt4 c),(Zt5 x c)⟩) (fun _ _ hG=>Yu [0,1,2,3,4,5,6,7,8,9,10,11] (bm 10 568) (t2:=(Zt1 c)) (h2:=(Zt2 x c)) (congrArg (fun (q1:Int)=>([aa,aa,aa,pv 8 0,pv 9 0,pv 10 0,aa,aa,aa,vI q1]:List AV)) (show (((c.X4.length:Nat):Int):Int)=0+(((Yy c.X4 c.X4.length).length:Nat):Int) from (by omega))) (cg2 (fun (q1:Nat) (q2:List UInt8)=>([(Zrq x),Zrr,(Zrt x),Zru,(Zsw c),(Zsx c),(Zsy c),(Zsz c),(Zs1 c),Zs4,.live (.box 39 [.ptr 0 0,.ptr 2 0,.ptr 4 0,.ptr 6 0,.own 11 kU8.sz 0 q1,Zs3]),.live (Xc 5 kU8 q2)]:List HS)) (by rfl) (show ((Jn c):List UInt8)=Jf (0+(((Yy c.X4 c.X4.length).length:Nat):Int)) (atB (ofB 6 ([]:List (List UInt8))) (Yy c.X4 c.X4.length) (Yy c.X4 c.X4.length).length) c.Vq from (by omega))) hG) ?_
 refine Wy (s':=⟨(Zt4 c),[(Zrq x),Zrr,(Zrt x),Zru,(Zsw c),(Zsx c),(Zsy c),(Zsz c),(Zs1 c),Zs4,(Zt7 c),.dead]⟩) (fun _ _ hG=>Gs.freeze (s:=⟨(Zt4 c),(Zt5 x c)⟩) 11 (el:=W5 kU8 (Jn c)) (sz:=kU8.sz) (n:=(Jn c).length) rfl (kk2 (kk8 trivial)) ⟨pZ7,⟨pZ7,⟨pZ7,⟨pZ7,⟨pZ7,⟨pZ7,⟨pZ7,⟨pZ7,⟨pZ7,⟨pZ7,⟨(.inr ⟨by decide,.inr ⟨rfl,(kk4 ⟨pZ0,⟨.inl rfl,trivial⟩⟩)⟩⟩),⟨(.inl ⟨rfl,rfl⟩),trivial⟩⟩⟩⟩⟩⟩⟩⟩⟩⟩⟩⟩ hG) ?_
 refine sR [hR 1 rfl rfl (X3h (k:=.i64) (a:=1) (b:=((c.X4.length:Nat):Int)) (X2 rfl) ⟨rfl,trivial⟩),hR 4 rfl rfl (rCa (Xh1 false false (Jn c) (by omega)) Tryz.func42 [] [(.tmp 95,slV false false kU8 (Jn c))] 0 0)] ?_
 refine H5 ⟨(Zt8 c),(Ztb x c)⟩ ?_ ?_
 ·refine sR [] ?_
  by_cases hq3:c.Us=true
  ·have hcd:ckD9 c=X7w:=if_pos hq3
   refine cT hq3 (xK [] ?_)
   refine eN (Ztd x c) ?_
   refine Xa (s':=⟨(Zt8 c),(Ztf x c)⟩) (fun _ _ hG=>W1 (s:=(Ztd x c)) (kk4 (X12 pZ25)) (kk4 (kk8 ⟨pZr,trivial⟩)) hG) ?_
   refine Xa (s':=⟨(Zt8 c),(Ztb x c)⟩) (fun _ _ hG=>Wf [0,1,2,3,4,5,6,7,8,9,10,25,12] (bm 100 633825300114114700748351604280) (h1:=(Ztb x c)) (h2:=(Ztf x c)) (t1:=(Zt8 c)) rfl (cg12 (fun (q1:Int) (q2:Int) (q3:Int) (q4:Int) (q5:Int) (q6:List UInt8) (q7:List UInt8) (q8:Int) (q9:Int) (q10:List aE) (q11:List aE) (q12:List aC)=>([(Zrq x),Zrr,(Zrt x),Zru,(Zsw c),(Zsx c),(Zsy c),(Zsz c),(Zs1 c),Zs4,(Zt7 c),.dead,.live (.box 78 [dI q1,dI q2,dI q3,dI q4,dI q5,dS q6,dU q7,dI q8,dI q9,.d (dsl false false (kE false) q10),.d (dsl false false (kE false) q11),.d (dsl false false (kC false) q12)])]:List HS)) (by rfl) (by rfl) (by rfl) (by rfl) (by rfl) (by exact hcd) (by rfl) (by rfl) (by rfl) (by rfl) (by rfl) (by rfl)) hG) ?_
   exact nJ
  have hcd:ckD9 c=ofB 7 [Jn c]:=if_neg hq3
  replace hq3:=Bool.eq_false_iff.2 hq3
  refine cF hq3 (T.skip ?_)
  refine eN (Ztg x c) ?_
  refine Xa (s':=⟨(Zt8 c),(Zth x c)⟩) (fun _ _ hG=>W1 (s:=(Ztg x c)) (kk4 (X12 pZ25)) (kk4 (kk8 ⟨pZr,trivial⟩)) hG) ?_
  refine Xa (s':=⟨(Zt8 c),(Ztb x c)⟩) (fun _ _ hG=>Wf [0,1,2,3,4,5,6,7,8,9,10,25,12] (bm 100 633825300114114700748351604280) (h1:=(Ztb x c)) (h2:=(Zth x c)) (t1:=(Zt8 c)) rfl (cg12 (fun (q1:Int) (q2:Int) (q3:Int) (q4:Int) (q5:Int) (q6:List UInt8) (q7:List UInt8) (q8:Int) (q9:Int) (q10:List aE) (q11:List aE) (q12:List aC)=>([(Zrq x),Zrr,(Zrt x),Zru,(Zsw c),(Zsx c),(Zsy c),(Zsz c),(Zs1 c),Zs4,(Zt7 c),.dead,.live (.box 78 [dI q1,dI q2,dI q3,dI q4,dI q5,dS q6,dU q7,dI q8,dI q9,.d (dsl false false (kE false) q10),.d (dsl false false (kE false) q11),.d (dsl false false (kC false) q12)])]:List HS)) (by rfl) (by rfl) (by rfl) (by rfl) (by rfl) (by exact hcd) (by rfl) (by rfl) (by rfl) (by rfl) (by rfl) (by rfl)) hG) ?_
  exact nJ
 refine T.seq (sR [] (T.block ?_))
 refine tN ⟨(Zti c),(Ztb x c)⟩ ?_
 refine Wy (s':=⟨(Zti c),[(Zrq x),Zrr,(Zrt x),Zru,(Zsw c),(Zsx c),(Zsy c),(Zsz c),(Zs1 c),Zs4,(Ztj c),.dead,(Zta c),Zru]⟩) (fun _ _ hG=>Jr 13 10 5 43 (kE false) (Tb:=39) (cs:=[.ptr 0 0,.ptr 2 0,.ptr 4 0,.ptr 6 0,(Zt6 c),Zs3]) rfl rfl rfl hG) ?_
 refine T.loop (ι:=Nat) (fun (k3:Nat)=>(Ztn x c k3)) (fun (k3:Nat)=>(k3≤c.Y3.length)) (fun (k3:Nat)=>c.Y3.length-k3) (0) (Nat.zero_le _) (fun _ _ hG=>Wf [0,1,2,3,4,5,6,7,8,9,10,12,13] (bm 12 3128) (h1:=[(Zrq x),.live (mpK Xp Yc (Ug (Zto x c))),.live (.box 135 [dB true,(Zrs x),(Zrp x),.own 3 (kE false).sz 0 (Zto x c).length]),.live (Xc 43 (kE false) (Zto x c)),(Zsw c),(Zsx c),(Zsy c),(Zsz c),(Zs1 c),Zs4,.live (.box 39 [.ptr 0 0,.ptr 2 0,.ptr 4 0,.ptr 6 0,(Zt6 c),.own 13 (kE false).sz 0 (J1 c 0).length]),(Zta c),.live (Xc 43 (kE false) (J1 c 0))]) (h2:=[(Zrq x),Zrr,(Zrt x),Zru,(Zsw c),(Zsx c),(Zsy c),(Zsz c),(Zs1 c),Zs4,(Ztj c),(Zta c),Zru]) (t1:=[aa,aa,aa,pv 8 0,pv 9 0,pv 10 0,aa,aa,aa,aa,pv 12 0,vI 0]) rfl (cg5 (fun (q1:List (Yg×Bool)) (q2:Nat) (q3:List aE) (q4:Nat) (q5:List aE)=>([(Zrq x),.live (mpK Xp Yc q1),.live (.box 135 [dB true,(Zrs x),(Zrp x),.own 3 (kE false).sz 0 q2]),.live (Xc 43 (kE false) q3),(Zsw c),(Zsx c),(Zsy c),(Zsz c),(Zs1 c),Zs4,.live (.box 39 [.ptr 0 0,.ptr 2 0,.ptr 4 0,.ptr 6 0,(Zt6 c),.own 13 (kE false).sz 0 q4]),(Zta c),.live (Xc 43 (kE false) q5)]:List HS)) (by rfl) (by rfl) (by rfl) (by rfl) (by rfl)) hG) ?_
 rintro k3 hk3
 show T _ _ (Ztn x c k3) _ _
 replace hk3:k3≤c.Y3.length:=hk3
 have hvl:=X89 (c:=c) hk3
 have hal:=X5i (fOf x.Jl) (cOf x.Yd) c k3
 refine T.seq (sR [] ?_)
 by_cases hq4:((k3:Nat):Int)<((c.Y3.length:Nat):Int)
 ·have hrs:-9223372036854775808≤(c.Y3.getD k3 0)∧(c.Y3.getD k3 0)≤9223372036854775807:=hr _ (Vc (z:=0) (show k3<c.Y3.length by omega))
  refine cT (dT hq4) (T.skip (nT (T.seq (T.block ?_))))
  refine sD [[],[0],[],[0,1,2],[0,1,2,3],[],[5],[0,1,2,3,4,5,6],[],[0,1,2,3,4,5,6,7,8]] [hR 3 rfl rfl (Wi false false (Yf .i64) c.Y3 k3 (k:=.i64) (i:=((k3:Nat):Int)) Tryz.underlying24 Ut rfl rfl (by omega) (X2 rfl) trivial),hR 6 rfl rfl (rCa (Xci false (Vx c) (Nat.le_trans ok1 (by decide)) (Nat.le_trans ok2 (by decide)) (Nat.le_trans ok3 (by decide)) (Nat.le_trans ok4 (by decide)) (Nat.le_trans ok5 (by decide)) (Nat.le_trans ok6 (by decide))) Tryz.func25 [] [(.tmp 113,.tv (.agg (Zt9 c)))] 0 0)] ?_
  refine sR [hR 6 rfl rfl (rCa (Xic (fOf x.Jl) (cOf x.Yd) (Ug (Ux (fOf x.Jl) (cOf x.Yd) c k3)) (c.Y3.getD k3 0) false false (Jm (Vx c)) (by omega) (by omega) (by omega) (by omega)) Tryz.func26 [0,1] [(.tmp 117,pv 0 0),(.tmp 119,vI (c.Y3.getD k3 0)),(.tmp 121,slV false false kU8 (Jm (Vx c)))] 2 2)] (sR [hR 6 rfl rfl (rCa (Xh7 (fOf x.Jl) (cOf x.Yd) (Ux (fOf x.Jl) (cOf x.Yd) c k3) (c.Y3.getD k3 0) false false (Jm (Vx c)) (by omega) (by omega) (by omega) (by omega) (by omega)) Tryz.func27 [2,3,14] [(.tmp 124,pv 2 0),(.tmp 126,vI (c.Y3.getD k3 0)),(.tmp 128,slV false false kU8 (Jm (Vx c)))] 2 3)] ?_)
  refine xR [hR 3 rfl rfl (Y7 15 43 (kE false) (W9 false) [(aE.mk (c.Y3.getD k3 0) (Jm (Vx c)))] [⟨0,.tmp 132,.agg [dI (c.Y3.getD k3 0),dU (Jm (Vx c))],0⟩] (cs:=[dI (c.Y3.getD k3 0),dU (Jm (Vx c))]) Tryz.underlying37 Vv rfl E7 rfl rfl rfl pb (Ym rfl rfl pb W3) pZ4 (V2 pZ4) (X2 rfl) trivial),hR 4 rfl rfl (Yv 12 16 43 32 (kE false) (W9 false) (J1 c k3) [(aE.mk (c.Y3.getD k3 0) (Jm (Vx c)))] ((J1 c k3)++[(aE.mk (c.Y3.getD k3 0) (Jm (Vx c)))]) (J1 c k3).length (sy:=(.own 15 (kE false).sz 0 [(Ztp c k3)].length)) (rhs:=[(15,.live (Xc 43 (kE false) [(Ztp c k3)]))]) En (by omega) (V0 15 43 (kE false) [(aE.mk (c.Y3.getD k3 0) (Jm (Vx c)))]) px pZ12 pZ12 (X2 rfl) trivial)] pZ4 pZ4 ?_
  refine nB (nT (xK [hR 1 rfl rfl (Yb (u1:=.int .i64 ((k3:Nat):Int)) (u2:=.int .i64 1) (v:=.int .i64 ((k3+1:Nat):Int)) (Wb pZ9) (X2 rfl) ⟨rfl,trivial⟩)] ?_))
  refine nL (k3+1) (show (k3+1)≤c.Y3.length from (by omega)) (show (c.Y3.length-(k3+1):Nat)<c.Y3.length-k3 from (by omega)) (fun _ _ hG=>Wf [0,1,2,14,4,5,6,7,8,9,10,11,16] (bm 12 3128) (h1:=[(Zrq x),.live (mpK Xp Yc (Ug (Ztr x c k3))),.live (.box 135 [dB true,(Zrs x),(Zrp x),.own 14 (kE false).sz 0 (Ztr x c k3).length]),.live (Xc 43 (kE false) (Ztr x c k3)),(Zsw c),(Zsx c),(Zsy c),(Zsz c),(Zs1 c),Zs4,.live (.box 39 [.ptr 0 0,.ptr 2 0,.ptr 4 0,.ptr 6 0,(Zt6 c),.own 16 (kE false).sz 0 (J1 c (k3+1)).length]),(Zta c),.live (Xc 43 (kE false) (J1 c (k3+1)))]) (h2:=[(Zrq x),.live (mpK Xp Yc (X6i (fOf x.Jl) (cOf x.Yd) (Ug (Ztk x c k3)) (c.Y3.getD k3 0) (Jm (Vx c)))),.live (.box 135 [dB true,(Zrs x),(Zrp x),.own 14 (kE false).sz 0 (Hy (fOf x.Jl) (cOf x.Yd) (Ztk x c k3) (c.Y3.getD k3 0) (Jm (Vx c))).length]),.live (Xc 43 (kE false) (Hy (fOf x.Jl) (cOf x.Yd) (Ztk x c k3) (c.Y3.getD k3 0) (Jm (Vx c)))),(Zsw c),(Zsx c),(Zsy c),(Zsz c),(Zs1 c),Zs4,.live (.box 39 [.ptr 0 0,.ptr 2 0,.ptr 4 0,.ptr 6 0,(Zt6 c),.own 16 (kE false).sz 0 ((J1 c k3)++[(Ztp c k3)]).length]),(Zta c),.live (Xc 43 (kE false) ((J1 c k3)++[(Ztp c k3)]))]) (t1:=(Ztq k3)) rfl (by have e1:((Ug (Ux (fOf x.Jl) (cOf x.Yd) c (k3+1))):List (Yg×Bool))=(X6i (fOf x.Jl) (cOf x.Yd) (Ug (Ux (fOf x.Jl) (cOf x.Yd) c k3)) (c.Y3.getD k3 0) (Jm (Vx c))):=(by (rw [sign_tab];rfl));have e2:((Ux (fOf x.Jl) (cOf x.Yd) c (k3+1)).length:Nat)=(Hy (fOf x.Jl) (cOf x.Yd) (Ux (fOf x.Jl) (cOf x.Yd) c k3) (c.Y3.getD k3 0) (Jm (Vx c))).length:=(by rfl);have e3:((Ux (fOf x.Jl) (cOf x.Yd) c (k3+1)):List aE)=(Hy (fOf x.Jl) (cOf x.Yd) (Ux (fOf x.Jl) (cOf x.Yd) c k3) (c.Y3.getD k3 0) (Jm (Vx c))):=(by rfl);have e4:((J1 c (k3+1)).length:Nat)=((J1 c k3)++[(aE.mk (c.Y3.getD k3 0) (Jm (Vx c)))]).length:=(by (rw [Xb2 (by omega)];rfl));have e5:((J1 c (k3+1)):List aE)=(J1 c k3)++[(aE.mk (c.Y3.getD k3 0) (Jm (Vx c)))]:=(by (rw [Xb2 (by omega)];rfl));have hE:=congr (congr (congr (congr (congrArg (fun (q1:List (Yg×Bool)) (q2:Nat) (q3:List aE) (q4:Nat) (q5:List aE)=>([(Zrq x),.live (mpK Xp Yc q1),.live (.box 135 [dB true,(Zrs x),(Zrp x),.own 14 (kE false).sz 0 q2]),.live (Xc 43 (kE false) q3),(Zsw c),(Zsx c),(Zsy c),(Zsz c),(Zs1 c),Zs4,.live (.box 39 [.ptr 0 0,.ptr 2 0,.ptr 4 0,.ptr 6 0,(Zt6 c),.own 16 (kE false).sz 0 q4]),(Zta c),.live (Xc 43 (kE false) q5)]:List HS)) e1) e2) e3) e4) e5;exact hE) hG)
 have hks:k3=c.Y3.length:=(by omega)
 refine cF (dF hq4) (T.exit (xT (xT (xH (nT (sR [] (T.ret ?_)))))))
 refine eN (Ztt x c k3) ?_
 refine Xa (s':=⟨(Zts c k3),[(Zrq x),.live (mpK Xp Yc (Ug (Ztk x c k3))),(Ztl x c k3),.live (Xc 43 (kE false) (Ztk x c k3)),(Zsw c),(Zsx c),(Zsy c),(Zsz c),(Zs1 c),.live (.box 39 (Ztu c k3)),.live (.box 39 (Ztu c k3)),(Zta c),.dead]⟩) (fun _ _ hG=>Gs.freeze (s:=(Ztt x c k3)) 12 (el:=W5 (kE false) (J1 c k3)) (sz:=(kE false).sz) (n:=(J1 c k3).length) rfl (kk2 (kk8 (X12 pZ25))) ⟨pZ7,⟨pZ7,⟨pZ7,⟨pZ7,⟨pZ7,⟨pZ7,⟨pZ7,⟨pZ7,⟨pZ7,⟨p4t,⟨p4t,⟨pZ7,⟨(.inl ⟨rfl,rfl⟩),trivial⟩⟩⟩⟩⟩⟩⟩⟩⟩⟩⟩⟩⟩ hG) ?_
 exact eX [.c 4 9 39 0 39 [.ptr 0 0,.ptr 2 0,.ptr 4 0,.ptr 6 0,(Zt6 c),.d (dsl false false (kE false) (J1 c k3))] (.agg (Ztu c k3))] ⟨⟨rfl,rfl,by kernel_rfl,by kernel_rfl,.inl ⟨6,wide_39,rfl,Nat.le_of_ble_eq_true rfl⟩⟩,trivial⟩ [0,1,2,3,4,5,6,7] (by have e1:((J1 c c.Y3.length):List aE)=(J1 c k3):=(by (rw [hks];done));have hE:=congrArg (fun (q1:List aE)=>(.tv (.agg [.ptr 0 0,.ptr 2 0,.ptr 4 0,.ptr 6 0,(Zt6 c),.d (dsl false false (kE false) q1)]):AV)) e1;exact hE) (ix ⟨⟨rfl,(by have e1:((Ug (Ux (fOf x.Jl) (cOf x.Yd) c k3)):List (Yg×Bool))=(Ug (Ux (fOf x.Jl) (cOf x.Yd) c c.Y3.length)):=(by (rw [hks];done));have hE:=congrArg (fun (q1:List (Yg×Bool))=>(.live (mpK Xp Yc q1):HS)) e1;exact Eq.trans pZ4 hE)⟩,⟨⟨rfl,(by have e1:((Ux (fOf x.Jl) (cOf x.Yd) c k3).length:Nat)=(Ux (fOf x.Jl) (cOf x.Yd) c c.Y3.length).length:=(by (rw [hks];done));have hE:=congrArg (fun (q1:Nat)=>(.live (.box 135 [dB true,(Zrs x),(Zrp x),.own 3 (kE false).sz 0 q1]):HS)) e1;exact Eq.trans pZ4 hE)⟩,⟨⟨rfl,(by have e1:((Ux (fOf x.Jl) (cOf x.Yd) c k3):List aE)=(Ux (fOf x.Jl) (cOf x.Yd) c c.Y3.length):=(by (rw [hks];done));have hE:=congrArg (fun (q1:List aE)=>(.live (Xc 43 (kE false) q1):HS)) e1;exact Eq.trans pZ4 hE)⟩,(ix (ix (ix (ix trivial))))⟩⟩⟩)
end Go.Proofs.YtnaopgohccacmaaGreat.Q
namespace Go.Proofs.YtnaopgohccacmaaGreat.Q
set_option linter.unusedVariables false
set_option linter.unusedSimpArgs false
set_option maxRecDepth 100000
def ix9 (l:List Y6) (a:Int):Nat:=if 0<l.length then ((Int.tmod a ((l.length:Nat):Int)+((l.length:Nat):Int)) % ((l.length:Nat):Int)).toNat else 0
theorem X43 {l:List Y6} {a:Int} (h:0<l.length):((ix9 l a:Nat):Int)=(Int.tmod a ((l.length:Nat):Int)+((l.length:Nat):Int)) % ((l.length:Nat):Int)∧ix9 l a<l.length:=by
  unfold ix9
  rw [if_pos h]
  have h1:=Int.emod_nonneg (Int.tmod a ((l.length:Nat):Int)+((l.length:Nat):Int)) (b:=((l.length:Nat):Int)) (by omega)
  have h2:=Int.emod_lt_of_pos (Int.tmod a ((l.length:Nat):Int)+((l.length:Nat):Int)) (b:=((l.length:Nat):Int)) (by omega)
  omega
theorem ix_09 {l:List Y6} {a:Int} (h:¬0<l.length):ix9 l a=0:=if_neg h
def hdX9 (h:Y6):Y6:=⟨h.X9,h.Xy++[120],h.Ye,h.W4⟩
section
variable (c:Wl) (t:Yi)
abbrev J9:Nat:=ix9 c.X1 t.Wj
def Yl:Wl :=
  if t.Wo=1∧0<c.X1.length then ⟨c.Xu,c.Xi,c.Xd,c.X1.take (J9 c t)++c.X1.drop (J9 c t+1),c.Vt,c.Xm,c.X3,c.Yr⟩
  else if t.Wo=2 then ⟨c.Xu,c.Xi,c.Xd,c.X1,c.Vt,c.Xm,⟨c.X3.Y0,c.X3.Xq+1⟩,c.Yr⟩
  else if t.Wo=3 then ⟨c.Xu,c.Xi,c.Xd,c.X1,c.Vt+1,c.Xm,c.X3,c.Yr⟩
  else if t.Wo=4 then ⟨c.Xu+1,c.Xi,c.Xd,c.X1,c.Vt,c.Xm,c.X3,c.Yr⟩
  else if t.Wo=5∧0<c.X1.length then ⟨c.Xu,c.Xi,c.Xd,c.X1.set (J9 c t) (hdX9 (c.X1.getD (J9 c t) Xg)),c.Vt,c.Xm,c.X3,c.Yr⟩
  else if t.Wo=6 then ⟨c.Xu,c.Xi,c.Xd++[0],c.X1,c.Vt,c.Xm,c.X3,c.Yr⟩
  else if t.Wo=7 then ⟨c.Xu,c.Xi,c.Xd,c.X1,c.Vt,⟨c.Xm.f_Signer+1,c.Xm.Xh⟩,c.X3,c.Yr⟩
  else if t.Wo=8∧0<c.Yr.length then ⟨c.Xu,c.Xi,c.Xd,c.X1,c.Vt,c.Xm,c.X3,c.Yr.drop 1⟩
  else if t.Wo=9∧0<c.Xi.length then ⟨c.Xu,c.Xi.drop 1,c.Xd,c.X1,c.Vt,c.Xm,c.X3,c.Yr⟩
  else c
end
section
variable {c:Wl} {t:Yi}
theorem trn_1 (h:t.Wo=1) (h0:0<c.X1.length):Yl c t=⟨c.Xu,c.Xi,c.Xd,c.X1.take (J9 c t)++c.X1.drop (J9 c t+1),c.Vt,c.Xm,c.X3,c.Yr⟩:=if_pos ⟨h,h0⟩
theorem trn_2 (h:t.Wo=2):Yl c t=⟨c.Xu,c.Xi,c.Xd,c.X1,c.Vt,c.Xm,⟨c.X3.Y0,c.X3.Xq+1⟩,c.Yr⟩:=by unfold Yl;rw [if_neg (by omega),if_pos h]
theorem trn_3 (h:t.Wo=3):Yl c t=⟨c.Xu,c.Xi,c.Xd,c.X1,c.Vt+1,c.Xm,c.X3,c.Yr⟩:=by unfold Yl;rw [if_neg (by omega),if_neg (by omega),if_pos h]
theorem trn_4 (h:t.Wo=4):Yl c t=⟨c.Xu+1,c.Xi,c.Xd,c.X1,c.Vt,c.Xm,c.X3,c.Yr⟩:=by unfold Yl;rw [if_neg (by omega),if_neg (by omega),if_neg (by omega),if_pos h]
theorem trn_5 (h:t.Wo=5) (h0:0<c.X1.length):Yl c t=⟨c.Xu,c.Xi,c.Xd,c.X1.set (J9 c t) (hdX9 (c.X1.getD (J9 c t) Xg)),c.Vt,c.Xm,c.X3,c.Yr⟩:=by unfold Yl;rw [if_neg (by omega),if_neg (by omega),if_neg (by omega),if_neg (by omega),if_pos ⟨h,h0⟩]
theorem trn_6 (h:t.Wo=6):Yl c t=⟨c.Xu,c.Xi,c.Xd++[0],c.X1,c.Vt,c.Xm,c.X3,c.Yr⟩:=by unfold Yl;rw [if_neg (by omega),if_neg (by omega),if_neg (by omega),if_neg (by omega),if_neg (by omega),if_pos h]
theorem trn_7 (h:t.Wo=7):Yl c t=⟨c.Xu,c.Xi,c.Xd,c.X1,c.Vt,⟨c.Xm.f_Signer+1,c.Xm.Xh⟩,c.X3,c.Yr⟩:=by unfold Yl;rw [if_neg (by omega),if_neg (by omega),if_neg (by omega),if_neg (by omega),if_neg (by omega),if_neg (by omega),if_pos h]
theorem trn_8 (h:t.Wo=8) (h0:0<c.Yr.length):Yl c t=⟨c.Xu,c.Xi,c.Xd,c.X1,c.Vt,c.Xm,c.X3,c.Yr.drop 1⟩:=by unfold Yl;rw [if_neg (by omega),if_neg (by omega),if_neg (by omega),if_neg (by omega),if_neg (by omega),if_neg (by omega),if_neg (by omega),if_pos ⟨h,h0⟩]
theorem trn_9 (h:t.Wo=9) (h0:0<c.Xi.length):Yl c t=⟨c.Xu,c.Xi.drop 1,c.Xd,c.X1,c.Vt,c.Xm,c.X3,c.Yr⟩:=by unfold Yl;rw [if_neg (by omega),if_neg (by omega),if_neg (by omega),if_neg (by omega),if_neg (by omega),if_neg (by omega),if_neg (by omega),if_neg (by omega),if_pos ⟨h,h0⟩]
theorem Xe2 (h1:¬(t.Wo=1∧0<c.X1.length)) (h2:¬t.Wo=2) (h3:¬t.Wo=3) (h4:¬t.Wo=4) (h5:¬(t.Wo=5∧0<c.X1.length)) (h6:¬t.Wo=6) (h7:¬t.Wo=7) (h8:¬(t.Wo=8∧0<c.Yr.length)) (h9:¬(t.Wo=9∧0<c.Xi.length)):Yl c t=c:=by
  unfold Yl;rw [if_neg h1,if_neg h2,if_neg h3,if_neg h4,if_neg h5,if_neg h6,if_neg h7,if_neg h8,if_neg h9]
end
def smT9 (c:Wl):Prop:=c.X1.length≤1000000∧c.Xd.length≤1000000000∧(0≤c.Xu∧c.Xu≤1000000000000000)∧(0≤c.Vt∧c.Vt≤1000000000000000)∧(0≤c.X3.Xq∧c.X3.Xq≤1000000000000000)∧(0≤c.Xm.f_Signer∧c.Xm.f_Signer≤1000000000000000)∧(c.Yr.length≤1000000∧c.Xi.length≤1000000)∧∀ h,h∈c.X1→h.Xy.length≤10000000
instance (c:Wl):Decidable (smT9 c):=by unfold smT9;infer_instance
theorem smT_prev {c:Wl} (h:smT9 c) (k:Nat):(c.X1.getD k Xg).Xy.length≤10000000:=by
  by_cases hk:k<c.X1.length
  · exact h.2.2.2.2.2.2.2 _ (Vc hk)
  · rw [List.getD_eq_getElem?_getD,List.getElem?_eq_none (by omega)];exact Nat.zero_le _
theorem cut9 {l:List Y6} {j:Nat} (hj:j<l.length):l.take j++(l.take (j+1+l.length-(j+1))).drop (j+1)=l.take j++l.drop (j+1):=by
  rw [List.take_of_length_le (l:=l) (i:=j+1+l.length-(j+1)) (by omega)]
section
variable (c:Wl) (t:Yi)
abbrev Ztv:SV:=dI c.Xu
abbrev Ztw:SV:=.d (dsl false false (kE false) c.Xi)
abbrev Ztx:SV:=dU c.Xd
abbrev Zty:SV:=.d (dsl false false (X6 false) c.X1)
abbrev Ztz:SV:=dI c.Vt
abbrev Zu0:SV:=dI c.Xm.f_Signer
abbrev Zu1:SV:=dU c.Xm.Xh
abbrev Zu2:SV:=dI c.X3.Y0
abbrev Zu3:SV:=dI c.X3.Xq
abbrev Zu4:SV:=.d (dsl false false (X8 false) c.Yr)
abbrev Zu5:List SV:=[(Ztv c),(Ztw c),(Ztx c),(Zty c),(Ztz c),(Zu0 c),(Zu1 c),(Zu2 c),(Zu3 c),(Zu4 c)]
abbrev Zu6:AV:=.tv (.agg (Zu5 c))
abbrev Zu7:AV:=.tv (.agg [dI t.Wo,dI t.Wj])
abbrev Zu8:=(ix9 c.X1 t.Wj)
abbrev Zu9:AV:=vI (((Zu8 c t):Nat):Int)
abbrev Zua:AV:=vB (decide (((c.X1.length:Nat):Int)>0))
abbrev Zub:List AV:=[(Zu6 c),(Zu7 t),pv 0 0,pv 1 0,pv 2 0,(Zu9 c t),aa,aa,aa,(Zua c)]
abbrev Zuc:HS:=.live (.box 29 [dI t.Wo,dI t.Wj])
abbrev Zud:SV:=.d (.val (.slice none 0 0))
abbrev Zue:HS:=.live (.box 49 [dI 0,Zud,Zud,Zud,dI 0,dI 0,Zud,dI 0,dI 0,Zud])
abbrev Zuf:List HS:=[.live (.box 49 (Zu5 c)),(Zuc t),Zue]
abbrev Zug:List AV:=[(Zu6 c),(Zu7 t),pv 0 0,pv 1 0,pv 2 0,vI (((Int.tmod t.Wj ((c.X1.length:Nat):Int))+((c.X1.length:Nat):Int)) % ((c.X1.length:Nat):Int)),aa,aa,aa,(Zua c)]
abbrev Zuh:List AV:=[(Zu6 c),(Zu7 t),pv 0 0,pv 1 0,pv 2 0,vI 0,aa,aa,aa,(Zua c)]
abbrev Zui:List SV:=[dI (Yl c t).Xu,.d (dsl false false (kE false) (Yl c t).Xi),dU (Yl c t).Xd,.d (dsl false false (X6 false) (Yl c t).X1),dI (Yl c t).Vt,dI (Yl c t).Xm.f_Signer,dU (Yl c t).Xm.Xh,dI (Yl c t).X3.Y0,dI (Yl c t).X3.Xq,.d (dsl false false (X8 false) (Yl c t).Yr)]
abbrev Zuj:List HS:=[.live (.box 49 (Zui c t)),Zue]
abbrev Zuk:St:=⟨[aa,aa,pv 0 0,aa,pv 1 0],(Zuj c t)⟩
abbrev Zul:HS:=.live (Xc 69 (X6 false) c.X1)
abbrev Zum:List HS:=[.live (.box 49 [(Ztv c),(Ztw c),(Ztx c),.own 5 (X6 false).sz 0 ((c.X1.take (Zu8 c t))++((c.X1.take ((Zu8 c t)+1+c.X1.length-((Zu8 c t)+1))).drop ((Zu8 c t)+1))).length,(Ztz c),(Zu0 c),(Zu1 c),(Zu2 c),(Zu3 c),(Zu4 c)]),(Zuc t),Zue,.dead,.dead,.live (Xc 69 (X6 false) ((c.X1.take (Zu8 c t))++((c.X1.take ((Zu8 c t)+1+c.X1.length-((Zu8 c t)+1))).drop ((Zu8 c t)+1))))]
abbrev Zun:List AV:=[aa,aa,pv 0 0,aa,pv 2 0]
abbrev Zuo:HS:=.live (.box 49 [(Ztv c),(Ztw c),(Ztx c),.d (dsl false false (X6 false) ((c.X1.take (Zu8 c t))++((c.X1.take ((Zu8 c t)+1+c.X1.length-((Zu8 c t)+1))).drop ((Zu8 c t)+1)))),(Ztz c),(Zu0 c),(Zu1 c),(Zu2 c),(Zu3 c),(Zu4 c)])
abbrev Zup:AV:=vB (decide (t.Wo=2))
abbrev Zuq:AV:=vB (decide (t.Wo=3))
abbrev Zur:AV:=vB (decide (t.Wo=4))
abbrev Zus:AV:=vB (decide (t.Wo=6))
abbrev Zut:AV:=vB (decide (t.Wo=7))
abbrev Zuu:SV:=.own 4 (X6 false).sz 0 c.X1.length
abbrev Zuv:HS:=.live (.box 49 [(Ztv c),(Ztw c),(Ztx c),(Zuu c),(Ztz c),(Zu0 c),(Zu1 c),(Zu2 c),(Zu3 c),(Zu4 c)])
abbrev Zuw:List HS:=[(Zuv c),(Zuc t),Zue,.dead,(Zul c)]
abbrev Zux:St:=⟨Zun,(Zuw c t)⟩
abbrev Zuy:St:=⟨Zun,[.live (.box 49 (Zu5 c)),(Zuc t),Zue,.dead,.dead]⟩
abbrev Zuz:List HS:=[.live (.box 49 (Zu5 c)),Zue]
abbrev Zv0:List HS:=[.live (.box 49 [(Ztv c),(Ztw c),(Ztx c),(Zuu c),(Ztz c),(Zu0 c),(Zu1 c),(Zu2 c),dI (c.X3.Xq+1),(Zu4 c)]),(Zuc t),Zue,.dead,(Zul c)]
abbrev Zv1:HS:=.live (.box 49 [(Ztv c),(Ztw c),(Ztx c),(Zty c),(Ztz c),(Zu0 c),(Zu1 c),(Zu2 c),dI (c.X3.Xq+1),(Zu4 c)])
abbrev Zv2:List HS:=[.live (.box 49 [(Ztv c),(Ztw c),(Ztx c),(Zuu c),dI (c.Vt+1),(Zu0 c),(Zu1 c),(Zu2 c),(Zu3 c),(Zu4 c)]),(Zuc t),Zue,.dead,(Zul c)]
abbrev Zv3:HS:=.live (.box 49 [(Ztv c),(Ztw c),(Ztx c),(Zty c),dI (c.Vt+1),(Zu0 c),(Zu1 c),(Zu2 c),(Zu3 c),(Zu4 c)])
abbrev Zv4:List HS:=[.live (.box 49 [dI (c.Xu+1),(Ztw c),(Ztx c),(Zuu c),(Ztz c),(Zu0 c),(Zu1 c),(Zu2 c),(Zu3 c),(Zu4 c)]),(Zuc t),Zue,.dead,(Zul c)]
abbrev Zv5:HS:=.live (.box 49 [dI (c.Xu+1),(Ztw c),(Ztx c),(Zty c),(Ztz c),(Zu0 c),(Zu1 c),(Zu2 c),(Zu3 c),(Zu4 c)])
abbrev Zv6:=(Y6.mk (c.X1.getD (Zu8 c t) Xg).X9 ((c.X1.getD (Zu8 c t) Xg).Xy++[120]) (c.X1.getD (Zu8 c t) Xg).Ye (c.X1.getD (Zu8 c t) Xg).W4)
abbrev Zv7:HS:=.live (Xc 69 (X6 false) (c.X1.set (Zu8 c t) (Zv6 c t)))
abbrev Zv8:List HS:=[(Zuv c),(Zuc t),Zue,.dead,(Zv7 c t)]
abbrev Zv9:List HS:=[.live (.box 49 [(Ztv c),(Ztw c),(Ztx c),.own 4 (X6 false).sz 0 (c.X1.set (Zu8 c t) (Zv6 c t)).length,(Ztz c),(Zu0 c),(Zu1 c),(Zu2 c),(Zu3 c),(Zu4 c)]),(Zuc t),Zue,.dead,(Zv7 c t)]
abbrev Zva:HS:=.live (.box 49 [(Ztv c),(Ztw c),(Ztx c),.d (dsl false false (X6 false) (c.X1.set (Zu8 c t) (Zv6 c t))),(Ztz c),(Zu0 c),(Zu1 c),(Zu2 c),(Zu3 c),(Zu4 c)])
abbrev Zvb:HS:=.live (Xc 5 kU8 [(0:UInt8)])
abbrev Zvc:List HS:=[.live (.box 49 [(Ztv c),(Ztw c),.own 8 kU8.sz 0 (c.Xd++[(0:UInt8)]).length,(Zuu c),(Ztz c),(Zu0 c),(Zu1 c),(Zu2 c),(Zu3 c),(Zu4 c)]),(Zuc t),Zue,.dead,(Zul c),.dead,.dead,Zvb,.live (Xc 5 kU8 (c.Xd++[(0:UInt8)]))]
abbrev Zvd:St:=⟨Zun,[.live (.box 49 [(Ztv c),(Ztw c),dU (c.Xd++[(0:UInt8)]),(Zuu c),(Ztz c),(Zu0 c),(Zu1 c),(Zu2 c),(Zu3 c),(Zu4 c)]),(Zuc t),Zue,.dead,(Zul c),.dead,.dead,Zvb,.dead]⟩
abbrev Zve:HS:=.live (.box 49 [(Ztv c),(Ztw c),dU (c.Xd++[(0:UInt8)]),(Zty c),(Ztz c),(Zu0 c),(Zu1 c),(Zu2 c),(Zu3 c),(Zu4 c)])
abbrev Zvf:List HS:=[.live (.box 49 [(Ztv c),(Ztw c),(Ztx c),(Zuu c),(Ztz c),dI (c.Xm.f_Signer+1),(Zu1 c),(Zu2 c),(Zu3 c),(Zu4 c)]),(Zuc t),Zue,.dead,(Zul c)]
abbrev Zvg:HS:=.live (.box 49 [(Ztv c),(Ztw c),(Ztx c),(Zty c),(Ztz c),dI (c.Xm.f_Signer+1),(Zu1 c),(Zu2 c),(Zu3 c),(Zu4 c)])
abbrev Zvh:List HS:=[.live (.box 49 [(Ztv c),(Ztw c),(Ztx c),(Zuu c),(Ztz c),(Zu0 c),(Zu1 c),(Zu2 c),(Zu3 c),.d (dsl false false (X8 false) (c.Yr.drop 1))]),(Zuc t),Zue,.dead,(Zul c)]
abbrev Zvi:HS:=.live (.box 49 [(Ztv c),(Ztw c),(Ztx c),(Zty c),(Ztz c),(Zu0 c),(Zu1 c),(Zu2 c),(Zu3 c),.d (dsl false false (X8 false) (c.Yr.drop 1))])
abbrev Zvj:List AV:=[(Zu6 c),(Zu7 t),pv 0 0,pv 1 0,pv 2 0,(Zu9 c t),aa,aa,aa,(Zua c),aa,aa,aa,aa,aa,aa,aa,aa,aa,aa,aa,aa,aa,aa,aa,aa,aa,aa,aa,vB false,aa,aa,aa,aa,aa,aa,aa,aa,aa,aa,aa,aa,aa,aa,aa,aa,aa,aa,aa,aa,(Zup t),aa,aa,aa,aa,aa,aa,aa,aa,aa,(Zuq t),aa,aa,aa,aa,aa,aa,aa,(Zur t),aa,aa,aa,aa,aa,aa,aa,vB false,aa,aa,aa,aa,aa,aa,aa,aa,aa,aa,aa,aa,aa,aa,aa,aa,aa,aa,(Zus t),aa,aa,aa,aa,aa,aa,aa,aa,aa,aa,(Zut t),aa,aa,aa,aa,aa,aa,aa,aa,aa,vB false,aa,aa,aa,aa,aa,aa,aa,aa,aa,aa,aa,aa,aa,vB (decide (((c.Xi.length:Nat):Int)>0))]
abbrev Zvk:List HS:=[.live (.box 49 [(Ztv c),.d (dsl false false (kE false) (c.Xi.drop 1)),(Ztx c),(Zuu c),(Ztz c),(Zu0 c),(Zu1 c),(Zu2 c),(Zu3 c),(Zu4 c)]),(Zuc t),Zue,.dead,(Zul c)]
abbrev Zvl:HS:=.live (.box 49 [(Ztv c),.d (dsl false false (kE false) (c.Xi.drop 1)),(Ztx c),(Zty c),(Ztz c),(Zu0 c),(Zu1 c),(Zu2 c),(Zu3 c),(Zu4 c)])
end
theorem Fy (c:Wl) (t:Yi) (hb:smT9 c):Holds Tryz.prog 13 ⟨[.tv (.agg [dI c.Xu,.d (dsl false false (kE false) c.Xi),dU c.Xd,.d (dsl false false (X6 false) c.X1),dI c.Vt,dI c.Xm.f_Signer,dU c.Xm.Xh,dI c.X3.Y0,dI c.X3.Xq,.d (dsl false false (X8 false) c.Yr)]),.tv (.agg [dI t.Wo,dI t.Wj])],[],.tv (.agg [dI (Yl c t).Xu,.d (dsl false false (kE false) (Yl c t).Xi),dU (Yl c t).Xd,.d (dsl false false (X6 false) (Yl c t).X1),dI (Yl c t).Vt,dI (Yl c t).Xm.f_Signer,dU (Yl c t).Xm.Xh,dI (Yl c t).X3.Y0,dI (Yl c t).X3.Xq,.d (dsl false false (X8 false) (Yl c t).Yr)]),[]⟩:=by
 refine Holds.of Tryz.func13 rfl (N:=145) Tryz.ntmps13 rfl fun w0 B0 S0 U0=>?_
 show T _ (Y2 145 0 w0 S0 U0 B0) ⟨[(Zu6 c),(Zu7 t)],[]⟩ _ _
 have hpv:=smT_prev hb (ix9 c.X1 t.Wj)
 obtain ⟨hb1,hb2,hb3,hb4,hb5,hb6,hb7,hb8⟩:=hb
 obtain ⟨hb7a,hb7b⟩:=hb7
 have hjl2:0<c.X1.length→(ix9 c.X1 t.Wj)<c.X1.length:=fun q=>(X43 q).2
 refine sR [] (sR [] ?_)
 refine H5 ⟨(Zub c t),(Zuf c t)⟩ ?_ ?_
 ·refine sR [] ?_
  by_cases hq1:((c.X1.length:Nat):Int)>0
  ·have hbd:=Xcb (a:=t.Wj) (b:=((c.X1.length:Nat):Int)) (by omega);have hjl:=(X43 (l:=c.X1) (a:=t.Wj) (by omega)).2
   refine cT (dT hq1) ?_
   refine xD [[],[0],[],[2],[2,3],[0,1,2,3,4],[],[6],[6,7],[0,1,2,3,4,5,6,7,8],[],[10],[10,11],[0,1,2,3,4,5,6,7,8,9,10,11,12],[0,1,2,3,4,5,6,7,8,9,10,11,12,13]] [hR 5 rfl rfl (Yb (u1:=.int .i64 t.Wj) (u2:=.int .i64 ((c.X1.length:Nat):Int)) (v:=.int .i64 (Int.tmod t.Wj ((c.X1.length:Nat):Int))) (b_rem (by omega) rfl) (X2 rfl) trivial),hR 9 rfl rfl (Yb (u1:=.int .i64 (Int.tmod t.Wj ((c.X1.length:Nat):Int))) (u2:=.int .i64 ((c.X1.length:Nat):Int)) (v:=.int .i64 ((Int.tmod t.Wj ((c.X1.length:Nat):Int))+((c.X1.length:Nat):Int))) (Wb pZ9) (X2 rfl) trivial),hR 13 rfl rfl (Yb (u1:=.int .i64 ((Int.tmod t.Wj ((c.X1.length:Nat):Int))+((c.X1.length:Nat):Int))) (u2:=.int .i64 ((c.X1.length:Nat):Int)) (v:=.int .i64 (((Int.tmod t.Wj ((c.X1.length:Nat):Int))+((c.X1.length:Nat):Int)) % ((c.X1.length:Nat):Int))) (b_remP (by omega) ‹_›) (X2 rfl) trivial)] pZ4 pZ4 pZ4 pZ4 pZ4 pZ4 ?_
   refine eN ⟨(Zug c t),(Zuf c t)⟩ ?_
   refine Xa (s':=⟨(Zub c t),(Zuf c t)⟩) (fun _ _ hG=>Yu [0,1,2] (bm 10 575) (t2:=(Zug c t)) (congrArg (fun (q1:Int)=>([(Zu6 c),(Zu7 t),pv 0 0,pv 1 0,pv 2 0,vI q1,aa,aa,aa,(Zua c)]:List AV)) (by exact (X43 (by omega)).1)) rfl hG) ?_
   exact nJ
  refine cF (dF hq1) (T.skip ?_)
  refine eN ⟨(Zuh c t),(Zuf c t)⟩ ?_
  refine Xa (s':=⟨(Zub c t),(Zuf c t)⟩) (fun _ _ hG=>Yu [0,1,2] (bm 10 575) (t2:=(Zuh c t)) (by have e1:((((ix9 c.X1 t.Wj):Nat):Int):Int)=0:=(by (rw [ix_09 (by omega)];rfl));have hE:=congrArg (fun (q1:Int)=>([(Zu6 c),(Zu7 t),pv 0 0,pv 1 0,pv 2 0,vI q1,aa,aa,aa,(Zua c)]:List AV)) e1;exact hE) rfl hG) ?_
  exact nJ
 refine sR [hR 0 rfl rfl (Y7 3 69 (X6 false) (Vh false) ([]:List Y6) [] (cs:=[]) Tryz.underlying41 Ik rfl X7k rfl rfl rfl pb W3 pZ4 (V2 pZ4) (X2 rfl) trivial),hR 3 rfl rfl (Yv 3 4 69 48 (X6 false) (Vh false) ([]:List Y6) c.X1 c.X1 ([]:List Y6).length (sy:=((Zty c))) (rhs:=[]) X56 (by omega) (Uv false false (X6 false) c.X1) (by simp) (by (simp [maxLen,-List.getD_eq_getElem?_getD]<;>omega)) (by (simp [maxLen,-List.getD_eq_getElem?_getD]<;>omega)) (X2 rfl) trivial)] ?_
 refine H5 (Zuk c t) ?_ ?_
 ·refine T.block ?_
  by_cases hq2:t.Wo=1
  ·refine sR (Xl (hY · (dT hq2)) [4,5,6,7] (hP 8 (dT hq2)::[])) ?_
   by_cases hq3:((c.X1.length:Nat):Int)>0
   ·have hbd:=Xcb (a:=t.Wj) (b:=((c.X1.length:Nat):Int)) (by omega);have hjl:=(X43 (l:=c.X1) (a:=t.Wj) (by omega)).2
    refine cT (dT hq3) ?_
    refine xD [[],[0],[],[0,1,2],[],[4],[],[6],[4,5,6,7],[0,1,2,3,4,5,6,7,8],[0,1,2,3,4,5,6,7,8,9],[0,1,2,3,4,5,6,7,8,9,10]] [hR 3 rfl rfl (Ft (lo0:=4) (sz:=(X6 false).sz) (off:=0) (n:=c.X1.length) (l:=0) (h:=(ix9 c.X1 t.Wj)) (off':=0) (n':=(ix9 c.X1 t.Wj)) (lo:=none) (hi:=some (.tmp 41,(((ix9 c.X1 t.Wj):Nat):Int))) Tryz.underlying41 Ik rfl rfl rfl rfl rfl (by omega) (by omega) (by omega) (by omega) (X2 rfl) trivial),hR 7 rfl rfl (Yb (u1:=.int .i64 (((ix9 c.X1 t.Wj):Nat):Int)) (u2:=.int .i64 1) (v:=.int .i64 (((ix9 c.X1 t.Wj)+1:Nat):Int)) (Wb pZ9) (X2 rfl) ⟨rfl,trivial⟩),hR 8 rfl rfl (Ft (lo0:=4) (sz:=(X6 false).sz) (off:=0) (n:=c.X1.length) (l:=((ix9 c.X1 t.Wj)+1)) (h:=c.X1.length) (off':=(ix9 c.X1 t.Wj)+1) (n':=(c.X1.length-((ix9 c.X1 t.Wj)+1))) (lo:=some (.tmp 46,(((ix9 c.X1 t.Wj)+1:Nat):Int))) (hi:=none) Tryz.underlying41 Ik rfl rfl rfl rfl rfl ‹_› (by omega) (by omega) (by omega) (X2 rfl) trivial),hR 9 rfl rfl (Yv 4 5 69 48 (X6 false) (Vh false) c.X1 ((c.X1.take ((ix9 c.X1 t.Wj)+1+c.X1.length-((ix9 c.X1 t.Wj)+1))).drop ((ix9 c.X1 t.Wj)+1)) ((c.X1.take (ix9 c.X1 t.Wj))++((c.X1.take ((ix9 c.X1 t.Wj)+1+c.X1.length-((ix9 c.X1 t.Wj)+1))).drop ((ix9 c.X1 t.Wj)+1))) (ix9 c.X1 t.Wj) (sy:=(.own 4 (X6 false).sz ((Zu8 c t)+1) (c.X1.length-((Zu8 c t)+1)))) (rhs:=[(4,(Zul c))]) X56 (by omega) (src_cut 4 69 (X6 false) c.X1 ((c.X1.take ((ix9 c.X1 t.Wj)+1+c.X1.length-((ix9 c.X1 t.Wj)+1))).drop ((ix9 c.X1 t.Wj)+1)) ((ix9 c.X1 t.Wj)+1) ((ix9 c.X1 t.Wj)+1+c.X1.length-((ix9 c.X1 t.Wj)+1)) (by omega) (by omega) (by rfl) (by (simp [maxLen,-List.getD_eq_getElem?_getD]<;>omega))) rfl (by (simp [maxLen,-List.getD_eq_getElem?_getD]<;>omega)) (by (simp [maxLen,-List.getD_eq_getElem?_getD]<;>omega)) (X2 rfl) trivial)] pZ4 pZ4 pZ4 pZ4 pZ4 pZ4 ?_
    refine nB ?_
    refine eN ⟨[(Zu6 c),(Zu7 t),pv 0 0,pv 1 0,pv 2 0,(Zu9 c t),aa,aa,aa,(Zua c),aa,aa,aa,aa,aa,aa,aa,aa,aa,aa,aa,aa,aa,aa,aa,aa,aa,aa,aa,(Zua c)],(Zum c t)⟩ ?_
    refine Xa (s':=⟨Zun,(Zum c t)⟩) (fun _ _ hG=>Wf [0,1,2,10,15,5] (bm 5 20) (t1:=Zun) (h1:=(Zum c t)) rfl rfl hG) ?_
    refine Xa (s':=⟨Zun,[(Zuo c t),(Zuc t),Zue,.dead,.dead,.dead]⟩) (fun _ _ hG=>Gs.freeze (s:=⟨Zun,(Zum c t)⟩) 5 (el:=W5 (X6 false) ((c.X1.take (ix9 c.X1 t.Wj))++((c.X1.take ((ix9 c.X1 t.Wj)+1+c.X1.length-((ix9 c.X1 t.Wj)+1))).drop ((ix9 c.X1 t.Wj)+1)))) (sz:=(X6 false).sz) (n:=((c.X1.take (ix9 c.X1 t.Wj))++((c.X1.take ((ix9 c.X1 t.Wj)+1+c.X1.length-((ix9 c.X1 t.Wj)+1))).drop ((ix9 c.X1 t.Wj)+1))).length) rfl ⟨.inl rfl,(kk4 trivial)⟩ ⟨pp,⟨pZ7,⟨pZ7,⟨pZ7,⟨pZ7,⟨(.inl ⟨rfl,rfl⟩),trivial⟩⟩⟩⟩⟩⟩ hG) ?_
    have hx9:=trn_1 (c:=c) (t:=t) (by omega) (by omega)
    refine Xa (s':=(Zuk c t)) (fun _ _ hG=>Wf [0,2] (bm 5 20) (h1:=(Zuj c t)) (h2:=[(Zuo c t),Zue]) (t1:=Zun) rfl (by have e1:((Yl c t).Xu:Int)=c.Xu:=pc;have e2:((Yl c t).Xi:List aE)=c.Xi:=pc;have e3:((Yl c t).Xd:List UInt8)=c.Xd:=pc;have e4:((Yl c t).X1:List Y6)=(c.X1.take (ix9 c.X1 t.Wj))++((c.X1.take ((ix9 c.X1 t.Wj)+1+c.X1.length-((ix9 c.X1 t.Wj)+1))).drop ((ix9 c.X1 t.Wj)+1)):=(by (rw [hx9,← cut9 hjl];done));have e5:((Yl c t).Vt:Int)=c.Vt:=pc;have e6:((Yl c t).Xm.f_Signer:Int)=c.Xm.f_Signer:=pc;have e7:((Yl c t).Xm.Xh:List UInt8)=c.Xm.Xh:=pc;have e8:((Yl c t).X3.Y0:Int)=c.X3.Y0:=pc;have e9:((Yl c t).X3.Xq:Int)=c.X3.Xq:=pc;have e10:((Yl c t).Yr:List Y1)=c.Yr:=pc;have hE:=congr pZ1 e10;exact hE) hG) ?_
    exact nJ
   refine cF (dF hq3) (sR [] ?_)
   by_cases hq4:t.Wo=2
   ·exact absurd hq4 (by omega)
   refine cF (dF hq4) (sR [] ?_)
   by_cases hq5:t.Wo=3
   ·exact absurd hq5 (by omega)
   refine cF (dF hq5) (sR [] ?_)
   by_cases hq6:t.Wo=4
   ·exact absurd hq6 (by omega)
   refine cF (dF hq6) ?_
   by_cases hq7:t.Wo=5
   ·exact absurd hq7 (by omega)
   refine sR (Xl (hN · true (dF hq7)) [4,5,6,7] (hP 8 (dF hq7)::[])) (cF (b:=false) rfl (sR [] ?_))
   by_cases hq8:t.Wo=6
   ·exact absurd hq8 (by omega)
   refine cF (dF hq8) (sR [] ?_)
   by_cases hq9:t.Wo=7
   ·exact absurd hq9 (by omega)
   refine cF (dF hq9) ?_
   by_cases hq10:t.Wo=8
   ·exact absurd hq10 (by omega)
   refine sR (Xl (hN · true (dF hq10)) [4,5,6,7] (hP 8 (dF hq10)::[])) (cF (b:=false) rfl ?_)
   by_cases hq11:t.Wo=9
   ·exact absurd hq11 (by omega)
   refine sR (Xl (hN · true (dF hq11)) [4,5,6,7] (hP 8 (dF hq11)::[])) (cF (b:=false) rfl (T.skip (nB ?_)))
   refine eN ⟨[(Zu6 c),(Zu7 t),pv 0 0,pv 1 0,pv 2 0,(Zu9 c t),aa,aa,aa,(Zua c),aa,aa,aa,aa,aa,aa,aa,aa,aa,aa,aa,aa,aa,aa,aa,aa,aa,aa,aa,(Zua c),aa,aa,aa,aa,aa,aa,aa,aa,aa,aa,aa,aa,aa,aa,aa,aa,aa,aa,aa,aa,(Zup t),aa,aa,aa,aa,aa,aa,aa,aa,aa,(Zuq t),aa,aa,aa,aa,aa,aa,aa,(Zur t),aa,aa,aa,aa,aa,aa,aa,vB false,aa,aa,aa,aa,aa,aa,aa,aa,aa,aa,aa,aa,aa,aa,aa,aa,aa,aa,(Zus t),aa,aa,aa,aa,aa,aa,aa,aa,aa,aa,(Zut t),aa,aa,aa,aa,aa,aa,aa,aa,aa,vB false,aa,aa,aa,aa,aa,aa,aa,aa,aa,aa,aa,aa,aa,vB false],(Zuw c t)⟩ ?_
   refine Xa (s':=(Zux c t)) (fun _ _ hG=>Wf [0,1,2,9,4] (bm 5 20) (t1:=Zun) (h1:=(Zuw c t)) rfl rfl hG) ?_
   refine Xa (s':=(Zuy c t)) (fun _ _ hG=>Gs.freeze (s:=(Zux c t)) 4 (el:=W5 (X6 false) c.X1) (sz:=(X6 false).sz) (n:=c.X1.length) rfl ⟨.inl rfl,(kk4 trivial)⟩ ⟨pp,⟨pZ7,⟨pZ7,⟨pZ7,⟨(.inl ⟨rfl,rfl⟩),trivial⟩⟩⟩⟩⟩ hG) ?_
   have hx9:=Xe2 (c:=c) (t:=t) (by omega) (by omega) (by omega) (by omega) (by omega) (by omega) (by omega) (by omega) (by omega)
   refine Xa (s':=(Zuk c t)) (fun _ _ hG=>Wf [0,2] (bm 5 20) (h1:=(Zuj c t)) (h2:=(Zuz c)) (t1:=Zun) rfl po hG) ?_
   exact nJ
  refine sR (Xl (hN · true (dF hq2)) [4,5,6,7] (hP 8 (dF hq2)::[])) (cF (b:=false) rfl (sR [] ?_))
  by_cases hq12:t.Wo=2
  ·refine cT (dT hq12) (xK [hR 3 rfl rfl (Yb (u1:=.int .i64 c.X3.Xq) (u2:=.int .i64 1) (v:=.int .i64 (c.X3.Xq+1)) (Wb pZ9) (X2 rfl) ⟨rfl,trivial⟩)] (nB ?_))
   refine eN ⟨[(Zu6 c),(Zu7 t),pv 0 0,pv 1 0,pv 2 0,(Zu9 c t),aa,aa,aa,(Zua c),aa,aa,aa,aa,aa,aa,aa,aa,aa,aa,aa,aa,aa,aa,aa,aa,aa,aa,aa,vB false,aa,aa,aa,aa,aa,aa,aa,aa,aa,aa,aa,aa,aa,aa,aa,aa,aa,aa,aa,aa,(Zup t)],(Zv0 c t)⟩ ?_
   refine Xa (s':=⟨Zun,(Zv0 c t)⟩) (fun _ _ hG=>Wf [0,1,2,9,4] (bm 5 20) (t1:=Zun) (h1:=(Zv0 c t)) rfl rfl hG) ?_
   refine Xa (s':=⟨Zun,[(Zv1 c),(Zuc t),Zue,.dead,.dead]⟩) (fun _ _ hG=>Gs.freeze (s:=⟨Zun,(Zv0 c t)⟩) 4 (el:=W5 (X6 false) c.X1) (sz:=(X6 false).sz) (n:=c.X1.length) rfl ⟨.inl rfl,(kk4 trivial)⟩ ⟨pp,⟨pZ7,⟨pZ7,⟨pZ7,⟨(.inl ⟨rfl,rfl⟩),trivial⟩⟩⟩⟩⟩ hG) ?_
   have hx9:=trn_2 (c:=c) (t:=t) (by omega)
   refine Xa (s':=(Zuk c t)) (fun _ _ hG=>Wf [0,2] (bm 5 20) (h1:=(Zuj c t)) (h2:=[(Zv1 c),Zue]) (t1:=Zun) rfl (by have e1:((Yl c t).Xu:Int)=c.Xu:=pc;have e2:((Yl c t).Xi:List aE)=c.Xi:=pc;have e3:((Yl c t).Xd:List UInt8)=c.Xd:=pc;have e4:((Yl c t).X1:List Y6)=c.X1:=pc;have e5:((Yl c t).Vt:Int)=c.Vt:=pc;have e6:((Yl c t).Xm.f_Signer:Int)=c.Xm.f_Signer:=pc;have e7:((Yl c t).Xm.Xh:List UInt8)=c.Xm.Xh:=pc;have e8:((Yl c t).X3.Y0:Int)=c.X3.Y0:=pc;have e9:((Yl c t).X3.Xq:Int)=c.X3.Xq+1:=pc;have e10:((Yl c t).Yr:List Y1)=c.Yr:=pc;have hE:=congr pZ1 e10;exact hE) hG) ?_
   exact nJ
  refine cF (dF hq12) (sR [] ?_)
  by_cases hq13:t.Wo=3
  ·refine cT (dT hq13) (xK [hR 2 rfl rfl (Yb (u1:=.int .i64 c.Vt) (u2:=.int .i64 1) (v:=.int .i64 (c.Vt+1)) (Wb pZ9) (X2 rfl) ⟨rfl,trivial⟩)] (nB ?_))
   refine eN ⟨[(Zu6 c),(Zu7 t),pv 0 0,pv 1 0,pv 2 0,(Zu9 c t),aa,aa,aa,(Zua c),aa,aa,aa,aa,aa,aa,aa,aa,aa,aa,aa,aa,aa,aa,aa,aa,aa,aa,aa,vB false,aa,aa,aa,aa,aa,aa,aa,aa,aa,aa,aa,aa,aa,aa,aa,aa,aa,aa,aa,aa,(Zup t),aa,aa,aa,aa,aa,aa,aa,aa,aa,(Zuq t)],(Zv2 c t)⟩ ?_
   refine Xa (s':=⟨Zun,(Zv2 c t)⟩) (fun _ _ hG=>Wf [0,1,2,9,4] (bm 5 20) (t1:=Zun) (h1:=(Zv2 c t)) rfl rfl hG) ?_
   refine Xa (s':=⟨Zun,[(Zv3 c),(Zuc t),Zue,.dead,.dead]⟩) (fun _ _ hG=>Gs.freeze (s:=⟨Zun,(Zv2 c t)⟩) 4 (el:=W5 (X6 false) c.X1) (sz:=(X6 false).sz) (n:=c.X1.length) rfl ⟨.inl rfl,(kk4 trivial)⟩ ⟨pp,⟨pZ7,⟨pZ7,⟨pZ7,⟨(.inl ⟨rfl,rfl⟩),trivial⟩⟩⟩⟩⟩ hG) ?_
   have hx9:=trn_3 (c:=c) (t:=t) (by omega)
   refine Xa (s':=(Zuk c t)) (fun _ _ hG=>Wf [0,2] (bm 5 20) (h1:=(Zuj c t)) (h2:=[(Zv3 c),Zue]) (t1:=Zun) rfl (by have e1:((Yl c t).Xu:Int)=c.Xu:=pc;have e2:((Yl c t).Xi:List aE)=c.Xi:=pc;have e3:((Yl c t).Xd:List UInt8)=c.Xd:=pc;have e4:((Yl c t).X1:List Y6)=c.X1:=pc;have e5:((Yl c t).Vt:Int)=c.Vt+1:=pc;have e6:((Yl c t).Xm.f_Signer:Int)=c.Xm.f_Signer:=pc;have e7:((Yl c t).Xm.Xh:List UInt8)=c.Xm.Xh:=pc;have e8:((Yl c t).X3.Y0:Int)=c.X3.Y0:=pc;have e9:((Yl c t).X3.Xq:Int)=c.X3.Xq:=pc;have e10:((Yl c t).Yr:List Y1)=c.Yr:=pc;have hE:=congr pZ1 e10;exact hE) hG) ?_
   exact nJ
  refine cF (dF hq13) (sR [] ?_)
  by_cases hq14:t.Wo=4
  ·refine cT (dT hq14) (xK [hR 2 rfl rfl (Yb (u1:=.int .i64 c.Xu) (u2:=.int .i64 1) (v:=.int .i64 (c.Xu+1)) (Wb pZ9) (X2 rfl) ⟨rfl,trivial⟩)] (nB ?_))
   refine eN ⟨[(Zu6 c),(Zu7 t),pv 0 0,pv 1 0,pv 2 0,(Zu9 c t),aa,aa,aa,(Zua c),aa,aa,aa,aa,aa,aa,aa,aa,aa,aa,aa,aa,aa,aa,aa,aa,aa,aa,aa,vB false,aa,aa,aa,aa,aa,aa,aa,aa,aa,aa,aa,aa,aa,aa,aa,aa,aa,aa,aa,aa,(Zup t),aa,aa,aa,aa,aa,aa,aa,aa,aa,(Zuq t),aa,aa,aa,aa,aa,aa,aa,(Zur t)],(Zv4 c t)⟩ ?_
   refine Xa (s':=⟨Zun,(Zv4 c t)⟩) (fun _ _ hG=>Wf [0,1,2,9,4] (bm 5 20) (t1:=Zun) (h1:=(Zv4 c t)) rfl rfl hG) ?_
   refine Xa (s':=⟨Zun,[(Zv5 c),(Zuc t),Zue,.dead,.dead]⟩) (fun _ _ hG=>Gs.freeze (s:=⟨Zun,(Zv4 c t)⟩) 4 (el:=W5 (X6 false) c.X1) (sz:=(X6 false).sz) (n:=c.X1.length) rfl ⟨.inl rfl,(kk4 trivial)⟩ ⟨pp,⟨pZ7,⟨pZ7,⟨pZ7,⟨(.inl ⟨rfl,rfl⟩),trivial⟩⟩⟩⟩⟩ hG) ?_
   have hx9:=trn_4 (c:=c) (t:=t) (by omega)
   refine Xa (s':=(Zuk c t)) (fun _ _ hG=>Wf [0,2] (bm 5 20) (h1:=(Zuj c t)) (h2:=[(Zv5 c),Zue]) (t1:=Zun) rfl (by have e1:((Yl c t).Xu:Int)=c.Xu+1:=pc;have e2:((Yl c t).Xi:List aE)=c.Xi:=pc;have e3:((Yl c t).Xd:List UInt8)=c.Xd:=pc;have e4:((Yl c t).X1:List Y6)=c.X1:=pc;have e5:((Yl c t).Vt:Int)=c.Vt:=pc;have e6:((Yl c t).Xm.f_Signer:Int)=c.Xm.f_Signer:=pc;have e7:((Yl c t).Xm.Xh:List UInt8)=c.Xm.Xh:=pc;have e8:((Yl c t).X3.Y0:Int)=c.X3.Y0:=pc;have e9:((Yl c t).X3.Xq:Int)=c.X3.Xq:=pc;have e10:((Yl c t).Yr:List Y1)=c.Yr:=pc;have hE:=congr pZ1 e10;exact hE) hG) ?_
   exact nJ
  refine cF (dF hq14) ?_
  by_cases hq15:t.Wo=5
  ·refine sR (Xl (hY · (dT hq15)) [4,5,6,7] (hP 8 (dT hq15)::[])) ?_
   by_cases hq16:((c.X1.length:Nat):Int)>0
   ·have hbd:=Xcb (a:=t.Wj) (b:=((c.X1.length:Nat):Int)) (by omega);have hjl:=(X43 (l:=c.X1) (a:=t.Wj) (by omega)).2
    refine cT (dT hq16) ?_
    refine xR [hR 3 rfl rfl (Ww (k:=.i64) (l:=4) (sz:=(X6 false).sz) (off:=0) (n:=c.X1.length) (i:=(((ix9 c.X1 t.Wj):Nat):Int)) (m:=(ix9 c.X1 t.Wj)) (o':=(ix9 c.X1 t.Wj)*(X6 false).sz+0) Tryz.underlying41 Ik rfl rfl ‹_› (by simp) (X2 rfl) trivial),hR 5 rfl rfl (Jo (l:=4) (off:=(ix9 c.X1 t.Wj)*(X6 false).sz+1) (i:=(ix9 c.X1 t.Wj)) (j:=1) (T:=69) (sz:=(X6 false).sz) (n:=c.X1.length) (el:=W5 (X6 false) c.X1) (c:=.val (Yn (c.X1.getD (Zu8 c t) Xg).Xy)) X2l rfl ‹_› (by decide) rfl (X2 rfl) trivial),hR 6 rfl rfl (Yb (u1:=Yn (c.X1.getD (ix9 c.X1 t.Wj) Xg).Xy) (u2:=Yn [120]) (v:=Yn ((c.X1.getD (ix9 c.X1 t.Wj) Xg).Xy++[120])) (b_addS (a:=(c.X1.getD (ix9 c.X1 t.Wj) Xg).Xy) (b:=[120]) (by (simp [maxLen,-List.getD_eq_getElem?_getD]<;>omega))) (X2 rfl) ⟨rfl,trivial⟩),hR 7 rfl rfl (Ww (k:=.i64) (l:=4) (sz:=(X6 false).sz) (off:=0) (n:=c.X1.length) (i:=(((ix9 c.X1 t.Wj):Nat):Int)) (m:=(ix9 c.X1 t.Wj)) (o':=(ix9 c.X1 t.Wj)*(X6 false).sz+0) Tryz.underlying41 Ik rfl rfl ‹_› (by simp) (X2 rfl) trivial),hR 9 rfl rfl (Hj 4 69 (X6 false) c.X1 (Y6.mk (c.X1.getD (ix9 c.X1 t.Wj) Xg).X9 ((c.X1.getD (ix9 c.X1 t.Wj) Xg).Xy++[120]) (c.X1.getD (ix9 c.X1 t.Wj) Xg).Ye (c.X1.getD (ix9 c.X1 t.Wj) Xg).W4) (ix9 c.X1 t.Wj) 1 1 [.val (Yn ((c.X1.getD (Zu8 c t) Xg).Xy++[120]))] (tv:=.one (dS ((c.X1.getD (Zu8 c t) Xg).Xy++[120]))) (off:=(ix9 c.X1 t.Wj)*(X6 false).sz+1) cells_60 ⟨.inl rfl,trivial⟩ rfl rfl ‹_› (by decide) rfl (by intro j hj;replace hj:j<4:=hj;rcases j with _|_|_|_|j<;>rfl) trivial)] pZ4 pZ4 ?_
    refine nB ?_
    refine eN ⟨[(Zu6 c),(Zu7 t),pv 0 0,pv 1 0,pv 2 0,(Zu9 c t),aa,aa,aa,(Zua c),aa,aa,aa,aa,aa,aa,aa,aa,aa,aa,aa,aa,aa,aa,aa,aa,aa,aa,aa,vB false,aa,aa,aa,aa,aa,aa,aa,aa,aa,aa,aa,aa,aa,aa,aa,aa,aa,aa,aa,aa,(Zup t),aa,aa,aa,aa,aa,aa,aa,aa,aa,(Zuq t),aa,aa,aa,aa,aa,aa,aa,(Zur t),aa,aa,aa,aa,aa,aa,aa,(Zua c)],(Zv8 c t)⟩ ?_
    refine Xa (s':=⟨Zun,(Zv8 c t)⟩) (fun _ _ hG=>Wf [0,1,2,9,4] (bm 5 20) (t1:=Zun) (h1:=(Zv8 c t)) rfl rfl hG) ?_
    refine Xa (s':=⟨Zun,(Zv9 c t)⟩) (fun _ _ hG=>Wf [0,1,2,9,4] (bm 5 20) (h1:=(Zv9 c t)) (h2:=(Zv8 c t)) (t1:=Zun) rfl (by have e1:((c.X1.set (ix9 c.X1 t.Wj) (Y6.mk (c.X1.getD (ix9 c.X1 t.Wj) Xg).X9 ((c.X1.getD (ix9 c.X1 t.Wj) Xg).Xy++[120]) (c.X1.getD (ix9 c.X1 t.Wj) Xg).Ye (c.X1.getD (ix9 c.X1 t.Wj) Xg).W4)).length:Nat)=c.X1.length:=(by (simp only [List.length_append,List.length_take,List.length_drop,List.length_set];done));have hE:=congrArg (fun (q1:Nat)=>([.live (.box 49 [(Ztv c),(Ztw c),(Ztx c),.own 4 (X6 false).sz 0 q1,(Ztz c),(Zu0 c),(Zu1 c),(Zu2 c),(Zu3 c),(Zu4 c)]),(Zuc t),Zue,.dead,(Zv7 c t)]:List HS)) e1;exact hE) hG) ?_
    refine Xa (s':=⟨Zun,[(Zva c t),(Zuc t),Zue,.dead,.dead]⟩) (fun _ _ hG=>Gs.freeze (s:=⟨Zun,(Zv9 c t)⟩) 4 (el:=W5 (X6 false) (c.X1.set (ix9 c.X1 t.Wj) (Y6.mk (c.X1.getD (ix9 c.X1 t.Wj) Xg).X9 ((c.X1.getD (ix9 c.X1 t.Wj) Xg).Xy++[120]) (c.X1.getD (ix9 c.X1 t.Wj) Xg).Ye (c.X1.getD (ix9 c.X1 t.Wj) Xg).W4))) (sz:=(X6 false).sz) (n:=(c.X1.set (ix9 c.X1 t.Wj) (Y6.mk (c.X1.getD (ix9 c.X1 t.Wj) Xg).X9 ((c.X1.getD (ix9 c.X1 t.Wj) Xg).Xy++[120]) (c.X1.getD (ix9 c.X1 t.Wj) Xg).Ye (c.X1.getD (ix9 c.X1 t.Wj) Xg).W4)).length) rfl ⟨.inl rfl,(kk4 trivial)⟩ ⟨pp,⟨pZ7,⟨pZ7,⟨pZ7,⟨(.inl ⟨rfl,rfl⟩),trivial⟩⟩⟩⟩⟩ hG) ?_
    have hx9:=trn_5 (c:=c) (t:=t) (by omega) (by omega)
    refine Xa (s':=(Zuk c t)) (fun _ _ hG=>Wf [0,2] (bm 5 20) (h1:=(Zuj c t)) (h2:=[(Zva c t),Zue]) (t1:=Zun) rfl (by have e1:((Yl c t).Xu:Int)=c.Xu:=pc;have e2:((Yl c t).Xi:List aE)=c.Xi:=pc;have e3:((Yl c t).Xd:List UInt8)=c.Xd:=pc;have e4:((Yl c t).X1:List Y6)=(c.X1.set (ix9 c.X1 t.Wj) (Y6.mk (c.X1.getD (ix9 c.X1 t.Wj) Xg).X9 ((c.X1.getD (ix9 c.X1 t.Wj) Xg).Xy++[120]) (c.X1.getD (ix9 c.X1 t.Wj) Xg).Ye (c.X1.getD (ix9 c.X1 t.Wj) Xg).W4)):=(by (rw [hx9];rfl));have e5:((Yl c t).Vt:Int)=c.Vt:=pc;have e6:((Yl c t).Xm.f_Signer:Int)=c.Xm.f_Signer:=pc;have e7:((Yl c t).Xm.Xh:List UInt8)=c.Xm.Xh:=pc;have e8:((Yl c t).X3.Y0:Int)=c.X3.Y0:=pc;have e9:((Yl c t).X3.Xq:Int)=c.X3.Xq:=pc;have e10:((Yl c t).Yr:List Y1)=c.Yr:=pc;have hE:=congr pZ1 e10;exact hE) hG) ?_
    exact nJ
   refine cF (dF hq16) (sR [] ?_)
   by_cases hq17:t.Wo=6
   ·exact absurd hq17 (by omega)
   refine cF (dF hq17) (sR [] ?_)
   by_cases hq18:t.Wo=7
   ·exact absurd hq18 (by omega)
   refine cF (dF hq18) ?_
   by_cases hq19:t.Wo=8
   ·exact absurd hq19 (by omega)
   refine sR (Xl (hN · true (dF hq19)) [4,5,6,7] (hP 8 (dF hq19)::[])) (cF (b:=false) rfl ?_)
   by_cases hq20:t.Wo=9
   ·exact absurd hq20 (by omega)
   refine sR (Xl (hN · true (dF hq20)) [4,5,6,7] (hP 8 (dF hq20)::[])) (cF (b:=false) rfl (T.skip (nB ?_)))
   refine eN ⟨[(Zu6 c),(Zu7 t),pv 0 0,pv 1 0,pv 2 0,(Zu9 c t),aa,aa,aa,(Zua c),aa,aa,aa,aa,aa,aa,aa,aa,aa,aa,aa,aa,aa,aa,aa,aa,aa,aa,aa,vB false,aa,aa,aa,aa,aa,aa,aa,aa,aa,aa,aa,aa,aa,aa,aa,aa,aa,aa,aa,aa,(Zup t),aa,aa,aa,aa,aa,aa,aa,aa,aa,(Zuq t),aa,aa,aa,aa,aa,aa,aa,(Zur t),aa,aa,aa,aa,aa,aa,aa,(Zua c),aa,aa,aa,aa,aa,aa,aa,aa,aa,aa,aa,aa,aa,aa,aa,aa,aa,aa,(Zus t),aa,aa,aa,aa,aa,aa,aa,aa,aa,aa,(Zut t),aa,aa,aa,aa,aa,aa,aa,aa,aa,vB false,aa,aa,aa,aa,aa,aa,aa,aa,aa,aa,aa,aa,aa,vB false],(Zuw c t)⟩ ?_
   refine Xa (s':=(Zux c t)) (fun _ _ hG=>Wf [0,1,2,9,4] (bm 5 20) (t1:=Zun) (h1:=(Zuw c t)) rfl rfl hG) ?_
   refine Xa (s':=(Zuy c t)) (fun _ _ hG=>Gs.freeze (s:=(Zux c t)) 4 (el:=W5 (X6 false) c.X1) (sz:=(X6 false).sz) (n:=c.X1.length) rfl ⟨.inl rfl,(kk4 trivial)⟩ ⟨pp,⟨pZ7,⟨pZ7,⟨pZ7,⟨(.inl ⟨rfl,rfl⟩),trivial⟩⟩⟩⟩⟩ hG) ?_
   have hx9:=Xe2 (c:=c) (t:=t) (by omega) (by omega) (by omega) (by omega) (by omega) (by omega) (by omega) (by omega) (by omega)
   refine Xa (s':=(Zuk c t)) (fun _ _ hG=>Wf [0,2] (bm 5 20) (h1:=(Zuj c t)) (h2:=(Zuz c)) (t1:=Zun) rfl po hG) ?_
   exact nJ
  refine sR (Xl (hN · true (dF hq15)) [4,5,6,7] (hP 8 (dF hq15)::[])) (cF (b:=false) rfl (sR [] ?_))
  by_cases hq21:t.Wo=6
  ·refine cT (dT hq21) ?_
   refine xR [hR 0 rfl rfl (Y7 5 5 kU8 Vk ([]:List UInt8) [] (cs:=[]) Tryz.underlying25 Jh rfl Iu rfl rfl rfl pb W3 pZ4 (V2 pZ4) (X2 rfl) trivial),hR 3 rfl rfl (Yv 5 6 5 1 kU8 Vk ([]:List UInt8) c.Xd c.Xd ([]:List UInt8).length (sy:=((Ztx c))) (rhs:=[]) Jb (by omega) (Uv false false kU8 c.Xd) (by simp) (by (simp [maxLen,-List.getD_eq_getElem?_getD]<;>omega)) (by (simp [maxLen,-List.getD_eq_getElem?_getD]<;>omega)) (X2 rfl) trivial),hR 4 rfl rfl (Y7 7 5 kU8 Vk [(0:UInt8)] [⟨0,.const (.int .u8 0),.one (.d (.val (.int .u8 0))),0⟩] (cs:=[.d (.val (.int .u8 0))]) Tryz.underlying25 Jh rfl Iu rfl rfl rfl pb (Ym rfl rfl pb W3) pZ4 (V2 pZ4) (X2 rfl) ⟨rfl,trivial⟩),hR 5 rfl rfl (Yv 6 8 5 1 kU8 Vk c.Xd [(0:UInt8)] (c.Xd++[(0:UInt8)]) c.Xd.length (sy:=(.own 7 kU8.sz 0 [(0:UInt8)].length)) (rhs:=[(7,Zvb)]) Jb (by omega) (V0 7 5 kU8 [(0:UInt8)]) px (by (simp [maxLen,-List.getD_eq_getElem?_getD]<;>omega)) (by (simp [maxLen,-List.getD_eq_getElem?_getD]<;>omega)) (X2 rfl) trivial)] pZ4 pZ4 ?_
   refine nB ?_
   refine eN ⟨[(Zu6 c),(Zu7 t),pv 0 0,pv 1 0,pv 2 0,(Zu9 c t),aa,aa,aa,(Zua c),aa,aa,aa,aa,aa,aa,aa,aa,aa,aa,aa,aa,aa,aa,aa,aa,aa,aa,aa,vB false,aa,aa,aa,aa,aa,aa,aa,aa,aa,aa,aa,aa,aa,aa,aa,aa,aa,aa,aa,aa,(Zup t),aa,aa,aa,aa,aa,aa,aa,aa,aa,(Zuq t),aa,aa,aa,aa,aa,aa,aa,(Zur t),aa,aa,aa,aa,aa,aa,aa,vB false,aa,aa,aa,aa,aa,aa,aa,aa,aa,aa,aa,aa,aa,aa,aa,aa,aa,aa,(Zus t)],(Zvc c t)⟩ ?_
   refine Xa (s':=⟨Zun,(Zvc c t)⟩) (fun _ _ hG=>Wf [0,1,2,13,4,19,26,7,8] (bm 5 20) (t1:=Zun) (h1:=(Zvc c t)) rfl rfl hG) ?_
   refine Xa (s':=(Zvd c t)) (fun _ _ hG=>Gs.freeze (s:=⟨Zun,(Zvc c t)⟩) 8 (el:=W5 kU8 (c.Xd++[(0:UInt8)])) (sz:=kU8.sz) (n:=(c.Xd++[(0:UInt8)]).length) rfl ⟨.inl rfl,(kk4 trivial)⟩ ⟨p32,⟨pZ7,⟨pZ7,⟨pZ7,⟨pZ7,⟨pZ7,⟨pZ7,⟨pZ7,⟨(.inl ⟨rfl,rfl⟩),trivial⟩⟩⟩⟩⟩⟩⟩⟩⟩ hG) ?_
   refine Xa (s':=⟨Zun,[(Zve c),(Zuc t),Zue,.dead,.dead,.dead,.dead,Zvb,.dead]⟩) (fun _ _ hG=>Gs.freeze (s:=(Zvd c t)) 4 (el:=W5 (X6 false) c.X1) (sz:=(X6 false).sz) (n:=c.X1.length) rfl ⟨.inl rfl,(kk4 trivial)⟩ ⟨pp,⟨pZ7,⟨pZ7,⟨pZ7,⟨(.inl ⟨rfl,rfl⟩),⟨pZ7,⟨pZ7,⟨pZ7,⟨pZ7,trivial⟩⟩⟩⟩⟩⟩⟩⟩⟩ hG) ?_
   have hx9:=trn_6 (c:=c) (t:=t) (by omega)
   refine Xa (s':=(Zuk c t)) (fun _ _ hG=>Wf [0,2] (bm 5 20) (h1:=(Zuj c t)) (h2:=[(Zve c),Zue]) (t1:=Zun) rfl (by have e1:((Yl c t).Xu:Int)=c.Xu:=pc;have e2:((Yl c t).Xi:List aE)=c.Xi:=pc;have e3:((Yl c t).Xd:List UInt8)=c.Xd++[(0:UInt8)]:=pc;have e4:((Yl c t).X1:List Y6)=c.X1:=pc;have e5:((Yl c t).Vt:Int)=c.Vt:=pc;have e6:((Yl c t).Xm.f_Signer:Int)=c.Xm.f_Signer:=pc;have e7:((Yl c t).Xm.Xh:List UInt8)=c.Xm.Xh:=pc;have e8:((Yl c t).X3.Y0:Int)=c.X3.Y0:=pc;have e9:((Yl c t).X3.Xq:Int)=c.X3.Xq:=pc;have e10:((Yl c t).Yr:List Y1)=c.Yr:=pc;have hE:=congr pZ1 e10;exact hE) hG) ?_
   exact nJ
  refine cF (dF hq21) (sR [] ?_)
  by_cases hq22:t.Wo=7
  ·refine cT (dT hq22) (xK [hR 3 rfl rfl (Yb (u1:=.int .i64 c.Xm.f_Signer) (u2:=.int .i64 1) (v:=.int .i64 (c.Xm.f_Signer+1)) (Wb pZ9) (X2 rfl) ⟨rfl,trivial⟩)] (nB ?_))
   refine eN ⟨[(Zu6 c),(Zu7 t),pv 0 0,pv 1 0,pv 2 0,(Zu9 c t),aa,aa,aa,(Zua c),aa,aa,aa,aa,aa,aa,aa,aa,aa,aa,aa,aa,aa,aa,aa,aa,aa,aa,aa,vB false,aa,aa,aa,aa,aa,aa,aa,aa,aa,aa,aa,aa,aa,aa,aa,aa,aa,aa,aa,aa,(Zup t),aa,aa,aa,aa,aa,aa,aa,aa,aa,(Zuq t),aa,aa,aa,aa,aa,aa,aa,(Zur t),aa,aa,aa,aa,aa,aa,aa,vB false,aa,aa,aa,aa,aa,aa,aa,aa,aa,aa,aa,aa,aa,aa,aa,aa,aa,aa,(Zus t),aa,aa,aa,aa,aa,aa,aa,aa,aa,aa,(Zut t)],(Zvf c t)⟩ ?_
   refine Xa (s':=⟨Zun,(Zvf c t)⟩) (fun _ _ hG=>Wf [0,1,2,9,4] (bm 5 20) (t1:=Zun) (h1:=(Zvf c t)) rfl rfl hG) ?_
   refine Xa (s':=⟨Zun,[(Zvg c),(Zuc t),Zue,.dead,.dead]⟩) (fun _ _ hG=>Gs.freeze (s:=⟨Zun,(Zvf c t)⟩) 4 (el:=W5 (X6 false) c.X1) (sz:=(X6 false).sz) (n:=c.X1.length) rfl ⟨.inl rfl,(kk4 trivial)⟩ ⟨pp,⟨pZ7,⟨pZ7,⟨pZ7,⟨(.inl ⟨rfl,rfl⟩),trivial⟩⟩⟩⟩⟩ hG) ?_
   have hx9:=trn_7 (c:=c) (t:=t) (by omega)
   refine Xa (s':=(Zuk c t)) (fun _ _ hG=>Wf [0,2] (bm 5 20) (h1:=(Zuj c t)) (h2:=[(Zvg c),Zue]) (t1:=Zun) rfl (by have e1:((Yl c t).Xu:Int)=c.Xu:=pc;have e2:((Yl c t).Xi:List aE)=c.Xi:=pc;have e3:((Yl c t).Xd:List UInt8)=c.Xd:=pc;have e4:((Yl c t).X1:List Y6)=c.X1:=pc;have e5:((Yl c t).Vt:Int)=c.Vt:=pc;have e6:((Yl c t).Xm.f_Signer:Int)=c.Xm.f_Signer+1:=pc;have e7:((Yl c t).Xm.Xh:List UInt8)=c.Xm.Xh:=pc;have e8:((Yl c t).X3.Y0:Int)=c.X3.Y0:=pc;have e9:((Yl c t).X3.Xq:Int)=c.X3.Xq:=pc;have e10:((Yl c t).Yr:List Y1)=c.Yr:=pc;have hE:=congr pZ1 e10;exact hE) hG) ?_
   exact nJ
  refine cF (dF hq22) ?_
  by_cases hq23:t.Wo=8
  ·refine sR (Xl (hY · (dT hq23)) [4,5,6,7] (hP 8 (dT hq23)::[])) ?_
   by_cases hq24:((c.Yr.length:Nat):Int)>0
   ·refine cT (dT hq24) (xK [hR 2 rfl rfl (U1 false false (X8 false) c.Yr (c.Yr.drop 1) 1 c.Yr.length (lo:=some (.const (.int .i64 1),1)) (hi:=none) Tryz.underlying47 I9 rfl rfl rfl rfl rfl (by omega) (by omega) px (X2 rfl) ⟨rfl,trivial⟩)] (nB ?_))
    refine eN ⟨[(Zu6 c),(Zu7 t),pv 0 0,pv 1 0,pv 2 0,(Zu9 c t),aa,aa,aa,(Zua c),aa,aa,aa,aa,aa,aa,aa,aa,aa,aa,aa,aa,aa,aa,aa,aa,aa,aa,aa,vB false,aa,aa,aa,aa,aa,aa,aa,aa,aa,aa,aa,aa,aa,aa,aa,aa,aa,aa,aa,aa,(Zup t),aa,aa,aa,aa,aa,aa,aa,aa,aa,(Zuq t),aa,aa,aa,aa,aa,aa,aa,(Zur t),aa,aa,aa,aa,aa,aa,aa,vB false,aa,aa,aa,aa,aa,aa,aa,aa,aa,aa,aa,aa,aa,aa,aa,aa,aa,aa,(Zus t),aa,aa,aa,aa,aa,aa,aa,aa,aa,aa,(Zut t),aa,aa,aa,aa,aa,aa,aa,aa,aa,vB (decide (((c.Yr.length:Nat):Int)>0))],(Zvh c t)⟩ ?_
    refine Xa (s':=⟨Zun,(Zvh c t)⟩) (fun _ _ hG=>Wf [0,1,2,9,4] (bm 5 20) (t1:=Zun) (h1:=(Zvh c t)) rfl rfl hG) ?_
    refine Xa (s':=⟨Zun,[(Zvi c),(Zuc t),Zue,.dead,.dead]⟩) (fun _ _ hG=>Gs.freeze (s:=⟨Zun,(Zvh c t)⟩) 4 (el:=W5 (X6 false) c.X1) (sz:=(X6 false).sz) (n:=c.X1.length) rfl ⟨.inl rfl,(kk4 trivial)⟩ ⟨pp,⟨pZ7,⟨pZ7,⟨pZ7,⟨(.inl ⟨rfl,rfl⟩),trivial⟩⟩⟩⟩⟩ hG) ?_
    have hx9:=trn_8 (c:=c) (t:=t) (by omega) (by omega)
    refine Xa (s':=(Zuk c t)) (fun _ _ hG=>Wf [0,2] (bm 5 20) (h1:=(Zuj c t)) (h2:=[(Zvi c),Zue]) (t1:=Zun) rfl (by have e1:((Yl c t).Xu:Int)=c.Xu:=pc;have e2:((Yl c t).Xi:List aE)=c.Xi:=pc;have e3:((Yl c t).Xd:List UInt8)=c.Xd:=pc;have e4:((Yl c t).X1:List Y6)=c.X1:=pc;have e5:((Yl c t).Vt:Int)=c.Vt:=pc;have e6:((Yl c t).Xm.f_Signer:Int)=c.Xm.f_Signer:=pc;have e7:((Yl c t).Xm.Xh:List UInt8)=c.Xm.Xh:=pc;have e8:((Yl c t).X3.Y0:Int)=c.X3.Y0:=pc;have e9:((Yl c t).X3.Xq:Int)=c.X3.Xq:=pc;have e10:((Yl c t).Yr:List Y1)=(c.Yr.drop 1):=pc;have hE:=congr pZ1 e10;exact hE) hG) ?_
    exact nJ
   refine cF (dF hq24) ?_
   by_cases hq25:t.Wo=9
   ·exact absurd hq25 (by omega)
   refine sR (Xl (hN · true (dF hq25)) [4,5,6,7] (hP 8 (dF hq25)::[])) (cF (b:=false) rfl (T.skip (nB ?_)))
   refine eN ⟨[(Zu6 c),(Zu7 t),pv 0 0,pv 1 0,pv 2 0,(Zu9 c t),aa,aa,aa,(Zua c),aa,aa,aa,aa,aa,aa,aa,aa,aa,aa,aa,aa,aa,aa,aa,aa,aa,aa,aa,vB false,aa,aa,aa,aa,aa,aa,aa,aa,aa,aa,aa,aa,aa,aa,aa,aa,aa,aa,aa,aa,(Zup t),aa,aa,aa,aa,aa,aa,aa,aa,aa,(Zuq t),aa,aa,aa,aa,aa,aa,aa,(Zur t),aa,aa,aa,aa,aa,aa,aa,vB false,aa,aa,aa,aa,aa,aa,aa,aa,aa,aa,aa,aa,aa,aa,aa,aa,aa,aa,(Zus t),aa,aa,aa,aa,aa,aa,aa,aa,aa,aa,(Zut t),aa,aa,aa,aa,aa,aa,aa,aa,aa,vB (decide (((c.Yr.length:Nat):Int)>0)),aa,aa,aa,aa,aa,aa,aa,aa,aa,aa,aa,aa,aa,vB false],(Zuw c t)⟩ ?_
   refine Xa (s':=(Zux c t)) (fun _ _ hG=>Wf [0,1,2,9,4] (bm 5 20) (t1:=Zun) (h1:=(Zuw c t)) rfl rfl hG) ?_
   refine Xa (s':=(Zuy c t)) (fun _ _ hG=>Gs.freeze (s:=(Zux c t)) 4 (el:=W5 (X6 false) c.X1) (sz:=(X6 false).sz) (n:=c.X1.length) rfl ⟨.inl rfl,(kk4 trivial)⟩ ⟨pp,⟨pZ7,⟨pZ7,⟨pZ7,⟨(.inl ⟨rfl,rfl⟩),trivial⟩⟩⟩⟩⟩ hG) ?_
   have hx9:=Xe2 (c:=c) (t:=t) (by omega) (by omega) (by omega) (by omega) (by omega) (by omega) (by omega) (by omega) (by omega)
   refine Xa (s':=(Zuk c t)) (fun _ _ hG=>Wf [0,2] (bm 5 20) (h1:=(Zuj c t)) (h2:=(Zuz c)) (t1:=Zun) rfl po hG) ?_
   exact nJ
  refine sR (Xl (hN · true (dF hq23)) [4,5,6,7] (hP 8 (dF hq23)::[])) (cF (b:=false) rfl ?_)
  by_cases hq26:t.Wo=9
  ·refine sR (Xl (hY · (dT hq26)) [4,5,6,7] (hP 8 (dT hq26)::[])) ?_
   by_cases hq27:((c.Xi.length:Nat):Int)>0
   ·refine cT (dT hq27) (xK [hR 2 rfl rfl (U1 false false (kE false) c.Xi (c.Xi.drop 1) 1 c.Xi.length (lo:=some (.const (.int .i64 1),1)) (hi:=none) Tryz.underlying37 Vv rfl rfl rfl rfl rfl (by omega) (by omega) px (X2 rfl) ⟨rfl,trivial⟩)] (nB ?_))
    refine eN ⟨(Zvj c t),(Zvk c t)⟩ ?_
    refine Xa (s':=⟨Zun,(Zvk c t)⟩) (fun _ _ hG=>Wf [0,1,2,9,4] (bm 5 20) (t1:=Zun) (h1:=(Zvk c t)) rfl rfl hG) ?_
    refine Xa (s':=⟨Zun,[(Zvl c),(Zuc t),Zue,.dead,.dead]⟩) (fun _ _ hG=>Gs.freeze (s:=⟨Zun,(Zvk c t)⟩) 4 (el:=W5 (X6 false) c.X1) (sz:=(X6 false).sz) (n:=c.X1.length) rfl ⟨.inl rfl,(kk4 trivial)⟩ ⟨pp,⟨pZ7,⟨pZ7,⟨pZ7,⟨(.inl ⟨rfl,rfl⟩),trivial⟩⟩⟩⟩⟩ hG) ?_
    have hx9:=trn_9 (c:=c) (t:=t) (by omega) (by omega)
    refine Xa (s':=(Zuk c t)) (fun _ _ hG=>Wf [0,2] (bm 5 20) (h1:=(Zuj c t)) (h2:=[(Zvl c),Zue]) (t1:=Zun) rfl (by have e1:((Yl c t).Xu:Int)=c.Xu:=pc;have e2:((Yl c t).Xi:List aE)=(c.Xi.drop 1):=pc;have e3:((Yl c t).Xd:List UInt8)=c.Xd:=pc;have e4:((Yl c t).X1:List Y6)=c.X1:=pc;have e5:((Yl c t).Vt:Int)=c.Vt:=pc;have e6:((Yl c t).Xm.f_Signer:Int)=c.Xm.f_Signer:=pc;have e7:((Yl c t).Xm.Xh:List UInt8)=c.Xm.Xh:=pc;have e8:((Yl c t).X3.Y0:Int)=c.X3.Y0:=pc;have e9:((Yl c t).X3.Xq:Int)=c.X3.Xq:=pc;have e10:((Yl c t).Yr:List Y1)=c.Yr:=pc;have hE:=congr pZ1 e10;exact hE) hG) ?_
    exact nJ
   refine cF (dF hq27) (T.skip (nB ?_))
   refine eN ⟨(Zvj c t),(Zuw c t)⟩ ?_
   refine Xa (s':=(Zux c t)) (fun _ _ hG=>Wf [0,1,2,9,4] (bm 5 20) (t1:=Zun) (h1:=(Zuw c t)) rfl rfl hG) ?_
   refine Xa (s':=(Zuy c t)) (fun _ _ hG=>Gs.freeze (s:=(Zux c t)) 4 (el:=W5 (X6 false) c.X1) (sz:=(X6 false).sz) (n:=c.X1.length) rfl ⟨.inl rfl,(kk4 trivial)⟩ ⟨pp,⟨pZ7,⟨pZ7,⟨pZ7,⟨(.inl ⟨rfl,rfl⟩),trivial⟩⟩⟩⟩⟩ hG) ?_
   have hx9:=Xe2 (c:=c) (t:=t) (by omega) (by omega) (by omega) (by omega) (by omega) (by omega) (by omega) (by omega) (by omega)
   refine Xa (s':=(Zuk c t)) (fun _ _ hG=>Wf [0,2] (bm 5 20) (h1:=(Zuj c t)) (h2:=(Zuz c)) (t1:=Zun) rfl po hG) ?_
   exact nJ
  refine sR (Xl (hN · true (dF hq26)) [4,5,6,7] (hP 8 (dF hq26)::[])) (cF (b:=false) rfl (T.skip (nB ?_)))
  refine eN ⟨[(Zu6 c),(Zu7 t),pv 0 0,pv 1 0,pv 2 0,(Zu9 c t),aa,aa,aa,(Zua c),aa,aa,aa,aa,aa,aa,aa,aa,aa,aa,aa,aa,aa,aa,aa,aa,aa,aa,aa,vB false,aa,aa,aa,aa,aa,aa,aa,aa,aa,aa,aa,aa,aa,aa,aa,aa,aa,aa,aa,aa,(Zup t),aa,aa,aa,aa,aa,aa,aa,aa,aa,(Zuq t),aa,aa,aa,aa,aa,aa,aa,(Zur t),aa,aa,aa,aa,aa,aa,aa,vB false,aa,aa,aa,aa,aa,aa,aa,aa,aa,aa,aa,aa,aa,aa,aa,aa,aa,aa,(Zus t),aa,aa,aa,aa,aa,aa,aa,aa,aa,aa,(Zut t),aa,aa,aa,aa,aa,aa,aa,aa,aa,vB false,aa,aa,aa,aa,aa,aa,aa,aa,aa,aa,aa,aa,aa,vB false],(Zuw c t)⟩ ?_
  refine Xa (s':=(Zux c t)) (fun _ _ hG=>Wf [0,1,2,9,4] (bm 5 20) (t1:=Zun) (h1:=(Zuw c t)) rfl rfl hG) ?_
  refine Xa (s':=(Zuy c t)) (fun _ _ hG=>Gs.freeze (s:=(Zux c t)) 4 (el:=W5 (X6 false) c.X1) (sz:=(X6 false).sz) (n:=c.X1.length) rfl ⟨.inl rfl,(kk4 trivial)⟩ ⟨pp,⟨pZ7,⟨pZ7,⟨pZ7,⟨(.inl ⟨rfl,rfl⟩),trivial⟩⟩⟩⟩⟩ hG) ?_
  have hx9:=Xe2 (c:=c) (t:=t) (by omega) (by omega) (by omega) (by omega) (by omega) (by omega) (by omega) (by omega) (by omega)
  refine Xa (s':=(Zuk c t)) (fun _ _ hG=>Wf [0,2] (bm 5 20) (h1:=(Zuj c t)) (h2:=(Zuz c)) (t1:=Zun) rfl po hG) ?_
  exact nJ
 refine sR [] (T.ret ?_)
 exact eX [.c 4 1 49 0 49 [dI (Yl c t).Xu,.d (dsl false false (kE false) (Yl c t).Xi),dU (Yl c t).Xd,.d (dsl false false (X6 false) (Yl c t).X1),dI (Yl c t).Vt,dI (Yl c t).Xm.f_Signer,dU (Yl c t).Xm.Xh,dI (Yl c t).X3.Y0,dI (Yl c t).X3.Xq,.d (dsl false false (X8 false) (Yl c t).Yr)] (.agg (Zui c t))] ⟨⟨rfl,rfl,by kernel_rfl,by kernel_rfl,.inl ⟨10,J0,rfl,Nat.le_of_ble_eq_true rfl⟩⟩,trivial⟩ [] rfl trivial
section
variable (c:Wl) (k:Nat)
end
end Go.Proofs.YtnaopgohccacmaaGreat.Q
namespace Go.Proofs.YtnaopgohccacmaaGreat.Q
set_option linter.unusedVariables false
set_option linter.unusedSimpArgs false
set_option maxRecDepth 100000
section
variable {C:aE→Int} {f:Int} {c:aC} {i:Int} {e:aE}
end
end Go.Proofs.YtnaopgohccacmaaGreat.Q
namespace Go.Proofs.YtnaopgohccacmaaGreat.Q
open Go Go.RowKit
set_option linter.unusedVariables false
set_option linter.unusedSimpArgs false
set_option maxRecDepth 100000
set_option maxHeartbeats 4000000
end Go.Proofs.YtnaopgohccacmaaGreat.Q
namespace Go.Proofs.YtnaopgohccacmaaGreat.Q
set_option linter.unusedVariables false
set_option linter.unusedSimpArgs false
set_option maxRecDepth 100000
def gdB (b:Xn):Prop:=Hv b∧(0≤b.X9∧b.X9≤1000)∧b.Xy.length≤1000000∧(∀ e,e∈b.X7→0≤e.f_Signer∧e.f_Signer≤100000)∧∀ r,r∈b.Xf→(0≤r.Xq∧r.Xq≤100000)∧r.Y0=0
theorem gdB_z:gdB Ys:=⟨by decide,by decide,by decide,fun e he=>(by cases he),fun r hr=>(by cases hr)⟩
theorem blk_gd9 {L:List Xn} {i n:Nat} (hn:n≤4) (hi:i≤100) (hL:(atB d9 L L.length).length≤1000000):gdB (I0 L i n):=by
  refine ⟨X6b hn (by omega),⟨?_,?_⟩,hL,fun e he=>?_,fun r hr=>?_⟩
  · show (0:Int)≤((i+1:Nat):Int);omega
  · show ((i+1:Nat):Int)≤1000;omega
  · obtain ⟨k,hk,rfl⟩:=List.mem_map.1 he
    have:=List.mem_range.1 hk
    show (0:Int)≤((1000+k:Nat):Int)∧((1000+k:Nat):Int)≤100000
    omega
  · obtain ⟨k,hk,rfl⟩:=List.mem_map.1 hr
    have:=List.mem_range.1 hk
    refine ⟨?_,rfl⟩
    show (0:Int)≤((i+k:Nat):Int)∧((i+k:Nat):Int)≤100000
    omega
theorem Xjs (bs:List Int):∀ i,i≤30→∀ b,b∈Yy bs i→gdB b
  | 0,_=>fun b hb=>by cases hb
  | i+1,hi=>fun b hb=>by
    have hc:=X2z (bs.getD i 0)
    have h1:=(Fm bs i (by omega)).1
    rw [Yy] at hb
    rcases List.mem_append.1 hb with hb|hb
    · exact Xjs bs i (by omega) b hb
    · rw [List.mem_singleton] at hb;rw [hb];exact blk_gd9 (by omega) (by omega) (by omega)
theorem X97 {bs:List Int} {i:Nat} (hi:i≤30) (x:Int):gdB (rblk 0 (Yy bs i) x):=by
  unfold rblk
  split
  · rename_i h
    have h1:=h.1
    have h2:=h.2
    exact Xjs bs i hi _ (Vc (by omega))
  · exact gdB_z
def gdH (h:Y6):Prop:=h.Xy.length≤1000000∧h.W4.length≤1000000∧(0≤h.Ye∧h.Ye≤100000)∧Wm h.X9
theorem gdH_of {b:Xn} (h:gdB b):gdH (Wn b):=by
  have h1:=Uo h.1
  have h2:(W2 (Y5 b)).length≤25400:=Vo h1
  have h3:=h1.1
  have h4:=h.2.1
  refine ⟨h.2.2.1,Nat.le_trans h2 (by decide),?_,?_⟩
  · show 0≤(((Y5 b).length:Nat):Int)∧(((Y5 b).length:Nat):Int)≤100000;omega
  · show Wm b.X9;unfold Wm;omega
def gd9 (c:Wl):Prop:=X1t c.Xi∧c.Xd.length≤1000000∧(c.X1.length≤1000∧∀ h,h∈c.X1→gdH h)∧Jj szS 70 30000 c.Yr∧c.Xm.Xh.length≤500∧(0≤c.Xu∧c.Xu≤1000000)∧(0≤c.Vt∧c.Vt≤1000000)∧(0≤c.X3.Xq∧c.X3.Xq≤1000000)∧(0≤c.Xm.f_Signer∧c.Xm.f_Signer≤1000000)∧c.X3.Y0=0
theorem gd_z:gd9 Ib:=⟨⟨by decide,fun e he=>(by cases he)⟩,by decide,⟨by decide,fun e he=>(by cases he)⟩,⟨by decide,fun e he=>(by cases he)⟩,by decide,by decide,by decide,by decide,by decide,rfl⟩
theorem Xjf {c:Wl} (h:gd9 c):c.Yr.length≤70:=h.2.2.2.1.1
theorem gd_sm {c:Wl} (h:gd9 c):smT9 c:=by
  obtain ⟨h1,h2,⟨h3,h3b⟩,h4,h5,h6,h7,h8,h9,h10⟩:=h
  have h11:=h1.1
  have h41:=h4.1
  exact ⟨by omega,by omega,by omega,by omega,by omega,by omega,⟨by omega,by omega⟩,fun x hx=>Nat.le_trans (h3b x hx).1 (by decide)⟩
theorem gd_hs {l:List Y6} (h:∀ x,x∈l→gdH x):okHs l:=fun x hx=>by
  obtain ⟨h1,h2,h3,h4⟩:=h x hx
  exact ⟨by omega,by omega,by omega,h4⟩
theorem gd_ok {c:Wl} (h:gd9 c):okC9 c:=by
  obtain ⟨h1,h2,⟨h3,h3b⟩,h4,h5,h6,h7,h8,h9,h10⟩:=h
  exact ⟨h1,by omega,gd_hs h3b,by omega,h4,h5,by unfold Wm;omega⟩
theorem Xkx {l:List aE} (h:X1t l) (k:Nat):X1t (l.drop k):=⟨by have:=h.1;rw [List.length_drop];omega,fun e he=>h.2 e (List.mem_of_mem_drop he)⟩
theorem hdX_ok {l:List Y6} (h:∀ x,x∈l→gdH x) (j:Nat) (hj:j<l.length):okHs (l.set j (hdX9 (l.getD j Xg))):=fun x hx=>by
  rcases List.mem_or_eq_of_mem_set hx with hx|hx
  · exact gd_hs h x hx
  · obtain ⟨h1,h2,h3,h4⟩:=h _ (Vc (z:=Xg) hj)
    rw [hx]
    refine ⟨?_,Nat.le_trans h2 (by decide),by show (l.getD j Xg).Ye≤_;omega,h4⟩
    show ((l.getD j Xg).Xy++[120]).length≤_
    rw [List.length_append,List.length_singleton];omega
theorem Xdc {c:Wl} (h:gd9 c) (t:Yi):okC9 (Yl c t):=by
  have hk:=gd_ok h
  obtain ⟨h1,h2,⟨h3,h3b⟩,h4,h5,h6,h7,h8,h9,h10⟩:=h
  obtain ⟨k1,k2,k3,k4,k5,k6,k7⟩:=hk
  unfold Yl
  split
  · rename_i q
    refine ⟨h1,by omega,fun x hx=>?_,?_,h4,h5,k7⟩
    · rcases List.mem_append.1 hx with hx|hx
      · exact k3 x (List.mem_of_mem_take hx)
      · exact k3 x (List.mem_of_mem_drop hx)
    · show (c.X1.take _++c.X1.drop _).length≤_
      rw [List.length_append,List.length_take,List.length_drop];omega
  split
  · exact ⟨h1,by omega,k3,k4,h4,h5,k7⟩
  split
  · exact ⟨h1,by omega,k3,k4,h4,h5,k7⟩
  split
  · exact ⟨h1,by omega,k3,k4,h4,h5,by show Wm (c.Xu+1);unfold Wm;omega⟩
  split
  · rename_i q
    refine ⟨h1,by omega,hdX_ok h3b _ (X43 q.2).2,?_,h4,h5,k7⟩
    show (c.X1.set _ _).length≤_
    rw [List.length_set];omega
  split
  · refine ⟨h1,?_,k3,k4,h4,h5,k7⟩
    show (c.Xd++[0]).length≤_
    rw [List.length_append,List.length_singleton];omega
  split
  · exact ⟨h1,by omega,k3,k4,h4,h5,k7⟩
  split
  · exact ⟨h1,by omega,k3,k4,Uy h4 1,h5,k7⟩
  split
  · exact ⟨Xkx h1 1,by omega,k3,k4,h4,h5,k7⟩
  · exact ⟨h1,by omega,k3,k4,h4,h5,k7⟩
theorem gd_rng9 {c:Wl} (h:gd9 c) (t:Yi):(∀ x,x∈(Yl c t).X1→Wm x.Ye)∧Wm (Yl c t).Xm.f_Signer∧Wm (Yl c t).X3.Y0∧Wm (Yl c t).X3.Xq:=by
  obtain ⟨h1,h2,⟨h3,h3b⟩,h4,h5,h6,h7,h8,h9,h10⟩:=h
  have hx:∀ x,x∈c.X1→Wm x.Ye:=fun x hx=>by have:=(h3b x hx).2.2.1;unfold Wm;omega
  have g1:Wm c.Xm.f_Signer:=by unfold Wm;omega
  have g2:Wm c.X3.Y0:=by unfold Wm;omega
  have g3:Wm c.X3.Xq:=by unfold Wm;omega
  unfold Yl
  split
  · exact ⟨fun x hq=>(List.mem_append.1 hq).elim (fun w=>hx x (List.mem_of_mem_take w)) (fun w=>hx x (List.mem_of_mem_drop w)),g1,g2,g3⟩
  split
  · exact ⟨hx,g1,g2,show Wm (c.X3.Xq+1) by unfold Wm;omega⟩
  split
  · exact ⟨hx,g1,g2,g3⟩
  split
  · exact ⟨hx,g1,g2,g3⟩
  split
  · rename_i q
    refine ⟨fun x hq=>?_,g1,g2,g3⟩
    rcases List.mem_or_eq_of_mem_set hq with w|w
    · exact hx x w
    · rw [w];show Wm (c.X1.getD (J9 c t) Xg).Ye;exact hx _ (Vc (z:=Xg) (X43 q.2).2)
  split
  · exact ⟨hx,g1,g2,g3⟩
  split
  · exact ⟨hx,show Wm (c.Xm.f_Signer+1) by unfold Wm;omega,g2,g3⟩
  split
  · exact ⟨hx,g1,g2,g3⟩
  split
  · exact ⟨hx,g1,g2,g3⟩
  · exact ⟨hx,g1,g2,g3⟩
theorem prv_inv {bf:Int→Xn} {n:Nat} {seq:Int} {b:List UInt8} {h i:Int} (q:X3z bf n seq b h i=0):¬(h<1∨h>seq∨seq-h>999)∧¬seq>((n:Nat):Int)∧J7 (bf h) i=0:=by
  unfold X3z at q
  split at q
  · exact absurd q (by decide)
  split at q
  · exact absurd q (by decide)
  rename_i h1
  split at q
  · exact absurd q (by decide)
  rename_i h2
  exact ⟨h1,h2,q⟩
theorem prv_gd {bf:Int→Xn} {n:Nat} {seq:Int} {x:List aE} {b:List UInt8} {h i:Int} (hb:∀ y,gdB (bf y)) (hn:n≤1000) (hx:X1t x) (hd:b.length≤1000000):gd9 (Uw bf n seq x b h i):=by
  unfold Uw
  split
  · rename_i q
    obtain ⟨q1,q2,q3⟩:=prv_inv q
    obtain ⟨p1,p2,p3,p4,p5,p6,p7⟩:=Xcs (hb h).1 q3
    have hf:=(hb h).1
    have hr:=hf.2.1
    obtain ⟨r1,r2,r3,r4,r5⟩:=hb h
    refine ⟨hx,hd,⟨?_,fun y hy=>?_⟩,p6,p7,⟨show (0:Int)≤seq by omega,show seq≤1000000 by omega⟩,⟨show (0:Int)≤i by omega,show i≤1000000 by omega⟩,?_,?_,?_⟩
    · rw [X9s];omega
    · obtain ⟨t,_,rfl⟩:=List.mem_map.1 hy
      exact gdH_of (hb _)
    · have:=r5 _ (Vc (z:=Ya) (show i.toNat<(bf h).Xf.length by omega))
      exact ⟨this.1.1,Int.le_trans this.1.2 (by decide)⟩
    · have:=r4 _ (Vc (z:=zE) (show i.toNat<(bf h).X7.length by omega))
      exact ⟨this.1,Int.le_trans this.2 (by decide)⟩
    · exact (r5 _ (Vc (z:=Ya) (show i.toNat<(bf h).Xf.length by omega))).2
  · exact gd_z
theorem Xf9 {c:Xs} (hs:Vj c) (hr:rngW c) (k:Nat) (seq h i:Int):gd9 (Uw (rblk 0 (chL c)) (chL c).length seq (J1 c k) (Jn c) h i):=by
  have h0:=hs.1
  have hd:=E2 hs
  exact prv_gd (fun y=>X97 (by omega) y) (by rw [Jz];omega) (X7m hs hr) (by omega)
end Go.Proofs.YtnaopgohccacmaaGreat.Q
namespace Go.Proofs.YtnaopgohccacmaaGreat.Q
set_option linter.unusedVariables false
set_option linter.unusedSimpArgs false
set_option maxRecDepth 100000
def Xa9:Xs:=⟨[1,2],[],[0,1,3],false⟩
def X77:List aE:=Ux (fOf 1) (cOf 1) Xa9 Xa9.Y3.length
def I1:List Xn:=Yy Xa9.X4 Xa9.X4.length
def X2i:List aE:=J1 Xa9 Xa9.Y3.length
def X0u:List UInt8:=Jn Xa9
def Jq:Wl:=Uw (rblk 0 I1) I1.length 2 X2i X0u 1 0
theorem X47:Vj Xa9∧rngW Xa9:=⟨by decide,fun s hs=>by
  have h:s=0∨s=1∨s=3:=by simpa [Xa9] using hs
  unfold Wm;omega⟩
theorem Xa8:gd9 Jq:=Xf9 X47.1 X47.2 3 2 1 0
theorem aw_pr9:Uw (Yw 0 (Yx I1)) (Yx I1).length 2 X2i X0u 1 0=Jq∧X3z (Yw 0 (Yx I1)) (Yx I1).length 2 X0u 1 0=0:=by
  rw [blk_fun,Jg]
  exact ⟨rfl,by decide +kernel⟩
abbrev awF9:aE→Int:=Xz (fOf 1) (cOf 1) (Ug X77)
theorem Xib:c9E awF9 (fOf 1) Jq=0∧c9E awF9 (fOf 1) (Yl Jq ⟨2,0⟩)=90∧c9E awF9 (fOf 1) (Yl Jq ⟨9,0⟩)=32∧c9E awF9 (fOf 1) (Yl Jq ⟨1,1⟩)=100:=by decide +kernel
theorem aw_few9:X1t X2i∧X0u.length≤1000000∧X0a I1∧I1.length=2:=⟨X7m X47.1 X47.2,Nat.le_trans (E2 X47.1) (by decide),(Fm Xa9.X4 2 (by decide)).2,rfl⟩
end Go.Proofs.YtnaopgohccacmaaGreat.Q
