import Derived.Test.YtnaopgohccacmaaGreatC19n47
namespace Go.Proofs.YtnaopgohccacmaaGreat.Q
open Go Go.RowKit
set_option linter.unusedVariables false
set_option linter.unusedSimpArgs false
set_option maxRecDepth 100000
set_option maxHeartbeats 4000000
section
variable (x:V5) (q:Vy) (y:Uf) (k:Nat) (k2:Nat)
abbrev Zws:List SV:=[dI x.V8,dI x.Xx]
abbrev Zwt:List SV:=[dI q.Xb,dI q.Xg,dI q.Uv,.d (dsl false false (U5 .i64) q.Xv)]
abbrev Zwu:List SV:=[dI y.f_H,dI y.Ji,dI y.f_T.Wu,dI y.f_T.Wh]
abbrev Zwv:TV:=.one (dB true)
abbrev Zww:SV:=.d (.val (.slice none 0 0))
abbrev Zwx:HS:=.live (.box 23 (Zws x))
abbrev Zwy:HS:=.live (.box 75 (Zwt q))
abbrev Zwz:HS:=.live (.box 31 (Zwu y))
abbrev Zx0:SV:=dI (cOf x.Xx)
abbrev Zx1:HS:=.live (.box 130 [dI (3*(fOf x.V8)+1),(Zx0 x),.mref 4])
abbrev Zx2:=(Yc.mk ([]:List Int) ([]:List UInt8) ([]:List Int) false)
abbrev Zx3:=(Hv (fOf x.V8) (cOf x.Xx) Zx2 Zx2.Xv.length)
abbrev Zx4:SV:=dI (fOf x.V8)
abbrev Zx5:SV:=dS (ofB 6 ([]:List (List UInt8)))
abbrev Zx6:=(Wl Zx2.Xn Zx2.Xn.length)
abbrev Zx7:SV:=dU (Fc Zx2)
abbrev Zx8:List HS:=[(Zwx x),(Zwy q),(Zwz y),(Zx1 x),.live (mpK Xi Y8 (Vr (Zx3 x))),.live (.box 135 [dB true,(Zx4 x),(Zx0 x),.own 6 (kE false).sz 0 (Zx3 x).length]),.live (Xf 43 (kE false) (Zx3 x)),.live (.box 149 [dI 0,Zx5,dB true,.own 8 (Xj false).sz 0 (W3 Zx6).length]),.live (Xf 152 (Xj false) (W3 Zx6)),.live (.box 106 [dB true,dI 0,Zx5,.own 10 (Xy false).sz 0 Zx6.length]),.live (Xf 65 (Xy false) Zx6),.live (.box 39 [.ptr 3 0,.ptr 5 0,.ptr 7 0,.ptr 9 0,Zx7,.d (dsl false false (kE false) (Ib Zx2 Zx2.Xv.length))])]
abbrev Zx9:List AV:=[aa,aa,aa,pv 0 0,pv 1 0,pv 2 0,aa,pv 11 0]
abbrev Zxa:HS:=.live (mpK Xi Y8 ([]:List (Yb×Bool)))
abbrev Zxb:HS:=.live (.box 135 [dB true,(Zx4 x),(Zx0 x),.own 6 (kE false).sz 0 ([]:List aE).length])
abbrev Zxc:HS:=.live (Xf 43 (kE false) ([]:List aE))
abbrev Zxd:HS:=.live (.box 149 [dI 0,Zx5,dB true,.own 8 (Xj false).sz 0 ([]:List Yi).length])
abbrev Zxe:HS:=.live (Xf 152 (Xj false) ([]:List Yi))
abbrev Zxf:HS:=.live (.box 106 [dB true,dI 0,Zx5,.own 10 (Xy false).sz 0 ([]:List Xs).length])
abbrev Zxg:HS:=.live (Xf 65 (Xy false) ([]:List Xs))
abbrev Zxh:SV:=.d (dsl false false (kE false) ([]:List aE))
abbrev Zxi:HS:=.live (.box 39 [.ptr 3 0,.ptr 5 0,.ptr 7 0,.ptr 9 0,Zx7,Zxh])
abbrev Zxj:List HS:=[(Zwx x),(Zwy q),(Zwz y),(Zx1 x),Zxa,(Zxb x),Zxc,Zxd,Zxe,Zxf,Zxg,Zxi]
abbrev Zxk:List AV:=[aa,aa,aa,pv 0 0,pv 1 0,pv 2 0,aa,pv 11 0,sv (.clo 24 [11]),Y7 12 (kE false) 0 0,vI 0]
abbrev Zxl:AV:=vI ((k:Nat):Int)
abbrev Zxm:List AV:=[aa,aa,aa,pv 9 0,pv 10 0,pv 11 0,aa,pv 8 0,sv (.clo 24 [8]),Y7 12 (kE false) 0 (W7 k).length,(Zxl k)]
abbrev Zxn:HS:=.live (.box 130 [dI (3*(fOf x.V8)+1),(Zx0 x),.mref 1])
abbrev Zxo:=(It (fOf x.V8) (cOf x.Xx) ([]:List aE) k)
abbrev Zxp:HS:=.live (mpK Xi Y8 (Vr (Zxo x k)))
abbrev Zxq:HS:=.live (.box 135 [dB true,(Zx4 x),(Zx0 x),.own 3 (kE false).sz 0 (Zxo x k).length])
abbrev Zxr:HS:=.live (Xf 43 (kE false) (Zxo x k))
abbrev Zxs:HS:=.live (.box 149 [dI 0,Zx5,dB true,.own 5 (Xj false).sz 0 ([]:List Yi).length])
abbrev Zxt:HS:=.live (.box 106 [dB true,dI 0,Zx5,.own 7 (Xy false).sz 0 ([]:List Xs).length])
abbrev Zxu:HS:=.live (.box 39 [.ptr 0 0,.ptr 2 0,.ptr 4 0,.ptr 6 0,Zx7,Zxh])
abbrev Zxv:List HS:=[(Zxn x),(Zxp x k),(Zxq x k),(Zxr x k),Zxs,Zxe,Zxt,Zxg,Zxu,(Zwx x),(Zwy q),(Zwz y),.live (Xf 43 (kE false) (W7 k))]
abbrev Zxw:AV:=Y7 12 (kE false) 0 (W7 0).length
abbrev Zxx:=(It (fOf x.V8) (cOf x.Xx) ([]:List aE) 0)
abbrev Zxy:SV:=dI 1000
abbrev Zxz:=(aM.mk 1 0 0 1000 ((k+1:Nat):Int) [] ([]:List UInt8) (Y4.mk 0 0) ([]:List aE) ([]:List aE) ([]:List aC))
abbrev Zy0:=(Jm 1000 (Zxz k))
abbrev Zy1:AV:=vI ((k+1:Nat):Int)
abbrev Zy2:=(It (fOf x.V8) (cOf x.Xx) ([]:List aE) (k+1))
abbrev Zy3:=(Vg (fOf x.V8) (cOf x.Xx) (Zxo x k) 1000 (Vh (Zxz k)))
abbrev Zy4:AV:=vB (decide (((k:Nat):Int)<(((Int.tmod q.Uv 5)+5) % 5)))
abbrev Zy5:List AV:=[aa,aa,aa,pv 9 0,pv 10 0,pv 11 0,aa,pv 8 0,sv (.clo 24 [8]),Y7 12 (kE false) 0 (W7 k).length,(Zxl k),aa,aa,aa,aa,aa,aa,aa,aa,aa,aa,aa,aa,aa,aa,aa,aa,aa,aa,aa,aa,aa,aa,aa,aa,aa,aa,aa,aa,aa,aa,aa,aa,aa,aa,aa,aa,aa,aa,(Zy4 q k)]
abbrev Zy6:AV:=slV false false (kE false) (W7 k)
abbrev Zy7:List AV:=[aa,aa,aa,pv 9 0,pv 10 0,pv 11 0,aa,pv 8 0,sv (.clo 24 [8]),(Zy6 k),(Zxl k),pv 13 0,aa,aa,aa,aa,aa,aa,aa,aa,aa,aa,aa,aa,aa,aa,aa,aa,aa,aa,aa,aa,aa,aa,aa,aa,aa,aa,aa,aa,aa,aa,aa,aa,aa,aa,aa,aa,aa,(Zy4 q k)]
abbrev Zy8:St:=⟨(Zy7 q k),[(Zxn x),(Zxp x k),(Zxq x k),(Zxr x k),Zxs,Zxe,Zxt,Zxg,Zxu,(Zwx x),(Zwy q),(Zwz y),.dead,.live (.box 78 [dI 2,dI q.Xb,dI q.Xg,dI 0,dI 0,dS (X1k (W7 k)),Zww,dI 0,dI 0,.d (dsl false false (kE false) (W7 k)),Zww,Zww])]⟩
abbrev Zy9:List HS:=[(Zxn x),(Zxp x k),(Zxq x k),(Zxr x k),Zxs,Zxe,Zxt,Zxg,Zxu,(Zwx x),(Zwy q),(Zwz y),.dead,.live (.box 78 [dI 2,dI q.Xb,dI q.Xg,dI 0,dI 0,dS (X1k (W7 k)),dU ([]:List UInt8),dI 0,dI 0,.d (dsl false false (kE false) (W7 k)),Zxh,.d (dsl false false (kC false) ([]:List aC))])]
abbrev Zya:=(J7 q.Xb q.Xg k)
abbrev Zyb:List SV:=[dI (Zya q k).X1,dI (Zya q k).Xb,dI (Zya q k).Xg,dI (Zya q k).Xe,dI (Zya q k).Y3,dS (Zya q k).X6,dU (Zya q k).Xc,dI (Zya q k).X0.Xu,dI (Zya q k).X0.Xl,.d (dsl false false (kE false) (Zya q k).Xa),.d (dsl false false (kE false) (Zya q k).Xw),.d (dsl false false (kC false) (Zya q k).X5)]
abbrev Zyc:List HS:=[(Zxn x),(Zxp x k),(Zxq x k),(Zxr x k),Zxs,Zxe,Zxt,Zxg,Zxu,(Zwx x),(Zwy q),(Zwz y),.dead,.live (.box 78 (Zyb q k))]
abbrev Zyd:List AV:=[aa,aa,aa,pv 9 0,pv 10 0,pv 11 0,aa,pv 8 0,sv (.clo 24 [8]),(Zy6 k),(Zxl k),pv 13 0,pv 15 0,aa,aa,aa,aa,aa,aa,aa,aa,aa,aa,aa,aa,aa,aa,aa,aa,aa,aa,aa,aa,aa,aa,aa,aa,aa,aa,aa,aa,aa,aa,aa,aa,aa,aa,aa,aa,(Zy4 q k)]
abbrev Zye:=(Vg (fOf x.V8) (cOf x.Xx) (Zxo x k) (W1 (fOf x.V8) q.Xb) (Vh (Zya q k)))
abbrev Zyf:HS:=.live (mpK Xi Y8 (Vr (Zye x q k)))
abbrev Zyg:HS:=.live (.box 135 [dB true,(Zx4 x),(Zx0 x),.own 14 (kE false).sz 0 (Zye x q k).length])
abbrev Zyh:HS:=.live (Xf 43 (kE false) (Zye x q k))
abbrev Zyi:SV:=dI (Jm (W1 (fOf x.V8) q.Xb) (Zya q k)).X2
abbrev Zyj:SV:=dU (Jm (W1 (fOf x.V8) q.Xb) (Zya q k)).X7
abbrev Zyk:HS:=.live (.box 86 [(Zyi x q k),(Zyj x q k),Zww])
abbrev Zyl:St:=⟨(Zyd q k),[(Zxn x),(Zyf x q k),(Zyg x q k),.dead,Zxs,Zxe,Zxt,Zxg,Zxu,(Zwx x),(Zwy q),(Zwz y),.dead,.live (.box 78 [dI 4,dI (Zya q k).Xb,dI (Zya q k).Xg,dI (Zya q k).Xe,dI (Zya q k).Y3,dS (Zya q k).X6,dU (Zya q k).Xc,dI (Zya q k).X0.Xu,dI (Zya q k).X0.Xl,Zww,.d (dsl false false (kE false) (Zya q k).Xw),.d (dsl false false (kC false) (Zya q k).X5)]),(Zyh x q k),(Zyk x q k)]⟩
abbrev Zym:List HS:=[(Zxn x),(Zyf x q k),(Zyg x q k),.dead,Zxs,Zxe,Zxt,Zxg,Zxu,(Zwx x),(Zwy q),(Zwz y),.dead,.live (.box 78 [dI 4,dI (Zya q k).Xb,dI (Zya q k).Xg,dI (Zya q k).Xe,dI (Zya q k).Y3,dS (Zya q k).X6,dU (Zya q k).Xc,dI (Zya q k).X0.Xu,dI (Zya q k).X0.Xl,Zxh,.d (dsl false false (kE false) (Zya q k).Xw),.d (dsl false false (kC false) (Zya q k).X5)]),(Zyh x q k),(Zyk x q k)]
abbrev Zyn:=(Iy q.Xb q.Xg k)
abbrev Zyo:List SV:=[dI (Zyn q k).X1,dI (Zyn q k).Xb,dI (Zyn q k).Xg,dI (Zyn q k).Xe,dI (Zyn q k).Y3,dS (Zyn q k).X6,dU (Zyn q k).Xc,dI (Zyn q k).X0.Xu,dI (Zyn q k).X0.Xl,.d (dsl false false (kE false) (Zyn q k).Xa),.d (dsl false false (kE false) (Zyn q k).Xw),.d (dsl false false (kC false) (Zyn q k).X5)]
abbrev Zyp:HS:=.live (.box 78 (Zyo q k))
abbrev Zyq:List HS:=[(Zxn x),(Zyf x q k),(Zyg x q k),.dead,Zxs,Zxe,Zxt,Zxg,Zxu,(Zwx x),(Zwy q),(Zwz y),.dead,(Zyp q k),(Zyh x q k),(Zyk x q k)]
abbrev Zyr:List AV:=[aa,aa,aa,pv 9 0,pv 10 0,pv 11 0,aa,pv 8 0,sv (.clo 24 [8]),(Zy6 k),(Zxl k),pv 13 0,pv 15 0,vI 0,aa,aa,aa,aa,aa,aa,aa,aa,aa,aa,aa,aa,aa,aa,aa,aa,aa,aa,aa,aa,aa,aa,aa,aa,aa,aa,aa,aa,aa,aa,aa,aa,aa,aa,aa,(Zy4 q k)]
abbrev Zys:=(X0f (fOf x.V8) (cOf x.Xx) q.Xb q.Xg k q.Xv (Zye x q k) k2)
abbrev Zyt:HS:=.live (mpK Xi Y8 (Vr (Zys x q k k2)))
abbrev Zyu:HS:=.live (.box 135 [dB true,(Zx4 x),(Zx0 x),.own 3 (kE false).sz 0 (Zys x q k k2).length])
abbrev Zyv:HS:=.live (Xf 43 (kE false) (Zys x q k k2))
abbrev Zyw:=(Jp q.Xb q.Xg k q.Xv k2)
abbrev Zyx:HS:=.live (.box 86 [(Zyi x q k),(Zyj x q k),.own 14 (kE false).sz 0 (Zyw q k k2).length])
abbrev Zyy:HS:=.live (Xf 43 (kE false) (Zyw q k k2))
abbrev Zyz:St:=⟨[aa,aa,aa,pv 9 0,pv 10 0,pv 11 0,aa,pv 8 0,sv (.clo 24 [8]),(Zy6 k),aa,pv 12 0,pv 13 0,vI ((k2:Nat):Int)],[(Zxn x),(Zyt x q k k2),(Zyu x q k k2),(Zyv x q k k2),Zxs,Zxe,Zxt,Zxg,Zxu,(Zwx x),(Zwy q),(Zwz y),(Zyp q k),(Zyx x q k k2),(Zyy q k k2)]⟩
abbrev Zz0:=(X0f (fOf x.V8) (cOf x.Xx) q.Xb q.Xg k q.Xv (Zye x q k) 0)
abbrev Zz1:=(Jm (q.Xv.getD k2 0) (Zyn q k))
abbrev Zz2:List AV:=[aa,aa,aa,pv 9 0,pv 10 0,pv 11 0,aa,pv 8 0,sv (.clo 24 [8]),(Zy6 k),aa,pv 12 0,pv 13 0,vI ((k2+1:Nat):Int)]
abbrev Zz3:=(X0f (fOf x.V8) (cOf x.Xx) q.Xb q.Xg k q.Xv (Zye x q k) (k2+1))
abbrev Zz4:=(Vg (fOf x.V8) (cOf x.Xx) (Zys x q k k2) (q.Xv.getD k2 0) (Vh (Zyn q k)))
abbrev Zz5:List AV:=[aa,aa,aa,pv 9 0,pv 10 0,pv 11 0,aa,pv 8 0,aa,aa,aa,aa,pv 13 0,aa,pv 15 0]
abbrev Zz6:List SV:=[dI (X1b (W7 k) y.f_T.Wh).X2,dU (X1b (W7 k) y.f_T.Wh).X7]
abbrev Zz7:List HS:=[(Zxn x),(Zyt x q k k2),(Zyu x q k k2),(Zyv x q k k2),Zxs,Zxe,Zxt,Zxg,Zxu,(Zwx x),(Zwy q),(Zwz y),(Zyp q k),(Zyx x q k k2),(Zyy q k k2),.live (.box 43 (Zz6 y k))]
abbrev Zz8:List AV:=[aa,aa,aa,pv 9 0,pv 10 0,pv 11 0,aa,pv 8 0,sv (.clo 24 [8]),(Zy6 k),aa,pv 12 0,pv 13 0,vI ((k2:Nat):Int),pv 15 0,aa,aa,aa,aa,aa,aa,aa,aa,aa,aa,aa,aa,aa,aa,aa,aa,aa,aa,aa,aa,aa,aa,aa,aa,aa,aa,aa,aa,aa,aa,aa,aa,aa,aa,aa,aa,aa,aa,aa,aa,aa,aa,aa,aa,aa,aa,aa,aa,aa,aa,aa,aa,aa,aa,aa,aa,aa,aa,aa,aa,aa,aa,aa,aa,aa,aa,aa,aa,vB (decide (((k2:Nat):Int)<((q.Xv.length:Nat):Int))),aa,aa,aa,aa,aa,aa,aa,aa,aa,aa,aa,aa,aa,aa,aa,aa,aa,aa,vB (decide ((((W7 k).length:Nat):Int)>0))]
abbrev Zz9:List HS:=[(Zxn x),(Zyt x q k k2),(Zyu x q k k2),(Zyv x q k k2),Zxs,Zxe,Zxt,Zxg,Zxu,(Zwx x),(Zwy q),(Zwz y),(Zyp q k),(Zyx x q k k2),(Zyy q k k2),.live (.box 43 [dI ((W7 k).getD (((Int.tmod y.f_T.Wh (((W7 k).length:Nat):Int))+(((W7 k).length:Nat):Int)) % (((W7 k).length:Nat):Int)).toNat zE).X2,dU ((W7 k).getD (((Int.tmod y.f_T.Wh (((W7 k).length:Nat):Int))+(((W7 k).length:Nat):Int)) % (((W7 k).length:Nat):Int)).toNat zE).X7])]
abbrev Zza:St:=⟨(Zz8 q k k2),[(Zxn x),(Zyt x q k k2),(Zyu x q k k2),(Zyv x q k k2),Zxs,Zxe,Zxt,Zxg,Zxu,(Zwx x),(Zwy q),(Zwz y),(Zyp q k),(Zyx x q k k2),(Zyy q k k2),.live (.box 43 [Zxy,Zww])]⟩
abbrev Zzb:List HS:=[(Zxn x),(Zyt x q k k2),(Zyu x q k k2),(Zyv x q k k2),Zxs,Zxe,Zxt,Zxg,Zxu,(Zwx x),(Zwy q),(Zwz y),(Zyp q k),(Zyx x q k k2),(Zyy q k k2),.live (.box 43 [Zxy,dU ([]:List UInt8)])]
abbrev Zzc:List SV:=[(Zyi x q k),(Zyj x q k),.d (dsl false false (kE false) (Zyw q k k2))]
end
theorem X7f (x:V5) (q:Vy) (y:Uf) (h0:q.Xv.length≤9223372036854775807) (hr:∀ w,w∈q.Xv→X0w w) (hy2:-9223372036854775808≤y.Ji∧y.Ji≤9223372036854775807):Holds Tryz.prog 7 ⟨[.tv (.agg [dI x.V8,dI x.Xx]),.tv (.agg [dI q.Xb,dI q.Xg,dI q.Uv,.d (dsl false false (U5 .i64) q.Xv)]),.tv (.agg [dI y.f_H,dI y.Ji,dI y.f_T.Wu,dI y.f_T.Wh])],[],vB true,[]⟩:=by
 refine Holds.of Tryz.func7 rfl (N:=136) Tryz.ntmps7 rfl fun w0 B0 S0 U0=>?_
 show T _ (Y5 136 0 w0 S0 U0 B0) ⟨[.tv (.agg (Zws x)),.tv (.agg (Zwt q)),.tv (.agg (Zwu y))],[]⟩ _ _
 have hfx:=Xhf x.V8
 have hux:=Xho x.Xx
 have hw1:F8 (Yc.mk ([]:List Int) ([]:List UInt8) ([]:List Int) false):=by decide
 have hw2:rngW (Yc.mk ([]:List Int) ([]:List UInt8) ([]:List Int) false):=fun w hw=>by cases hw
 have hpri:=pri_rng9 hfx q.Xb
 have hcb:=X33 q.Uv
 have ht5:=tmod5 q.Uv
 refine sR [] (T.seq ?_)
 by_cases hq1:((q.Xv.length:Nat):Int)>12
 ·refine sR (Xr (hN · false (dT hq1)) [5,6,7] (hP 8 (dT hq1)::(Xr hN0 [10,11,12] (hP1 13::(Xr hN0 [15,16,17] (hP1 18::(Xr hN0 [20,21,22] (hP1 23::[])))))))) (cT (b:=true) rfl (sR [] (T.ret (rT ?_))))
  exact eRt 6 (Zwv) [] rfl trivial
 by_cases hq2:q.Xb<0
 ·refine sR (Xr (hY · (dF hq1)) [5,6,7] (hP 8 (dF hq1)::(Xr (hN · false (dT hq2)) [10,11,12] (hP 13 (dT hq2)::(Xr hN0 [15,16,17] (hP1 18::(Xr hN0 [20,21,22] (hP1 23::[])))))))) (cT (b:=true) rfl (sR [] (T.ret (rT ?_))))
  exact eRt 6 (Zwv) [] rfl trivial
 by_cases hq3:q.Xb>1073741824
 ·refine sR (Xr (hY · (dF hq1)) [5,6,7] (hP 8 (dF hq1)::(Xr (hY · (dF hq2)) [10,11,12] (hP 13 (dF hq2)::(Xr (hN · false (dT hq3)) [15,16,17] (hP 18 (dT hq3)::(Xr hN0 [20,21,22] (hP1 23::[])))))))) (cT (b:=true) rfl (sR [] (T.ret (rT ?_))))
  exact eRt 6 (Zwv) [] rfl trivial
 by_cases hq4:q.Xg<0
 ·refine sR (Xr (hY · (dF hq1)) [5,6,7] (hP 8 (dF hq1)::(Xr (hY · (dF hq2)) [10,11,12] (hP 13 (dF hq2)::(Xr (hY · (dF hq3)) [15,16,17] (hP 18 (dF hq3)::(Xr (hN · false (dT hq4)) [20,21,22] (hP 23 (dT hq4)::[])))))))) (cT (b:=true) rfl (sR [] (T.ret (rT ?_))))
  exact eRt 6 (Zwv) [] rfl trivial
 refine sR (Xr (hY · (dF hq1)) [5,6,7] (hP 8 (dF hq1)::(Xr (hY · (dF hq2)) [10,11,12] (hP 13 (dF hq2)::(Xr (hY · (dF hq3)) [15,16,17] (hP 18 (dF hq3)::(Xr (hY · (dF hq4)) [20,21,22] (hP 23 (dF hq4)::[])))))))) ?_
 by_cases hq5:q.Xg>1073741824
 ·refine cT (dT hq5) (sR [] (T.ret (rT ?_)))
  exact eRt 6 (Zwv) [] rfl trivial
 refine cF (dF hq5) (T.skip (nT (sR [hR 2 rfl rfl (rCn (Xex x (Yc.mk ([]:List Int) ([]:List UInt8) ([]:List Int) false) ‹_› ‹_›) Tryz.func10 [3,4,5,6,7,8,9,10] [(.tmp 39,.tv (.agg (Zws x))),(.tmp 40,.tv (.agg [Zww,Zww,Zww,dB false]))] 0 8 ⟨⟨.inl ⟨rfl,rfl⟩,⟨.inl ⟨rfl,rfl⟩,trivial⟩⟩,⟨⟨.inr pq,⟨.inr pq,⟨.inr pq,⟨.inl ⟨rfl,rfl⟩,trivial⟩⟩⟩⟩,trivial⟩⟩ trivial)] ?_)))
 refine tN ⟨[.tv (.agg (Zws x)),.tv (.agg (Zwt q)),.tv (.agg (Zwu y)),pv 0 0,pv 1 0,pv 2 0,vB false,pv 11 0,aa,aa,aa,aa,aa,aa,aa,aa,aa,aa,aa,aa,aa,aa,aa,aa,aa,aa,aa,aa,aa,aa,aa,aa,aa,aa,aa,aa,aa,aa,vB (decide (q.Xg>1073741824))],(Zx8 x q y)⟩ ?_
 refine Wr (s':=⟨Zx9,(Zxj x q y)⟩) (fun _ _ hG=>Yp [0,1,2,3,4,5,6,7,8,9,10,11] (bm 8 184) (h2:=(Zx8 x q y)) rfl (cg8 (fun (q1:List (Yb×Bool)) (q2:Nat) (q3:List aE) (q4:Nat) (q5:List Yi) (q6:Nat) (q7:List Xs) (q8:List aE)=>([(Zwx x),(Zwy q),(Zwz y),(Zx1 x),.live (mpK Xi Y8 q1),.live (.box 135 [dB true,(Zx4 x),(Zx0 x),.own 6 (kE false).sz 0 q2]),.live (Xf 43 (kE false) q3),.live (.box 149 [dI 0,Zx5,dB true,.own 8 (Xj false).sz 0 q4]),.live (Xf 152 (Xj false) q5),.live (.box 106 [dB true,dI 0,Zx5,.own 10 (Xy false).sz 0 q6]),.live (Xf 65 (Xy false) q7),.live (.box 39 [.ptr 3 0,.ptr 5 0,.ptr 7 0,.ptr 9 0,Zx7,.d (dsl false false (kE false) q8)])]:List HS)) (by rfl) (by rfl) (by rfl) (by rfl) (by rfl) (by rfl) (by rfl) (by rfl)) hG) ?_
 refine sR [hR 0 rfl rfl (X5x (f:=24) (ls:=[(.tmp 7,11)]) rfl (X3 rfl) trivial)] (sR [] (T.seq (sR [] (T.block ?_))))
 refine tN ⟨[aa,aa,aa,pv 0 0,pv 1 0,pv 2 0,aa,pv 11 0,sv (.clo 24 [11]),dv (.slice none 0 0),vI 0],(Zxj x q y)⟩ ?_
 refine Wr (s':=⟨Zxk,[(Zwx x),(Zwy q),(Zwz y),(Zx1 x),Zxa,(Zxb x),Zxc,Zxd,Zxe,Zxf,Zxg,Zxi,Zxc]⟩) (fun _ _ hG=>Vz 12 9 43 (kE false) rfl rfl hG) ?_
 refine T.loop (ι:=Nat) (fun (k:Nat)=>⟨(Zxm k),(Zxv x q y k)⟩) (fun (k:Nat)=>(((k:Nat):Int)≤Uw q.Uv)) (fun (k:Nat)=>(Uw q.Uv).toNat-k) (0) (by omega) (fun _ _ hG=>Wi [3,4,5,6,7,8,9,10,11,0,1,2,12] (bm 11 1976) (t1:=[aa,aa,aa,pv 0 0,pv 1 0,pv 2 0,aa,pv 11 0,sv (.clo 24 [11]),Zxw,vI 0]) (t2:=Zxk) (h1:=[(Zx1 x),.live (mpK Xi Y8 (Vr (Zxx x))),.live (.box 135 [dB true,(Zx4 x),(Zx0 x),.own 6 (kE false).sz 0 (Zxx x).length]),.live (Xf 43 (kE false) (Zxx x)),Zxd,Zxe,Zxf,Zxg,Zxi,(Zwx x),(Zwy q),(Zwz y),.live (Xf 43 (kE false) (W7 0))]) (h2:=[(Zx1 x),Zxa,(Zxb x),Zxc,Zxd,Zxe,Zxf,Zxg,Zxi,(Zwx x),(Zwy q),(Zwz y),Zxc]) (congrArg (fun (q1:Nat)=>([aa,aa,aa,pv 0 0,pv 1 0,pv 2 0,aa,pv 11 0,sv (.clo 24 [11]),Y7 12 (kE false) 0 q1,vI 0]:List AV)) (by rfl)) (cg4 (fun (q1:List (Yb×Bool)) (q2:Nat) (q3:List aE) (q4:List aE)=>([(Zx1 x),.live (mpK Xi Y8 q1),.live (.box 135 [dB true,(Zx4 x),(Zx0 x),.own 6 (kE false).sz 0 q2]),.live (Xf 43 (kE false) q3),Zxd,Zxe,Zxf,Zxg,Zxi,(Zwx x),(Zwy q),(Zwz y),.live (Xf 43 (kE false) q4)]:List HS)) (by rfl) (by rfl) (by rfl) (by rfl)) hG) ?_
 rintro k hk
 show T _ _ ⟨(Zxm k),(Zxv x q y k)⟩ _ _
 replace hk:((k:Nat):Int)≤Uw q.Uv:=hk
 have hrl:=X5t k
 have hsl:=Xdr (fOf x.V8) (cOf x.Xx) ([]:List aE) k
 have hsz:(([]:List aE)).length=0:=rfl
 have hn4:k≤4:=(by omega)
 have hev:=X32 k
 refine T.seq (sR [hR 3 rfl rfl (Yg (u1:=.int .i64 q.Uv) (u2:=.int .i64 5) (v:=.int .i64 (Int.tmod q.Uv 5)) (Xfu (by omega) rfl) (X3 rfl) ⟨rfl,trivial⟩),hR 4 rfl rfl (Yg (u1:=.int .i64 (Int.tmod q.Uv 5)) (u2:=.int .i64 5) (v:=.int .i64 ((Int.tmod q.Uv 5)+5)) (W8 pb) (X3 rfl) ⟨rfl,trivial⟩),hR 5 rfl rfl (Yg (u1:=.int .i64 ((Int.tmod q.Uv 5)+5)) (u2:=.int .i64 5) (v:=.int .i64 (((Int.tmod q.Uv 5)+5) % 5)) (X6g (by omega) (by omega)) (X3 rfl) ⟨rfl,trivial⟩)] ?_)
 by_cases hq6:((k:Nat):Int)<(((Int.tmod q.Uv 5)+5) % 5)
 ·have hk3:((k:Nat):Int)<Uw q.Uv:=hq6
  refine cT (dT hq6) (T.skip (nT (T.seq (T.block ?_))))
  refine xR [hR 3 rfl rfl (Yg (u1:=.int .i64 ((k:Nat):Int)) (u2:=.int .i64 1) (v:=.int .i64 ((k+1:Nat):Int)) (W8 pb) (X3 rfl) ⟨rfl,trivial⟩),hR 5 rfl rfl (X4q (ls:=[8]) (X9e (fOf x.V8) (cOf x.Xx) (Vr (It (fOf x.V8) (cOf x.Xx) ([]:List aE) k)) (It (fOf x.V8) (cOf x.Xx) ([]:List aE) k) (ofB 6 ([]:List (List UInt8))) ([]:List Yi) ([]:List Xs) (Fc (Yc.mk ([]:List Int) ([]:List UInt8) ([]:List Int) false)) ([]:List aE) 1000 (aM.mk 1 0 0 1000 ((k+1:Nat):Int) [] ([]:List UInt8) (Y4.mk 0 0) ([]:List aE) ([]:List aE) ([]:List aC)) ‹_› ‹_› (by rfl) (by omega) (by omega) (Nat.le_trans (Xb9 k) (by decide)) (Nat.zero_le _) (Nat.zero_le _) (Nat.zero_le _) (Nat.zero_le _) (Nat.zero_le _)) Tryz.func24 rfl (by decide) [8,0,1,2,3,4,5,6,7,13] [] (l:=[(.const (.int .i64 1000),vI 1000),(.tmp 56,.tv (.agg [dI 1,dI 0,dI 0,Zxy,dI ((k+1:Nat):Int),dS [],Zww,dI 0,dI 0,Zww,Zww,Zww]))]) [] rfl 9 10 rfl rfl rfl rfl rfl rfl rfl rfl rfl ⟨.inl ⟨rfl,rfl⟩,⟨⟨.inl ⟨rfl,rfl⟩,⟨.inl ⟨rfl,rfl⟩,⟨.inl ⟨rfl,rfl⟩,⟨.inl ⟨rfl,rfl⟩,⟨.inl ⟨rfl,rfl⟩,⟨.inl ⟨rfl,rfl⟩,⟨.inr pq,⟨.inl ⟨rfl,rfl⟩,⟨.inl ⟨rfl,rfl⟩,⟨.inr pq,⟨.inr pq,⟨.inr pq,trivial⟩⟩⟩⟩⟩⟩⟩⟩⟩⟩⟩⟩,⟨.inl ⟨rfl,rfl⟩,trivial⟩⟩⟩ rfl p3a (.inl rfl) (X3 rfl) ⟨rfl,trivial⟩),hR 6 rfl rfl (Ye 14 43 (kE false) (Yt false) [(Jm 1000 (aM.mk 1 0 0 1000 ((k+1:Nat):Int) [] ([]:List UInt8) (Y4.mk 0 0) ([]:List aE) ([]:List aE) ([]:List aC)))] [⟨0,.tmp 57,.agg [dI (Zy0 k).X2,dU (Zy0 k).X7],0⟩] (cs:=[dI (Zy0 k).X2,dU (Zy0 k).X7]) Tryz.underlying37 Wy rfl H8 rfl rfl rfl pd (Yq rfl rfl pd W5) pZ8 (V6 pZ8) (X3 rfl) trivial),hR 7 rfl rfl (W0 12 15 43 32 (kE false) (Yt false) (W7 k) [(Jm 1000 (aM.mk 1 0 0 1000 ((k+1:Nat):Int) [] ([]:List UInt8) (Y4.mk 0 0) ([]:List aE) ([]:List aE) ([]:List aC)))] ((W7 k)++[(Jm 1000 (aM.mk 1 0 0 1000 ((k+1:Nat):Int) [] ([]:List UInt8) (Y4.mk 0 0) ([]:List aE) ([]:List aE) ([]:List aC)))]) (W7 k).length (sy:=(.own 14 (kE false).sz 0 [(Zy0 k)].length)) (rhs:=[(14,.live (Xf 43 (kE false) [(Zy0 k)]))]) Hh (by omega) (V0 14 43 (kE false) [(Jm 1000 (aM.mk 1 0 0 1000 ((k+1:Nat):Int) [] ([]:List UInt8) (Y4.mk 0 0) ([]:List aE) ([]:List aE) ([]:List aC)))]) I7 (by (simp [maxLen,-List.getD_eq_getElem?_getD]<;>omega)) (by (simp [maxLen,-List.getD_eq_getElem?_getD]<;>omega)) (X3 rfl) trivial)] pZ8 pZ8 ?_
  refine nB (nT (xK [hR 1 rfl rfl (Yg (u1:=.int .i64 ((k:Nat):Int)) (u2:=.int .i64 1) (v:=.int .i64 ((k+1:Nat):Int)) (W8 pb) (X3 rfl) ⟨rfl,trivial⟩)] ?_))
  refine nL (k+1) (show (((k+1):Nat):Int)≤Uw q.Uv from (by omega)) (show ((Uw q.Uv).toNat-(k+1):Nat)<(Uw q.Uv).toNat-k from (by omega)) (fun _ _ hG=>Wi [0,1,2,13,4,5,6,7,8,9,10,11,15] (bm 11 1976) (t1:=[aa,aa,aa,pv 9 0,pv 10 0,pv 11 0,aa,pv 8 0,sv (.clo 24 [8]),Y7 15 (kE false) 0 (W7 (k+1)).length,(Zy1 k)]) (t2:=[aa,aa,aa,pv 9 0,pv 10 0,pv 11 0,aa,pv 8 0,sv (.clo 24 [8]),Y7 15 (kE false) 0 ((W7 k)++[(Zy0 k)]).length,(Zy1 k)]) (h1:=[(Zxn x),.live (mpK Xi Y8 (Vr (Zy2 x k))),.live (.box 135 [dB true,(Zx4 x),(Zx0 x),.own 13 (kE false).sz 0 (Zy2 x k).length]),.live (Xf 43 (kE false) (Zy2 x k)),Zxs,Zxe,Zxt,Zxg,Zxu,(Zwx x),(Zwy q),(Zwz y),.live (Xf 43 (kE false) (W7 (k+1)))]) (h2:=[(Zxn x),.live (mpK Xi Y8 (Vr (Zy3 x k))),.live (.box 135 [dB true,(Zx4 x),(Zx0 x),.own 13 (kE false).sz 0 (Zy3 x k).length]),.live (Xf 43 (kE false) (Zy3 x k)),Zxs,Zxe,Zxt,Zxg,Zxu,(Zwx x),(Zwy q),(Zwz y),.live (Xf 43 (kE false) ((W7 k)++[(Zy0 k)]))]) (by have e1:((W7 (k+1)).length:Nat)=((W7 k)++[(Jm 1000 (aM.mk 1 0 0 1000 ((k+1:Nat):Int) [] ([]:List UInt8) (Y4.mk 0 0) ([]:List aE) ([]:List aE) ([]:List aC)))]).length:=(by (rw [X3u];rfl));have hE:=congrArg (fun (q1:Nat)=>([aa,aa,aa,pv 9 0,pv 10 0,pv 11 0,aa,pv 8 0,sv (.clo 24 [8]),Y7 15 (kE false) 0 q1,(Zy1 k)]:List AV)) e1;exact hE) (by have e1:((Vr (It (fOf x.V8) (cOf x.Xx) ([]:List aE) (k+1))):List (Yb×Bool))=(Vr (Vg (fOf x.V8) (cOf x.Xx) (It (fOf x.V8) (cOf x.Xx) ([]:List aE) k) 1000 (Vh (aM.mk 1 0 0 1000 ((k+1:Nat):Int) [] ([]:List UInt8) (Y4.mk 0 0) ([]:List aE) ([]:List aE) ([]:List aC))))):=(by rfl);have e2:((It (fOf x.V8) (cOf x.Xx) ([]:List aE) (k+1)).length:Nat)=(Vg (fOf x.V8) (cOf x.Xx) (It (fOf x.V8) (cOf x.Xx) ([]:List aE) k) 1000 (Vh (aM.mk 1 0 0 1000 ((k+1:Nat):Int) [] ([]:List UInt8) (Y4.mk 0 0) ([]:List aE) ([]:List aE) ([]:List aC)))).length:=(by rfl);have e3:((It (fOf x.V8) (cOf x.Xx) ([]:List aE) (k+1)):List aE)=(Vg (fOf x.V8) (cOf x.Xx) (It (fOf x.V8) (cOf x.Xx) ([]:List aE) k) 1000 (Vh (aM.mk 1 0 0 1000 ((k+1:Nat):Int) [] ([]:List UInt8) (Y4.mk 0 0) ([]:List aE) ([]:List aE) ([]:List aC)))):=(by rfl);have e4:((W7 (k+1)):List aE)=(W7 k)++[(Jm 1000 (aM.mk 1 0 0 1000 ((k+1:Nat):Int) [] ([]:List UInt8) (Y4.mk 0 0) ([]:List aE) ([]:List aE) ([]:List aC)))]:=(by (rw [X3u];rfl));have hE:=congr (congr (congr (congrArg (fun (q1:List (Yb×Bool)) (q2:Nat) (q3:List aE) (q4:List aE)=>([(Zxn x),.live (mpK Xi Y8 q1),.live (.box 135 [dB true,(Zx4 x),(Zx0 x),.own 13 (kE false).sz 0 q2]),.live (Xf 43 (kE false) q3),Zxs,Zxe,Zxt,Zxg,Zxu,(Zwx x),(Zwy q),(Zwz y),.live (Xf 43 (kE false) q4)]:List HS)) e1) e2) e3) e4;exact hE) hG)
 have hke:¬((k:Nat):Int)<Uw q.Uv:=hq6
 refine cF (dF hq6) (T.exit (xT (xT (xH (nT ?_)))))
 refine tN ⟨(Zy5 q k),(Zxv x q y k)⟩ ?_
 refine Wr (s':=⟨[aa,aa,aa,pv 9 0,pv 10 0,pv 11 0,aa,pv 8 0,sv (.clo 24 [8]),(Zy6 k),(Zxl k),aa,aa,aa,aa,aa,aa,aa,aa,aa,aa,aa,aa,aa,aa,aa,aa,aa,aa,aa,aa,aa,aa,aa,aa,aa,aa,aa,aa,aa,aa,aa,aa,aa,aa,aa,aa,aa,aa,(Zy4 q k)],[(Zxn x),(Zxp x k),(Zxq x k),(Zxr x k),Zxs,Zxe,Zxt,Zxg,Zxu,(Zwx x),(Zwy q),(Zwz y),.dead]⟩) (fun _ _ hG=>Gs.freeze (s:=⟨(Zy5 q k),(Zxv x q y k)⟩) 12 (el:=W6 (kE false) (W7 k)) (sz:=(kE false).sz) (n:=(W7 k).length) rfl ⟨.inl rfl,(kk8 ⟨(.inr pZ2),p2y⟩)⟩ ⟨pZ5,⟨pZ5,⟨pZ5,⟨pZ5,⟨pZ5,⟨pZ5,⟨pZ5,⟨pZ5,⟨pZ5,⟨pZ5,⟨pZ5,⟨pZ5,⟨(.inl ⟨rfl,rfl⟩),trivial⟩⟩⟩⟩⟩⟩⟩⟩⟩⟩⟩⟩⟩ hG) ?_
 refine sD [[],[0],[],[2],[],[],[5],[0,1,2,3,4,5,6],[],[0,1,2,3,4,5,6,7,8]] [hR 6 rfl rfl (rCa (X6w false false false (W7 k) (by omega)) Tryz.func28 [] [(.tmp 65,(Zy6 k))] 0 0)] ?_
 refine tN (Zy8 x q y k) ?_
 refine Wr (s':=⟨(Zy7 q k),(Zy9 x q y k)⟩) (fun _ _ hG=>Ym (s:=(Zy8 x q y k)) (kk2 X7c) ⟨.inl rfl,(kk4 (kk8 ⟨(.inr ⟨rfl,(kk2 (kk4 ⟨pq,⟨.inl rfl,(kk2 ⟨pq,⟨pq,trivial⟩⟩)⟩⟩))⟩),trivial⟩))⟩ hG) ?_
 refine Wr (s':=⟨(Zy7 q k),(Zyc x q y k)⟩) (fun _ _ hG=>Wi [0,1,2,3,4,5,6,7,8,9,10,11,27,13] (bm 50 562949953425336) (h1:=(Zyc x q y k)) (h2:=(Zy9 x q y k)) (t1:=(Zy7 q k)) rfl (cg12 (fun (q1:Int) (q2:Int) (q3:Int) (q4:Int) (q5:Int) (q6:List UInt8) (q7:List UInt8) (q8:Int) (q9:Int) (q10:List aE) (q11:List aE) (q12:List aC)=>([(Zxn x),(Zxp x k),(Zxq x k),(Zxr x k),Zxs,Zxe,Zxt,Zxg,Zxu,(Zwx x),(Zwy q),(Zwz y),.dead,.live (.box 78 [dI q1,dI q2,dI q3,dI q4,dI q5,dS q6,dU q7,dI q8,dI q9,.d (dsl false false (kE false) q10),.d (dsl false false (kE false) q11),.d (dsl false false (kC false) q12)])]:List HS)) (by rfl) (by rfl) (by rfl) (by rfl) (by rfl) (by rfl) (by rfl) (by rfl) (by rfl) (by rfl) (by rfl) (by rfl)) hG) ?_
 refine sD [[],[],[1],[],[3],[1,2,3,4],[],[0,1,2,3,4,5,6],[0,1,2,3,4,5,6,7],[],[0,1,2,3,4,5,6,7,8,9]] [hR 5 rfl rfl (rCa (Eo (fOf x.V8) (cOf x.Xx) (It (fOf x.V8) (cOf x.Xx) ([]:List aE) k) q.Xb ‹_› ‹_›) Tryz.func29 [2,3] [(.tmp 70,pv 2 0),(.tmp 72,vI q.Xb)] 2 2),hR 7 rfl rfl (X4q (ls:=[8]) (X9e (fOf x.V8) (cOf x.Xx) (Vr (It (fOf x.V8) (cOf x.Xx) ([]:List aE) k)) (It (fOf x.V8) (cOf x.Xx) ([]:List aE) k) (ofB 6 ([]:List (List UInt8))) ([]:List Yi) ([]:List Xs) (Fc (Yc.mk ([]:List Int) ([]:List UInt8) ([]:List Int) false)) ([]:List aE) (W1 (fOf x.V8) q.Xb) (J7 q.Xb q.Xg k) ‹_› ‹_› (by rfl) (by omega) ‹_› (Nat.le_trans (Xbc hn4) (by decide)) (by show (W7 k).length≤15;rw [X5t];omega) (Nat.zero_le _) (Nat.zero_le _) (Nat.zero_le _) (Nat.le_trans (X5e hn4) (by decide))) Tryz.func24 rfl (by decide) [8,0,1,2,3,4,5,6,7,14] [] (l:=[(.tmp 73,vI (W1 (fOf x.V8) q.Xb)),(.tmp 74,.tv (.agg (Zyb q k)))]) [] rfl 9 10 rfl rfl rfl rfl rfl rfl rfl rfl rfl ⟨.inl ⟨rfl,rfl⟩,⟨⟨.inl ⟨rfl,rfl⟩,⟨.inl ⟨rfl,rfl⟩,⟨.inl ⟨rfl,rfl⟩,⟨.inl ⟨rfl,rfl⟩,⟨.inl ⟨rfl,rfl⟩,⟨.inl ⟨rfl,rfl⟩,⟨.inl ⟨rfl,rfl⟩,⟨.inl ⟨rfl,rfl⟩,⟨.inl ⟨rfl,rfl⟩,⟨.inl ⟨rfl,rfl⟩,⟨.inl ⟨rfl,rfl⟩,⟨.inl ⟨rfl,rfl⟩,trivial⟩⟩⟩⟩⟩⟩⟩⟩⟩⟩⟩⟩,⟨.inl ⟨rfl,rfl⟩,trivial⟩⟩⟩ rfl p3a (.inl rfl) (X3 rfl) trivial)] ?_
 refine sR [] (sR [] (T.seq ?_))
 refine tN (Zyl x q y k) ?_
 refine Wr (s':=⟨(Zyd q k),(Zym x q y k)⟩) (fun _ _ hG=>Ym (s:=(Zyl x q y k)) (kk2 X7c) ⟨.inl rfl,(kk4 (kk8 ⟨(.inr ⟨rfl,⟨.inl rfl,(kk8 ⟨pq,(kk2 trivial)⟩)⟩⟩),(kk2 trivial)⟩))⟩ hG) ?_
 refine Wr (s':=⟨(Zyd q k),(Zyq x q y k)⟩) (fun _ _ hG=>Wi [0,1,2,20,4,5,6,7,8,9,10,11,33,13,14,15] (bm 50 562949953429432) (h1:=(Zyq x q y k)) (h2:=(Zym x q y k)) (t1:=(Zyd q k)) rfl (cg12 (fun (q1:Int) (q2:Int) (q3:Int) (q4:Int) (q5:Int) (q6:List UInt8) (q7:List UInt8) (q8:Int) (q9:Int) (q10:List aE) (q11:List aE) (q12:List aC)=>([(Zxn x),(Zyf x q k),(Zyg x q k),.dead,Zxs,Zxe,Zxt,Zxg,Zxu,(Zwx x),(Zwy q),(Zwz y),.dead,.live (.box 78 [dI q1,dI q2,dI q3,dI q4,dI q5,dS q6,dU q7,dI q8,dI q9,.d (dsl false false (kE false) q10),.d (dsl false false (kE false) q11),.d (dsl false false (kC false) q12)]),(Zyh x q k),(Zyk x q k)]:List HS)) (by rfl) (by rfl) (by rfl) (by rfl) (by rfl) (by rfl) (by rfl) (by rfl) (by rfl) (by rfl) (by rfl) (by rfl)) hG) (sR [] (T.block ?_))
 refine tN ⟨(Zyr q k),(Zyq x q y k)⟩ ?_
 refine Wr (s':=⟨(Zyr q k),[(Zxn x),(Zyf x q k),(Zyg x q k),.dead,Zxs,Zxe,Zxt,Zxg,Zxu,(Zwx x),(Zwy q),(Zwz y),.dead,(Zyp q k),(Zyh x q k),.live (.box 86 [(Zyi x q k),(Zyj x q k),.own 16 (kE false).sz 0 0]),Zxc]⟩) (fun _ _ hG=>J6 16 15 2 43 (kE false) (Tb:=86) (cs:=[(Zyi x q k),(Zyj x q k),Zww]) rfl rfl rfl hG) ?_
 refine T.loop (ι:=Nat) (fun (k2:Nat)=>(Zyz x q y k k2)) (fun (k2:Nat)=>(k2≤q.Xv.length)) (fun (k2:Nat)=>q.Xv.length-k2) (0) (Nat.zero_le _) (fun _ _ hG=>Wi [0,1,2,14,4,5,6,7,8,9,10,11,13,15,16] (bm 14 15288) (h1:=[(Zxn x),.live (mpK Xi Y8 (Vr (Zz0 x q k))),.live (.box 135 [dB true,(Zx4 x),(Zx0 x),.own 14 (kE false).sz 0 (Zz0 x q k).length]),.live (Xf 43 (kE false) (Zz0 x q k)),Zxs,Zxe,Zxt,Zxg,Zxu,(Zwx x),(Zwy q),(Zwz y),(Zyp q k),.live (.box 86 [(Zyi x q k),(Zyj x q k),.own 16 (kE false).sz 0 (Jp q.Xb q.Xg k q.Xv 0).length]),.live (Xf 43 (kE false) (Jp q.Xb q.Xg k q.Xv 0))]) (h2:=[(Zxn x),(Zyf x q k),(Zyg x q k),(Zyh x q k),Zxs,Zxe,Zxt,Zxg,Zxu,(Zwx x),(Zwy q),(Zwz y),(Zyp q k),.live (.box 86 [(Zyi x q k),(Zyj x q k),.own 16 (kE false).sz 0 0]),Zxc]) (t1:=[aa,aa,aa,pv 9 0,pv 10 0,pv 11 0,aa,pv 8 0,sv (.clo 24 [8]),(Zy6 k),aa,pv 13 0,pv 15 0,vI 0]) rfl (cg5 (fun (q1:List (Yb×Bool)) (q2:Nat) (q3:List aE) (q4:Nat) (q5:List aE)=>([(Zxn x),.live (mpK Xi Y8 q1),.live (.box 135 [dB true,(Zx4 x),(Zx0 x),.own 14 (kE false).sz 0 q2]),.live (Xf 43 (kE false) q3),Zxs,Zxe,Zxt,Zxg,Zxu,(Zwx x),(Zwy q),(Zwz y),(Zyp q k),.live (.box 86 [(Zyi x q k),(Zyj x q k),.own 16 (kE false).sz 0 q4]),.live (Xf 43 (kE false) q5)]:List HS)) (by rfl) (by rfl) (by rfl) (by rfl) (by rfl)) hG) ?_
 rintro k2 hk2
 show T _ _ (Zyz x q y k k2) _ _
 replace hk2:k2≤q.Xv.length:=hk2
 have hcl:=Xkt (v:=q.Xb) (s:=q.Xg) (n:=k) hk2
 have hsc:=Xds (fOf x.V8) (cOf x.Xx) q.Xb q.Xg k q.Xv (Vg (fOf x.V8) (cOf x.Xx) (It (fOf x.V8) (cOf x.Xx) ([]:List aE) k) (W1 (fOf x.V8) q.Xb) (Vh (J7 q.Xb q.Xg k))) k2
 have hl1:=X2r (fOf x.V8) (cOf x.Xx) (It (fOf x.V8) (cOf x.Xx) ([]:List aE) k) (W1 (fOf x.V8) q.Xb) (Vh (J7 q.Xb q.Xg k))
 have hpb:(Jm (W1 (fOf x.V8) q.Xb) (J7 q.Xb q.Xg k)).X7.length≤100000000:=Nat.le_trans (Nat.le_trans (X7y _) (Xbc hn4)) (by decide)
 refine T.seq (sR [] ?_)
 by_cases hq7:((k2:Nat):Int)<((q.Xv.length:Nat):Int)
 ·have hrs:-9223372036854775808≤(q.Xv.getD k2 0)∧(q.Xv.getD k2 0)≤9223372036854775807:=hr _ (Ur (z:=0) (show k2<q.Xv.length by omega))
  refine cT (dT hq7) (T.skip (nT (T.seq (T.block ?_))))
  refine xD [[],[0],[],[],[3],[],[3,4,5],[3,4,5,6],[],[2,3,4,5,6,7,8],[2,3,4,5,6,7,8,9],[0,1,2,3,4,5,6,7,8,9,10],[0,1,2,3,4,5,6,7,8,9,10,11],[0,1,2,3,4,5,6,7,8,9,10,11,12]] [hR 6 rfl rfl (W9 false false (U5 .i64) q.Xv k2 (k:=.i64) (i:=((k2:Nat):Int)) Tryz.underlying24 X19 rfl rfl (by omega) (X3 rfl) trivial),hR 9 rfl rfl (X4q (ls:=[8]) (X9e (fOf x.V8) (cOf x.Xx) (Vr (X0f (fOf x.V8) (cOf x.Xx) q.Xb q.Xg k q.Xv (Vg (fOf x.V8) (cOf x.Xx) (It (fOf x.V8) (cOf x.Xx) ([]:List aE) k) (W1 (fOf x.V8) q.Xb) (Vh (J7 q.Xb q.Xg k))) k2)) (X0f (fOf x.V8) (cOf x.Xx) q.Xb q.Xg k q.Xv (Vg (fOf x.V8) (cOf x.Xx) (It (fOf x.V8) (cOf x.Xx) ([]:List aE) k) (W1 (fOf x.V8) q.Xb) (Vh (J7 q.Xb q.Xg k))) k2) (ofB 6 ([]:List (List UInt8))) ([]:List Yi) ([]:List Xs) (Fc (Yc.mk ([]:List Int) ([]:List UInt8) ([]:List Int) false)) ([]:List aE) (q.Xv.getD k2 0) (Iy q.Xb q.Xg k) ‹_› ‹_› (by rfl) (by omega) ‹_› (Nat.le_trans (Xbr hn4) (by decide)) (Nat.zero_le _) (Nat.zero_le _) (Nat.zero_le _) (Nat.zero_le _) (Nat.le_trans (X5e hn4) (by decide))) Tryz.func24 rfl (by decide) [8,0,1,2,3,4,5,6,7,15] [] (l:=[(.tmp 93,vI (q.Xv.getD k2 0)),(.tmp 94,.tv (.agg (Zyo q k)))]) [] rfl 9 10 rfl rfl rfl rfl rfl rfl rfl rfl rfl ⟨.inl ⟨rfl,rfl⟩,⟨⟨.inl ⟨rfl,rfl⟩,⟨.inl ⟨rfl,rfl⟩,⟨.inl ⟨rfl,rfl⟩,⟨.inl ⟨rfl,rfl⟩,⟨.inl ⟨rfl,rfl⟩,⟨.inl ⟨rfl,rfl⟩,⟨.inl ⟨rfl,rfl⟩,⟨.inl ⟨rfl,rfl⟩,⟨.inl ⟨rfl,rfl⟩,⟨.inl ⟨rfl,rfl⟩,⟨.inl ⟨rfl,rfl⟩,⟨.inl ⟨rfl,rfl⟩,trivial⟩⟩⟩⟩⟩⟩⟩⟩⟩⟩⟩⟩,⟨.inl ⟨rfl,rfl⟩,trivial⟩⟩⟩ rfl p3a (.inl rfl) (X3 rfl) trivial),hR 10 rfl rfl (Ye 16 43 (kE false) (Yt false) [(Jm (q.Xv.getD k2 0) (Iy q.Xb q.Xg k))] [⟨0,.tmp 95,.agg [dI (Zz1 q k k2).X2,dU (Zz1 q k k2).X7],0⟩] (cs:=[dI (Zz1 q k k2).X2,dU (Zz1 q k k2).X7]) Tryz.underlying37 Wy rfl H8 rfl rfl rfl pd (Yq rfl rfl pd W5) pZ8 (V6 pZ8) (X3 rfl) trivial),hR 11 rfl rfl (W0 14 17 43 32 (kE false) (Yt false) (Jp q.Xb q.Xg k q.Xv k2) [(Jm (q.Xv.getD k2 0) (Iy q.Xb q.Xg k))] ((Jp q.Xb q.Xg k q.Xv k2)++[(Jm (q.Xv.getD k2 0) (Iy q.Xb q.Xg k))]) (Jp q.Xb q.Xg k q.Xv k2).length (sy:=(.own 16 (kE false).sz 0 [(Zz1 q k k2)].length)) (rhs:=[(16,.live (Xf 43 (kE false) [(Zz1 q k k2)]))]) Hh (by omega) (V0 16 43 (kE false) [(Jm (q.Xv.getD k2 0) (Iy q.Xb q.Xg k))]) I7 (by (simp [maxLen,-List.getD_eq_getElem?_getD]<;>omega)) (by (simp [maxLen,-List.getD_eq_getElem?_getD]<;>omega)) (X3 rfl) trivial)] pZ8 pZ8 pZ8 pZ8 pZ8 pZ8 ?_
  refine nB (nT (xK [hR 1 rfl rfl (Yg (u1:=.int .i64 ((k2:Nat):Int)) (u2:=.int .i64 1) (v:=.int .i64 ((k2+1:Nat):Int)) (W8 pb) (X3 rfl) ⟨rfl,trivial⟩)] ?_))
  refine nL (k2+1) (show (k2+1)≤q.Xv.length from (by omega)) (show (q.Xv.length-(k2+1):Nat)<q.Xv.length-k2 from (by omega)) (fun _ _ hG=>Wi [0,1,2,15,4,5,6,7,8,9,10,11,12,13,17] (bm 14 15288) (h1:=[(Zxn x),.live (mpK Xi Y8 (Vr (Zz3 x q k k2))),.live (.box 135 [dB true,(Zx4 x),(Zx0 x),.own 15 (kE false).sz 0 (Zz3 x q k k2).length]),.live (Xf 43 (kE false) (Zz3 x q k k2)),Zxs,Zxe,Zxt,Zxg,Zxu,(Zwx x),(Zwy q),(Zwz y),(Zyp q k),.live (.box 86 [(Zyi x q k),(Zyj x q k),.own 17 (kE false).sz 0 (Jp q.Xb q.Xg k q.Xv (k2+1)).length]),.live (Xf 43 (kE false) (Jp q.Xb q.Xg k q.Xv (k2+1)))]) (h2:=[(Zxn x),.live (mpK Xi Y8 (Vr (Zz4 x q k k2))),.live (.box 135 [dB true,(Zx4 x),(Zx0 x),.own 15 (kE false).sz 0 (Zz4 x q k k2).length]),.live (Xf 43 (kE false) (Zz4 x q k k2)),Zxs,Zxe,Zxt,Zxg,Zxu,(Zwx x),(Zwy q),(Zwz y),(Zyp q k),.live (.box 86 [(Zyi x q k),(Zyj x q k),.own 17 (kE false).sz 0 ((Zyw q k k2)++[(Zz1 q k k2)]).length]),.live (Xf 43 (kE false) ((Zyw q k k2)++[(Zz1 q k k2)]))]) (t1:=(Zz2 k k2)) rfl (by have e1:((Vr (X0f (fOf x.V8) (cOf x.Xx) q.Xb q.Xg k q.Xv (Vg (fOf x.V8) (cOf x.Xx) (It (fOf x.V8) (cOf x.Xx) ([]:List aE) k) (W1 (fOf x.V8) q.Xb) (Vh (J7 q.Xb q.Xg k))) (k2+1))):List (Yb×Bool))=(Vr (Vg (fOf x.V8) (cOf x.Xx) (X0f (fOf x.V8) (cOf x.Xx) q.Xb q.Xg k q.Xv (Vg (fOf x.V8) (cOf x.Xx) (It (fOf x.V8) (cOf x.Xx) ([]:List aE) k) (W1 (fOf x.V8) q.Xb) (Vh (J7 q.Xb q.Xg k))) k2) (q.Xv.getD k2 0) (Vh (Iy q.Xb q.Xg k)))):=(by rfl);have e2:((X0f (fOf x.V8) (cOf x.Xx) q.Xb q.Xg k q.Xv (Vg (fOf x.V8) (cOf x.Xx) (It (fOf x.V8) (cOf x.Xx) ([]:List aE) k) (W1 (fOf x.V8) q.Xb) (Vh (J7 q.Xb q.Xg k))) (k2+1)).length:Nat)=(Vg (fOf x.V8) (cOf x.Xx) (X0f (fOf x.V8) (cOf x.Xx) q.Xb q.Xg k q.Xv (Vg (fOf x.V8) (cOf x.Xx) (It (fOf x.V8) (cOf x.Xx) ([]:List aE) k) (W1 (fOf x.V8) q.Xb) (Vh (J7 q.Xb q.Xg k))) k2) (q.Xv.getD k2 0) (Vh (Iy q.Xb q.Xg k))).length:=(by rfl);have e3:((X0f (fOf x.V8) (cOf x.Xx) q.Xb q.Xg k q.Xv (Vg (fOf x.V8) (cOf x.Xx) (It (fOf x.V8) (cOf x.Xx) ([]:List aE) k) (W1 (fOf x.V8) q.Xb) (Vh (J7 q.Xb q.Xg k))) (k2+1)):List aE)=(Vg (fOf x.V8) (cOf x.Xx) (X0f (fOf x.V8) (cOf x.Xx) q.Xb q.Xg k q.Xv (Vg (fOf x.V8) (cOf x.Xx) (It (fOf x.V8) (cOf x.Xx) ([]:List aE) k) (W1 (fOf x.V8) q.Xb) (Vh (J7 q.Xb q.Xg k))) k2) (q.Xv.getD k2 0) (Vh (Iy q.Xb q.Xg k))):=(by rfl);have e4:((Jp q.Xb q.Xg k q.Xv (k2+1)).length:Nat)=((Jp q.Xb q.Xg k q.Xv k2)++[(Jm (q.Xv.getD k2 0) (Iy q.Xb q.Xg k))]).length:=(by (rw [X9v (by omega)]));have e5:((Jp q.Xb q.Xg k q.Xv (k2+1)):List aE)=(Jp q.Xb q.Xg k q.Xv k2)++[(Jm (q.Xv.getD k2 0) (Iy q.Xb q.Xg k))]:=(by (rw [X9v (by omega)]));have hE:=congr (congr (congr (congr (congrArg (fun (q1:List (Yb×Bool)) (q2:Nat) (q3:List aE) (q4:Nat) (q5:List aE)=>([(Zxn x),.live (mpK Xi Y8 q1),.live (.box 135 [dB true,(Zx4 x),(Zx0 x),.own 15 (kE false).sz 0 q2]),.live (Xf 43 (kE false) q3),Zxs,Zxe,Zxt,Zxg,Zxu,(Zwx x),(Zwy q),(Zwz y),(Zyp q k),.live (.box 86 [(Zyi x q k),(Zyj x q k),.own 17 (kE false).sz 0 q4]),.live (Xf 43 (kE false) q5)]:List HS)) e1) e2) e3) e4) e5;exact hE) hG)
 have hco:=comL_ok9 (v:=q.Xb) (s:=q.Xg) (n:=k) (ws:=q.Xv) (k:=k2) hn4 (by omega) hr
 refine cF (dF hq7) (T.exit (xT (xT (xH (nT (sR [] ?_))))))
 refine Uk ⟨Zz5,(Zz7 x q y k k2)⟩ ?_ ?_
 ·refine sR [] ?_
  by_cases hq8:(((W7 k).length:Nat):Int)>0
  ·have hbd:=X7m (a:=y.f_T.Wh) (b:=(((W7 k).length:Nat):Int)) (by omega);have he1:=Int.emod_nonneg (Int.tmod y.f_T.Wh (((W7 k).length:Nat):Int)+(((W7 k).length:Nat):Int)) (b:=(((W7 k).length:Nat):Int)) (by omega);have he2:=Int.emod_lt_of_pos (Int.tmod y.f_T.Wh (((W7 k).length:Nat):Int)+(((W7 k).length:Nat):Int)) (b:=(((W7 k).length:Nat):Int)) (by omega)
   refine cT (dT hq8) ?_
   refine xR [hR 6 rfl rfl (Yg (u1:=.int .i64 y.f_T.Wh) (u2:=.int .i64 (((W7 k).length:Nat):Int)) (v:=.int .i64 (Int.tmod y.f_T.Wh (((W7 k).length:Nat):Int))) (Xfu (by omega) rfl) (X3 rfl) trivial),hR 9 rfl rfl (Yg (u1:=.int .i64 (Int.tmod y.f_T.Wh (((W7 k).length:Nat):Int))) (u2:=.int .i64 (((W7 k).length:Nat):Int)) (v:=.int .i64 ((Int.tmod y.f_T.Wh (((W7 k).length:Nat):Int))+(((W7 k).length:Nat):Int))) (W8 pb) (X3 rfl) trivial),hR 12 rfl rfl (Yg (u1:=.int .i64 ((Int.tmod y.f_T.Wh (((W7 k).length:Nat):Int))+(((W7 k).length:Nat):Int))) (u2:=.int .i64 (((W7 k).length:Nat):Int)) (v:=.int .i64 (((Int.tmod y.f_T.Wh (((W7 k).length:Nat):Int))+(((W7 k).length:Nat):Int)) % (((W7 k).length:Nat):Int))) (X6g (by omega) ‹_›) (X3 rfl) trivial),hR 13 rfl rfl (W9 false false (kE false) (W7 k) (((Int.tmod y.f_T.Wh (((W7 k).length:Nat):Int))+(((W7 k).length:Nat):Int)) % (((W7 k).length:Nat):Int)).toNat (k:=.i64) (i:=(((Int.tmod y.f_T.Wh (((W7 k).length:Nat):Int))+(((W7 k).length:Nat):Int)) % (((W7 k).length:Nat):Int))) Tryz.underlying37 Wy rfl (by omega) (by omega) (X3 rfl) trivial)] pZ8 pZ8 ?_
   refine eN ⟨(Zz8 q k k2),(Zz9 x q y k k2)⟩ ?_
   refine X8 (s':=⟨Zz5,(Zz7 x q y k k2)⟩) (fun _ _ hG=>Yp [0,1,2,3,4,5,6,7,8,9,10,11,12,13,14,15] (bm 15 20664) (h2:=(Zz9 x q y k k2)) rfl (by have e1:((X1b (W7 k) y.f_T.Wh).X2:Int)=((W7 k).getD (((Int.tmod y.f_T.Wh (((W7 k).length:Nat):Int))+(((W7 k).length:Nat):Int)) % (((W7 k).length:Nat):Int)).toNat zE).X2:=(by (rw [Xjg (by omega)];done));have e2:((X1b (W7 k) y.f_T.Wh).X7:List UInt8)=((W7 k).getD (((Int.tmod y.f_T.Wh (((W7 k).length:Nat):Int))+(((W7 k).length:Nat):Int)) % (((W7 k).length:Nat):Int)).toNat zE).X7:=(by (rw [Xjg (by omega)];done));have hE:=congr p2e e2;exact hE) hG) ?_
   exact nJ
  refine cF (dF hq8) (T.skip ?_)
  refine eN (Zza x q y k k2) ?_
  refine X8 (s':=⟨(Zz8 q k k2),(Zzb x q y k k2)⟩) (fun _ _ hG=>Ym (s:=(Zza x q y k k2)) ⟨.inl rfl,(kk2 (kk4 (X41 p1w)))⟩ ⟨.inl rfl,(kk2 (kk4 (kk8 ⟨p35,trivial⟩)))⟩ hG) ?_
  refine X8 (s':=⟨Zz5,(Zz7 x q y k k2)⟩) (fun _ _ hG=>Yp [0,1,2,3,4,5,6,7,8,9,10,11,12,13,14,15] (bm 15 20664) (h2:=(Zzb x q y k k2)) rfl (by have e1:((X1b (W7 k) y.f_T.Wh).X2:Int)=1000:=(by (rw [ask_no (by omega)];done));have e2:((X1b (W7 k) y.f_T.Wh).X7:List UInt8)=([]:List UInt8):=(by (rw [ask_no (by omega)];done));have hE:=congr p2e e2;exact hE) hG) ?_
  exact nJ
 by_cases hq9:(ordE (Xd (fOf x.V8) (cOf x.Xx) (Vr (X0f (fOf x.V8) (cOf x.Xx) q.Xb q.Xg k q.Xv (Vg (fOf x.V8) (cOf x.Xx) (It (fOf x.V8) (cOf x.Xx) ([]:List aE) k) (W1 (fOf x.V8) q.Xb) (Vh (J7 q.Xb q.Xg k))) k2))) (fOf x.V8) (aC.mk (Jm (W1 (fOf x.V8) q.Xb) (J7 q.Xb q.Xg k)) (Jp q.Xb q.Xg k q.Xv k2)) y.Ji (X1b (W7 k) y.f_T.Wh))=(ordE (X9 (fOf x.V8) (cOf x.Xx) (X0f (fOf x.V8) (cOf x.Xx) q.Xb q.Xg k q.Xv (Vg (fOf x.V8) (cOf x.Xx) (It (fOf x.V8) (cOf x.Xx) ([]:List aE) k) (W1 (fOf x.V8) q.Xb) (Vh (J7 q.Xb q.Xg k))) k2)) (fOf x.V8) (aC.mk (Jm (W1 (fOf x.V8) q.Xb) (J7 q.Xb q.Xg k)) (Jp q.Xb q.Xg k q.Xv k2)) y.Ji (X1b (W7 k) y.f_T.Wh))
 ·refine Wr (s':=⟨Zz5,[(Zxn x),(Zyt x q k k2),(Zyu x q k k2),(Zyv x q k k2),Zxs,Zxe,Zxt,Zxg,Zxu,(Zwx x),(Zwy q),(Zwz y),(Zyp q k),.live (.box 86 (Zzc x q k k2)),.dead,.live (.box 43 (Zz6 y k))]⟩) (fun _ _ hG=>Gs.freeze (s:=⟨Zz5,(Zz7 x q y k k2)⟩) 14 (el:=W6 (kE false) (Jp q.Xb q.Xg k q.Xv k2)) (sz:=(kE false).sz) (n:=(Jp q.Xb q.Xg k q.Xv k2).length) rfl ⟨.inl rfl,(kk2 p3f)⟩ ⟨pZ5,⟨pZ5,⟨pZ5,⟨pZ5,⟨pZ5,⟨pZ5,⟨pZ5,⟨pZ5,⟨pZ5,⟨pZ5,⟨pZ5,⟨pZ5,⟨pZ5,⟨(.inr ⟨by decide,.inr ⟨rfl,(kk2 ⟨pZ2,trivial⟩)⟩⟩),⟨(.inl ⟨rfl,rfl⟩),⟨pZ5,trivial⟩⟩⟩⟩⟩⟩⟩⟩⟩⟩⟩⟩⟩⟩⟩⟩ hG) ?_
  refine sD [[],[0],[],[],[3],[],[0,1,2,3,4,5],[],[7],[],[],[10],[],[0,1,2,3,4,5,6,7,8,9,10,11,12],[0,1,2,3,4,5,6,7,8,9,10,11,12,13],[0,1,2,3,4,5,6,7,8,9,10,11,12,13,14],[0,1,2,3,4,5,6,7,8,9,10,11,12,13,14,15],[0,1,2,3,4,5,6,7,8,9,10,11,12,13,14,15,16],[0,1,2,3,4,5,6,7,8,9,10,11,12,13,14,15,16,17]] [hR 6 rfl rfl (rCa (Xet (fOf x.V8) (cOf x.Xx) (Vr (X0f (fOf x.V8) (cOf x.Xx) q.Xb q.Xg k q.Xv (Vg (fOf x.V8) (cOf x.Xx) (It (fOf x.V8) (cOf x.Xx) ([]:List aE) k) (W1 (fOf x.V8) q.Xb) (Vh (J7 q.Xb q.Xg k))) k2)) (aC.mk (Jm (W1 (fOf x.V8) q.Xb) (J7 q.Xb q.Xg k)) (Jp q.Xb q.Xg k q.Xv k2)) y.Ji (X1b (W7 k) y.f_T.Wh) ‹_› ‹_› ‹_› ‹_› ‹_›) Tryz.func30 [0,1] [(.tmp 119,pv 0 0),(.tmp 120,.tv (.agg (Zzc x q k k2))),(.tmp 122,vI y.Ji),(.tmp 123,.tv (.agg (Zz6 y k)))] 2 2),hR 13 rfl rfl (rCa (Xe1 (fOf x.V8) (cOf x.Xx) (X0f (fOf x.V8) (cOf x.Xx) q.Xb q.Xg k q.Xv (Vg (fOf x.V8) (cOf x.Xx) (It (fOf x.V8) (cOf x.Xx) ([]:List aE) k) (W1 (fOf x.V8) q.Xb) (Vh (J7 q.Xb q.Xg k))) k2) (aC.mk (Jm (W1 (fOf x.V8) q.Xb) (J7 q.Xb q.Xg k)) (Jp q.Xb q.Xg k q.Xv k2)) y.Ji (X1b (W7 k) y.f_T.Wh) ‹_› ‹_› (by omega) ‹_› ‹_› ‹_›) Tryz.func31 [2,3] [(.tmp 126,pv 2 0),(.tmp 127,.tv (.agg (Zzc x q k k2))),(.tmp 129,vI y.Ji),(.tmp 130,.tv (.agg (Zz6 y k)))] 2 2),hS 16 (oY rfl rfl rfl rfl (X3 rfl) (dT hq9) (rCa (Xkl  ) Tryz.func16 [] [] 0 0)),hP 17 (dT hq9)] ?_
  refine T.ret ?_
  exact eRt 6 (Zwv) [] rfl trivial
 exact absurd (by rw [Xhh]) hq9
end Go.Proofs.YtnaopgohccacmaaGreat.Q
