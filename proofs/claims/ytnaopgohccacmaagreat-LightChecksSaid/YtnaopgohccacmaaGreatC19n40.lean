import Derived.Test.YtnaopgohccacmaaGreatC19n39
namespace Go.Proofs.YtnaopgohccacmaaGreat.Q
open Go Go.RowKit
set_option linter.unusedVariables false
set_option linter.unusedSimpArgs false
set_option maxRecDepth 100000
set_option maxHeartbeats 4000000
section
variable (d:List UInt8) (L:List Xq) (seq:Int) (x:List aE) (b:List UInt8) (h:Int) (i:Int) (k2:Nat)
abbrev Zqe:AV:=slV false false (kE false) x
abbrev Zqf:HS:=.live (.box 106 [dB true,dI 0,dS d,.own 1 (Xr false).sz 0 L.length])
abbrev Zqg:HS:=.live (Xe 65 (Xr false) L)
abbrev Zqh:AV:=vI (unH 1099511627776 b)
abbrev Zqi:AV:=vI (unE 1099511627776 b)
abbrev Zqj:List AV:=[pv 0 0,vI seq,(Zqe x),slV false false kU8 b,vI h,vI i,aa,aa,aa,aa,aa,aa,pv 2 0,vI 12,(Zqh b),aa,aa,(Zqi b),aa,aa,aa,aa,aa,aa,aa,aa,aa,aa,aa,aa,aa,aa,aa,aa,aa,aa,aa,aa,vB true]
abbrev Zqk:SV:=.d (.val (.slice none 0 0))
abbrev Zql:HS:=.live (.box 49 [dI 0,Zqk,Zqk,Zqk,dI 0,dI 0,Zqk,dI 0,dI 0,Zqk])
abbrev Zqm:List HS:=[(Zqf d L),(Zqg L),Zql]
abbrev Zqn:SV:=.d (dsl false false (kE false) ([]:List aE))
abbrev Zqo:SV:=dU ([]:List UInt8)
abbrev Zqp:SV:=.d (dsl false false (X7 false) ([]:List Yf))
abbrev Zqq:SV:=.d (dsl false false (Xb false) ([]:List Y7))
abbrev Zqr:List SV:=[dI 0,Zqn,Zqo,Zqp,dI 0,dI 0,Zqo,dI 0,dI 0,Zqq]
abbrev Zqs:List HS:=[(Zqf d L),(Zqg L),.live (.box 49 Zqr)]
abbrev Zqt:AV:=vB (decide ((unH 1099511627776 b)≠seq))
abbrev Zqu:List AV:=[pv 0 0,vI seq,(Zqe x),slV false false kU8 b,vI h,vI i,aa,aa,aa,aa,aa,aa,pv 2 0,vI 12,(Zqh b),aa,aa,(Zqi b),aa,aa,aa,aa,aa,aa,aa,aa,aa,aa,aa,aa,aa,aa,aa,aa,aa,aa,aa,aa,(Zqt seq b)]
abbrev Zqv:List AV:=[pv 0 0,vI seq,(Zqe x),slV false false kU8 b,vI h,vI i,aa,aa,aa,aa,aa,aa,pv 2 0,vI 2,(Zqh b),aa,aa,(Zqi b),aa,aa,aa,aa,aa,aa,aa,aa,aa,aa,aa,aa,aa,aa,aa,aa,aa,aa,aa,aa,(Zqt seq b),aa,aa,aa,aa,aa,aa,aa,aa,aa,aa,aa,aa,aa,vB true]
abbrev Zqw:TV:=.one (dI 2)
abbrev Zqx:AV:=vB (decide ((seq-h)>999))
abbrev Zqy:List AV:=[pv 0 0,vI seq,(Zqe x),slV false false kU8 b,vI h,vI i,aa,aa,aa,aa,aa,aa,pv 2 0,vI 2,(Zqh b),aa,aa,(Zqi b),aa,aa,aa,aa,aa,aa,aa,aa,aa,aa,aa,aa,aa,aa,aa,aa,aa,aa,aa,aa,(Zqt seq b),aa,aa,aa,aa,aa,aa,aa,aa,aa,aa,aa,aa,aa,(Zqx seq h)]
abbrev Zqz:List AV:=[pv 0 0,vI seq,(Zqe x),slV false false kU8 b,vI h,vI i,aa,aa,aa,aa,aa,aa,pv 2 0,vI 0,(Zqh b),aa,aa,(Zqi b),pv 3 0,vI h,aa,aa,aa,aa,aa,aa,aa,aa,aa,aa,aa,aa,aa,aa,aa,aa,aa,aa,(Zqt seq b),aa,aa,aa,aa,aa,aa,aa,aa,aa,aa,aa,aa,aa,(Zqx seq h)]
abbrev Zr0:SV:=dI seq
abbrev Zr1:SV:=.d (dsl false false (kE false) x)
abbrev Zr2:SV:=dU b
abbrev Zr3:List HS:=[(Zqf d L),(Zqg L),Zql,.live (.box 49 [(Zr0 seq),(Zr1 x),(Zr2 b),.own 4 (X7 false).sz 0 0,dI i,dI 0,Zqk,dI 0,dI 0,Zqk]),.live (Xe 69 (X7 false) ([]:List Yf))]
abbrev Zr4:AV:=vI (h+((k2:Nat):Int))
abbrev Zr5:HS:=.live (.box 49 [(Zr0 seq),(Zr1 x),(Zr2 b),.own 4 (X7 false).sz 0 (hdrs (rblk 0 L) h k2).length,dI i,dI 0,Zqk,dI 0,dI 0,Zqk])
abbrev Zr6:HS:=.live (Xe 69 (X7 false) (hdrs (rblk 0 L) h k2))
abbrev Zr7:St:=⟨[pv 0 0,vI seq,(Zqe x),slV false false kU8 b,vI h,vI i,aa,aa,aa,aa,aa,aa,pv 2 0,vI 0,(Zqh b),aa,aa,(Zqi b),pv 3 0,(Zr4 h k2),aa,aa,aa,aa,aa,aa,aa,aa,aa,aa,aa,aa,aa,aa,aa,aa,aa,aa,(Zqt seq b),aa,aa,aa,aa,aa,aa,aa,aa,aa,aa,aa,aa,aa,(Zqx seq h)],[(Zqf d L),(Zqg L),Zql,(Zr5 L seq x b h i k2),(Zr6 L h k2)]⟩
abbrev Zra:List AV:=[pv 0 0,vI seq,(Zqe x),slV false false kU8 b,vI h,vI i,aa,aa,aa,aa,aa,aa,pv 2 0,vI 4,(Zqh b),aa,aa,(Zqi b),pv 3 0,(Zr4 h k2),pv 5 0,vI (X10 0 L.length (h+((k2:Nat):Int))),aa,aa,aa,aa,aa,aa,aa,aa,aa,aa,aa,aa,aa,aa,aa,aa,(Zqt seq b),aa,aa,aa,aa,aa,aa,aa,aa,aa,aa,aa,aa,aa,(Zqx seq h),aa,aa,aa,aa,aa,aa,aa,aa,aa,vB (decide ((h+((k2:Nat):Int))≤seq)),aa,aa,aa,aa,aa,aa,aa,aa,aa,vB (decide ((X10 0 L.length (h+((k2:Nat):Int)))≠0))]
abbrev Zrb:List SV:=[dI (rblk 0 L (h+((k2:Nat):Int))).Xg,dS (rblk 0 L (h+((k2:Nat):Int))).Y4,.d (dsl false false (kE false) (rblk 0 L (h+((k2:Nat):Int))).X9),.d (dsl false false (Xd false) (rblk 0 L (h+((k2:Nat):Int))).Xl)]
abbrev Zrc:=(Ws (rblk 0 L (h+((k2:Nat):Int))))
abbrev Zrd:List AV:=[pv 0 0,vI seq,(Zqe x),slV false false kU8 b,vI h,vI i,aa,aa,aa,aa,aa,aa,pv 2 0,vI 0,(Zqh b),aa,aa,(Zqi b),pv 3 0,vI (h+(((k2+1):Nat):Int)),aa,aa,aa,aa,aa,aa,aa,aa,aa,aa,aa,aa,aa,aa,aa,aa,aa,aa,(Zqt seq b),aa,aa,aa,aa,aa,aa,aa,aa,aa,aa,aa,aa,aa,(Zqx seq h)]
abbrev Zre:List SV:=[dI (rblk 0 L h).Xg,dS (rblk 0 L h).Y4,.d (dsl false false (kE false) (rblk 0 L h).X9),.d (dsl false false (Xd false) (rblk 0 L h).Xl)]
abbrev Zrf:List AV:=[pv 0 0,vI seq,(Zqe x),slV false false kU8 b,vI h,vI i,aa,aa,aa,aa,aa,aa,pv 2 0,vI (Je (rblk 0 L h) i),(Zqh b),aa,aa,vI (Je (rblk 0 L h) i),pv 3 0,(Zr4 h k2),aa,aa,pv 5 0,aa,slV false false (Xb false) (Iz (rblk 0 L h) i),aa,aa,aa,aa,aa,aa,aa,aa,aa,aa,aa,aa,aa,(Zqt seq b),aa,aa,aa,aa,aa,aa,aa,aa,aa,aa,aa,aa,aa,(Zqx seq h),aa,aa,aa,aa,aa,aa,aa,aa,aa,vB (decide ((h+((k2:Nat):Int))≤seq)),aa,aa,aa,aa,aa,aa,aa,aa,aa,aa,aa,aa,aa,aa,aa,aa,aa,aa,aa,aa,aa,aa,aa,aa,aa,aa,aa,aa,aa,aa,aa,vB (decide ((Je (rblk 0 L h) i)≠0))]
abbrev Zrg:List AV:=[pv 0 0,vI seq,(Zqe x),slV false false kU8 b,vI h,vI i,aa,aa,aa,aa,aa,aa,pv 2 0,vI 0,(Zqh b),aa,aa,vI (Je (rblk 0 L h) i),pv 3 0,(Zr4 h k2),aa,aa,pv 5 0,aa,slV false false (Xb false) (Iz (rblk 0 L h) i),aa,aa,aa,aa,aa,aa,aa,aa,aa,aa,aa,aa,aa,(Zqt seq b),aa,aa,aa,aa,aa,aa,aa,aa,aa,aa,aa,aa,aa,(Zqx seq h),aa,aa,aa,aa,aa,aa,aa,aa,aa,vB (decide ((h+((k2:Nat):Int))≤seq)),aa,aa,aa,aa,aa,aa,aa,aa,aa,aa,aa,aa,aa,aa,aa,aa,aa,aa,aa,aa,aa,aa,aa,aa,aa,aa,aa,aa,aa,aa,aa,vB (decide ((Je (rblk 0 L h) i)≠0))]
abbrev Zrh:SV:=dI ((rblk 0 L h).X9.getD (i).toNat zE).X4
abbrev Zri:SV:=dU ((rblk 0 L h).X9.getD (i).toNat zE).Xf
abbrev Zrj:SV:=dI ((rblk 0 L h).Xl.getD (i).toNat Ym).Xw
abbrev Zrk:SV:=dI ((rblk 0 L h).Xl.getD (i).toNat Ym).Xn
abbrev Zrl:HS:=.live (.box 49 [(Zr0 seq),(Zr1 x),(Zr2 b),.own 4 (X7 false).sz 0 (hdrs (rblk 0 L) h k2).length,dI i,(Zrh L h i),(Zri L h i),(Zrj L h i),(Zrk L h i),.d (dsl false false (Xb false) (Iz (rblk 0 L h) i))])
abbrev Zrm:List SV:=[(Zr0 seq),(Zr1 x),(Zr2 b),.d (dsl false false (X7 false) (hdrs (rblk 0 L) h k2)),dI i,(Zrh L h i),(Zri L h i),(Zrj L h i),(Zrk L h i),.d (dsl false false (Xb false) (Iz (rblk 0 L h) i))]
end
theorem Xdo (d:List UInt8) (L:List Xq) (seq:Int) (x:List aE) (b:List UInt8) (h:Int) (i:Int) (hl:L.length≤100) (hw:X04 L) (hx:X0l x) (hb:b.length≤100000000) (hsq:-9223372036854775808≤seq∧seq≤9223372036854775807) (hh:-9223372036854775808≤h∧h≤9223372036854775807) (hi:-9223372036854775808≤i∧i≤9223372036854775807):Holds Tryz.prog 11 ⟨[pv 0 0,vI seq,slV false false (kE false) x,slV false false kU8 b,vI h,vI i],[.box 106 [dB true,dI 0,dS d,.own 1 (Xr false).sz 0 L.length],Xe 65 (Xr false) L],.tup [.agg [dI (J1 (rblk 0 L) L.length seq x b h i).Xo,.d (dsl false false (kE false) (J1 (rblk 0 L) L.length seq x b h i).Xv),dU (J1 (rblk 0 L) L.length seq x b h i).Xa,.d (dsl false false (X7 false) (J1 (rblk 0 L) L.length seq x b h i).X0),dI (J1 (rblk 0 L) L.length seq x b h i).J6,dI (J1 (rblk 0 L) L.length seq x b h i).Xs.X4,dU (J1 (rblk 0 L) L.length seq x b h i).Xs.Xf,dI (J1 (rblk 0 L) L.length seq x b h i).X1.Xw,dI (J1 (rblk 0 L) L.length seq x b h i).X1.Xn,.d (dsl false false (Xb false) (J1 (rblk 0 L) L.length seq x b h i).Yv)],.one (dI (X3s (rblk 0 L) L.length seq b h i))],[.live (.box 106 [dB true,dI 0,dS d,.own 1 (Xr false).sz 0 L.length]),.live (Xe 65 (Xr false) L)]⟩:=by
 refine Holds.of Tryz.func11 rfl (N:=112) Tryz.ntmps11 rfl fun w0 B0 S0 U0=>?_
 show T _ (Y2 112 2 w0 S0 U0 B0) ⟨[pv 0 0,vI seq,(Zqe x),slV false false kU8 b,vI h,vI i],[(Zqf d L),(Zqg L)]⟩ _ _
 have hun:=Xfn (b:=b) (M:=((b.length:Nat):Int)) (M':=1099511627776) (Int.le_refl _) (by omega)
 obtain ⟨hun1,hun2,hun3,hun4⟩:=hun
 have hfw:=fun y=>rblk_few hw y
 have hfh:=hfw h
 refine sR [] ?_
 refine sR [hR 1 rfl rfl (rCa (X4i b ‹_›) Tryz.func43 [] [(.tmp 26,slV false false kU8 b)] 0 0)] ?_
 refine T.seq ?_
 by_cases hq1:(unE 1099511627776 b)≠0
 ·have h3:=hq1;rw [← hun4] at h3;have hx9:=X4q (bf:=(rblk 0 L)) (n:=L.length) (seq:=seq) (x:=x) (b:=b) (h:=h) (i:=i) (.inl h3)
  refine sR (Xm (hN · false (dT hq1)) [3,4,5] (hP 6 (dT hq1)::[])) ?_
  refine cT (b:=true) rfl ?_
  refine sR [] ?_
  refine T.ret (rT ?_)
  refine eN ⟨(Zqj seq x b h i),(Zqm d L)⟩ ?_
  refine Xc (s':=⟨(Zqj seq x b h i),(Zqs d L)⟩) (fun _ _ hG=>Ys (s:=⟨(Zqj seq x b h i),(Zqm d L)⟩) ⟨.inl rfl,(kk2 p52)⟩ p3g hG) ?_
  exact eX [.c 12 2 49 0 49 [dI 0,Zqn,Zqo,Zqp,dI 0,dI 0,Zqo,dI 0,dI 0,Zqq] (.agg Zqr),.t 13 (.one (dI 12))] ⟨⟨rfl,rfl,by kernel_rfl,by kernel_rfl,.inl ⟨10,V2,rfl,Nat.le_of_ble_eq_true rfl⟩⟩,⟨⟨rfl,by kernel_rfl⟩,trivial⟩⟩ [0,1] pZ3 (ix (ix trivial))
 have h3:=hq1;rw [← hun4] at h3;have hur:=un_rng h3
 refine sR (Xm (hY · (dF hq1)) [3,4,5] (hP 6 (dF hq1)::[])) ?_
 by_cases hq2:(unH 1099511627776 b)≠seq
 ·have h4:=hq2;rw [← hun1] at h4;have hx9:=X4q (bf:=(rblk 0 L)) (n:=L.length) (seq:=seq) (x:=x) (b:=b) (h:=h) (i:=i) (.inr h4)
  refine cT (dT hq2) ?_
  refine sR [] ?_
  refine T.ret (rT ?_)
  refine eN ⟨(Zqu seq x b h i),(Zqm d L)⟩ ?_
  refine Xc (s':=⟨(Zqu seq x b h i),(Zqs d L)⟩) (fun _ _ hG=>Ys (s:=⟨(Zqu seq x b h i),(Zqm d L)⟩) ⟨.inl rfl,(kk2 p52)⟩ p3g hG) ?_
  exact eX [.c 12 2 49 0 49 [dI 0,Zqn,Zqo,Zqp,dI 0,dI 0,Zqo,dI 0,dI 0,Zqq] (.agg Zqr),.t 13 (.one (dI 12))] ⟨⟨rfl,rfl,by kernel_rfl,by kernel_rfl,.inl ⟨10,V2,rfl,Nat.le_of_ble_eq_true rfl⟩⟩,⟨⟨rfl,by kernel_rfl⟩,trivial⟩⟩ [0,1] pZ3 (ix (ix trivial))
 have h4:=hq2;rw [← hun1] at h4; 
 refine cF (dF hq2) ?_
 refine T.skip (nT (T.seq ?_))
 by_cases hq3:h<1
 ·have hx9:=X2o (bf:=(rblk 0 L)) (n:=L.length) (seq:=seq) (x:=x) (b:=b) (h:=h) (i:=i) h3 h4 (by omega)
  refine sR (Xm (hN · false (dT hq3)) [3,4,5] (hP 6 (dT hq3)::(Xm hN0 [8,9,10,11] (hP1 12::[])))) ?_
  refine cT (b:=true) rfl ?_
  refine sR [] ?_
  refine T.ret (rT ?_)
  refine eN ⟨(Zqv seq x b h i),(Zqm d L)⟩ ?_
  refine Xc (s':=⟨(Zqv seq x b h i),(Zqs d L)⟩) (fun _ _ hG=>Ys (s:=⟨(Zqv seq x b h i),(Zqm d L)⟩) ⟨.inl rfl,(kk4 X5v)⟩ p3g hG) ?_
  exact eX [.c 12 2 49 0 49 [dI 0,Zqn,Zqo,Zqp,dI 0,dI 0,Zqo,dI 0,dI 0,Zqq] (.agg Zqr),.t 13 (Zqw)] ⟨⟨rfl,rfl,by kernel_rfl,by kernel_rfl,.inl ⟨10,V2,rfl,Nat.le_of_ble_eq_true rfl⟩⟩,⟨⟨rfl,by kernel_rfl⟩,trivial⟩⟩ [0,1] pZ3 (ix (ix trivial))
 by_cases hq4:h>seq
 ·have hx9:=X2o (bf:=(rblk 0 L)) (n:=L.length) (seq:=seq) (x:=x) (b:=b) (h:=h) (i:=i) h3 h4 (by omega)
  refine sR (Xm (hY · (dF hq3)) [3,4,5] (hP 6 (dF hq3)::(Xm (hN · false (dT hq4)) [8,9,10,11] (hP 12 (dT hq4)::[])))) ?_
  refine cT (b:=true) rfl ?_
  refine sR [] ?_
  refine T.ret (rT ?_)
  refine eN ⟨(Zqv seq x b h i),(Zqm d L)⟩ ?_
  refine Xc (s':=⟨(Zqv seq x b h i),(Zqs d L)⟩) (fun _ _ hG=>Ys (s:=⟨(Zqv seq x b h i),(Zqm d L)⟩) ⟨.inl rfl,(kk4 X5v)⟩ p3g hG) ?_
  exact eX [.c 12 2 49 0 49 [dI 0,Zqn,Zqo,Zqp,dI 0,dI 0,Zqo,dI 0,dI 0,Zqq] (.agg Zqr),.t 13 (Zqw)] ⟨⟨rfl,rfl,by kernel_rfl,by kernel_rfl,.inl ⟨10,V2,rfl,Nat.le_of_ble_eq_true rfl⟩⟩,⟨⟨rfl,by kernel_rfl⟩,trivial⟩⟩ [0,1] pZ3 (ix (ix trivial))
 refine sR (Xm (hY · (dF hq3)) [3,4,5] (hP 6 (dF hq3)::(hY 8 (dF hq4)::(hY 9 (dF hq4)::(hS 10 (oY rfl rfl rfl rfl (X3 rfl) (dF hq4) (Ye (u1:=.int .i64 seq) (u2:=.int .i64 h) (v:=.int .i64 (seq-h)) (Ve pa) (X3 rfl) F2))::(hY 11 (dF hq4)::(hP 12 (dF hq4)::[]))))))) ?_
 by_cases hq5:(seq-h)>999
 ·have hx9:=X2o (bf:=(rblk 0 L)) (n:=L.length) (seq:=seq) (x:=x) (b:=b) (h:=h) (i:=i) h3 h4 (by omega)
  refine cT (dT hq5) ?_
  refine sR [] ?_
  refine T.ret (rT ?_)
  refine eN ⟨(Zqy seq x b h i),(Zqm d L)⟩ ?_
  refine Xc (s':=⟨(Zqy seq x b h i),(Zqs d L)⟩) (fun _ _ hG=>Ys (s:=⟨(Zqy seq x b h i),(Zqm d L)⟩) ⟨.inl rfl,(kk4 X5v)⟩ p3g hG) ?_
  exact eX [.c 12 2 49 0 49 [dI 0,Zqn,Zqo,Zqp,dI 0,dI 0,Zqo,dI 0,dI 0,Zqq] (.agg Zqr),.t 13 (Zqw)] ⟨⟨rfl,rfl,by kernel_rfl,by kernel_rfl,.inl ⟨10,V2,rfl,Nat.le_of_ble_eq_true rfl⟩⟩,⟨⟨rfl,by kernel_rfl⟩,trivial⟩⟩ [0,1] pZ3 (ix (ix trivial))
 have h5:¬(h<1∨h>seq∨seq-h>999):=(by omega)
 refine cF (dF hq5) ?_
 refine T.skip (nT ?_)
 refine sR [] ?_
 refine T.seq ?_
 refine sR [] ?_
 refine T.block ?_
 refine tN ⟨(Zqz seq x b h i),[(Zqf d L),(Zqg L),Zql,.live (.box 49 [(Zr0 seq),(Zr1 x),(Zr2 b),Zqk,dI i,dI 0,Zqk,dI 0,dI 0,Zqk])]⟩ ?_
 refine Wv (s':=⟨(Zqz seq x b h i),(Zr3 d L seq x b i)⟩) (fun _ _ hG=>Jd 4 3 3 69 (X7 false) (Tb:=49) (cs:=[(Zr0 seq),(Zr1 x),(Zr2 b),Zqk,dI i,dI 0,Zqk,dI 0,dI 0,Zqk]) rfl rfl rfl hG) ?_
 refine T.loop (ι:=Nat) (fun (k2:Nat)=>(Zr7 d L seq x b h i k2)) (fun (k2:Nat)=>(((k2:Nat):Int)≤seq-h+1)∧(k2=0∨h+((k2:Nat):Int)≤((L.length:Nat):Int)+1)) (fun (k2:Nat)=>(seq-h+1).toNat-k2) (0) ⟨(show ((0:Nat):Int)≤seq-h+1 from (by omega)),(show 0=0∨h+((0:Nat):Int)≤((L.length:Nat):Int)+1 from (.inl rfl))⟩ (fun _ _ hG=>Yt [0,1,2,3,4] (bm 53 4503874506223679) (t2:=(Zqz seq x b h i)) (h2:=(Zr3 d L seq x b i)) pZ23 (cg2 (fun (q1:Nat) (q2:List Yf)=>([(Zqf d L),(Zqg L),Zql,.live (.box 49 [(Zr0 seq),(Zr1 x),(Zr2 b),.own 4 (X7 false).sz 0 q1,dI i,dI 0,Zqk,dI 0,dI 0,Zqk]),.live (Xe 69 (X7 false) q2)]:List HS)) (by rfl) (by rfl)) hG) ?_
 rintro k2 ⟨hk2,hb2⟩
 show T _ _ (Zr7 d L seq x b h i k2) _ _
 replace hk2:((k2:Nat):Int)≤seq-h+1:=hk2
 replace hb2:k2=0∨h+((k2:Nat):Int)≤((L.length:Nat):Int)+1:=hb2
 have hhl:=X9m (rblk 0 L) h k2
 have hfk:=hfw (h+((k2:Nat):Int))
 refine T.seq ?_
 refine sR [] ?_
 by_cases hq6:(h+((k2:Nat):Int))≤seq
 ·have hks:h+((k2:Nat):Int)≤seq:=(by omega)
  refine cT (dT hq6) ?_
  refine T.skip (nT (T.seq ?_))
  refine T.block ?_
  refine sR [hR 2 rfl rfl (rCa (X6v 0 d L (h+((k2:Nat):Int)) (by omega) ‹_› ‹_›) Tryz.func20 [0,1] [(.tmp 66,pv 0 0),(.tmp 67,(Zr4 h k2))] 2 2)] ?_
  refine T.seq ?_
  refine sR [] ?_
  by_cases hq7:(X10 0 L.length (h+((k2:Nat):Int)))≠0
  ·have hx9:=Xdy (bf:=(rblk 0 L)) (n:=L.length) (seq:=seq) (x:=x) (b:=b) (h:=h) (i:=i) h3 h4 h5 (by have h9:=Xif hq7 (by omega);omega)
   refine cT (dT hq7) ?_
   refine sR [] ?_
   refine T.ret (rT (rB (rT (rT (rB (rT ?_))))))
   refine eN ⟨(Zra L seq x b h i k2),[(Zqf d L),(Zqg L),Zql,(Zr5 L seq x b h i k2),(Zr6 L h k2),.live (.box 65 (Zrb L h k2))]⟩ ?_
   refine Xc (s':=⟨(Zra L seq x b h i k2),[(Zqf d L),(Zqg L),.live (.box 49 Zqr),(Zr5 L seq x b h i k2),(Zr6 L h k2),.live (.box 65 (Zrb L h k2))]⟩) (fun _ _ hG=>Ys (s:=⟨(Zra L seq x b h i k2),[(Zqf d L),(Zqg L),Zql,(Zr5 L seq x b h i k2),(Zr6 L h k2),.live (.box 65 (Zrb L h k2))]⟩) ⟨.inl rfl,(kk8 p4f)⟩ (kk2 ⟨pZs,⟨.inl rfl,(kk2 trivial)⟩⟩) hG) ?_
   exact eX [.c 12 2 49 0 49 [dI 0,Zqn,Zqo,Zqp,dI 0,dI 0,Zqo,dI 0,dI 0,Zqq] (.agg Zqr),.t 13 (.one (dI 4))] ⟨⟨rfl,rfl,by kernel_rfl,by kernel_rfl,.inl ⟨10,V2,rfl,Nat.le_of_ble_eq_true rfl⟩⟩,⟨⟨rfl,by kernel_rfl⟩,trivial⟩⟩ [0,1] pZ3 (ix (ix trivial))
  have hbi:=blk_in hq7
  refine cF (dF hq7) ?_
  refine T.skip (nT ?_)
  refine xD [[],[0],[],[2],[2,3],[0,1,2,3,4],[0,1,2,3,4,5],[0,1,2,3,4,5,6]] [hR 3 rfl rfl (rCa (X4k false (rblk 0 L (h+((k2:Nat):Int))) ‹_›) Tryz.func44 [] [(.tmp 76,.tv (.agg (Zrb L h k2)))] 0 0),hR 4 rfl rfl (Yd 6 69 (X7 false) (Vn false) [(Ws (rblk 0 L (h+((k2:Nat):Int))))] [⟨0,.tmp 77,.agg [dI (Zrc L h k2).Xg,dS (Zrc L h k2).Y4,dI (Zrc L h k2).Yg,dS (Zrc L h k2).W2],0⟩] (cs:=[dI (Zrc L h k2).Xg,dS (Zrc L h k2).Y4,dI (Zrc L h k2).Yg,dS (Zrc L h k2).W2]) Tryz.underlying41 Ja rfl X7i rfl rfl rfl pd (Yp rfl rfl pd W4) pZ7 (V1 pZ7) (X3 rfl) trivial),hR 5 rfl rfl (Yy 4 7 69 48 (X7 false) (Vn false) (hdrs (rblk 0 L) h k2) [(Ws (rblk 0 L (h+((k2:Nat):Int))))] ((hdrs (rblk 0 L) h k2)++[(Ws (rblk 0 L (h+((k2:Nat):Int))))]) (hdrs (rblk 0 L) h k2).length (sy:=(.own 6 (X7 false).sz 0 [(Zrc L h k2)].length)) (rhs:=[(6,.live (Xe 69 (X7 false) [(Zrc L h k2)]))]) X52 (by omega) (Wu 6 69 (X7 false) [(Ws (rblk 0 L (h+((k2:Nat):Int))))]) Jn (by (simp [maxLen,-List.getD_eq_getElem?_getD]<;>omega)) (by (simp [maxLen,-List.getD_eq_getElem?_getD]<;>omega)) (X3 rfl) trivial)] pZ7 pZ7 pZ7 pZ7 pZ7 pZ7 ?_
  refine nB ?_
  refine nT ?_
  refine xK [hR 1 rfl rfl (Ye (u1:=.int .i64 (h+((k2:Nat):Int))) (u2:=.int .i64 1) (v:=.int .i64 ((h+((k2:Nat):Int))+1)) (Wa pa) (X3 rfl) ⟨rfl,trivial⟩)] ?_
  refine nL (k2+1) ⟨(show (((k2+1):Nat):Int)≤seq-h+1 from (by omega)),(show (k2+1)=0∨h+(((k2+1):Nat):Int)≤((L.length:Nat):Int)+1 from (.inr (by omega)))⟩ (show ((seq-h+1).toNat-(k2+1):Nat)<(seq-h+1).toNat-k2 from (by omega)) (fun _ _ hG=>Vb [0,1,2,3,7] (bm 53 4503874506223679) (t1:=(Zrd seq x b h i k2)) (t2:=[pv 0 0,vI seq,(Zqe x),slV false false kU8 b,vI h,vI i,aa,aa,aa,aa,aa,aa,pv 2 0,vI 0,(Zqh b),aa,aa,(Zqi b),pv 3 0,vI ((h+((k2:Nat):Int))+1),aa,aa,aa,aa,aa,aa,aa,aa,aa,aa,aa,aa,aa,aa,aa,aa,aa,aa,(Zqt seq b),aa,aa,aa,aa,aa,aa,aa,aa,aa,aa,aa,aa,aa,(Zqx seq h)]) (h1:=[(Zqf d L),(Zqg L),Zql,.live (.box 49 [(Zr0 seq),(Zr1 x),(Zr2 b),.own 7 (X7 false).sz 0 (hdrs (rblk 0 L) h (k2+1)).length,dI i,dI 0,Zqk,dI 0,dI 0,Zqk]),.live (Xe 69 (X7 false) (hdrs (rblk 0 L) h (k2+1)))]) (h2:=[(Zqf d L),(Zqg L),Zql,.live (.box 49 [(Zr0 seq),(Zr1 x),(Zr2 b),.own 7 (X7 false).sz 0 ((hdrs (rblk 0 L) h k2)++[(Zrc L h k2)]).length,dI i,dI 0,Zqk,dI 0,dI 0,Zqk]),.live (Xe 69 (X7 false) ((hdrs (rblk 0 L) h k2)++[(Zrc L h k2)]))]) pZ23 (by have e1:((hdrs (rblk 0 L) h (k2+1)).length:Nat)=((hdrs (rblk 0 L) h k2)++[(Ws (rblk 0 L (h+((k2:Nat):Int))))]).length:=p4x;have e2:((hdrs (rblk 0 L) h (k2+1)):List Yf)=(hdrs (rblk 0 L) h k2)++[(Ws (rblk 0 L (h+((k2:Nat):Int))))]:=p4x;have hE:=congr (congrArg (fun (q1:Nat) (q2:List Yf)=>([(Zqf d L),(Zqg L),Zql,.live (.box 49 [(Zr0 seq),(Zr1 x),(Zr2 b),.own 7 (X7 false).sz 0 q1,dI i,dI 0,Zqk,dI 0,dI 0,Zqk]),.live (Xe 69 (X7 false) q2)]:List HS)) e1) e2;exact hE) hG)
 have hkn:((k2:Nat):Int)=seq-h+1:=(by omega);have h6:¬seq>((L.length:Nat):Int):=(by omega)
 refine cF (dF hq6) ?_
 refine T.exit ?_
 refine xT ?_
 refine xT ?_
 refine xH ?_
 refine nT ?_
 refine sR [hR 2 rfl rfl (rCa (X6v 0 d L h (by omega) ‹_› ‹_›) Tryz.func20 [0,1] [(.tmp 82,pv 0 0),(.tmp 83,vI h)] 2 2)] ?_
 refine sR [hR 2 rfl rfl (rCa (Xdr false (rblk 0 L h) i ‹_›) Tryz.func45 [] [(.tmp 88,.tv (.agg (Zre L h))),(.tmp 89,vI i)] 0 0)] ?_
 refine T.seq ?_
 refine sR [] ?_
 by_cases hq8:(Je (rblk 0 L h) i)≠0
 ·have hx9:=Xhk (bf:=(rblk 0 L)) (n:=L.length) (seq:=seq) (x:=x) (b:=b) (h:=h) (i:=i) h3 h4 h5 h6 hq8
  refine cT (dT hq8) ?_
  refine sR [] ?_
  refine T.ret (rT ?_)
  refine eN ⟨(Zrf L seq x b h i k2),[(Zqf d L),(Zqg L),Zql,(Zr5 L seq x b h i k2),(Zr6 L h k2),.live (.box 65 (Zre L h))]⟩ ?_
  refine Xc (s':=⟨(Zrf L seq x b h i k2),[(Zqf d L),(Zqg L),.live (.box 49 Zqr),(Zr5 L seq x b h i k2),(Zr6 L h k2),.live (.box 65 (Zre L h))]⟩) (fun _ _ hG=>Ys (s:=⟨(Zrf L seq x b h i k2),[(Zqf d L),(Zqg L),Zql,(Zr5 L seq x b h i k2),(Zr6 L h k2),.live (.box 65 (Zre L h))]⟩) ⟨.inl rfl,(kk2 (kk4 (kk8 (Fq p4f))))⟩ (kk2 ⟨pZs,⟨.inl rfl,(kk2 trivial)⟩⟩) hG) ?_
  exact eX [.c 12 2 49 0 49 [dI 0,Zqn,Zqo,Zqp,dI 0,dI 0,Zqo,dI 0,dI 0,Zqq] (.agg Zqr),.t 13 (.one (dI (Je (rblk 0 L h) i)))] ⟨⟨rfl,rfl,by kernel_rfl,by kernel_rfl,.inl ⟨10,V2,rfl,Nat.le_of_ble_eq_true rfl⟩⟩,⟨⟨rfl,by kernel_rfl⟩,trivial⟩⟩ [0,1] pZ3 (ix (ix trivial))
 have hx9:=prv_ok (bf:=(rblk 0 L)) (n:=L.length) (seq:=seq) (x:=x) (b:=b) (h:=h) (i:=i) h3 h4 h5 h6 hq8 hkn;obtain ⟨p1,p2,p3,p4,p5,p6,p7⟩:=Xc7 (hfw h) (Classical.not_not.1 hq8)
 refine cF (dF hq8) ?_
 refine T.skip (nT ?_)
 refine sR [] ?_
 refine sR [hR 3 rfl rfl (Wd false false (kE false) (rblk 0 L h).X9 (i).toNat (k:=.i64) (i:=i) Tryz.underlying37 Vs rfl (by omega) (by omega) (X3 rfl) trivial)] ?_
 refine sR [hR 3 rfl rfl (Wd false false (Xd false) (rblk 0 L h).Xl (i).toNat (k:=.i64) (i:=i) Tryz.underlying63 Em rfl (by omega) (by omega) (X3 rfl) trivial)] ?_
 refine sR [] ?_
 refine T.ret ?_
 refine eN ⟨(Zrg L seq x b h i k2),[(Zqf d L),(Zqg L),(Zrl L seq x b h i k2),(Zrl L seq x b h i k2),(Zr6 L h k2),.live (.box 65 (Zre L h))]⟩ ?_
 refine Xc (s':=⟨(Zrg L seq x b h i k2),[(Zqf d L),(Zqg L),.live (.box 49 (Zrm L seq x b h i k2)),.live (.box 49 (Zrm L seq x b h i k2)),.dead,.live (.box 65 (Zre L h))]⟩) (fun _ _ hG=>Gs.freeze (s:=⟨(Zrg L seq x b h i k2),[(Zqf d L),(Zqg L),(Zrl L seq x b h i k2),(Zrl L seq x b h i k2),(Zr6 L h k2),.live (.box 65 (Zre L h))]⟩) 4 (el:=W6 (X7 false) (hdrs (rblk 0 L) h k2)) (sz:=(X7 false).sz) (n:=(hdrs (rblk 0 L) h k2).length) rfl ⟨.inl rfl,(kk2 (kk4 (kk8 (Fq p4f))))⟩ ⟨pc,⟨pc,⟨pp,⟨pp,⟨(.inl ⟨rfl,rfl⟩),⟨pc,trivial⟩⟩⟩⟩⟩⟩ hG) ?_
 exact eX [.c 12 2 49 0 49 [(Zr0 seq),(Zr1 x),(Zr2 b),.d (dsl false false (X7 false) (hdrs (rblk 0 L) h k2)),dI i,(Zrh L h i),(Zri L h i),(Zrj L h i),(Zrk L h i),.d (dsl false false (Xb false) (Iz (rblk 0 L h) i))] (.agg (Zrm L seq x b h i k2)),.t 13 (.one (dI 0))] ⟨⟨rfl,rfl,by kernel_rfl,by kernel_rfl,.inl ⟨10,V2,rfl,Nat.le_of_ble_eq_true rfl⟩⟩,⟨⟨rfl,by kernel_rfl⟩,trivial⟩⟩ [0,1] pZ3 (ix (ix trivial))
end Go.Proofs.YtnaopgohccacmaaGreat.Q
