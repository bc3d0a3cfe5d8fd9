import Derived.Test.YtnaopgohccacmaaGreatC19n32
namespace Go.Proofs.YtnaopgohccacmaaGreat.Q
open Go Go.RowKit
set_option linter.unusedVariables false
set_option linter.unusedSimpArgs false
set_option maxRecDepth 100000
set_option maxHeartbeats 4000000
section
variable (f:Int) (u:Int) (l:List aE) (e:aE) (k:Int)
abbrev Zjw:List SV:=[dI e.X4,dU e.Xf]
abbrev Zjx:HS:=.live (.box 135 [dB true,dI f,dI u,.own 1 (kE false).sz 0 l.length])
abbrev Zjy:AV:=vB (decide ((opR (Xu f u l) e)≠0))
abbrev Zjz:List AV:=[pv 0 0,.tv (.agg (Zjw e)),vI k,aa,pv 2 0,aa,pv 3 0,vI (opR (Xu f u l) e),pv 4 0,vI (opR (Xu f u l) e),aa,aa,aa,aa,aa,aa,aa,(Zjy f u l e)]
abbrev Zk0:SV:=.d (.val (.slice none 0 0))
abbrev Zk1:SV:=.d (dsl false false (kE false) (orV (Xu f u l) e).Xp)
abbrev Zk2:SV:=.d (dsl false false (kE false) (orV (Xu f u l) e).Y5)
abbrev Zk3:SV:=.d (dsl false false (kC false) (orV (Xu f u l) e).X5)
abbrev Zk4:List SV:=[dI (orV (Xu f u l) e).X2,dI (orV (Xu f u l) e).Y1,dI (orV (Xu f u l) e).Xo,dI (orV (Xu f u l) e).Xi,dI (orV (Xu f u l) e).Yj,dS (orV (Xu f u l) e).X8,dU (orV (Xu f u l) e).Xa,dI (orV (Xu f u l) e).X1.Xw,dI (orV (Xu f u l) e).X1.Xn,(Zk1 f u l e),(Zk2 f u l e),(Zk3 f u l e)]
abbrev Zk5:List HS:=[(Zjx f u l),.live (Xe 43 (kE false) l),.live (.box 43 (Zjw e)),.live (.box 78 [dI 0,dI 0,dI 0,dI 0,dI 0,dS [],Zk0,dI 0,dI 0,Zk0,Zk0,Zk0]),.live (.box 78 (Zk4 f u l e))]
abbrev Zk6:SV:=dU ([]:List UInt8)
abbrev Zk7:SV:=.d (dsl false false (kE false) ([]:List aE))
abbrev Zk8:SV:=.d (dsl false false (kC false) ([]:List aC))
abbrev Zk9:List SV:=[dI 0,dI 0,dI 0,dI 0,dI 0,dS [],Zk6,dI 0,dI 0,Zk7,Zk7,Zk8]
abbrev Zka:List HS:=[(Zjx f u l),.live (Xe 43 (kE false) l),.live (.box 43 (Zjw e)),.live (.box 78 Zk9),.live (.box 78 (Zk4 f u l e))]
abbrev Zkb:List AV:=[pv 0 0,.tv (.agg (Zjw e)),vI k,aa,pv 2 0,aa,pv 3 0,vI 120,pv 4 0,vI (opR (Xu f u l) e),aa,aa,aa,aa,aa,aa,aa,(Zjy f u l e),aa,aa,aa,aa,aa,aa,aa,aa,aa,aa,aa,aa,aa,aa,aa,aa,aa,vB true]
abbrev Zkc:List AV:=[pv 0 0,.tv (.agg (Zjw e)),vI k,aa,pv 2 0,aa,pv 3 0,vI 120,pv 4 0,vI (opR (Xu f u l) e),aa,aa,aa,aa,aa,aa,aa,(Zjy f u l e),aa,aa,aa,aa,aa,aa,aa,aa,aa,aa,aa,aa,aa,aa,aa,aa,aa,vB (decide (k≠5))]
abbrev Zkd:TV:=.one (dI 0)
abbrev Zke:List AV:=[pv 0 0,.tv (.agg (Zjw e)),vI k,aa,pv 2 0,aa,pv 3 0,vI 30,pv 4 0,vI (opR (Xu f u l) e),aa,aa,aa,aa,aa,aa,aa,(Zjy f u l e),aa,aa,aa,aa,aa,aa,aa,aa,aa,aa,aa,aa,aa,aa,aa,aa,aa,vB (decide (k≠5)),aa,aa,aa,aa,aa,vB (!(decide (V0 f e.X4)))]
abbrev Zkf:List AV:=[pv 0 0,.tv (.agg (Zjw e)),vI k,aa,pv 2 0,aa,pv 3 0,vI 30,pv 4 0,vI (opR (Xu f u l) e),aa,aa,aa,aa,aa,aa,aa,(Zjy f u l e),aa,aa,aa,aa,aa,aa,aa,aa,aa,aa,aa,aa,aa,aa,aa,aa,aa,vB false,aa,aa,aa,aa,aa,vB (!(decide (V0 f e.X4)))]
end
theorem Xfw (f:Int) (u:Int) (l:List aE) (e:aE) (k:Int) (hf:0≤f∧f≤2) (hu:0≤u∧u≤8) (hl:l.length≤9223372036854775806) (hs:-9223372036854775808≤e.X4∧e.X4≤9223372036854775807) (hb:e.Xf.length≤100000000):Holds Tryz.prog 112 ⟨[pv 0 0,.tv (.agg [dI e.X4,dU e.Xf]),vI k],[.box 135 [dB true,dI f,dI u,.own 1 (kE false).sz 0 l.length],Xe 43 (kE false) l],.tup [.agg [dI (vtV (Xu f u l) f e k).X2,dI (vtV (Xu f u l) f e k).Y1,dI (vtV (Xu f u l) f e k).Xo,dI (vtV (Xu f u l) f e k).Xi,dI (vtV (Xu f u l) f e k).Yj,dS (vtV (Xu f u l) f e k).X8,dU (vtV (Xu f u l) f e k).Xa,dI (vtV (Xu f u l) f e k).X1.Xw,dI (vtV (Xu f u l) f e k).X1.Xn,.d (dsl false false (kE false) (vtV (Xu f u l) f e k).Xp),.d (dsl false false (kE false) (vtV (Xu f u l) f e k).Y5),.d (dsl false false (kC false) (vtV (Xu f u l) f e k).X5)],.one (dI (vtE (Xu f u l) f e k))],[.live (.box 135 [dB true,dI f,dI u,.own 1 (kE false).sz 0 l.length]),.live (Xe 43 (kE false) l)]⟩:=by
 refine Holds.of Tryz.func112 rfl (N:=44) Tryz.ntmps112 rfl fun w0 B0 S0 U0=>?_
 show T _ (Y2 44 2 w0 S0 U0 B0) ⟨[pv 0 0,.tv (.agg (Zjw e)),vI k],[(Zjx f u l),.live (Xe 43 (kE false) l)]⟩ _ _
 refine sR [] ?_
 refine sR [hR 2 rfl rfl (rCa (Xfv f u l e ‹_› ‹_› ‹_› ‹_› ‹_›) Tryz.func150 [0,1] [(.tmp 11,pv 0 0),(.tmp 12,.tv (.agg (Zjw e)))] 2 2)] ?_
 refine T.seq ?_
 refine sR [] ?_
 by_cases hq1:(opR (Xu f u l) e)≠0
 ·have hr9:=(or_op (Xu f u l) e k).1 hq1;have hx9:=vt_o (f:=f) (show opE (Xu f u l) e k≠0 by rw [hr9];exact hq1);rw [hr9] at hx9
  refine cT (dT hq1) ?_
  refine sR [] ?_
  refine T.ret (rT ?_)
  refine eN ⟨(Zjz f u l e k),(Zk5 f u l e)⟩ ?_
  refine Xc (s':=⟨(Zjz f u l e k),(Zka f u l e)⟩) (fun _ _ hG=>Ys (s:=⟨(Zjz f u l e k),(Zk5 f u l e)⟩) p5i ⟨.inl rfl,p1n⟩ hG) ?_
  exact eX [.c 6 3 78 0 78 [dI 0,dI 0,dI 0,dI 0,dI 0,dS [],Zk6,dI 0,dI 0,Zk7,Zk7,Zk8] (.agg Zk9),.t 7 (.one (dI (opR (Xu f u l) e)))] ⟨⟨rfl,rfl,by kernel_rfl,by kernel_rfl,.inl ⟨12,Wp,rfl,Nat.le_of_ble_eq_true rfl⟩⟩,⟨⟨rfl,by kernel_rfl⟩,trivial⟩⟩ [0,1] pZ2 (ix (ix trivial))
 have hr9:=or_op (Xu f u l) e k;have hv9:=or_val hq1;have hbo:=Xf4 e.Xf;rw [← hv9] at hbo;have hbl:=Xhq hbo
 refine cF (dF hq1) ?_
 refine T.skip (nT (T.seq ?_))
 by_cases hq2:(orV (Xu f u l) e).X2≠k
 ·have hm9:=hq2;rw [hv9] at hm9;have hk9:=hr9.2.1 ‹_› hm9;have hx9:=vt_o (f:=f) (show opE (Xu f u l) e k≠0 by rw [hk9];decide);rw [hk9] at hx9
  refine sR (Xm (hN · false (dT hq2)) [5,6,7] (hU 8::(hU 9::(hN 10 false (dT hq2)::(hN 11 false (dT hq2)::(hU 12::(hU 13::(hN 14 false (dT hq2)::(hP 15 (dT hq2)::[]))))))))) ?_
  refine cT (b:=true) rfl ?_
  refine sR [] ?_
  refine T.ret (rT ?_)
  refine eN ⟨(Zkb f u l e k),(Zk5 f u l e)⟩ ?_
  refine Xc (s':=⟨(Zkb f u l e k),(Zka f u l e)⟩) (fun _ _ hG=>Ys (s:=⟨(Zkb f u l e k),(Zk5 f u l e)⟩) p52 ⟨.inl rfl,p1n⟩ hG) ?_
  exact eX [.c 6 3 78 0 78 [dI 0,dI 0,dI 0,dI 0,dI 0,dS [],Zk6,dI 0,dI 0,Zk7,Zk7,Zk8] (.agg Zk9),.t 7 (.one (dI 120))] ⟨⟨rfl,rfl,by kernel_rfl,by kernel_rfl,.inl ⟨12,Wp,rfl,Nat.le_of_ble_eq_true rfl⟩⟩,⟨⟨rfl,by kernel_rfl⟩,trivial⟩⟩ [0,1] pZ2 (ix (ix trivial))
 have hm9:=hq2;rw [hv9] at hm9;have ho9:¬opE (Xu f u l) e k≠0:=fun q=>q (hr9.2.2 ‹_› hm9).1
 by_cases hq3:k≠3
 rotate_left
 ·have hk3:¬(k≠3∧k≠4∧k≠5):=(fun q=>hq3 q.1)
  refine sR (Xm (hY · (dF hq2)) [5,6,7] (hN 8 true (dF hq3)::(hN 9 true (dF hq3)::(hS 10 (oY rfl rfl rfl rfl (X3 rfl) (dF hq2) (Wi (b:=(decide (k≠3))) (av:=vB false) (X3 rfl) ⟨rfl,trivial⟩ (dF hq3)))::(hY 11 (dF hq2)::(hN1 12::(hN1 13::(hS 14 (oY rfl rfl rfl rfl (X3 rfl) (dF hq2) (Wi (b:=false) (av:=vB false) (X3 rfl) ⟨rfl,trivial⟩ rfl))::(hP 15 (dF hq2)::[]))))))))) ?_
  refine cF (b:=false) rfl ?_
  refine T.skip (nT (T.seq ?_))
  refine sR [hR 3 rfl rfl (rCa (It f u l e.X4 ‹_› ‹_›) Tryz.func124 [0,1] [(.tmp 37,pv 0 0),(.tmp 39,vI e.X4)] 2 2)] ?_
  by_cases hq8:V0 f e.X4
  ·have hx9:=Xap ho9 hk3 hq8
   refine cF (cn (dT hq8)) ?_
   refine T.skip (nT ?_)
   refine sR [] ?_
   refine T.ret ?_
   exact eX [.c 6 3 78 0 78 [dI (orV (Xu f u l) e).X2,dI (orV (Xu f u l) e).Y1,dI (orV (Xu f u l) e).Xo,dI (orV (Xu f u l) e).Xi,dI (orV (Xu f u l) e).Yj,dS (orV (Xu f u l) e).X8,dU (orV (Xu f u l) e).Xa,dI (orV (Xu f u l) e).X1.Xw,dI (orV (Xu f u l) e).X1.Xn,(Zk1 f u l e),(Zk2 f u l e),(Zk3 f u l e)] (.agg (Zk4 f u l e)),.t 7 (Zkd)] ⟨⟨rfl,rfl,by kernel_rfl,by kernel_rfl,.inl ⟨12,Wp,rfl,Nat.le_of_ble_eq_true rfl⟩⟩,⟨⟨rfl,by kernel_rfl⟩,trivial⟩⟩ [0,1] pb (ix (ix trivial))
  have hx9:=vt_s ho9 hk3 hq8
  refine cT (cn (dF hq8)) ?_
  refine sR [] ?_
  refine T.ret (rT ?_)
  refine eN ⟨(Zkf f u l e k),(Zk5 f u l e)⟩ ?_
  refine Xc (s':=⟨(Zkf f u l e k),(Zka f u l e)⟩) (fun _ _ hG=>Ys (s:=⟨(Zkf f u l e k),(Zk5 f u l e)⟩) (kk2 p3u) ⟨.inl rfl,p1n⟩ hG) ?_
  exact eX [.c 6 3 78 0 78 [dI 0,dI 0,dI 0,dI 0,dI 0,dS [],Zk6,dI 0,dI 0,Zk7,Zk7,Zk8] (.agg Zk9),.t 7 (.one (dI 30))] ⟨⟨rfl,rfl,by kernel_rfl,by kernel_rfl,.inl ⟨12,Wp,rfl,Nat.le_of_ble_eq_true rfl⟩⟩,⟨⟨rfl,by kernel_rfl⟩,trivial⟩⟩ [0,1] pZ2 (ix (ix trivial))
 by_cases hq4:k≠4
 ·refine sR (Xm (hY · (dF hq2)) [5,6,7] (hY 8 (dT hq3)::(hY 9 (dT hq3)::(hS 10 (oY rfl rfl rfl rfl (X3 rfl) (dF hq2) (Wc (b:=(decide (k≠3))) (av:=vB (decide (k≠4))) (X3 rfl) trivial (dT hq3)))::(hY 11 (dF hq2)::(hY 12 (dT hq4)::(hY 13 (dT hq4)::(hS 14 (oY rfl rfl rfl rfl (X3 rfl) (dF hq2) (Wc (b:=(decide (k≠4))) (av:=vB (decide (k≠5))) (X3 rfl) trivial (dT hq4)))::(hP 15 (dF hq2)::[]))))))))) ?_
  by_cases hq5:k≠5
  ·have hx9:=vt_k (f:=f) ho9 ‹_› ‹_› hq5
   refine cT (dT hq5) ?_
   refine sR [] ?_
   refine T.ret (rT ?_)
   refine eN ⟨(Zkc f u l e k),(Zk5 f u l e)⟩ ?_
   refine Xc (s':=⟨(Zkc f u l e k),(Zka f u l e)⟩) (fun _ _ hG=>Ys (s:=⟨(Zkc f u l e k),(Zk5 f u l e)⟩) p52 ⟨.inl rfl,p1n⟩ hG) ?_
   exact eX [.c 6 3 78 0 78 [dI 0,dI 0,dI 0,dI 0,dI 0,dS [],Zk6,dI 0,dI 0,Zk7,Zk7,Zk8] (.agg Zk9),.t 7 (.one (dI 120))] ⟨⟨rfl,rfl,by kernel_rfl,by kernel_rfl,.inl ⟨12,Wp,rfl,Nat.le_of_ble_eq_true rfl⟩⟩,⟨⟨rfl,by kernel_rfl⟩,trivial⟩⟩ [0,1] pZ2 (ix (ix trivial))
  have hk3:¬(k≠3∧k≠4∧k≠5):=(fun q=>hq5 q.2.2)
  refine cF (dF hq5) ?_
  refine T.skip (nT (T.seq ?_))
  refine sR [hR 3 rfl rfl (rCa (It f u l e.X4 ‹_› ‹_›) Tryz.func124 [0,1] [(.tmp 37,pv 0 0),(.tmp 39,vI e.X4)] 2 2)] ?_
  by_cases hq6:V0 f e.X4
  ·have hx9:=Xap ho9 hk3 hq6
   refine cF (cn (dT hq6)) ?_
   refine T.skip (nT ?_)
   refine sR [] ?_
   refine T.ret ?_
   exact eX [.c 6 3 78 0 78 [dI (orV (Xu f u l) e).X2,dI (orV (Xu f u l) e).Y1,dI (orV (Xu f u l) e).Xo,dI (orV (Xu f u l) e).Xi,dI (orV (Xu f u l) e).Yj,dS (orV (Xu f u l) e).X8,dU (orV (Xu f u l) e).Xa,dI (orV (Xu f u l) e).X1.Xw,dI (orV (Xu f u l) e).X1.Xn,(Zk1 f u l e),(Zk2 f u l e),(Zk3 f u l e)] (.agg (Zk4 f u l e)),.t 7 (Zkd)] ⟨⟨rfl,rfl,by kernel_rfl,by kernel_rfl,.inl ⟨12,Wp,rfl,Nat.le_of_ble_eq_true rfl⟩⟩,⟨⟨rfl,by kernel_rfl⟩,trivial⟩⟩ [0,1] pb (ix (ix trivial))
  have hx9:=vt_s ho9 hk3 hq6
  refine cT (cn (dF hq6)) ?_
  refine sR [] ?_
  refine T.ret (rT ?_)
  refine eN ⟨(Zke f u l e k),(Zk5 f u l e)⟩ ?_
  refine Xc (s':=⟨(Zke f u l e k),(Zka f u l e)⟩) (fun _ _ hG=>Ys (s:=⟨(Zke f u l e k),(Zk5 f u l e)⟩) (kk2 p3u) ⟨.inl rfl,p1n⟩ hG) ?_
  exact eX [.c 6 3 78 0 78 [dI 0,dI 0,dI 0,dI 0,dI 0,dS [],Zk6,dI 0,dI 0,Zk7,Zk7,Zk8] (.agg Zk9),.t 7 (.one (dI 30))] ⟨⟨rfl,rfl,by kernel_rfl,by kernel_rfl,.inl ⟨12,Wp,rfl,Nat.le_of_ble_eq_true rfl⟩⟩,⟨⟨rfl,by kernel_rfl⟩,trivial⟩⟩ [0,1] pZ2 (ix (ix trivial))
 have hk3:¬(k≠3∧k≠4∧k≠5):=(fun q=>hq4 q.2.1)
 refine sR (Xm (hY · (dF hq2)) [5,6,7] (hY 8 (dT hq3)::(hY 9 (dT hq3)::(hS 10 (oY rfl rfl rfl rfl (X3 rfl) (dF hq2) (Wc (b:=(decide (k≠3))) (av:=vB (decide (k≠4))) (X3 rfl) trivial (dT hq3)))::(hY 11 (dF hq2)::(hN 12 true (dF hq4)::(hN 13 true (dF hq4)::(hS 14 (oY rfl rfl rfl rfl (X3 rfl) (dF hq2) (Wi (b:=(decide (k≠4))) (av:=vB false) (X3 rfl) ⟨rfl,trivial⟩ (dF hq4)))::(hP 15 (dF hq2)::[]))))))))) ?_
 refine cF (b:=false) rfl ?_
 refine T.skip (nT (T.seq ?_))
 refine sR [hR 3 rfl rfl (rCa (It f u l e.X4 ‹_› ‹_›) Tryz.func124 [0,1] [(.tmp 37,pv 0 0),(.tmp 39,vI e.X4)] 2 2)] ?_
 by_cases hq7:V0 f e.X4
 ·have hx9:=Xap ho9 hk3 hq7
  refine cF (cn (dT hq7)) ?_
  refine T.skip (nT ?_)
  refine sR [] ?_
  refine T.ret ?_
  exact eX [.c 6 3 78 0 78 [dI (orV (Xu f u l) e).X2,dI (orV (Xu f u l) e).Y1,dI (orV (Xu f u l) e).Xo,dI (orV (Xu f u l) e).Xi,dI (orV (Xu f u l) e).Yj,dS (orV (Xu f u l) e).X8,dU (orV (Xu f u l) e).Xa,dI (orV (Xu f u l) e).X1.Xw,dI (orV (Xu f u l) e).X1.Xn,(Zk1 f u l e),(Zk2 f u l e),(Zk3 f u l e)] (.agg (Zk4 f u l e)),.t 7 (Zkd)] ⟨⟨rfl,rfl,by kernel_rfl,by kernel_rfl,.inl ⟨12,Wp,rfl,Nat.le_of_ble_eq_true rfl⟩⟩,⟨⟨rfl,by kernel_rfl⟩,trivial⟩⟩ [0,1] pb (ix (ix trivial))
 have hx9:=vt_s ho9 hk3 hq7
 refine cT (cn (dF hq7)) ?_
 refine sR [] ?_
 refine T.ret (rT ?_)
 refine eN ⟨(Zkf f u l e k),(Zk5 f u l e)⟩ ?_
 refine Xc (s':=⟨(Zkf f u l e k),(Zka f u l e)⟩) (fun _ _ hG=>Ys (s:=⟨(Zkf f u l e k),(Zk5 f u l e)⟩) (kk2 p3u) ⟨.inl rfl,p1n⟩ hG) ?_
 exact eX [.c 6 3 78 0 78 [dI 0,dI 0,dI 0,dI 0,dI 0,dS [],Zk6,dI 0,dI 0,Zk7,Zk7,Zk8] (.agg Zk9),.t 7 (.one (dI 30))] ⟨⟨rfl,rfl,by kernel_rfl,by kernel_rfl,.inl ⟨12,Wp,rfl,Nat.le_of_ble_eq_true rfl⟩⟩,⟨⟨rfl,by kernel_rfl⟩,trivial⟩⟩ [0,1] pZ2 (ix (ix trivial))
end Go.Proofs.YtnaopgohccacmaaGreat.Q
