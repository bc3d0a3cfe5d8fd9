import Derived.Test.YtnaopgohccacmaaGreatC19n30
namespace Go.Proofs.YtnaopgohccacmaaGreat.Q
open Go Go.RowKit
set_option linter.unusedVariables false
set_option linter.unusedSimpArgs false
set_option maxRecDepth 100000
set_option maxHeartbeats 4000000
section
variable (f:Int) (u:Int) (rows:List (Yn×Bool)) (te:Bool) (e:aE) (k:Int)
abbrev Ziz:List SV:=[dI e.X4,.d (dsl te false kU8 e.Xf)]
abbrev Zj0:HS:=.live (.box 130 [dI (3*f+1),dI u,.mref 1])
abbrev Zj1:List AV:=[pv 0 0,.tv (.agg (Ziz te e)),vI k,aa,pv 2 0,aa,pv 3 0,vI (opE (Xz f u rows) e k),pv 4 0,vI (opE (Xz f u rows) e k),aa,aa,aa,aa,aa,aa,aa,vB (decide ((opE (Xz f u rows) e k)≠0))]
abbrev Zj2:SV:=.d (.val (.slice none 0 0))
abbrev Zj3:=(opV (Xz f u rows) e k)
abbrev Zj4:List SV:=[dI (Zj3 f u rows e k).X2,dI (Zj3 f u rows e k).Y1,dI (Zj3 f u rows e k).Xo,dI (Zj3 f u rows e k).Xi,dI (Zj3 f u rows e k).Yj,dS (Zj3 f u rows e k).X8,dU (Zj3 f u rows e k).Xa,dI (Zj3 f u rows e k).X1.Xw,dI (Zj3 f u rows e k).X1.Xn,.d (dsl false false (kE false) (Zj3 f u rows e k).Xp),.d (dsl false false (kE false) (Zj3 f u rows e k).Y5),.d (dsl false false (kC false) (Zj3 f u rows e k).X5)]
abbrev Zj5:List HS:=[(Zj0 f u),.live (mpK Y0 Yc rows),.live (.box 43 (Ziz te e)),.live (.box 78 [dI 0,dI 0,dI 0,dI 0,dI 0,dS [],Zj2,dI 0,dI 0,Zj2,Zj2,Zj2]),.live (.box 78 (Zj4 f u rows e k))]
abbrev Zj6:SV:=dU ([]:List UInt8)
abbrev Zj7:SV:=.d (dsl false false (kE false) ([]:List aE))
abbrev Zj8:SV:=.d (dsl false false (kC false) ([]:List aC))
abbrev Zj9:List SV:=[dI 0,dI 0,dI 0,dI 0,dI 0,dS [],Zj6,dI 0,dI 0,Zj7,Zj7,Zj8]
abbrev Zja:List HS:=[(Zj0 f u),.live (mpK Y0 Yc rows),.live (.box 43 (Ziz te e)),.live (.box 78 Zj9),.live (.box 78 (Zj4 f u rows e k))]
abbrev Zjb:List AV:=[pv 0 0,.tv (.agg (Ziz te e)),vI k,aa,pv 2 0,aa,pv 3 0,vI 120,pv 4 0,vI (opE (Xz f u rows) e k),aa,aa,aa,aa,aa,aa,aa,vB (decide ((opE (Xz f u rows) e k)≠0)),aa,aa,aa,aa,vB (decide (k≠5))]
abbrev Zjc:TV:=.one (dI 0)
abbrev Zjd:List AV:=[pv 0 0,.tv (.agg (Ziz te e)),vI k,aa,pv 2 0,aa,pv 3 0,vI 30,pv 4 0,vI (opE (Xz f u rows) e k),aa,aa,aa,aa,aa,aa,aa,vB (decide ((opE (Xz f u rows) e k)≠0)),aa,aa,aa,aa,vB (decide (k≠5)),aa,aa,aa,aa,aa,aa,aa,aa,aa,aa,aa,vB (!(decide (V0 f e.X4)))]
abbrev Zje:List AV:=[pv 0 0,.tv (.agg (Ziz te e)),vI k,aa,pv 2 0,aa,pv 3 0,vI 30,pv 4 0,vI (opE (Xz f u rows) e k),aa,aa,aa,aa,aa,aa,aa,vB (decide ((opE (Xz f u rows) e k)≠0)),aa,aa,aa,aa,vB false,aa,aa,aa,aa,aa,aa,aa,aa,aa,aa,aa,vB (!(decide (V0 f e.X4)))]
end
theorem Xjz (f:Int) (u:Int) (rows:List (Yn×Bool)) (te:Bool) (e:aE) (k:Int) (hf:0≤f∧f≤2) (hu:0≤u∧u≤8) (hs:-9223372036854775808≤e.X4∧e.X4≤9223372036854775807) (hb:e.Xf.length≤100000000):Holds Tryz.prog 151 ⟨[pv 0 0,.tv (.agg [dI e.X4,.d (dsl te false kU8 e.Xf)]),vI k],[.box 130 [dI (3*f+1),dI u,.mref 1],mpK Y0 Yc rows],.tup [.agg [dI (vtV (Xz f u rows) f e k).X2,dI (vtV (Xz f u rows) f e k).Y1,dI (vtV (Xz f u rows) f e k).Xo,dI (vtV (Xz f u rows) f e k).Xi,dI (vtV (Xz f u rows) f e k).Yj,dS (vtV (Xz f u rows) f e k).X8,dU (vtV (Xz f u rows) f e k).Xa,dI (vtV (Xz f u rows) f e k).X1.Xw,dI (vtV (Xz f u rows) f e k).X1.Xn,.d (dsl false false (kE false) (vtV (Xz f u rows) f e k).Xp),.d (dsl false false (kE false) (vtV (Xz f u rows) f e k).Y5),.d (dsl false false (kC false) (vtV (Xz f u rows) f e k).X5)],.one (dI (vtE (Xz f u rows) f e k))],[.live (.box 130 [dI (3*f+1),dI u,.mref 1]),.live (mpK Y0 Yc rows)]⟩:=by
 refine Holds.of Tryz.func151 rfl (N:=42) Tryz.ntmps151 rfl fun w0 B0 S0 U0=>?_
 show T _ (Y2 42 2 w0 S0 U0 B0) ⟨[pv 0 0,.tv (.agg (Ziz te e)),vI k],[(Zj0 f u),.live (mpK Y0 Yc rows)]⟩ _ _
 refine sR [] ?_
 refine sR [hR 3 rfl rfl (rCa (Xjy f u rows te e k ‹_› ‹_› ‹_› ‹_›) Tryz.func173 [0,1] [(.tmp 11,pv 0 0),(.tmp 12,.tv (.agg (Ziz te e))),(.tmp 13,vI k)] 2 2)] ?_
 refine T.seq ?_
 refine T.block ?_
 refine sR [] ?_
 by_cases hq1:(opE (Xz f u rows) e k)≠0
 ·have ho9:=hq1;have hx9:=vt_o (f:=f) ho9
  refine cT (dT hq1) ?_
  refine sR [] ?_
  refine T.ret (rB (rT ?_))
  refine eN ⟨(Zj1 f u rows te e k),(Zj5 f u rows te e k)⟩ ?_
  refine Xc (s':=⟨(Zj1 f u rows te e k),(Zja f u rows te e k)⟩) (fun _ _ hG=>Ys (s:=⟨(Zj1 f u rows te e k),(Zj5 f u rows te e k)⟩) p5i ⟨.inl rfl,p1n⟩ hG) ?_
  exact eX [.c 6 3 78 0 78 [dI 0,dI 0,dI 0,dI 0,dI 0,dS [],Zj6,dI 0,dI 0,Zj7,Zj7,Zj8] (.agg Zj9),.t 7 (.one (dI (opE (Xz f u rows) e k)))] ⟨⟨rfl,rfl,by kernel_rfl,by kernel_rfl,.inl ⟨12,Wp,rfl,Nat.le_of_ble_eq_true rfl⟩⟩,⟨⟨rfl,by kernel_rfl⟩,trivial⟩⟩ [0,1] pZ2 (ix (ix trivial))
 have ho9:¬opE (Xz f u rows) e k≠0:=hq1;have hv9:=op_val ho9;have hbo:=Xf4 e.Xf;rw [← hv9] at hbo;have hbl:=Xhq hbo
 refine cF (dF hq1) ?_
 by_cases hq2:k≠3
 rotate_left
 ·have hk3:¬(k≠3∧k≠4∧k≠5):=(fun q=>hq2 q.1)
  refine sR [hN 3 true (dF hq2),hN 4 true (dF hq2),hP 5 (dF hq2),hN1 7,hN1 8,hP0 9] ?_
  refine cF (b:=false) rfl ?_
  refine sR [hR 3 rfl rfl (rCa (Iw f u rows e.X4 ‹_› ‹_›) Tryz.func79 [0,1] [(.tmp 35,pv 0 0),(.tmp 37,vI e.X4)] 2 2)] ?_
  by_cases hq7:V0 f e.X4
  ·have hx9:=Xap ho9 hk3 hq7
   refine cF (cn (dT hq7)) ?_
   refine T.skip ?_
   refine nB ?_
   refine nT ?_
   refine sR [] ?_
   refine T.ret ?_
   exact eX [.c 6 3 78 0 78 [dI (Zj3 f u rows e k).X2,dI (Zj3 f u rows e k).Y1,dI (Zj3 f u rows e k).Xo,dI (Zj3 f u rows e k).Xi,dI (Zj3 f u rows e k).Yj,dS (Zj3 f u rows e k).X8,dU (Zj3 f u rows e k).Xa,dI (Zj3 f u rows e k).X1.Xw,dI (Zj3 f u rows e k).X1.Xn,.d (dsl false false (kE false) (Zj3 f u rows e k).Xp),.d (dsl false false (kE false) (Zj3 f u rows e k).Y5),.d (dsl false false (kC false) (Zj3 f u rows e k).X5)] (.agg (Zj4 f u rows e k)),.t 7 (Zjc)] ⟨⟨rfl,rfl,by kernel_rfl,by kernel_rfl,.inl ⟨12,Wp,rfl,Nat.le_of_ble_eq_true rfl⟩⟩,⟨⟨rfl,by kernel_rfl⟩,trivial⟩⟩ [0,1] pZ9 (ix (ix trivial))
  have hx9:=vt_s ho9 hk3 hq7
  refine cT (cn (dF hq7)) ?_
  refine sR [] ?_
  refine T.ret (rB (rT ?_))
  refine eN ⟨(Zje f u rows te e k),(Zj5 f u rows te e k)⟩ ?_
  refine Xc (s':=⟨(Zje f u rows te e k),(Zja f u rows te e k)⟩) (fun _ _ hG=>Ys (s:=⟨(Zje f u rows te e k),(Zj5 f u rows te e k)⟩) ⟨.inl rfl,(kk2 (Ey trivial))⟩ ⟨.inl rfl,p1n⟩ hG) ?_
  exact eX [.c 6 3 78 0 78 [dI 0,dI 0,dI 0,dI 0,dI 0,dS [],Zj6,dI 0,dI 0,Zj7,Zj7,Zj8] (.agg Zj9),.t 7 (.one (dI 30))] ⟨⟨rfl,rfl,by kernel_rfl,by kernel_rfl,.inl ⟨12,Wp,rfl,Nat.le_of_ble_eq_true rfl⟩⟩,⟨⟨rfl,by kernel_rfl⟩,trivial⟩⟩ [0,1] pZ2 (ix (ix trivial))
 by_cases hq3:k≠4
 ·refine sR [hY 3 (dT hq2),hY 4 (dT hq2),hP 5 (dT hq2),hY 7 (dT hq3),hY 8 (dT hq3),hP 9 (dT hq3)] ?_
  by_cases hq4:k≠5
  ·have hx9:=vt_k (f:=f) ho9 ‹_› ‹_› hq4
   refine cT (dT hq4) ?_
   refine sR [] ?_
   refine T.ret (rB (rT ?_))
   refine eN ⟨(Zjb f u rows te e k),(Zj5 f u rows te e k)⟩ ?_
   refine Xc (s':=⟨(Zjb f u rows te e k),(Zja f u rows te e k)⟩) (fun _ _ hG=>Ys (s:=⟨(Zjb f u rows te e k),(Zj5 f u rows te e k)⟩) ⟨.inl rfl,p3q⟩ ⟨.inl rfl,p1n⟩ hG) ?_
   exact eX [.c 6 3 78 0 78 [dI 0,dI 0,dI 0,dI 0,dI 0,dS [],Zj6,dI 0,dI 0,Zj7,Zj7,Zj8] (.agg Zj9),.t 7 (.one (dI 120))] ⟨⟨rfl,rfl,by kernel_rfl,by kernel_rfl,.inl ⟨12,Wp,rfl,Nat.le_of_ble_eq_true rfl⟩⟩,⟨⟨rfl,by kernel_rfl⟩,trivial⟩⟩ [0,1] pZ2 (ix (ix trivial))
  have hk3:¬(k≠3∧k≠4∧k≠5):=(fun q=>hq4 q.2.2)
  refine cF (dF hq4) ?_
  refine sR [hR 3 rfl rfl (rCa (Iw f u rows e.X4 ‹_› ‹_›) Tryz.func79 [0,1] [(.tmp 35,pv 0 0),(.tmp 37,vI e.X4)] 2 2)] ?_
  by_cases hq5:V0 f e.X4
  ·have hx9:=Xap ho9 hk3 hq5
   refine cF (cn (dT hq5)) ?_
   refine T.skip ?_
   refine nB ?_
   refine nT ?_
   refine sR [] ?_
   refine T.ret ?_
   exact eX [.c 6 3 78 0 78 [dI (Zj3 f u rows e k).X2,dI (Zj3 f u rows e k).Y1,dI (Zj3 f u rows e k).Xo,dI (Zj3 f u rows e k).Xi,dI (Zj3 f u rows e k).Yj,dS (Zj3 f u rows e k).X8,dU (Zj3 f u rows e k).Xa,dI (Zj3 f u rows e k).X1.Xw,dI (Zj3 f u rows e k).X1.Xn,.d (dsl false false (kE false) (Zj3 f u rows e k).Xp),.d (dsl false false (kE false) (Zj3 f u rows e k).Y5),.d (dsl false false (kC false) (Zj3 f u rows e k).X5)] (.agg (Zj4 f u rows e k)),.t 7 (Zjc)] ⟨⟨rfl,rfl,by kernel_rfl,by kernel_rfl,.inl ⟨12,Wp,rfl,Nat.le_of_ble_eq_true rfl⟩⟩,⟨⟨rfl,by kernel_rfl⟩,trivial⟩⟩ [0,1] pZ9 (ix (ix trivial))
  have hx9:=vt_s ho9 hk3 hq5
  refine cT (cn (dF hq5)) ?_
  refine sR [] ?_
  refine T.ret (rB (rT ?_))
  refine eN ⟨(Zjd f u rows te e k),(Zj5 f u rows te e k)⟩ ?_
  refine Xc (s':=⟨(Zjd f u rows te e k),(Zja f u rows te e k)⟩) (fun _ _ hG=>Ys (s:=⟨(Zjd f u rows te e k),(Zj5 f u rows te e k)⟩) ⟨.inl rfl,(kk2 (Ey trivial))⟩ ⟨.inl rfl,p1n⟩ hG) ?_
  exact eX [.c 6 3 78 0 78 [dI 0,dI 0,dI 0,dI 0,dI 0,dS [],Zj6,dI 0,dI 0,Zj7,Zj7,Zj8] (.agg Zj9),.t 7 (.one (dI 30))] ⟨⟨rfl,rfl,by kernel_rfl,by kernel_rfl,.inl ⟨12,Wp,rfl,Nat.le_of_ble_eq_true rfl⟩⟩,⟨⟨rfl,by kernel_rfl⟩,trivial⟩⟩ [0,1] pZ2 (ix (ix trivial))
 have hk3:¬(k≠3∧k≠4∧k≠5):=(fun q=>hq3 q.2.1)
 refine sR [hY 3 (dT hq2),hY 4 (dT hq2),hP 5 (dT hq2),hN 7 true (dF hq3),hN 8 true (dF hq3),hP 9 (dF hq3)] ?_
 refine cF (b:=false) rfl ?_
 refine sR [hR 3 rfl rfl (rCa (Iw f u rows e.X4 ‹_› ‹_›) Tryz.func79 [0,1] [(.tmp 35,pv 0 0),(.tmp 37,vI e.X4)] 2 2)] ?_
 by_cases hq6:V0 f e.X4
 ·have hx9:=Xap ho9 hk3 hq6
  refine cF (cn (dT hq6)) ?_
  refine T.skip ?_
  refine nB ?_
  refine nT ?_
  refine sR [] ?_
  refine T.ret ?_
  exact eX [.c 6 3 78 0 78 [dI (Zj3 f u rows e k).X2,dI (Zj3 f u rows e k).Y1,dI (Zj3 f u rows e k).Xo,dI (Zj3 f u rows e k).Xi,dI (Zj3 f u rows e k).Yj,dS (Zj3 f u rows e k).X8,dU (Zj3 f u rows e k).Xa,dI (Zj3 f u rows e k).X1.Xw,dI (Zj3 f u rows e k).X1.Xn,.d (dsl false false (kE false) (Zj3 f u rows e k).Xp),.d (dsl false false (kE false) (Zj3 f u rows e k).Y5),.d (dsl false false (kC false) (Zj3 f u rows e k).X5)] (.agg (Zj4 f u rows e k)),.t 7 (Zjc)] ⟨⟨rfl,rfl,by kernel_rfl,by kernel_rfl,.inl ⟨12,Wp,rfl,Nat.le_of_ble_eq_true rfl⟩⟩,⟨⟨rfl,by kernel_rfl⟩,trivial⟩⟩ [0,1] pZ9 (ix (ix trivial))
 have hx9:=vt_s ho9 hk3 hq6
 refine cT (cn (dF hq6)) ?_
 refine sR [] ?_
 refine T.ret (rB (rT ?_))
 refine eN ⟨(Zje f u rows te e k),(Zj5 f u rows te e k)⟩ ?_
 refine Xc (s':=⟨(Zje f u rows te e k),(Zja f u rows te e k)⟩) (fun _ _ hG=>Ys (s:=⟨(Zje f u rows te e k),(Zj5 f u rows te e k)⟩) ⟨.inl rfl,(kk2 (Ey trivial))⟩ ⟨.inl rfl,p1n⟩ hG) ?_
 exact eX [.c 6 3 78 0 78 [dI 0,dI 0,dI 0,dI 0,dI 0,dS [],Zj6,dI 0,dI 0,Zj7,Zj7,Zj8] (.agg Zj9),.t 7 (.one (dI 30))] ⟨⟨rfl,rfl,by kernel_rfl,by kernel_rfl,.inl ⟨12,Wp,rfl,Nat.le_of_ble_eq_true rfl⟩⟩,⟨⟨rfl,by kernel_rfl⟩,trivial⟩⟩ [0,1] pZ2 (ix (ix trivial))
end Go.Proofs.YtnaopgohccacmaaGreat.Q
