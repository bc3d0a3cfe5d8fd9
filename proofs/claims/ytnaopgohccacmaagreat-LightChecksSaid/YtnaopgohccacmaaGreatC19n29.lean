import Derived.Test.YtnaopgohccacmaaGreatC19n28
namespace Go.Proofs.YtnaopgohccacmaaGreat.Q
open Go Go.RowKit
set_option linter.unusedVariables false
set_option linter.unusedSimpArgs false
set_option maxRecDepth 100000
set_option maxHeartbeats 4000000
section
variable (f:Int) (u:Int) (l:List aE) (e:aE)
abbrev Zgr:List SV:=[dI e.X4,dU e.Xf]
abbrev Zgs:HS:=.live (.box 135 [dB true,dI f,dI u,.own 1 (kE false).sz 0 l.length])
abbrev Zgt:HS:=.live (Xe 43 (kE false) l)
abbrev Zgu:List AV:=[pv 0 0,.tv (.agg (Zgr e)),aa,pv 2 0,pv 3 0,vI (Xu f u l e),vI (Xu f u l e),aa,aa,aa,aa,aa,vB (decide ((Xu f u l e)≠0))]
abbrev Zgv:SV:=.d (.val (.slice none 0 0))
abbrev Zgw:HS:=.live (.box 78 [dI 0,dI 0,dI 0,dI 0,dI 0,dS [],Zgv,dI 0,dI 0,Zgv,Zgv,Zgv])
abbrev Zgx:SV:=dU ([]:List UInt8)
abbrev Zgy:SV:=.d (dsl false false (kE false) ([]:List aE))
abbrev Zgz:SV:=.d (dsl false false (kC false) ([]:List aC))
abbrev Zh0:List SV:=[dI 0,dI 0,dI 0,dI 0,dI 0,dS [],Zgx,dI 0,dI 0,Zgy,Zgy,Zgz]
abbrev Zh1:List AV:=[pv 0 0,.tv (.agg (Zgr e)),aa,pv 2 0,pv 3 0,vI 120,vI (X0w e.Xf),pv 4 0,aa,aa,aa,aa,vB (decide ((Xu f u l e)≠0)),aa,aa,aa,aa,aa,aa,aa,aa,aa,vB (decide ((X0w e.Xf)≠0))]
abbrev Zh2:List SV:=[dI (Wl e.Xf).X2,dI (Wl e.Xf).Y1,dI (Wl e.Xf).Xo,dI (Wl e.Xf).Xi,dI (Wl e.Xf).Yj,dS (Wl e.Xf).X8,dU (Wl e.Xf).Xa,dI (Wl e.Xf).X1.Xw,dI (Wl e.Xf).X1.Xn,.d (dsl false false (kE false) (Wl e.Xf).Xp),.d (dsl false false (kE false) (Wl e.Xf).Y5),.d (dsl false false (kC false) (Wl e.Xf).X5)]
end
theorem Xfv (f:Int) (u:Int) (l:List aE) (e:aE) (hf:0≤f∧f≤2) (hu:0≤u∧u≤8) (hl:l.length≤9223372036854775806) (hs:-9223372036854775808≤e.X4∧e.X4≤9223372036854775807) (hb:e.Xf.length≤100000000):Holds Tryz.prog 150 ⟨[pv 0 0,.tv (.agg [dI e.X4,dU e.Xf])],[.box 135 [dB true,dI f,dI u,.own 1 (kE false).sz 0 l.length],Xe 43 (kE false) l],.tup [.agg [dI (orV (Xu f u l) e).X2,dI (orV (Xu f u l) e).Y1,dI (orV (Xu f u l) e).Xo,dI (orV (Xu f u l) e).Xi,dI (orV (Xu f u l) e).Yj,dS (orV (Xu f u l) e).X8,dU (orV (Xu f u l) e).Xa,dI (orV (Xu f u l) e).X1.Xw,dI (orV (Xu f u l) e).X1.Xn,.d (dsl false false (kE false) (orV (Xu f u l) e).Xp),.d (dsl false false (kE false) (orV (Xu f u l) e).Y5),.d (dsl false false (kC false) (orV (Xu f u l) e).X5)],.one (dI (opR (Xu f u l) e))],[.live (.box 135 [dB true,dI f,dI u,.own 1 (kE false).sz 0 l.length]),.live (Xe 43 (kE false) l)]⟩:=by
 refine Holds.of Tryz.func150 rfl (N:=25) Tryz.ntmps150 rfl fun w0 B0 S0 U0=>?_
 show T _ (Y2 25 2 w0 S0 U0 B0) ⟨[pv 0 0,.tv (.agg (Zgr e))],[(Zgs f u l),(Zgt l)]⟩ _ _
 refine sR [] ?_
 refine sR [hR 2 rfl rfl (rCa (Xdu f u l false e ‹_› ‹_› ‹_› ‹_›) Tryz.func171 [0,1] [(.tmp 8,pv 0 0),(.tmp 9,.tv (.agg (Zgr e)))] 2 2)] ?_
 refine T.seq ?_
 refine sR [] ?_
 by_cases hq1:(Xu f u l e)≠0
 ·have hx9:=or_c (C:=(Xu f u l)) hq1
  refine cT (dT hq1) ?_
  refine sR [] ?_
  refine T.ret (rT ?_)
  refine eN ⟨(Zgu f u l e),[(Zgs f u l),(Zgt l),.live (.box 43 (Zgr e)),Zgw]⟩ ?_
  refine Xc (s':=⟨(Zgu f u l e),[(Zgs f u l),(Zgt l),.live (.box 43 (Zgr e)),.live (.box 78 Zh0)]⟩) (fun _ _ hG=>Ys (s:=⟨(Zgu f u l e),[(Zgs f u l),(Zgt l),.live (.box 43 (Zgr e)),Zgw]⟩) ⟨.inl rfl,p3w⟩ ⟨.inl rfl,(kk2 ⟨pq,trivial⟩)⟩ hG) ?_
  exact eX [.c 4 3 78 0 78 [dI 0,dI 0,dI 0,dI 0,dI 0,dS [],Zgx,dI 0,dI 0,Zgy,Zgy,Zgz] (.agg Zh0),.t 5 (.one (dI (Xu f u l e)))] ⟨⟨rfl,rfl,by kernel_rfl,by kernel_rfl,.inl ⟨12,Wp,rfl,Nat.le_of_ble_eq_true rfl⟩⟩,⟨⟨rfl,by kernel_rfl⟩,trivial⟩⟩ [0,1] pZ2 (ix (ix trivial))
 refine cF (dF hq1) ?_
 refine T.skip (nT ?_)
 refine sR [hR 2 rfl rfl (rCa (Xc0 e.Xf (by omega)) Tryz.func172 [] [(.tmp 17,slV false false kU8 e.Xf)] 0 0)] ?_
 refine T.seq ?_
 refine sR [] ?_
 by_cases hq2:(X0w e.Xf)≠0
 ·have hx9:=or_d (C:=(Xu f u l)) ‹_› hq2
  refine cT (dT hq2) ?_
  refine sR [] ?_
  refine T.ret (rT ?_)
  refine eN ⟨(Zh1 f u l e),[(Zgs f u l),(Zgt l),.live (.box 43 (Zgr e)),Zgw,.live (.box 78 (Zh2 e))]⟩ ?_
  refine Xc (s':=⟨(Zh1 f u l e),[(Zgs f u l),(Zgt l),.live (.box 43 (Zgr e)),.live (.box 78 Zh0),.live (.box 78 (Zh2 e))]⟩) (fun _ _ hG=>Ys (s:=⟨(Zh1 f u l e),[(Zgs f u l),(Zgt l),.live (.box 43 (Zgr e)),Zgw,.live (.box 78 (Zh2 e))]⟩) ⟨.inl rfl,p3q⟩ ⟨.inl rfl,p1n⟩ hG) ?_
  exact eX [.c 4 3 78 0 78 [dI 0,dI 0,dI 0,dI 0,dI 0,dS [],Zgx,dI 0,dI 0,Zgy,Zgy,Zgz] (.agg Zh0),.t 5 (.one (dI 120))] ⟨⟨rfl,rfl,by kernel_rfl,by kernel_rfl,.inl ⟨12,Wp,rfl,Nat.le_of_ble_eq_true rfl⟩⟩,⟨⟨rfl,by kernel_rfl⟩,trivial⟩⟩ [0,1] pZ2 (ix (ix trivial))
 have hx9:=or_ok (C:=(Xu f u l)) ‹_› hq2
 refine cF (dF hq2) ?_
 refine T.skip (nT ?_)
 refine sR [] ?_
 refine T.ret ?_
 exact eX [.c 4 3 78 0 78 [dI (Wl e.Xf).X2,dI (Wl e.Xf).Y1,dI (Wl e.Xf).Xo,dI (Wl e.Xf).Xi,dI (Wl e.Xf).Yj,dS (Wl e.Xf).X8,dU (Wl e.Xf).Xa,dI (Wl e.Xf).X1.Xw,dI (Wl e.Xf).X1.Xn,.d (dsl false false (kE false) (Wl e.Xf).Xp),.d (dsl false false (kE false) (Wl e.Xf).Y5),.d (dsl false false (kC false) (Wl e.Xf).X5)] (.agg (Zh2 e)),.t 5 (.one (dI 0))] ⟨⟨rfl,rfl,by kernel_rfl,by kernel_rfl,.inl ⟨12,Wp,rfl,Nat.le_of_ble_eq_true rfl⟩⟩,⟨⟨rfl,by kernel_rfl⟩,trivial⟩⟩ [0,1] pZ2 (ix (ix trivial))
section
variable (tl:Bool) (nl:Bool) (sl_:Bool) (l:List aE) (k:Nat)
end
section
variable (tl:Bool) (nl:Bool) (sl_:Bool) (l:List aE) (k:Nat)
end
section
variable (f:Int) (u:Int) (rows:List (Yn×Bool)) (te:Bool) (e:aE)
end
end Go.Proofs.YtnaopgohccacmaaGreat.Q
