import Derived.Test.YtnaopgohccacmaaGreatC19n33
namespace Go.Proofs.YtnaopgohccacmaaGreat.Q
open Go Go.RowKit
set_option linter.unusedVariables false
set_option linter.unusedSimpArgs false
set_option maxRecDepth 100000
set_option maxHeartbeats 4000000
section
variable (f:Int) (u:Int) (rows:List (Yb×Bool)) (tp:Bool) (p:aM) (tc:Bool) (c:aC) (tx:Bool) (nx:Bool) (sx:Bool) (x:List aE) (need:Int) (kind:Int) (k:Nat)
abbrev Zkg:HS:=.live (.box 130 [dI (3*f+1),dI u,.mref 1])
abbrev Zkh:HS:=.live (mpK Xi Y8 rows)
abbrev Zki:HS:=.live (.box 78 [dI p.X1,dI p.Xb,dI p.Xg,dI p.Xe,dI p.Y3,dS p.X6,.d (dsl tp false kU8 p.Xc),dI p.X0.Xu,dI p.X0.Xl,.d (dsl tp false (kE tp) p.Xa),.d (dsl tp false (kE tp) p.Xw),.d (dsl tp false (kC tp) p.X5)])
abbrev Zkj:HS:=.live (.box 3 [dI kind])
abbrev Zkk:HS:=.live (.box 86 [dI c.Yf.X2,.d (dsl tc false kU8 c.Yf.X7),.d (dsl tc false (kE tc) c.Xo)])
abbrev Zkl:List AV:=[pv 0 0,slV tx nx (kE sx) x,vI kind,vI need,sv (.clo 154 [2,3,4]),aa,aa,aa,aa,aa,aa,sv (.mref 5),aa,aa,aa,aa,aa,slV tx nx (kE sx) x,vI ((x.length:Nat):Int),vI ((k:Nat):Int)]
abbrev Zkn:=(vtV (Xd f u rows) f (x.getD k zE) kind)
abbrev Zko:AV:=vI (x.getD k zE).X2
end
theorem Xhi (f:Int) (u:Int) (rows:List (Yb×Bool)) (tx:Bool) (nx:Bool) (sx:Bool) (x:List aE) (need:Int) (tp:Bool) (p:aM) (kind:Int) (tc:Bool) (c:aC) (hf:0≤f∧f≤2) (hu:0≤u∧u≤8) (hx:F9 x):Holds Tryz.prog 116 ⟨[pv 0 0,slV tx nx (kE sx) x,vI kind,vI need,sv (.clo 154 [2,3,4])],[.box 130 [dI (3*f+1),dI u,.mref 1],mpK Xi Y8 rows,.box 78 [dI p.X1,dI p.Xb,dI p.Xg,dI p.Xe,dI p.Y3,dS p.X6,.d (dsl tp false kU8 p.Xc),dI p.X0.Xu,dI p.X0.Xl,.d (dsl tp false (kE tp) p.Xa),.d (dsl tp false (kE tp) p.Xw),.d (dsl tp false (kC tp) p.X5)],.box 3 [dI kind],.box 86 [dI c.Yf.X2,.d (dsl tc false kU8 c.Yf.X7),.d (dsl tc false (kE tc) c.Xo)]],vI (F3 (gC (Xd f u rows) f p kind c.Yf.X2) x need),[.live (.box 130 [dI (3*f+1),dI u,.mref 1]),.live (mpK Xi Y8 rows),.live (.box 78 [dI p.X1,dI p.Xb,dI p.Xg,dI p.Xe,dI p.Y3,dS p.X6,.d (dsl tp false kU8 p.Xc),dI p.X0.Xu,dI p.X0.Xl,.d (dsl tp false (kE tp) p.Xa),.d (dsl tp false (kE tp) p.Xw),.d (dsl tp false (kC tp) p.X5)]),.live (.box 3 [dI kind]),.live (.box 86 [dI c.Yf.X2,.d (dsl tc false kU8 c.Yf.X7),.d (dsl tc false (kE tc) c.Xo)])]⟩:=by
 refine Holds.of Tryz.func116 rfl (N:=56) Tryz.ntmps116 rfl fun w0 B0 S0 U0=>?_
 show T _ (Y5 56 5 w0 S0 U0 B0) ⟨[pv 0 0,slV tx nx (kE sx) x,vI kind,vI need,sv (.clo 154 [2,3,4])],[(Zkg f u),(Zkh rows),(Zki tp p),(Zkj kind),(Zkk tc c)]⟩ _ _
 have hx1:=hx.1
 refine sR [] (sR [hR 0 rfl rfl (X5w 5 (X44 .i64) Y8 (X3 rfl))] (T.seq (sR [] (T.block ?_))))
 refine T.loop (ι:=Nat) (fun (k:Nat)=>⟨(Zkl tx nx sx x need kind k),[(Zkg f u),(Zkh rows),(Zki tp p),(Zkj kind),(Zkk tc c),.live (mpK (X44 .i64) Y8 (I2 x k))]⟩) (fun (k:Nat)=>(k≤x.length)∧(∀ i,i<k→E3 (gC (Xd f u rows) f p kind c.Yf.X2) x i=0)) (fun (k:Nat)=>x.length-k) (0) ⟨(Nat.zero_le _),(fun j hj=>absurd hj (Nat.not_lt_zero _))⟩ (fun _ _ hG=>Yp [0,1,2,3,4,5] (bm 20 919583) (h2:=[(Zkg f u),(Zkh rows),(Zki tp p),(Zkj kind),(Zkk tc c),.live (mpK (X44 .i64) Y8 ([]:List (Int×Bool)))]) rfl (congrArg (fun (q1:List (Int×Bool))=>([(Zkg f u),(Zkh rows),(Zki tp p),(Zkj kind),(Zkk tc c),.live (mpK (X44 .i64) Y8 q1)]:List HS)) (by rfl)) hG) ?_
 rintro k ⟨hk,hb⟩
 show T _ _ ⟨(Zkl tx nx sx x need kind k),[(Zkg f u),(Zkh rows),(Zki tp p),(Zkj kind),(Zkk tc c),.live (mpK (X44 .i64) Y8 (I2 x k))]⟩ _ _
 replace hk:k≤x.length:=hk
 replace hb:∀ i,i<k→E3 (gC (Xd f u rows) f p kind c.Yf.X2) x i=0:=hb
 refine sR [] (T.seq ?_)
 by_cases hq1:((k:Nat):Int)<((x.length:Nat):Int)
 rotate_left
 ·have hz9:=tly_0 (g:=gC (Xd f u rows) f p kind c.Yf.X2) need hb (by omega)
  refine cF (dF hq1) (T.exit (xT (xT (xH (nT (T.seq (sR [] ?_)))))))
  by_cases hq8:((x.length:Nat):Int)<need
  ·refine cT (dT hq8) (sR [] (T.ret (rT ?_)))
   exact eRt 10 (.one (dI 32)) [0,1,2,3,4] (by have e1:((F3 (gC (Xd f u rows) f p kind c.Yf.X2) x need):Int)=32:=(by (rw [hz9,if_pos ‹_›]));have hE:=cI e1;exact hE) (ix (ix (ix (ix (ix trivial)))))
  refine cF (dF hq8) (T.skip (nT (sR [] (T.ret ?_))))
  exact eRt 10 (.one (dI 0)) [0,1,2,3,4] (by have e1:((F3 (gC (Xd f u rows) f p kind c.Yf.X2) x need):Int)=0:=(by (rw [hz9,if_neg ‹_›]));have hE:=cI e1;exact hE) (ix (ix (ix (ix (ix trivial)))))
 have hgk:=Fr hx (k:=k) (by omega);have hgk1:=hgk.1.1;have hgk2:=hgk.1.2;have hgk3:=hgk.2
 refine cT (dT hq1) (T.skip (nT (T.seq (T.block (sR [hR 0 rfl rfl (W9 tx nx (kE sx) x k (k:=.i64) (i:=((k:Nat):Int)) Tryz.underlying37 Wy rfl rfl (by omega) (X3 rfl) trivial)] (sR [hR 3 rfl rfl (rCa (Xbv f u rows sx (x.getD k zE) kind ‹_› ‹_› (by omega) (by omega)) Tryz.func151 [0,1] [(.tmp 24,pv 0 0),(.tmp 25,.tv (.agg [dI (x.getD k zE).X2,.d (dsl sx false kU8 (x.getD k zE).X7)])),(.tmp 26,vI kind)] 2 2)] (T.seq (sR [] ?_))))))))
 by_cases hq2:(vtE (Xd f u rows) f (x.getD k zE) kind)=0
 rotate_left
 ·have hg9:=gC_1 (p:=p) (pre:=c.Yf.X2) hq2
  refine cF (dF hq2) (T.skip (nT (T.seq (sR (Xr (hN · true (dF hq2)) [3,4,5,6] (hP 7 (dF hq2)::[])) (cF (b:=false) rfl (T.skip (nT (T.seq (sR [] ?_)))))))))
  by_cases hq7:(vtE (Xd f u rows) f (x.getD k zE) kind)≠0
  ·have hz9:=Hm (g:=gC (Xd f u rows) f p kind c.Yf.X2) need hb ((X3c (by rw [hg9];exact hq7)).trans hg9) hq7 (by omega)
   refine cT (dT hq7) (sR [] (T.ret (rT (rB (rT (rT (rB (rT ?_))))))))
   exact eRt 10 (.one (dI (vtE (Xd f u rows) f (x.getD k zE) kind))) [0,1,2,3,4] p1f (ix (ix (ix (ix (ix trivial)))))
  exact absurd hq2 hq7
 have hv9:¬vtE (Xd f u rows) f (x.getD k zE) kind≠0:=(fun q=>q hq2);have hg9:=gC_2 (p:=p) (pre:=c.Yf.X2) hv9
 refine cT (dT hq2) ?_
 refine xK [hR 4 rfl rfl (X4q (ls:=[2,3,4]) (Xl0 false (vtV (Xd f u rows) f (x.getD k zE) kind) (x.getD k zE).X2 tp p kind tc c ) Tryz.func154 rfl (by decide) [2,3,4] [] (l:=[(.tmp 33,.tv (.agg [dI (Zkn f u rows x kind k).X1,dI (Zkn f u rows x kind k).Xb,dI (Zkn f u rows x kind k).Xg,dI (Zkn f u rows x kind k).Xe,dI (Zkn f u rows x kind k).Y3,dS (Zkn f u rows x kind k).X6,dU (Zkn f u rows x kind k).Xc,dI (Zkn f u rows x kind k).X0.Xu,dI (Zkn f u rows x kind k).X0.Xl,.d (dsl false false (kE false) (Zkn f u rows x kind k).Xa),.d (dsl false false (kE false) (Zkn f u rows x kind k).Xw),.d (dsl false false (kC false) (Zkn f u rows x kind k).X5)])),(.tmp 35,(Zko x k))]) [] rfl 3 3 rfl rfl rfl rfl rfl rfl rfl rfl rfl ⟨⟨.inl ⟨rfl,rfl⟩,⟨.inl ⟨rfl,rfl⟩,⟨.inl ⟨rfl,rfl⟩,⟨.inl ⟨rfl,rfl⟩,⟨.inl ⟨rfl,rfl⟩,⟨.inl ⟨rfl,rfl⟩,⟨.inl ⟨rfl,rfl⟩,⟨.inl ⟨rfl,rfl⟩,⟨.inl ⟨rfl,rfl⟩,⟨.inl ⟨rfl,rfl⟩,⟨.inl ⟨rfl,rfl⟩,⟨.inl ⟨rfl,rfl⟩,trivial⟩⟩⟩⟩⟩⟩⟩⟩⟩⟩⟩⟩,⟨.inl ⟨rfl,rfl⟩,⟨.inl ⟨rfl,rfl⟩,⟨.inl ⟨rfl,rfl⟩,⟨.inl ⟨rfl,rfl⟩,trivial⟩⟩⟩⟩⟩ rfl p3a (.inl rfl) (X3 rfl) trivial)] ?_
 refine nT (T.seq ?_)
 by_cases hq3:(X1f p kind c.Yf.X2 (vtV (Xd f u rows) f (x.getD k zE) kind) (x.getD k zE).X2)=0
 ·have hn9:¬(gC (Xd f u rows) f p kind c.Yf.X2) (x.getD k zE)≠0:=(by rw [hg9];exact fun q=>q hq3)
  refine sR (Xr (hY · (dT hq3)) [3,4,5] (hS 6 (oY rfl rfl rfl rfl (X3 rfl) (dT hq3) (Xe8 5 (I2 x k) (x.getD k zE).X2 (.one (dB (mget (I2 x k) (x.getD k zE).X2 false))) (ak:=(Zko x k)) (kd:=Y8) Tryz.underlying201 (X4x Tryz.underlying3) rfl Xc0 ⟨.inl rfl,trivial⟩ rfl (X3 rfl) p1s))::(hP 7 (dT hq3)::[]))) ?_
  by_cases hq4:(mget (I2 x k) (x.getD k zE).X2 false)=true
  ·have ht9:=(X0g (l:=x) (k:=k) (by omega)).1 hq4;have hz9:=Hm (g:=gC (Xd f u rows) f p kind c.Yf.X2) need hb (vot_2 hn9 ht9) (by decide) (by omega)
   refine cT hq4 (xK [] (nT (T.seq (sR [] (cT (b:=true) rfl (sR [] (T.ret (rT (rB (rT (rT (rB (rT ?_)))))))))))))
   exact eRt 10 (.one (dI 33)) [0,1,2,3,4] p1f (ix (ix (ix (ix (ix trivial)))))
  have ht9:¬F7 x k:=(fun q=>absurd ((X0g (by omega)).2 q) ‹_›)
  replace hq4:=Bool.eq_false_iff.2 hq4
  refine cF hq4 (T.skip (nT (T.seq (sR [] ?_))))
  by_cases hq5:(X1f p kind c.Yf.X2 (vtV (Xd f u rows) f (x.getD k zE) kind) (x.getD k zE).X2)≠0
  ·exact absurd hq3 hq5
  refine cF (dF hq5) (T.skip (nT (xK [hR 3 rfl rfl (X1w 5 (I2 x k) (x.getD k zE).X2 true (kd:=Y8) (ak:=(Zko x k)) (tv:=.one (dB true)) Tryz.underlying201 (X4x Tryz.underlying3) rfl rfl ⟨.inl rfl,trivial⟩ ⟨rfl,trivial⟩)] (nB (nT (xK [hR 0 rfl rfl (Yg (u1:=.int .i64 ((k:Nat):Int)) (u2:=.int .i64 1) (v:=.int .i64 ((k+1:Nat):Int)) (W8 pb) (X3 rfl) ⟨rfl,trivial⟩)] ?_))))))
  refine nL (k+1) ⟨(show (k+1)≤x.length from (by omega)),(show ∀ i,i<(k+1)→E3 (gC (Xd f u rows) f p kind c.Yf.X2) x i=0 from (Ud hb (vot_3 hn9 ht9)))⟩ (show (x.length-(k+1):Nat)<x.length-k from (by omega)) (fun _ _ hG=>Yp [0,1,2,3,4,5] (bm 20 919583) (h2:=[(Zkg f u),(Zkh rows),(Zki tp p),(Zkj kind),(Zkk tc c),.live (mpK (X44 .i64) Y8 (mput (I2 x k) (x.getD k zE).X2 true))]) rfl (by have e1:((I2 x (k+1)):List (Int×Bool))=(mput (I2 x k) (x.getD k zE).X2 true):=(by (rw [X5p (by omega)]));have hE:=congrArg (fun (q1:List (Int×Bool))=>([(Zkg f u),(Zkh rows),(Zki tp p),(Zkj kind),(Zkk tc c),.live (mpK (X44 .i64) Y8 q1)]:List HS)) e1;exact hE) hG)
 refine sR (Xr (hN · true (dF hq3)) [3,4,5,6] (hP 7 (dF hq3)::[])) (cF (b:=false) rfl (T.skip (nT (T.seq (sR [] ?_)))))
 by_cases hq6:(X1f p kind c.Yf.X2 (vtV (Xd f u rows) f (x.getD k zE) kind) (x.getD k zE).X2)≠0
 ·have hz9:=Hm (g:=gC (Xd f u rows) f p kind c.Yf.X2) need hb ((X3c (by rw [hg9];exact hq6)).trans hg9) hq6 (by omega)
  refine cT (dT hq6) (sR [] (T.ret (rT (rB (rT (rT (rB (rT ?_))))))))
  exact eRt 10 (.one (dI (X1f p kind c.Yf.X2 (Zkn f u rows x kind k) (x.getD k zE).X2))) [0,1,2,3,4] p1f (ix (ix (ix (ix (ix trivial)))))
 exact absurd hq3 hq6
section
variable (f:Int) (u:Int) (rows:List (Yb×Bool)) (tc:Bool) (c:aC) (kind:Int) (need:Int)
abbrev Zkq:List SV:=[dI c.Yf.X2,.d (dsl tc false kU8 c.Yf.X7),.d (dsl tc false (kE tc) c.Xo)]
abbrev Zkr:HS:=.live (.box 130 [dI (3*f+1),dI u,.mref 1])
abbrev Zks:List AV:=[pv 0 0,.tv (.agg (Zkq tc c)),vI kind,vI need,aa,pv 2 0,pv 3 0,aa,pv 4 0,vI (ppE (Xd f u rows) f c.Yf),pv 5 0,vI (ppE (Xd f u rows) f c.Yf),aa,aa,aa,aa,aa,aa,aa,aa,vB (decide ((ppE (Xd f u rows) f c.Yf)≠0))]
abbrev Zkt:SV:=.d (.val (.slice none 0 0))
abbrev Zku:=(ppV (Xd f u rows) f c.Yf)
abbrev Zkv:List SV:=[dI (Zku f u rows c).X1,dI (Zku f u rows c).Xb,dI (Zku f u rows c).Xg,dI (Zku f u rows c).Xe,dI (Zku f u rows c).Y3,dS (Zku f u rows c).X6,dU (Zku f u rows c).Xc,dI (Zku f u rows c).X0.Xu,dI (Zku f u rows c).X0.Xl,.d (dsl false false (kE false) (Zku f u rows c).Xa),.d (dsl false false (kE false) (Zku f u rows c).Xw),.d (dsl false false (kC false) (Zku f u rows c).X5)]
abbrev Zkw:List HS:=[(Zkr f u),.live (mpK Xi Y8 rows),.live (.box 86 (Zkq tc c)),.live (.box 3 [dI kind]),.live (.box 78 [dI 0,dI 0,dI 0,dI 0,dI 0,dS [],Zkt,dI 0,dI 0,Zkt,Zkt,Zkt]),.live (.box 78 (Zkv f u rows c))]
abbrev Zkx:SV:=dU ([]:List UInt8)
abbrev Zky:SV:=.d (dsl false false (kE false) ([]:List aE))
abbrev Zkz:SV:=.d (dsl false false (kC false) ([]:List aC))
abbrev Zl0:List SV:=[dI 0,dI 0,dI 0,dI 0,dI 0,dS [],Zkx,dI 0,dI 0,Zky,Zky,Zkz]
abbrev Zl1:List AV:=[pv 0 0,.tv (.agg (Zkq tc c)),vI kind,vI need,aa,pv 2 0,pv 3 0,aa,pv 4 0,vI (F3 (gC (Xd f u rows) f (Zku f u rows c) kind c.Yf.X2) c.Xo need),pv 5 0,vI (F3 (gC (Xd f u rows) f (Zku f u rows c) kind c.Yf.X2) c.Xo need),aa,aa,aa,aa,aa,aa,aa,aa,vB (decide ((ppE (Xd f u rows) f c.Yf)≠0)),aa,aa,aa,aa,aa,aa,aa,aa,aa,aa,vB (decide ((F3 (gC (Xd f u rows) f (Zku f u rows c) kind c.Yf.X2) c.Xo need)≠0))]
end
theorem X9x (f:Int) (u:Int) (rows:List (Yb×Bool)) (tc:Bool) (c:aC) (kind:Int) (need:Int) (hf:0≤f∧f≤2) (hu:0≤u∧u≤8) (hs:-9223372036854775808≤c.Yf.X2∧c.Yf.X2≤9223372036854775807) (hb:c.Yf.X7.length≤100000000) (hx:F9 c.Xo):Holds Tryz.prog 126 ⟨[pv 0 0,.tv (.agg [dI c.Yf.X2,.d (dsl tc false kU8 c.Yf.X7),.d (dsl tc false (kE tc) c.Xo)]),vI kind,vI need],[.box 130 [dI (3*f+1),dI u,.mref 1],mpK Xi Y8 rows],.tup [.agg [dI (ceV (Xd f u rows) f c kind need).X1,dI (ceV (Xd f u rows) f c kind need).Xb,dI (ceV (Xd f u rows) f c kind need).Xg,dI (ceV (Xd f u rows) f c kind need).Xe,dI (ceV (Xd f u rows) f c kind need).Y3,dS (ceV (Xd f u rows) f c kind need).X6,dU (ceV (Xd f u rows) f c kind need).Xc,dI (ceV (Xd f u rows) f c kind need).X0.Xu,dI (ceV (Xd f u rows) f c kind need).X0.Xl,.d (dsl false false (kE false) (ceV (Xd f u rows) f c kind need).Xa),.d (dsl false false (kE false) (ceV (Xd f u rows) f c kind need).Xw),.d (dsl false false (kC false) (ceV (Xd f u rows) f c kind need).X5)],.one (dI (ceE (Xd f u rows) f c kind need))],[.live (.box 130 [dI (3*f+1),dI u,.mref 1]),.live (mpK Xi Y8 rows)]⟩:=by
 refine Holds.of Tryz.func126 rfl (N:=35) Tryz.ntmps126 rfl fun w0 B0 S0 U0=>?_
 show T _ (Y5 35 2 w0 S0 U0 B0) ⟨[pv 0 0,.tv (.agg (Zkq tc c)),vI kind,vI need],[(Zkr f u),.live (mpK Xi Y8 rows)]⟩ _ _
 refine sR [] (sR [hR 3 rfl rfl (rCa (X7i f u rows tc c.Yf ‹_› ‹_› ‹_› ‹_›) Tryz.func153 [0,1] [(.tmp 13,pv 0 0),(.tmp 15,.tv (.agg [dI c.Yf.X2,.d (dsl tc false kU8 c.Yf.X7)]))] 2 2)] (T.seq (sR [] ?_)))
 by_cases hq1:(ppE (Xd f u rows) f c.Yf)≠0
 ·have hx9:=ce_p (kind:=kind) (need:=need) hq1
  refine cT (dT hq1) (sR [] (T.ret (rT ?_)))
  refine eN ⟨(Zks f u rows tc c kind need),(Zkw f u rows tc c kind)⟩ ?_
  refine X8 (s':=⟨(Zks f u rows tc c kind need),[(Zkr f u),.live (mpK Xi Y8 rows),.live (.box 86 (Zkq tc c)),.live (.box 3 [dI kind]),.live (.box 78 Zl0),.live (.box 78 (Zkv f u rows c))]⟩) (fun _ _ hG=>Ym (s:=⟨(Zks f u rows tc c kind need),(Zkw f u rows tc c kind)⟩) ⟨.inl rfl,(kk4 (X05 trivial))⟩ (kk4 ⟨pZ1,⟨.inl rfl,trivial⟩⟩) hG) ?_
  exact eX [.c 8 4 78 0 78 [dI 0,dI 0,dI 0,dI 0,dI 0,dS [],Zkx,dI 0,dI 0,Zky,Zky,Zkz] (.agg Zl0),.t 9 (.one (dI (ppE (Xd f u rows) f c.Yf)))] ⟨⟨rfl,rfl,by kernel_rfl,by kernel_rfl,.inl ⟨12,Yy,rfl,Nat.le_of_ble_eq_true rfl⟩⟩,⟨⟨rfl,by kernel_rfl⟩,trivial⟩⟩ [0,1] pZ0 (ix (ix trivial))
 have hp9:=hq1
 refine cF (dF hq1) (T.skip (nT (sR [hR 5 rfl rfl (X5x (f:=154) (ls:=[(.tmp 10,5),(.tmp 6,3),(.tmp 5,2)]) rfl (X3 rfl) trivial),hR 6 rfl rfl (rCa (Xhi f u rows tc false tc c.Xo need false (ppV (Xd f u rows) f c.Yf) kind tc c ‹_› ‹_› ‹_›) Tryz.func116 [0,1,5,3,2] [(.tmp 23,pv 0 0),(.tmp 25,slV tc false (kE tc) c.Xo),(.tmp 26,vI kind),(.tmp 27,vI need),(.tmp 28,sv (.clo 154 [5,3,2]))] 5 5)] (T.seq (sR [] ?_)))))
 by_cases hq2:(F3 (gC (Xd f u rows) f (ppV (Xd f u rows) f c.Yf) kind c.Yf.X2) c.Xo need)≠0
 ·have hx9:=ce_t hp9 hq2
  refine cT (dT hq2) (sR [] (T.ret (rT ?_)))
  refine eN ⟨(Zl1 f u rows tc c kind need),(Zkw f u rows tc c kind)⟩ ?_
  refine X8 (s':=⟨(Zl1 f u rows tc c kind need),[(Zkr f u),.live (mpK Xi Y8 rows),.live (.box 86 (Zkq tc c)),.live (.box 3 [dI kind]),.live (.box 78 Zl0),.live (.box 78 (Zkv f u rows c))]⟩) (fun _ _ hG=>Ym (s:=⟨(Zl1 f u rows tc c kind need),(Zkw f u rows tc c kind)⟩) (X41 trivial) (kk4 ⟨pZ1,⟨.inl rfl,trivial⟩⟩) hG) ?_
  exact eX [.c 8 4 78 0 78 [dI 0,dI 0,dI 0,dI 0,dI 0,dS [],Zkx,dI 0,dI 0,Zky,Zky,Zkz] (.agg Zl0),.t 9 (.one (dI (F3 (gC (Xd f u rows) f (Zku f u rows c) kind c.Yf.X2) c.Xo need)))] ⟨⟨rfl,rfl,by kernel_rfl,by kernel_rfl,.inl ⟨12,Yy,rfl,Nat.le_of_ble_eq_true rfl⟩⟩,⟨⟨rfl,by kernel_rfl⟩,trivial⟩⟩ [0,1] pZ0 (ix (ix trivial))
 have hx9:=ce_ok hp9 hq2
 refine cF (dF hq2) (T.skip (nT (sR [] (T.ret ?_))))
 exact eX [.c 8 4 78 0 78 [dI (Zku f u rows c).X1,dI (Zku f u rows c).Xb,dI (Zku f u rows c).Xg,dI (Zku f u rows c).Xe,dI (Zku f u rows c).Y3,dS (Zku f u rows c).X6,dU (Zku f u rows c).Xc,dI (Zku f u rows c).X0.Xu,dI (Zku f u rows c).X0.Xl,.d (dsl false false (kE false) (Zku f u rows c).Xa),.d (dsl false false (kE false) (Zku f u rows c).Xw),.d (dsl false false (kC false) (Zku f u rows c).X5)] (.agg (Zkv f u rows c)),.t 9 (.one (dI 0))] ⟨⟨rfl,rfl,by kernel_rfl,by kernel_rfl,.inl ⟨12,Yy,rfl,Nat.le_of_ble_eq_true rfl⟩⟩,⟨⟨rfl,by kernel_rfl⟩,trivial⟩⟩ [0,1] pZ0 (ix (ix trivial))
abbrev Zl2 (tc:Bool) (c:aC):AV:=.tv (.agg [dI c.Yf.X2,.d (dsl tc false kU8 c.Yf.X7),.d (dsl tc false (kE tc) c.Xo)])
abbrev Zl3 (f:Int) (u:Int) (rows:List (Yb×Bool)) (c:aC):=(ceV (Xd f u rows) f c 4 (2*f+1))
theorem X9y (f:Int) (u:Int) (rows:List (Yb×Bool)) (tc:Bool) (c:aC) (hf:0≤f∧f≤2) (hu:0≤u∧u≤8) (hs:-9223372036854775808≤c.Yf.X2∧c.Yf.X2≤9223372036854775807) (hb:c.Yf.X7.length≤100000000) (hx:F9 c.Xo):Holds Tryz.prog 73 ⟨[pv 0 0,.tv (.agg [dI c.Yf.X2,.d (dsl tc false kU8 c.Yf.X7),.d (dsl tc false (kE tc) c.Xo)])],[.box 130 [dI (3*f+1),dI u,.mref 1],mpK Xi Y8 rows],.tup [.agg [dI (ceV (Xd f u rows) f c 4 (2*f+1)).X1,dI (ceV (Xd f u rows) f c 4 (2*f+1)).Xb,dI (ceV (Xd f u rows) f c 4 (2*f+1)).Xg,dI (ceV (Xd f u rows) f c 4 (2*f+1)).Xe,dI (ceV (Xd f u rows) f c 4 (2*f+1)).Y3,dS (ceV (Xd f u rows) f c 4 (2*f+1)).X6,dU (ceV (Xd f u rows) f c 4 (2*f+1)).Xc,dI (ceV (Xd f u rows) f c 4 (2*f+1)).X0.Xu,dI (ceV (Xd f u rows) f c 4 (2*f+1)).X0.Xl,.d (dsl false false (kE false) (ceV (Xd f u rows) f c 4 (2*f+1)).Xa),.d (dsl false false (kE false) (ceV (Xd f u rows) f c 4 (2*f+1)).Xw),.d (dsl false false (kC false) (ceV (Xd f u rows) f c 4 (2*f+1)).X5)],.one (dI (ceE (Xd f u rows) f c 4 (2*f+1)))],[.live (.box 130 [dI (3*f+1),dI u,.mref 1]),.live (mpK Xi Y8 rows)]⟩:=by
 refine Holds.of Tryz.func73 rfl (N:=13) Tryz.ntmps73 rfl fun w0 B0 S0 U0=>?_
 show T _ (Y5 13 2 w0 S0 U0 B0) ⟨[pv 0 0,(Zl2 tc c)],[.live (.box 130 [dI (3*f+1),dI u,.mref 1]),.live (mpK Xi Y8 rows)]⟩ _ _
 refine sR [] ?_
 refine sD [[],[],[],[2],[0,1,2,3],[0,1,2,3,4],[0,1,2,3,4],[0,1,2,3,4,5,6],[0,1,2,3,4,5,6,7]] [hR 3 rfl rfl (rCa (X5f f u rows ‹_› ‹_›) Tryz.func33 [0,1] [(.tmp 8,pv 0 0)] 2 2),hR 4 rfl rfl (rCa (X9x f u rows tc c 4 (2*f+1) ‹_› ‹_› ‹_› ‹_› ‹_›) Tryz.func126 [0,1] [(.tmp 6,pv 0 0),(.tmp 7,(Zl2 tc c)),(.const (.int .i64 4),vI 4),(.tmp 9,vI (2*f+1))] 2 2)] (T.ret ?_)
 exact eX [.c 4 3 78 0 78 [dI (Zl3 f u rows c).X1,dI (Zl3 f u rows c).Xb,dI (Zl3 f u rows c).Xg,dI (Zl3 f u rows c).Xe,dI (Zl3 f u rows c).Y3,dS (Zl3 f u rows c).X6,dU (Zl3 f u rows c).Xc,dI (Zl3 f u rows c).X0.Xu,dI (Zl3 f u rows c).X0.Xl,.d (dsl false false (kE false) (Zl3 f u rows c).Xa),.d (dsl false false (kE false) (Zl3 f u rows c).Xw),.d (dsl false false (kC false) (Zl3 f u rows c).X5)] (.agg [dI (Zl3 f u rows c).X1,dI (Zl3 f u rows c).Xb,dI (Zl3 f u rows c).Xg,dI (Zl3 f u rows c).Xe,dI (Zl3 f u rows c).Y3,dS (Zl3 f u rows c).X6,dU (Zl3 f u rows c).Xc,dI (Zl3 f u rows c).X0.Xu,dI (Zl3 f u rows c).X0.Xl,.d (dsl false false (kE false) (Zl3 f u rows c).Xa),.d (dsl false false (kE false) (Zl3 f u rows c).Xw),.d (dsl false false (kC false) (Zl3 f u rows c).X5)]),.t 5 (.one (dI (ceE (Xd f u rows) f c 4 (2*f+1))))] ⟨⟨rfl,rfl,by kernel_rfl,by kernel_rfl,.inl ⟨12,Yy,rfl,Nat.le_of_ble_eq_true rfl⟩⟩,⟨⟨rfl,by kernel_rfl⟩,trivial⟩⟩ [0,1] rfl (ix (ix trivial))
theorem Xhj (tm:Bool) (m:aM) (s:Int) (fst:Bool) (d:List UInt8) (seq:Int):Holds Tryz.prog 117 ⟨[.tv (.agg [dI m.X1,dI m.Xb,dI m.Xg,dI m.Xe,dI m.Y3,dS m.X6,.d (dsl tm false kU8 m.Xc),dI m.X0.Xu,dI m.X0.Xl,.d (dsl tm false (kE tm) m.Xa),.d (dsl tm false (kE tm) m.Xw),.d (dsl tm false (kC tm) m.X5)]),vI s,pv 0 0,pv 1 0,pv 2 0],[.box 4 [dB fst],.box 60 [dS d],.box 3 [dI seq]],vI (X20 seq (if fst=true then m.X6 else d) m),[.live (.box 4 [dB false]),.live (.box 60 [dS (if fst=true then m.X6 else d)]),.live (.box 3 [dI seq])]⟩:=by
 refine Holds.of Tryz.func117 rfl (N:=21) Tryz.ntmps117 rfl fun w0 B0 S0 U0=>?_
 show T _ (Y5 21 3 w0 S0 U0 B0) ⟨[.tv (.agg [dI m.X1,dI m.Xb,dI m.Xg,dI m.Xe,dI m.Y3,dS m.X6,.d (dsl tm false kU8 m.Xc),dI m.X0.Xu,dI m.X0.Xl,.d (dsl tm false (kE tm) m.Xa),.d (dsl tm false (kE tm) m.Xw),.d (dsl tm false (kC tm) m.X5)]),vI s,pv 0 0,pv 1 0,pv 2 0],[.live (.box 4 [dB fst]),.live (.box 60 [dS d]),.live (.box 3 [dI seq])]⟩ _ _
 refine sR [] (T.seq (sR [] ?_))
 by_cases hq1:fst=true
 ·refine cT hq1 (xK [] (nT (T.seq (T.block (sR [] ?_)))))
  by_cases hq2:m.Xg≠seq
  ·refine cT (dT hq2) (sR [] (T.ret (rB (rT ?_))))
   exact eRt 7 (.one (dI 131)) [0,1,2] p3m (ix ⟨⟨rfl,p2r⟩,(ix trivial)⟩)
  refine cF (dF hq2) (sR [] (cF (show decide (m.X6≠m.X6)=false from dF (fun h=>h rfl)) (T.skip (nB (nT (sR [] (T.ret ?_)))))))
  exact eRt 7 (.one (dI 0)) [0,1,2] p3n (ix ⟨⟨rfl,p2r⟩,(ix trivial)⟩)
 replace hq1:=Bool.eq_false_iff.2 hq1
 refine cF hq1 (T.skip (nT (T.seq (T.block (sR [] ?_)))))
 by_cases hq3:m.Xg≠seq
 ·refine cT (dT hq3) (sR [] (T.ret (rB (rT ?_))))
  exact eRt 7 (.one (dI 131)) [0,1,2] p3m ⟨⟨rfl,p1y⟩,⟨⟨rfl,p1j⟩,(ix trivial)⟩⟩
 refine cF (dF hq3) (sR [] ?_)
 by_cases hq4:m.X6≠d
 ·refine cT (dT hq4) (sR [] (T.ret (rB (rT ?_))))
  exact eRt 7 (.one (dI 132)) [0,1,2] (by have e1:((X20 seq (if fst=true then m.X6 else d) m):Int)=132:=(by (simp [X20, *];done));have hE:=cI e1;exact hE) ⟨⟨rfl,p1y⟩,⟨⟨rfl,p1j⟩,(ix trivial)⟩⟩
 refine cF (dF hq4) (T.skip (nB (nT (sR [] (T.ret ?_)))))
 exact eRt 7 (.one (dI 0)) [0,1,2] p3n ⟨⟨rfl,p1y⟩,⟨⟨rfl,p1j⟩,(ix trivial)⟩⟩
section
variable (f:Int) (u:Int) (rows:List (Yb×Bool)) (seq:Int) (tx:Bool) (nx:Bool) (sx:Bool) (x:List aE) (need:Int) (k:Nat)
abbrev Zl4:HS:=.live (.box 130 [dI (3*f+1),dI u,.mref 1])
abbrev Zl5:HS:=.live (mpK Xi Y8 rows)
abbrev Zl6:HS:=.live (.box 3 [dI seq])
abbrev Zl7:List AV:=[pv 0 0,slV tx nx (kE sx) x,vI 5,vI need,sv (.clo 117 [2,3,4]),aa,aa,aa,aa,aa,aa,sv (.mref 5),aa,aa,aa,aa,aa,slV tx nx (kE sx) x,vI ((x.length:Nat):Int),vI ((k:Nat):Int)]
abbrev Zl9:=(vtV (Xd f u rows) f (x.getD k zE) 5)
abbrev Zla:AV:=vI (x.getD k zE).X2
end
theorem Xfn (f:Int) (u:Int) (rows:List (Yb×Bool)) (tx:Bool) (nx:Bool) (sx:Bool) (x:List aE) (need:Int) (seq:Int) (hf:0≤f∧f≤2) (hu:0≤u∧u≤8) (hx:F9 x):Holds Tryz.prog 116 ⟨[pv 0 0,slV tx nx (kE sx) x,vI 5,vI need,sv (.clo 117 [2,3,4])],[.box 130 [dI (3*f+1),dI u,.mref 1],mpK Xi Y8 rows,.box 4 [dB true],.box 60 [dS []],.box 3 [dI seq]],vI (F3 (gS (Xd f u rows) f seq (Hr x)) x need),[.live (.box 130 [dI (3*f+1),dI u,.mref 1]),.live (mpK Xi Y8 rows),.live (.box 4 [dB (fstF (Xd f u rows) f x)]),.live (.box 60 [dS (X9s (Xd f u rows) f x)]),.live (.box 3 [dI seq])]⟩:=by
 refine Holds.of Tryz.func116 rfl (N:=56) Tryz.ntmps116 rfl fun w0 B0 S0 U0=>?_
 show T _ (Y5 56 5 w0 S0 U0 B0) ⟨[pv 0 0,slV tx nx (kE sx) x,vI 5,vI need,sv (.clo 117 [2,3,4])],[(Zl4 f u),(Zl5 rows),.live (.box 4 [dB true]),.live (.box 60 [dS []]),(Zl6 seq)]⟩ _ _
 have hx1:=hx.1
 refine sR [] (sR [hR 0 rfl rfl (X5w 5 (X44 .i64) Y8 (X3 rfl))] (T.seq (sR [] (T.block ?_))))
 refine T.loop (ι:=Nat) (fun (k:Nat)=>⟨(Zl7 tx nx sx x need k),[(Zl4 f u),(Zl5 rows),.live (.box 4 [dB (X1h k)]),.live (.box 60 [dS (X1i x k)]),(Zl6 seq),.live (mpK (X44 .i64) Y8 (I2 x k))]⟩) (fun (k:Nat)=>(k≤x.length)∧(∀ i,i<k→E3 (gS (Xd f u rows) f seq (Hr x)) x i=0)) (fun (k:Nat)=>x.length-k) (0) ⟨(Nat.zero_le _),(fun j hj=>absurd hj (Nat.not_lt_zero _))⟩ (fun _ _ hG=>Yp [0,1,2,3,4,5] (bm 20 919583) (h2:=[(Zl4 f u),(Zl5 rows),.live (.box 4 [dB true]),.live (.box 60 [dS []]),(Zl6 seq),.live (mpK (X44 .i64) Y8 ([]:List (Int×Bool)))]) rfl (cg3 (fun (q1:Bool) (q2:List UInt8) (q3:List (Int×Bool))=>([(Zl4 f u),(Zl5 rows),.live (.box 4 [dB q1]),.live (.box 60 [dS q2]),(Zl6 seq),.live (mpK (X44 .i64) Y8 q3)]:List HS)) (by rfl) (by rfl) (by rfl)) hG) ?_
 rintro k ⟨hk,hb⟩
 show T _ _ ⟨(Zl7 tx nx sx x need k),[(Zl4 f u),(Zl5 rows),.live (.box 4 [dB (X1h k)]),.live (.box 60 [dS (X1i x k)]),(Zl6 seq),.live (mpK (X44 .i64) Y8 (I2 x k))]⟩ _ _
 replace hk:k≤x.length:=hk
 replace hb:∀ i,i<k→E3 (gS (Xd f u rows) f seq (Hr x)) x i=0:=hb
 refine sR [] (T.seq ?_)
 by_cases hq1:((k:Nat):Int)<((x.length:Nat):Int)
 rotate_left
 ·have hz9:=tly_0 (g:=gS (Xd f u rows) f seq (Hr x)) need hb (by omega);have hda:=dig_at hb hk (.inl (by omega))
  refine cF (dF hq1) (T.exit (xT (xT (xH (nT (T.seq (sR [] ?_)))))))
  by_cases hq8:((x.length:Nat):Int)<need
  ·refine cT (dT hq8) (sR [] (T.ret (rT ?_)))
   exact eRt 10 (.one (dI 32)) [0,1,2,3,4] (by have e1:((F3 (gS (Xd f u rows) f seq (Hr x)) x need):Int)=32:=(by (rw [hz9,if_pos ‹_›]));have hE:=cI e1;exact hE) (ix (ix ⟨⟨rfl,p1t⟩,⟨⟨rfl,p1n⟩,(ix trivial)⟩⟩))
  refine cF (dF hq8) (T.skip (nT (sR [] (T.ret ?_))))
  exact eRt 10 (.one (dI 0)) [0,1,2,3,4] (by have e1:((F3 (gS (Xd f u rows) f seq (Hr x)) x need):Int)=0:=(by (rw [hz9,if_neg ‹_›]));have hE:=cI e1;exact hE) (ix (ix ⟨⟨rfl,p1t⟩,⟨⟨rfl,p1n⟩,(ix trivial)⟩⟩))
 have hgk:=Fr hx (k:=k) (by omega);have hgk1:=hgk.1.1;have hgk2:=hgk.1.2;have hgk3:=hgk.2
 refine cT (dT hq1) (T.skip (nT (T.seq (T.block (sR [hR 0 rfl rfl (W9 tx nx (kE sx) x k (k:=.i64) (i:=((k:Nat):Int)) Tryz.underlying37 Wy rfl rfl (by omega) (X3 rfl) trivial)] (sR [hR 3 rfl rfl (rCa (Xbv f u rows sx (x.getD k zE) 5 ‹_› ‹_› (by omega) (by omega)) Tryz.func151 [0,1] [(.tmp 24,pv 0 0),(.tmp 25,.tv (.agg [dI (x.getD k zE).X2,.d (dsl sx false kU8 (x.getD k zE).X7)])),(.tmp 26,vI 5)] 2 2)] (T.seq (sR [] ?_))))))))
 by_cases hq2:(vtE (Xd f u rows) f (x.getD k zE) 5)=0
 rotate_left
 ·have hg9:=gS_1 (seq:=seq) (d:=Hr x) hq2;have hda:=dig_at hb (by omega) (.inr hq2)
  refine cF (dF hq2) (T.skip (nT (T.seq (sR (Xr (hN · true (dF hq2)) [3,4,5,6] (hP 7 (dF hq2)::[])) (cF (b:=false) rfl (T.skip (nT (T.seq (sR [] ?_)))))))))
  by_cases hq7:(vtE (Xd f u rows) f (x.getD k zE) 5)≠0
  ·have hz9:=Hm (g:=gS (Xd f u rows) f seq (Hr x)) need hb ((X3c (by rw [hg9];exact hq7)).trans hg9) hq7 (by omega)
   refine cT (dT hq7) (sR [] (T.ret (rT (rB (rT (rT (rB (rT ?_))))))))
   exact eRt 10 (.one (dI (vtE (Xd f u rows) f (x.getD k zE) 5))) [0,1,2,3,4] p1f (ix (ix ⟨⟨rfl,p1t⟩,⟨⟨rfl,p1n⟩,(ix trivial)⟩⟩))
  exact absurd hq2 hq7
 have hv9:¬vtE (Xd f u rows) f (x.getD k zE) 5≠0:=(fun q=>q hq2);have hdn:=dig_next hb (by omega) hv9;have hg9:gS (Xd f u rows) f seq (Hr x) (x.getD k zE)=X20 seq (if X1h k=true then (vtV (Xd f u rows) f (x.getD k zE) 5).X6 else X1i x k) (vtV (Xd f u rows) f (x.getD k zE) 5):=((gS_2 hv9).trans (by rw [← hdn.1];rfl))
 refine cT (dT hq2) ?_
 refine xK [hR 4 rfl rfl (X4q (ls:=[2,3,4]) (Xhj false (vtV (Xd f u rows) f (x.getD k zE) 5) (x.getD k zE).X2 (X1h k) (X1i x k) seq ) Tryz.func117 rfl (by decide) [2,3,4] [] (l:=[(.tmp 33,.tv (.agg [dI (Zl9 f u rows x k).X1,dI (Zl9 f u rows x k).Xb,dI (Zl9 f u rows x k).Xg,dI (Zl9 f u rows x k).Xe,dI (Zl9 f u rows x k).Y3,dS (Zl9 f u rows x k).X6,dU (Zl9 f u rows x k).Xc,dI (Zl9 f u rows x k).X0.Xu,dI (Zl9 f u rows x k).X0.Xl,.d (dsl false false (kE false) (Zl9 f u rows x k).Xa),.d (dsl false false (kE false) (Zl9 f u rows x k).Xw),.d (dsl false false (kC false) (Zl9 f u rows x k).X5)])),(.tmp 35,(Zla x k))]) [] rfl 3 3 rfl rfl rfl rfl rfl rfl rfl rfl rfl ⟨⟨.inl ⟨rfl,rfl⟩,⟨.inl ⟨rfl,rfl⟩,⟨.inl ⟨rfl,rfl⟩,⟨.inl ⟨rfl,rfl⟩,⟨.inl ⟨rfl,rfl⟩,⟨.inl ⟨rfl,rfl⟩,⟨.inl ⟨rfl,rfl⟩,⟨.inl ⟨rfl,rfl⟩,⟨.inl ⟨rfl,rfl⟩,⟨.inl ⟨rfl,rfl⟩,⟨.inl ⟨rfl,rfl⟩,⟨.inl ⟨rfl,rfl⟩,trivial⟩⟩⟩⟩⟩⟩⟩⟩⟩⟩⟩⟩,⟨.inl ⟨rfl,rfl⟩,⟨.inl ⟨rfl,rfl⟩,⟨.inl ⟨rfl,rfl⟩,⟨.inl ⟨rfl,rfl⟩,trivial⟩⟩⟩⟩⟩ rfl p3a (.inl rfl) (X3 rfl) trivial)] ?_
 refine nT (T.seq ?_)
 by_cases hq3:(X20 seq (if (X1h k)=true then (vtV (Xd f u rows) f (x.getD k zE) 5).X6 else (X1i x k)) (vtV (Xd f u rows) f (x.getD k zE) 5))=0
 ·have hn9:¬(gS (Xd f u rows) f seq (Hr x)) (x.getD k zE)≠0:=(by rw [hg9];exact fun q=>q hq3)
  refine sR (Xr (hY · (dT hq3)) [3,4,5] (hS 6 (oY rfl rfl rfl rfl (X3 rfl) (dT hq3) (Xe8 5 (I2 x k) (x.getD k zE).X2 (.one (dB (mget (I2 x k) (x.getD k zE).X2 false))) (ak:=(Zla x k)) (kd:=Y8) Tryz.underlying201 (X4x Tryz.underlying3) rfl Xc0 ⟨.inl rfl,trivial⟩ rfl (X3 rfl) p1s))::(hP 7 (dT hq3)::[]))) ?_
  by_cases hq4:(mget (I2 x k) (x.getD k zE).X2 false)=true
  ·have ht9:=(X0g (l:=x) (k:=k) (by omega)).1 hq4;have hz9:=Hm (g:=gS (Xd f u rows) f seq (Hr x)) need hb (vot_2 hn9 ht9) (by decide) (by omega)
   refine cT hq4 (xK [] (nT (T.seq (sR [] (cT (b:=true) rfl (sR [] (T.ret (rT (rB (rT (rT (rB (rT ?_)))))))))))))
   exact eRt 10 (.one (dI 33)) [0,1,2,3,4] p1f (ix (ix ⟨⟨rfl,p36⟩,⟨⟨rfl,pZ25⟩,(ix trivial)⟩⟩))
  have ht9:¬F7 x k:=(fun q=>absurd ((X0g (by omega)).2 q) ‹_›)
  replace hq4:=Bool.eq_false_iff.2 hq4
  refine cF hq4 (T.skip (nT (T.seq (sR [] ?_))))
  by_cases hq5:(X20 seq (if (X1h k)=true then (vtV (Xd f u rows) f (x.getD k zE) 5).X6 else (X1i x k)) (vtV (Xd f u rows) f (x.getD k zE) 5))≠0
  ·exact absurd hq3 hq5
  refine cF (dF hq5) (T.skip (nT (xK [hR 3 rfl rfl (X1w 5 (I2 x k) (x.getD k zE).X2 true (kd:=Y8) (ak:=(Zla x k)) (tv:=.one (dB true)) Tryz.underlying201 (X4x Tryz.underlying3) rfl rfl ⟨.inl rfl,trivial⟩ ⟨rfl,trivial⟩)] (nB (nT (xK [hR 0 rfl rfl (Yg (u1:=.int .i64 ((k:Nat):Int)) (u2:=.int .i64 1) (v:=.int .i64 ((k+1:Nat):Int)) (W8 pb) (X3 rfl) ⟨rfl,trivial⟩)] ?_))))))
  refine nL (k+1) ⟨(show (k+1)≤x.length from (by omega)),(show ∀ i,i<(k+1)→E3 (gS (Xd f u rows) f seq (Hr x)) x i=0 from (Ud hb (vot_3 hn9 ht9)))⟩ (show (x.length-(k+1):Nat)<x.length-k from (by omega)) (fun _ _ hG=>Yp [0,1,2,3,4,5] (bm 20 919583) (h2:=[(Zl4 f u),(Zl5 rows),.live (.box 4 [dB false]),.live (.box 60 [dS (if (X1h k)=true then (Zl9 f u rows x k).X6 else (X1i x k))]),(Zl6 seq),.live (mpK (X44 .i64) Y8 (mput (I2 x k) (x.getD k zE).X2 true))]) rfl (by have e1:((X1h (k+1)):Bool)=false:=(by rfl);have e2:((X1i x (k+1)):List UInt8)=(if (X1h k)=true then (vtV (Xd f u rows) f (x.getD k zE) 5).X6 else (X1i x k)):=(by exact (hdn.1.trans hdn.2.2.2.1.symm).symm);have e3:((I2 x (k+1)):List (Int×Bool))=(mput (I2 x k) (x.getD k zE).X2 true):=(by (rw [X5p (by omega)]));have hE:=congr (congr (congrArg (fun (q1:Bool) (q2:List UInt8) (q3:List (Int×Bool))=>([(Zl4 f u),(Zl5 rows),.live (.box 4 [dB q1]),.live (.box 60 [dS q2]),(Zl6 seq),.live (mpK (X44 .i64) Y8 q3)]:List HS)) e1) e2) e3;exact hE) hG)
 refine sR (Xr (hN · true (dF hq3)) [3,4,5,6] (hP 7 (dF hq3)::[])) (cF (b:=false) rfl (T.skip (nT (T.seq (sR [] ?_)))))
 by_cases hq6:(X20 seq (if (X1h k)=true then (vtV (Xd f u rows) f (x.getD k zE) 5).X6 else (X1i x k)) (vtV (Xd f u rows) f (x.getD k zE) 5))≠0
 ·have hz9:=Hm (g:=gS (Xd f u rows) f seq (Hr x)) need hb ((X3c (by rw [hg9];exact hq6)).trans hg9) hq6 (by omega)
  refine cT (dT hq6) (sR [] (T.ret (rT (rB (rT (rT (rB (rT ?_))))))))
  exact eRt 10 (.one (dI (X20 seq (if (X1h k)=true then (Zl9 f u rows x k).X6 else (X1i x k)) (Zl9 f u rows x k)))) [0,1,2,3,4] p1f (ix (ix ⟨⟨rfl,p36⟩,⟨⟨rfl,pZ25⟩,(ix trivial)⟩⟩))
 exact absurd hq3 hq6
abbrev Zlc:TV:=.one (dS [])
theorem Xfo (f:Int) (u:Int) (rows:List (Yb×Bool)) (seq:Int) (tx:Bool) (nx:Bool) (sx:Bool) (x:List aE) (hf:0≤f∧f≤2) (hu:0≤u∧u≤8) (hx:F9 x):Holds Tryz.prog 59 ⟨[pv 0 0,vI seq,slV tx nx (kE sx) x],[.box 130 [dI (3*f+1),dI u,.mref 1],mpK Xi Y8 rows],.tup [.one (dS (stD (Xd f u rows) f seq x)),.one (dI (stE (Xd f u rows) f seq x))],[.live (.box 130 [dI (3*f+1),dI u,.mref 1]),.live (mpK Xi Y8 rows)]⟩:=by
 refine Holds.of Tryz.func59 rfl (N:=25) Tryz.ntmps59 rfl fun w0 B0 S0 U0=>?_
 show T _ (Y5 25 2 w0 S0 U0 B0) ⟨[pv 0 0,vI seq,slV tx nx (kE sx) x],[.live (.box 130 [dI (3*f+1),dI u,.mref 1]),.live (mpK Xi Y8 rows)]⟩ _ _
 refine sR [] (T.seq (sR [] ?_))
 by_cases hq1:seq=0
 ·refine cT (dT hq1) (T.seq (sR [] ?_))
  by_cases hq2:((x.length:Nat):Int)>0
  ·have hx9:=st_0 (C:=(Xd f u rows)) (f:=f) ‹_› hq2
   refine cT (dT hq2) (sR [] (T.ret (rT (rT ?_))))
   exact eX [.c 6 3 60 0 60 [dS []] (Zlc),.t 7 (.one (dI 120))] ⟨⟨rfl,rfl,by kernel_rfl,by kernel_rfl,.inr ⟨X2m,_,rfl,rfl⟩⟩,⟨⟨rfl,by kernel_rfl⟩,trivial⟩⟩ [0,1] (cg2 (fun (q1:List UInt8) (q2:Int)=>(.tup [.one (dS q1),.one (dI q2)]:AV)) p3y p4z) (ix (ix trivial))
  have hx9:=st_1 (C:=(Xd f u rows)) (f:=f) ‹_› hq2
  refine cF (dF hq2) (T.skip (nT (sR [] (T.ret (rT ?_)))))
  exact eX [.c 6 3 60 0 60 [dS []] (Zlc),.t 7 (.one (dI 0))] ⟨⟨rfl,rfl,by kernel_rfl,by kernel_rfl,.inr ⟨X2m,_,rfl,rfl⟩⟩,⟨⟨rfl,by kernel_rfl⟩,trivial⟩⟩ [0,1] (cg2 (fun (q1:List UInt8) (q2:Int)=>(.tup [.one (dS q1),.one (dI q2)]:AV)) p3y p4z) (ix (ix trivial))
 have hs0:=hq1
 refine cF (dF hq1) (T.skip (nT (sR [] (sR [hR 3 rfl rfl (rCa (X5f f u rows ‹_› ‹_›) Tryz.func33 [0,1] [(.tmp 16,pv 0 0)] 2 2),hR 4 rfl rfl (X3j (k:=.i64) (a:=1) (b:=2*f+1) (X3 rfl) ⟨rfl,trivial⟩),hR 5 rfl rfl (X5x (f:=117) (ls:=[(.tmp 8,4),(.tmp 6,3),(.tmp 4,2)]) rfl (X3 rfl) trivial),hR 6 rfl rfl (rCa (Xfn f u rows tx nx sx x (max 1 (2*f+1)) seq ‹_› ‹_› ‹_›) Tryz.func116 [0,1,4,3,2] [(.tmp 14,pv 0 0),(.tmp 15,slV tx nx (kE sx) x),(.const (.int .i64 5),vI 5),(.tmp 18,vI (max 1 (2*f+1))),(.tmp 19,sv (.clo 117 [4,3,2]))] 5 5)] (T.seq (sR [] ?_))))))
 by_cases hq3:(F3 (gS (Xd f u rows) f seq (Hr x)) x (max 1 (2*f+1)))≠0
 ·have hx9:=st_t hs0 rfl hq3
  refine cT (dT hq3) (sR [] (T.ret (rT ?_)))
  exact eX [.c 6 3 60 0 60 [dS []] (Zlc),.t 7 (.one (dI (F3 (gS (Xd f u rows) f seq (Hr x)) x (max 1 (2*f+1)))))] ⟨⟨rfl,rfl,by kernel_rfl,by kernel_rfl,.inr ⟨X2m,_,rfl,rfl⟩⟩,⟨⟨rfl,by kernel_rfl⟩,trivial⟩⟩ [0,1] (cg2 (fun (q1:List UInt8) (q2:Int)=>(.tup [.one (dS q1),.one (dI q2)]:AV)) p3y p4z) (ix (ix trivial))
 have hx9:=st_ok hs0 (Classical.not_not.1 hq3)
 refine cF (dF hq3) (T.skip (nT (sR [] (T.ret ?_))))
 exact eX [.c 6 3 60 0 60 [dS (X9s (Xd f u rows) f x)] (.one (dS (X9s (Xd f u rows) f x))),.t 7 (.one (dI 0))] ⟨⟨rfl,rfl,by kernel_rfl,by kernel_rfl,.inr ⟨X2m,_,rfl,rfl⟩⟩,⟨⟨rfl,by kernel_rfl⟩,trivial⟩⟩ [0,1] (cg2 (fun (q1:List UInt8) (q2:Int)=>(.tup [.one (dS q1),.one (dI q2)]:AV)) p3y p4m) (ix (ix trivial))
abbrev Zld (x:List aE):AV:=slV false false (kE false) x
abbrev Zle (j:Nat):AV:=vI ((j:Nat):Int)
theorem X6u (x:List aE) (j:Nat) (hj:j<x.length) (hx:x.length≤9223372036854775807):Holds Tryz.prog 113 ⟨[slV false false (kE false) x,vI ((j:Nat):Int)],[],vB (decide (F7 x j)),[]⟩:=by
 refine Holds.of Tryz.func113 rfl (N:=22) Tryz.ntmps113 rfl fun w0 B0 S0 U0=>?_
 show T _ (Y5 22 0 w0 S0 U0 B0) ⟨[(Zld x),(Zle j)],[]⟩ _ _
 refine sR [] (T.seq (sR [] (T.block ?_)))
 refine T.loop (ι:=Nat) (fun (k:Nat)=>⟨[(Zld x),(Zle j),aa,aa,vB false,vI ((k:Nat):Int)],[]⟩) (fun (k:Nat)=>(k≤j)∧(∀ i,i<k→¬(x.getD i zE).X2=(x.getD j zE).X2)) (fun (k:Nat)=>j-k) (0) ⟨(Nat.zero_le _),(fun j hj=>absurd hj (Nat.not_lt_zero _))⟩ (fun _ _ hG=>Yp [] (bm 6 51) rfl rfl hG) ?_
 rintro k ⟨hk,hb⟩
 show T _ _ ⟨[(Zld x),(Zle j),aa,aa,vB false,vI ((k:Nat):Int)],[]⟩ _ _
 replace hk:k≤j:=hk
 replace hb:∀ i,i<k→¬(x.getD i zE).X2=(x.getD j zE).X2:=hb
 refine T.seq (sR [] ?_)
 by_cases hq1:((k:Nat):Int)<((j:Nat):Int)
 ·refine cT (dT hq1) (T.skip (nT (T.seq (T.block ?_))))
  refine sD [[],[],[0,1],[0,1,2],[0,1,2,3],[],[],[5,6],[5,6,7],[5,6,7,8],[0,1,2,3,4,5,6,7,8,9]] [hR 2 rfl rfl (W9 false false (kE false) x k (k:=.i64) (i:=((k:Nat):Int)) Tryz.underlying37 Wy rfl rfl (by omega) (X3 rfl) trivial),hR 7 rfl rfl (W9 false false (kE false) x j (k:=.i64) (i:=((j:Nat):Int)) Tryz.underlying37 Wy rfl rfl ‹_› (X3 rfl) trivial)] ?_
  by_cases hq2:(x.getD k zE).X2=(x.getD j zE).X2
  ·refine cT (dT hq2) (sR [] (T.ret (rB (rT (rT (rB (rT ?_)))))))
   exact eRt 4 (.one (dB true)) [] (cB (by exact dT ⟨k,by omega,by assumption⟩)) trivial
  refine cF (dF hq2) (T.skip (nB (nT (xK [hR 1 rfl rfl (Yg (u1:=.int .i64 ((k:Nat):Int)) (u2:=.int .i64 1) (v:=.int .i64 ((k+1:Nat):Int)) (W8 pb) (X3 rfl) ⟨rfl,trivial⟩)] ?_))))
  refine nL (k+1) ⟨(show (k+1)≤j from (by omega)),(show ∀ i,i<(k+1)→¬(x.getD i zE).X2=(x.getD j zE).X2 from (Ud hb ‹_›))⟩ (show (j-(k+1):Nat)<j-k from (by omega)) (fun _ _ hG=>Yp [] (bm 6 51) rfl rfl hG)
 refine cF (dF hq1) (T.exit (xT (xT (xH (nT (sR [] (T.ret ?_)))))))
 exact eRt 4 (.one (dB false)) [] (cB (by exact dF (fun ⟨i,h1,h2⟩=>hb i (by omega) h2))) trivial
section
variable (f:Int) (u:Int) (l:List aE) (seq:Int) (x:List aE) (k:Nat)
end
end Go.Proofs.YtnaopgohccacmaaGreat.Q
namespace Go.Proofs.YtnaopgohccacmaaGreat.Q
open Go Go.RowKit
set_option linter.unusedVariables false
theorem pp_prim {C:aE→Int} {f:Int} {e:aE} (h:¬ppE C f e≠0):e.X2=W1 f (ppV C f e).Xb:=by
  rw [Xgr h]
  refine Classical.not_not.1 fun q=>?_
  by_cases h1:opE C e 2≠0
  · exact h (by rw [(pp_o (f:=f) h1).2];exact h1)
  · exact h (by rw [(pp_p h1 q).2];decide)
theorem mus_v {p m:aM} {kind pre s:Int} (h:m.Xb≠p.Xb):X1f p kind pre m s=130:=if_pos h
theorem mus_s {p m:aM} {kind pre s:Int} (h:¬m.Xb≠p.Xb) (h1:m.Xg≠p.Xg):X1f p kind pre m s=131:=(if_neg h).trans (if_pos h1)
theorem mus_d {p m:aM} {kind pre s:Int} (h:¬m.Xb≠p.Xb) (h1:¬m.Xg≠p.Xg) (h2:m.X6≠p.X6):X1f p kind pre m s=132:=(if_neg h).trans ((if_neg h1).trans (if_pos h2))
theorem mus_p {p m:aM} {kind pre s:Int} (h:¬m.Xb≠p.Xb) (h1:¬m.Xg≠p.Xg) (h2:¬m.X6≠p.X6) (h3:kind=3) (h4:s=pre):X1f p kind pre m s=133:=(if_neg h).trans ((if_neg h1).trans ((if_neg h2).trans (if_pos ⟨h3,h4⟩)))
theorem mus_0 {p m:aM} {kind pre s:Int} (h:¬m.Xb≠p.Xb) (h1:¬m.Xg≠p.Xg) (h2:¬m.X6≠p.X6) (h3:¬(kind=3∧s=pre)):X1f p kind pre m s=0:=(if_neg h).trans ((if_neg h1).trans ((if_neg h2).trans (if_neg h3)))
end Go.Proofs.YtnaopgohccacmaaGreat.Q
namespace Go.Proofs.YtnaopgohccacmaaGreat.Q
open Go Go.RowKit
set_option linter.unusedVariables false
set_option linter.unusedSimpArgs false
set_option maxRecDepth 100000
set_option maxHeartbeats 4000000
section
variable (f:Int) (u:Int) (l:List aE) (c:aC) (kind:Int) (need:Int) (k:Nat)
abbrev Zlm:List SV:=[dI c.Yf.X2,dU c.Yf.X7,.d (dsl false false (kE false) c.Xo)]
abbrev Zln:AV:=.tv (.agg (Zlm c))
abbrev Zlo:HS:=.live (.box 135 [dB true,dI f,dI u,.own 1 (kE false).sz 0 l.length])
abbrev Zlp:HS:=.live (Xf 43 (kE false) l)
abbrev Zlq:List AV:=[pv 0 0,(Zln c),vI kind,vI need,aa,pv 2 0,aa,aa,pv 3 0,vI (ppE (X9 f u l) f c.Yf),pv 4 0,vI (ppE (X9 f u l) f c.Yf),aa,aa,aa,aa,aa,aa,aa,aa,aa,aa,aa,vB (decide ((ppE (X9 f u l) f c.Yf)≠0))]
abbrev Zlr:SV:=.d (.val (.slice none 0 0))
abbrev Zls:HS:=.live (.box 78 [dI 0,dI 0,dI 0,dI 0,dI 0,dS [],Zlr,dI 0,dI 0,Zlr,Zlr,Zlr])
abbrev Zlt:=(ppV (X9 f u l) f c.Yf)
abbrev Zlu:List SV:=[dI (Zlt f u l c).X1,dI (Zlt f u l c).Xb,dI (Zlt f u l c).Xg,dI (Zlt f u l c).Xe,dI (Zlt f u l c).Y3,dS (Zlt f u l c).X6,dU (Zlt f u l c).Xc,dI (Zlt f u l c).X0.Xu,dI (Zlt f u l c).X0.Xl,.d (dsl false false (kE false) (Zlt f u l c).Xa),.d (dsl false false (kE false) (Zlt f u l c).Xw),.d (dsl false false (kC false) (Zlt f u l c).X5)]
abbrev Zlv:List HS:=[(Zlo f u l),(Zlp l),.live (.box 86 (Zlm c)),Zls,.live (.box 78 (Zlu f u l c))]
abbrev Zlw:SV:=dU ([]:List UInt8)
abbrev Zlx:SV:=.d (dsl false false (kE false) ([]:List aE))
abbrev Zly:SV:=.d (dsl false false (kC false) ([]:List aC))
abbrev Zlz:List SV:=[dI 0,dI 0,dI 0,dI 0,dI 0,dS [],Zlw,dI 0,dI 0,Zlx,Zlx,Zly]
abbrev Zm0:TV:=.agg Zlz
abbrev Zm1:AV:=vI ((k:Nat):Int)
abbrev Zm3:AV:=vI (vtE (X9 f u l) f (c.Xo.getD k zE) kind)
abbrev Zm4:AV:=vB (decide (((k:Nat):Int)<((c.Xo.length:Nat):Int)))
abbrev Zm5:AV:=vB (decide ((vtE (X9 f u l) f (c.Xo.getD k zE) kind)≠0))
abbrev Zm6:List AV:=[pv 0 0,(Zln c),vI kind,vI need,aa,pv 2 0,aa,aa,pv 3 0,(Zm3 f u l c kind k),pv 4 0,aa,(Zm1 k),pv 5 0,(Zm3 f u l c kind k),aa,aa,aa,aa,aa,aa,aa,aa,aa,aa,aa,aa,aa,aa,aa,(Zm4 c k),aa,aa,aa,aa,aa,aa,aa,aa,aa,aa,aa,aa,aa,(Zm5 f u l c kind k)]
abbrev Zm7:=(vtV (X9 f u l) f (c.Xo.getD k zE) kind)
abbrev Zm8:HS:=.live (.box 78 [dI (Zm7 f u l c kind k).X1,dI (Zm7 f u l c kind k).Xb,dI (Zm7 f u l c kind k).Xg,dI (Zm7 f u l c kind k).Xe,dI (Zm7 f u l c kind k).Y3,dS (Zm7 f u l c kind k).X6,dU (Zm7 f u l c kind k).Xc,dI (Zm7 f u l c kind k).X0.Xu,dI (Zm7 f u l c kind k).X0.Xl,.d (dsl false false (kE false) (Zm7 f u l c kind k).Xa),.d (dsl false false (kE false) (Zm7 f u l c kind k).Xw),.d (dsl false false (kC false) (Zm7 f u l c kind k).X5)])
abbrev Zm9:List HS:=[(Zlo f u l),(Zlp l),.live (.box 86 (Zlm c)),Zls,.live (.box 78 (Zlu f u l c)),(Zm8 f u l c kind k)]
abbrev Zma:List HS:=[(Zlo f u l),(Zlp l),.live (.box 86 (Zlm c)),.live (.box 78 Zlz),.live (.box 78 (Zlu f u l c)),(Zm8 f u l c kind k)]
abbrev Zmb:AV:=vB (decide ((Zm7 f u l c kind k).Xb≠(Zlt f u l c).Xb))
abbrev Zmc:List AV:=[pv 0 0,(Zln c),vI kind,vI need,aa,pv 2 0,aa,aa,pv 3 0,vI 130,pv 4 0,aa,(Zm1 k),pv 5 0,(Zm3 f u l c kind k),aa,aa,aa,aa,aa,aa,aa,aa,aa,aa,aa,aa,aa,aa,aa,(Zm4 c k),aa,aa,aa,aa,aa,aa,aa,aa,aa,aa,aa,aa,aa,(Zm5 f u l c kind k),aa,aa,aa,aa,(Zmb f u l c kind k)]
abbrev Zmd:AV:=vB (decide ((Zm7 f u l c kind k).Xg≠(Zlt f u l c).Xg))
abbrev Zme:List AV:=[pv 0 0,(Zln c),vI kind,vI need,aa,pv 2 0,aa,aa,pv 3 0,vI 131,pv 4 0,aa,(Zm1 k),pv 5 0,(Zm3 f u l c kind k),aa,aa,aa,aa,aa,aa,aa,aa,aa,aa,aa,aa,aa,aa,aa,(Zm4 c k),aa,aa,aa,aa,aa,aa,aa,aa,aa,aa,aa,aa,aa,(Zm5 f u l c kind k),aa,aa,aa,aa,(Zmb f u l c kind k),aa,aa,aa,aa,aa,aa,(Zmd f u l c kind k)]
abbrev Zmf:AV:=vB (decide ((Zm7 f u l c kind k).X6≠(Zlt f u l c).X6))
abbrev Zmg:List AV:=[pv 0 0,(Zln c),vI kind,vI need,aa,pv 2 0,aa,aa,pv 3 0,vI 132,pv 4 0,aa,(Zm1 k),pv 5 0,(Zm3 f u l c kind k),aa,aa,aa,aa,aa,aa,aa,aa,aa,aa,aa,aa,aa,aa,aa,(Zm4 c k),aa,aa,aa,aa,aa,aa,aa,aa,aa,aa,aa,aa,aa,(Zm5 f u l c kind k),aa,aa,aa,aa,(Zmb f u l c kind k),aa,aa,aa,aa,aa,aa,(Zmd f u l c kind k),aa,aa,aa,aa,aa,aa,(Zmf f u l c kind k)]
abbrev Zmh:List AV:=[pv 0 0,(Zln c),vI kind,vI need,aa,pv 2 0,aa,aa,pv 3 0,vI 133,pv 4 0,aa,(Zm1 k),pv 5 0,(Zm3 f u l c kind k),aa,aa,aa,aa,aa,aa,aa,aa,aa,aa,aa,aa,aa,aa,aa,(Zm4 c k),aa,aa,aa,aa,aa,aa,aa,aa,aa,aa,aa,aa,aa,(Zm5 f u l c kind k),aa,aa,aa,aa,(Zmb f u l c kind k),aa,aa,aa,aa,aa,aa,(Zmd f u l c kind k),aa,aa,aa,aa,aa,aa,(Zmf f u l c kind k),aa,aa,aa,aa,aa,aa,vB (decide ((c.Xo.getD k zE).X2=(W1 f (Zlt f u l c).Xb)))]
abbrev Zmi:List AV:=[pv 0 0,(Zln c),vI kind,vI need,aa,pv 2 0,aa,aa,pv 3 0,vI 33,pv 4 0,aa,(Zm1 k),pv 5 0,(Zm3 f u l c kind k),aa,aa,aa,aa,aa,aa,aa,aa,aa,aa,aa,aa,aa,aa,aa,(Zm4 c k),aa,aa,aa,aa,aa,aa,aa,aa,aa,aa,aa,aa,aa,(Zm5 f u l c kind k),aa,aa,aa,aa,(Zmb f u l c kind k),aa,aa,aa,aa,aa,aa,(Zmd f u l c kind k),aa,aa,aa,aa,aa,aa,(Zmf f u l c kind k),aa,aa,aa,aa,aa,aa,vB (decide ((c.Xo.getD k zE).X2=(W1 f (Zlt f u l c).Xb))),aa,aa,aa,aa,aa,aa,aa,aa,aa,aa,aa,aa,aa,aa,aa,aa,vB (decide (F7 c.Xo k))]
abbrev Zmk:List AV:=[pv 0 0,(Zln c),vI kind,vI need,aa,pv 2 0,aa,aa,pv 3 0,vI 33,pv 4 0,aa,(Zm1 k),pv 5 0,(Zm3 f u l c kind k),aa,aa,aa,aa,aa,aa,aa,aa,aa,aa,aa,aa,aa,aa,aa,(Zm4 c k),aa,aa,aa,aa,aa,aa,aa,aa,aa,aa,aa,aa,aa,(Zm5 f u l c kind k),aa,aa,aa,aa,(Zmb f u l c kind k),aa,aa,aa,aa,aa,aa,(Zmd f u l c kind k),aa,aa,aa,aa,aa,aa,(Zmf f u l c kind k),aa,aa,aa,aa,aa,aa,vB false,aa,aa,aa,aa,aa,aa,aa,aa,aa,aa,aa,aa,aa,aa,aa,aa,vB (decide (F7 c.Xo k))]
abbrev Zml:List AV:=[pv 0 0,(Zln c),vI kind,vI need,aa,pv 2 0,aa,aa,pv 3 0,vI 32,pv 4 0,aa,(Zm1 k),aa,aa,aa,aa,aa,aa,aa,aa,aa,aa,aa,aa,aa,aa,aa,aa,aa,(Zm4 c k),aa,aa,aa,aa,aa,aa,aa,aa,aa,aa,aa,aa,aa,aa,aa,aa,aa,aa,aa,aa,aa,aa,aa,aa,aa,aa,aa,aa,aa,aa,aa,aa,aa,aa,aa,aa,aa,aa,aa,aa,aa,aa,aa,aa,aa,aa,aa,aa,aa,aa,aa,aa,aa,aa,aa,aa,aa,aa,aa,aa,aa,aa,aa,aa,aa,aa,vB (decide (((c.Xo.length:Nat):Int)<need))]
end
theorem Xg9 (f:Int) (u:Int) (l:List aE) (c:aC) (kind:Int) (need:Int) (hf:0≤f∧f≤2) (hu:0≤u∧u≤8) (hl:l.length≤9223372036854775806) (hs:-9223372036854775808≤c.Yf.X2∧c.Yf.X2≤9223372036854775807) (hb9:c.Yf.X7.length≤100000000) (hx:F9 c.Xo):Holds Tryz.prog 127 ⟨[pv 0 0,.tv (.agg [dI c.Yf.X2,dU c.Yf.X7,.d (dsl false false (kE false) c.Xo)]),vI kind,vI need],[.box 135 [dB true,dI f,dI u,.own 1 (kE false).sz 0 l.length],Xf 43 (kE false) l],.tup [.agg [dI (ceV (X9 f u l) f c kind need).X1,dI (ceV (X9 f u l) f c kind need).Xb,dI (ceV (X9 f u l) f c kind need).Xg,dI (ceV (X9 f u l) f c kind need).Xe,dI (ceV (X9 f u l) f c kind need).Y3,dS (ceV (X9 f u l) f c kind need).X6,dU (ceV (X9 f u l) f c kind need).Xc,dI (ceV (X9 f u l) f c kind need).X0.Xu,dI (ceV (X9 f u l) f c kind need).X0.Xl,.d (dsl false false (kE false) (ceV (X9 f u l) f c kind need).Xa),.d (dsl false false (kE false) (ceV (X9 f u l) f c kind need).Xw),.d (dsl false false (kC false) (ceV (X9 f u l) f c kind need).X5)],.one (dI (ceE (X9 f u l) f c kind need))],[.live (.box 135 [dB true,dI f,dI u,.own 1 (kE false).sz 0 l.length]),.live (Xf 43 (kE false) l)]⟩:=by
 refine Holds.of Tryz.func127 rfl (N:=100) Tryz.ntmps127 rfl fun w0 B0 S0 U0=>?_
 show T _ (Y5 100 2 w0 S0 U0 B0) ⟨[pv 0 0,(Zln c),vI kind,vI need],[(Zlo f u l),(Zlp l)]⟩ _ _
 have hx1:=hx.1
 refine sR [] (sR [hR 3 rfl rfl (rCa (X5u f u l c.Yf ‹_› ‹_› ‹_› ‹_› ‹_›) Tryz.func155 [0,1] [(.tmp 16,pv 0 0),(.tmp 18,.tv (.agg [dI c.Yf.X2,dU c.Yf.X7]))] 2 2)] (T.seq (sR [] ?_)))
 by_cases hq1:(ppE (X9 f u l) f c.Yf)≠0
 ·have hx9:=ce_p (kind:=kind) (need:=need) hq1
  refine cT (dT hq1) (sR [] (T.ret (rT ?_)))
  refine eN ⟨(Zlq f u l c kind need),(Zlv f u l c)⟩ ?_
  refine X8 (s':=⟨(Zlq f u l c kind need),[(Zlo f u l),(Zlp l),.live (.box 86 (Zlm c)),.live (.box 78 Zlz),.live (.box 78 (Zlu f u l c))]⟩) (fun _ _ hG=>Ym (s:=⟨(Zlq f u l c kind need),(Zlv f u l c)⟩) p2k ⟨.inl rfl,pZv⟩ hG) ?_
  exact eX [.c 8 3 78 0 78 [dI 0,dI 0,dI 0,dI 0,dI 0,dS [],Zlw,dI 0,dI 0,Zlx,Zlx,Zly] (Zm0),.t 9 (.one (dI (ppE (X9 f u l) f c.Yf)))] ⟨⟨rfl,rfl,by kernel_rfl,by kernel_rfl,.inl ⟨12,Yy,rfl,Nat.le_of_ble_eq_true rfl⟩⟩,⟨⟨rfl,by kernel_rfl⟩,trivial⟩⟩ [0,1] pZ0 (ix (ix trivial))
 have hp9:=hq1;have hpr:=pp_prim hp9
 refine cF (dF hq1) (T.skip (nT (T.seq (sR [] (T.block ?_)))))
 refine T.loop (ι:=Nat) (fun (k:Nat)=>⟨[pv 0 0,(Zln c),vI kind,vI need,aa,pv 2 0,aa,aa,pv 3 0,vI 0,pv 4 0,aa,(Zm1 k)],(Zlv f u l c)⟩) (fun (k:Nat)=>(k≤c.Xo.length)∧(∀ i,i<k→E3 (gC (X9 f u l) f (ppV (X9 f u l) f c.Yf) kind c.Yf.X2) c.Xo i=0)) (fun (k:Nat)=>c.Xo.length-k) (0) ⟨(Nat.zero_le _),(fun j hj=>absurd hj (Nat.not_lt_zero _))⟩ (fun _ _ hG=>Yp [0,1,2,3,4] (bm 13 5935) rfl rfl hG) ?_
 rintro k ⟨hk,hb⟩
 show T _ _ ⟨[pv 0 0,(Zln c),vI kind,vI need,aa,pv 2 0,aa,aa,pv 3 0,vI 0,pv 4 0,aa,(Zm1 k)],(Zlv f u l c)⟩ _ _
 replace hk:k≤c.Xo.length:=hk
 replace hb:∀ i,i<k→E3 (gC (X9 f u l) f (ppV (X9 f u l) f c.Yf) kind c.Yf.X2) c.Xo i=0:=hb
 refine T.seq (sR [] ?_)
 by_cases hq2:((k:Nat):Int)<((c.Xo.length:Nat):Int)
 rotate_left
 ·have hz0:=tly_0 (g:=gC (X9 f u l) f (ppV (X9 f u l) f c.Yf) kind c.Yf.X2) need hb (by omega)
  refine cF (dF hq2) (T.exit (xT (xT (xH (nT (T.seq (sR [] ?_)))))))
  by_cases hq11:((c.Xo.length:Nat):Int)<need
  ·have hx9:=ce_t hp9 (by rw [hz0,if_pos hq11];decide);rw [hz0,if_pos hq11] at hx9
   refine cT (dT hq11) (sR [] (T.ret (rT ?_)))
   refine eN ⟨(Zml c kind need k),(Zlv f u l c)⟩ ?_
   refine X8 (s':=⟨(Zml c kind need k),[(Zlo f u l),(Zlp l),.live (.box 86 (Zlm c)),.live (.box 78 Zlz),.live (.box 78 (Zlu f u l c))]⟩) (fun _ _ hG=>Ym (s:=⟨(Zml c kind need k),(Zlv f u l c)⟩) (kk2 (X41 p1w)) ⟨.inl rfl,pZv⟩ hG) ?_
   exact eX [.c 8 3 78 0 78 [dI 0,dI 0,dI 0,dI 0,dI 0,dS [],Zlw,dI 0,dI 0,Zlx,Zlx,Zly] (Zm0),.t 9 (.one (dI 32))] ⟨⟨rfl,rfl,by kernel_rfl,by kernel_rfl,.inl ⟨12,Yy,rfl,Nat.le_of_ble_eq_true rfl⟩⟩,⟨⟨rfl,by kernel_rfl⟩,trivial⟩⟩ [0,1] pZ0 (ix (ix trivial))
  have hx9:=ce_ok hp9 (by rw [hz0,if_neg hq11];simp)
  refine cF (dF hq11) (T.skip (nT (sR [] (T.ret ?_))))
  exact eX [.c 8 3 78 0 78 [dI (Zlt f u l c).X1,dI (Zlt f u l c).Xb,dI (Zlt f u l c).Xg,dI (Zlt f u l c).Xe,dI (Zlt f u l c).Y3,dS (Zlt f u l c).X6,dU (Zlt f u l c).Xc,dI (Zlt f u l c).X0.Xu,dI (Zlt f u l c).X0.Xl,.d (dsl false false (kE false) (Zlt f u l c).Xa),.d (dsl false false (kE false) (Zlt f u l c).Xw),.d (dsl false false (kC false) (Zlt f u l c).X5)] (.agg (Zlu f u l c)),.t 9 (.one (dI 0))] ⟨⟨rfl,rfl,by kernel_rfl,by kernel_rfl,.inl ⟨12,Yy,rfl,Nat.le_of_ble_eq_true rfl⟩⟩,⟨⟨rfl,by kernel_rfl⟩,trivial⟩⟩ [0,1] pZ0 (ix (ix trivial))
 have hgk:=Fr hx (k:=k) (by omega);have hgk1:=hgk.1.1;have hgk2:=hgk.1.2;have hgk3:=hgk.2
 refine cT (dT hq2) (T.skip (nT (T.seq (T.block (sR [hR 4 rfl rfl (W9 false false (kE false) c.Xo k (k:=.i64) (i:=((k:Nat):Int)) Tryz.underlying37 Wy rfl rfl (by omega) (X3 rfl) trivial),hR 7 rfl rfl (rCa (Xga f u l (c.Xo.getD k zE) kind ‹_› ‹_› ‹_› (by omega) (by omega)) Tryz.func112 [0,1] [(.tmp 34,pv 0 0),(.tmp 39,.tv (.agg [dI (c.Xo.getD k zE).X2,dU (c.Xo.getD k zE).X7])),(.tmp 40,vI kind)] 2 2)] (T.block (sR [] ?_)))))))
 by_cases hq3:(vtE (X9 f u l) f (c.Xo.getD k zE) kind)≠0
 ·have hg9:=gC_1 (p:=(ppV (X9 f u l) f c.Yf)) (pre:=c.Yf.X2) hq3;have hz9:=Hm (g:=gC (X9 f u l) f (ppV (X9 f u l) f c.Yf) kind c.Yf.X2) need hb ((X3c (by rw [hg9];exact hq3)).trans hg9) hq3 (by omega);have hx9:=ce_t hp9 (by rw [hz9];exact hq3);rw [hz9] at hx9
  refine cT (dT hq3) (sR [] (T.ret (rB (rB (rT (rT (rB (rT ?_))))))))
  refine eN ⟨(Zm6 f u l c kind need k),(Zm9 f u l c kind k)⟩ ?_
  refine X8 (s':=⟨(Zm6 f u l c kind need k),(Zma f u l c kind k)⟩) (fun _ _ hG=>Ym (s:=⟨(Zm6 f u l c kind need k),(Zm9 f u l c kind k)⟩) ⟨.inl rfl,(kk4 p2y)⟩ ⟨.inl rfl,p3d⟩ hG) ?_
  exact eX [.c 8 3 78 0 78 [dI 0,dI 0,dI 0,dI 0,dI 0,dS [],Zlw,dI 0,dI 0,Zlx,Zlx,Zly] (Zm0),.t 9 (.one (dI (vtE (X9 f u l) f (c.Xo.getD k zE) kind)))] ⟨⟨rfl,rfl,by kernel_rfl,by kernel_rfl,.inl ⟨12,Yy,rfl,Nat.le_of_ble_eq_true rfl⟩⟩,⟨⟨rfl,by kernel_rfl⟩,trivial⟩⟩ [0,1] pZ0 (ix (ix trivial))
 have hg9:=gC_2 (p:=(ppV (X9 f u l) f c.Yf)) (pre:=c.Yf.X2) hq3
 refine cF (dF hq3) (sR [] ?_)
 by_cases hq4:(vtV (X9 f u l) f (c.Xo.getD k zE) kind).Xb≠(ppV (X9 f u l) f c.Yf).Xb
 ·have he9:=hg9.trans (mus_v hq4);have hz9:=Hm (g:=gC (X9 f u l) f (ppV (X9 f u l) f c.Yf) kind c.Yf.X2) need hb ((X3c (by rw [he9];decide)).trans he9) (by decide) (by omega);have hx9:=ce_t hp9 p3j;rw [hz9] at hx9
  refine cT (dT hq4) (sR [] (T.ret (rB (rB (rT (rT (rB (rT ?_))))))))
  refine eN ⟨(Zmc f u l c kind need k),(Zm9 f u l c kind k)⟩ ?_
  refine X8 (s':=⟨(Zmc f u l c kind need k),(Zma f u l c kind k)⟩) (fun _ _ hG=>Ym (s:=⟨(Zmc f u l c kind need k),(Zm9 f u l c kind k)⟩) (kk2 X7c) ⟨.inl rfl,p3d⟩ hG) ?_
  exact eX [.c 8 3 78 0 78 [dI 0,dI 0,dI 0,dI 0,dI 0,dS [],Zlw,dI 0,dI 0,Zlx,Zlx,Zly] (Zm0),.t 9 (.one (dI 130))] ⟨⟨rfl,rfl,by kernel_rfl,by kernel_rfl,.inl ⟨12,Yy,rfl,Nat.le_of_ble_eq_true rfl⟩⟩,⟨⟨rfl,by kernel_rfl⟩,trivial⟩⟩ [0,1] pZ0 (ix (ix trivial))
 have hm1:=hq4
 refine cF (dF hq4) (sR [] ?_)
 by_cases hq5:(vtV (X9 f u l) f (c.Xo.getD k zE) kind).Xg≠(ppV (X9 f u l) f c.Yf).Xg
 ·have he9:=hg9.trans (mus_s hm1 hq5);have hz9:=Hm (g:=gC (X9 f u l) f (ppV (X9 f u l) f c.Yf) kind c.Yf.X2) need hb ((X3c (by rw [he9];decide)).trans he9) (by decide) (by omega);have hx9:=ce_t hp9 p3j;rw [hz9] at hx9
  refine cT (dT hq5) (sR [] (T.ret (rB (rB (rT (rT (rB (rT ?_))))))))
  refine eN ⟨(Zme f u l c kind need k),(Zm9 f u l c kind k)⟩ ?_
  refine X8 (s':=⟨(Zme f u l c kind need k),(Zma f u l c kind k)⟩) (fun _ _ hG=>Ym (s:=⟨(Zme f u l c kind need k),(Zm9 f u l c kind k)⟩) ⟨.inl rfl,(kk8 X7c)⟩ ⟨.inl rfl,p3d⟩ hG) ?_
  exact eX [.c 8 3 78 0 78 [dI 0,dI 0,dI 0,dI 0,dI 0,dS [],Zlw,dI 0,dI 0,Zlx,Zlx,Zly] (Zm0),.t 9 (.one (dI 131))] ⟨⟨rfl,rfl,by kernel_rfl,by kernel_rfl,.inl ⟨12,Yy,rfl,Nat.le_of_ble_eq_true rfl⟩⟩,⟨⟨rfl,by kernel_rfl⟩,trivial⟩⟩ [0,1] pZ0 (ix (ix trivial))
 have hm2:=hq5
 refine cF (dF hq5) (sR [] ?_)
 by_cases hq6:(vtV (X9 f u l) f (c.Xo.getD k zE) kind).X6≠(ppV (X9 f u l) f c.Yf).X6
 ·have he9:=hg9.trans (mus_d hm1 hm2 hq6);have hz9:=Hm (g:=gC (X9 f u l) f (ppV (X9 f u l) f c.Yf) kind c.Yf.X2) need hb ((X3c (by rw [he9];decide)).trans he9) (by decide) (by omega);have hx9:=ce_t hp9 p3j;rw [hz9] at hx9
  refine cT (dT hq6) (sR [] (T.ret (rB (rB (rT (rT (rB (rT ?_))))))))
  refine eN ⟨(Zmg f u l c kind need k),(Zm9 f u l c kind k)⟩ ?_
  refine X8 (s':=⟨(Zmg f u l c kind need k),(Zma f u l c kind k)⟩) (fun _ _ hG=>Ym (s:=⟨(Zmg f u l c kind need k),(Zm9 f u l c kind k)⟩) p1w ⟨.inl rfl,p3d⟩ hG) ?_
  exact eX [.c 8 3 78 0 78 [dI 0,dI 0,dI 0,dI 0,dI 0,dS [],Zlw,dI 0,dI 0,Zlx,Zlx,Zly] (Zm0),.t 9 (.one (dI 132))] ⟨⟨rfl,rfl,by kernel_rfl,by kernel_rfl,.inl ⟨12,Yy,rfl,Nat.le_of_ble_eq_true rfl⟩⟩,⟨⟨rfl,by kernel_rfl⟩,trivial⟩⟩ [0,1] pZ0 (ix (ix trivial))
 have hm3:=hq6
 refine cF (dF hq6) ?_
 by_cases hq7:kind=3
 ·have hk3:=hq7
  refine sD [[],[0],[0,1],[0,1,2],[0,1,2,3],[0,1,2],[0,1,2,3,4,5],[0,1,2,3,4,5,6],[0,1,2,3,4,5,6,7],[0,1,2],[0,1,2],[0,1,2,10],[0,1,2,9,10,11],[0,1,2,3,4,5,6,7,8,9,10,11,12],[0,1,2,3,4,5,6,7,8,9,10,11,12,13],[0,1,2,3,4,5,6,7,8,9,10,11,12,13,14]] (Xr (hY · (dT hq7)) [3,4,5] (hS 6 (oY rfl rfl rfl rfl (X3 rfl) (dT hq7) (W9 false false (kE false) c.Xo k (k:=.i64) (i:=((k:Nat):Int)) Tryz.underlying37 Wy rfl rfl (by omega) (X3 rfl) p1s))::(Xr (hY · (dT hq7)) [7,8,9,10,11] (hS 12 (oY rfl rfl rfl rfl (X3 rfl) (dT hq7) (rCa (Eo f u l (ppV (X9 f u l) f c.Yf).Xb ‹_› ‹_›) Tryz.func29 [0,1] [(.tmp 80,pv 0 0),(.tmp 82,vI (Zlt f u l c).Xb)] 2 2))::(hY 13 (dT hq7)::(hP 14 (dT hq7)::[])))))) ?_
  by_cases hq8:(c.Xo.getD k zE).X2=(W1 f (ppV (X9 f u l) f c.Yf).Xb)
  ·have he9:=hg9.trans (mus_p hm1 hm2 hm3 hk3 (hq8.trans hpr.symm));have hz9:=Hm (g:=gC (X9 f u l) f (ppV (X9 f u l) f c.Yf) kind c.Yf.X2) need hb ((X3c (by rw [he9];decide)).trans he9) (by decide) (by omega);have hx9:=ce_t hp9 p3j;rw [hz9] at hx9
   refine cT (dT hq8) (sR [] (T.ret (rB (rB (rT (rT (rB (rT ?_))))))))
   refine eN ⟨(Zmh f u l c kind need k),(Zm9 f u l c kind k)⟩ ?_
   refine X8 (s':=⟨(Zmh f u l c kind need k),(Zma f u l c kind k)⟩) (fun _ _ hG=>Ym (s:=⟨(Zmh f u l c kind need k),(Zm9 f u l c kind k)⟩) ⟨.inl rfl,(kk2 (kk4 p1w))⟩ ⟨.inl rfl,p3d⟩ hG) ?_
   exact eX [.c 8 3 78 0 78 [dI 0,dI 0,dI 0,dI 0,dI 0,dS [],Zlw,dI 0,dI 0,Zlx,Zlx,Zly] (Zm0),.t 9 (.one (dI 133))] ⟨⟨rfl,rfl,by kernel_rfl,by kernel_rfl,.inl ⟨12,Yy,rfl,Nat.le_of_ble_eq_true rfl⟩⟩,⟨⟨rfl,by kernel_rfl⟩,trivial⟩⟩ [0,1] pZ0 (ix (ix trivial))
  have he9:=hg9.trans (mus_0 hm1 hm2 hm3 (fun w=>hq8 (w.2.trans hpr)));have hn9:¬(gC (X9 f u l) f (ppV (X9 f u l) f c.Yf) kind c.Yf.X2) (c.Xo.getD k zE)≠0:=(by rw [he9];simp)
  refine cF (dF hq8) (sR [hR 3 rfl rfl (rCa (X6u c.Xo k (by omega) (by omega)) Tryz.func113 [] [(.tmp 89,slV false false (kE false) c.Xo),(.tmp 90,(Zm1 k))] 0 0)] ?_)
  by_cases hq9:F7 c.Xo k
  ·have hz9:=Hm (g:=gC (X9 f u l) f (ppV (X9 f u l) f c.Yf) kind c.Yf.X2) need hb (vot_2 hn9 hq9) (by decide) (by omega);have hx9:=ce_t hp9 p3j;rw [hz9] at hx9
   refine cT (dT hq9) (sR [] (T.ret (rB (rB (rT (rT (rB (rT ?_))))))))
   refine eN ⟨(Zmi f u l c kind need k),(Zm9 f u l c kind k)⟩ ?_
   refine X8 (s':=⟨(Zmi f u l c kind need k),(Zma f u l c kind k)⟩) (fun _ _ hG=>Ym (s:=⟨(Zmi f u l c kind need k),(Zm9 f u l c kind k)⟩) (kk8 (X05 p1w)) ⟨.inl rfl,p3d⟩ hG) ?_
   exact eX [.c 8 3 78 0 78 [dI 0,dI 0,dI 0,dI 0,dI 0,dS [],Zlw,dI 0,dI 0,Zlx,Zlx,Zly] (Zm0),.t 9 (.one (dI 33))] ⟨⟨rfl,rfl,by kernel_rfl,by kernel_rfl,.inl ⟨12,Yy,rfl,Nat.le_of_ble_eq_true rfl⟩⟩,⟨⟨rfl,by kernel_rfl⟩,trivial⟩⟩ [0,1] pZ0 (ix (ix trivial))
  have ht9:=hq9
  refine cF (dF hq9) (T.skip (nB (nB (nT (xK [hR 1 rfl rfl (Yg (u1:=.int .i64 ((k:Nat):Int)) (u2:=.int .i64 1) (v:=.int .i64 ((k+1:Nat):Int)) (W8 pb) (X3 rfl) ⟨rfl,trivial⟩)] ?_)))))
  refine nL (k+1) ⟨(show (k+1)≤c.Xo.length from (by omega)),(show ∀ i,i<(k+1)→E3 (gC (X9 f u l) f (ppV (X9 f u l) f c.Yf) kind c.Yf.X2) c.Xo i=0 from (Ud hb (vot_3 hn9 ht9)))⟩ (show (c.Xo.length-(k+1):Nat)<c.Xo.length-k from (by omega)) (fun _ _ hG=>Yp [0,1,2,3,4] (bm 13 5935) rfl rfl hG)
 have he9:=hg9.trans (mus_0 hm1 hm2 hm3 (fun w=>hq7 w.1));have hn9:¬(gC (X9 f u l) f (ppV (X9 f u l) f c.Yf) kind c.Yf.X2) (c.Xo.getD k zE)≠0:=(by rw [he9];simp)
 refine sD [[],[0],[0,1],[0,1,2],[0,1,2,3],[0,1,2],[0,1,2,3,4,5],[0,1,2,3,4,5,6],[0,1,2,3,4,5,6,7],[0,1,2],[0,1,2],[0,1,2,10],[0,1,2,9,10,11],[0,1,2,3,4,5,6,7,8,9,10,11,12],[0,1,2,3,4,5,6,7,8,9,10,11,12,13],[0,1,2,3,4,5,6,7,8,9,10,11,12,13,14]] (Xr (hN · true (dF hq7)) [3,4,5,6,7,8,9,10,11,12,13] (hP 14 (dF hq7)::[])) (cF (b:=false) rfl (sR [hR 3 rfl rfl (rCa (X6u c.Xo k (by omega) (by omega)) Tryz.func113 [] [(.tmp 89,slV false false (kE false) c.Xo),(.tmp 90,(Zm1 k))] 0 0)] ?_))
 by_cases hq10:F7 c.Xo k
 ·have hz9:=Hm (g:=gC (X9 f u l) f (ppV (X9 f u l) f c.Yf) kind c.Yf.X2) need hb (vot_2 hn9 hq10) (by decide) (by omega);have hx9:=ce_t hp9 p3j;rw [hz9] at hx9
  refine cT (dT hq10) (sR [] (T.ret (rB (rB (rT (rT (rB (rT ?_))))))))
  refine eN ⟨(Zmk f u l c kind need k),(Zm9 f u l c kind k)⟩ ?_
  refine X8 (s':=⟨(Zmk f u l c kind need k),(Zma f u l c kind k)⟩) (fun _ _ hG=>Ym (s:=⟨(Zmk f u l c kind need k),(Zm9 f u l c kind k)⟩) (kk8 (X05 p1w)) ⟨.inl rfl,p3d⟩ hG) ?_
  exact eX [.c 8 3 78 0 78 [dI 0,dI 0,dI 0,dI 0,dI 0,dS [],Zlw,dI 0,dI 0,Zlx,Zlx,Zly] (Zm0),.t 9 (.one (dI 33))] ⟨⟨rfl,rfl,by kernel_rfl,by kernel_rfl,.inl ⟨12,Yy,rfl,Nat.le_of_ble_eq_true rfl⟩⟩,⟨⟨rfl,by kernel_rfl⟩,trivial⟩⟩ [0,1] pZ0 (ix (ix trivial))
 have ht9:=hq10
 refine cF (dF hq10) (T.skip (nB (nB (nT (xK [hR 1 rfl rfl (Yg (u1:=.int .i64 ((k:Nat):Int)) (u2:=.int .i64 1) (v:=.int .i64 ((k+1:Nat):Int)) (W8 pb) (X3 rfl) ⟨rfl,trivial⟩)] ?_)))))
 refine nL (k+1) ⟨(show (k+1)≤c.Xo.length from (by omega)),(show ∀ i,i<(k+1)→E3 (gC (X9 f u l) f (ppV (X9 f u l) f c.Yf) kind c.Yf.X2) c.Xo i=0 from (Ud hb (vot_3 hn9 ht9)))⟩ (show (c.Xo.length-(k+1):Nat)<c.Xo.length-k from (by omega)) (fun _ _ hG=>Yp [0,1,2,3,4] (bm 13 5935) rfl rfl hG)
abbrev Zmm (c:aC):AV:=.tv (.agg [dI c.Yf.X2,dU c.Yf.X7,.d (dsl false false (kE false) c.Xo)])
abbrev Zmn (f:Int) (u:Int) (l:List aE) (c:aC):=(ceV (X9 f u l) f c 4 (2*f+1))
theorem X7b (f:Int) (u:Int) (l:List aE) (c:aC) (hf:0≤f∧f≤2) (hu:0≤u∧u≤8) (hl:l.length≤9223372036854775806) (hs:-9223372036854775808≤c.Yf.X2∧c.Yf.X2≤9223372036854775807) (hb9:c.Yf.X7.length≤100000000) (hx:F9 c.Xo):Holds Tryz.prog 75 ⟨[pv 0 0,.tv (.agg [dI c.Yf.X2,dU c.Yf.X7,.d (dsl false false (kE false) c.Xo)])],[.box 135 [dB true,dI f,dI u,.own 1 (kE false).sz 0 l.length],Xf 43 (kE false) l],.tup [.agg [dI (ceV (X9 f u l) f c 4 (2*f+1)).X1,dI (ceV (X9 f u l) f c 4 (2*f+1)).Xb,dI (ceV (X9 f u l) f c 4 (2*f+1)).Xg,dI (ceV (X9 f u l) f c 4 (2*f+1)).Xe,dI (ceV (X9 f u l) f c 4 (2*f+1)).Y3,dS (ceV (X9 f u l) f c 4 (2*f+1)).X6,dU (ceV (X9 f u l) f c 4 (2*f+1)).Xc,dI (ceV (X9 f u l) f c 4 (2*f+1)).X0.Xu,dI (ceV (X9 f u l) f c 4 (2*f+1)).X0.Xl,.d (dsl false false (kE false) (ceV (X9 f u l) f c 4 (2*f+1)).Xa),.d (dsl false false (kE false) (ceV (X9 f u l) f c 4 (2*f+1)).Xw),.d (dsl false false (kC false) (ceV (X9 f u l) f c 4 (2*f+1)).X5)],.one (dI (ceE (X9 f u l) f c 4 (2*f+1)))],[.live (.box 135 [dB true,dI f,dI u,.own 1 (kE false).sz 0 l.length]),.live (Xf 43 (kE false) l)]⟩:=by
 refine Holds.of Tryz.func75 rfl (N:=13) Tryz.ntmps75 rfl fun w0 B0 S0 U0=>?_
 show T _ (Y5 13 2 w0 S0 U0 B0) ⟨[pv 0 0,(Zmm c)],[.live (.box 135 [dB true,dI f,dI u,.own 1 (kE false).sz 0 l.length]),.live (Xf 43 (kE false) l)]⟩ _ _
 refine sR [] ?_
 refine sD [[],[],[],[2],[0,1,2,3],[0,1,2,3,4],[0,1,2,3,4],[0,1,2,3,4,5,6],[0,1,2,3,4,5,6,7]] [hR 3 rfl rfl (rCa (Xcb f u l ‹_› ‹_›) Tryz.func114 [0,1] [(.tmp 8,pv 0 0)] 2 2),hR 4 rfl rfl (rCa (Xg9 f u l c 4 (2*f+1) ‹_› ‹_› ‹_› ‹_› ‹_› ‹_›) Tryz.func127 [0,1] [(.tmp 6,pv 0 0),(.tmp 7,(Zmm c)),(.const (.int .i64 4),vI 4),(.tmp 9,vI (2*f+1))] 2 2)] (T.ret ?_)
 exact eX [.c 4 3 78 0 78 [dI (Zmn f u l c).X1,dI (Zmn f u l c).Xb,dI (Zmn f u l c).Xg,dI (Zmn f u l c).Xe,dI (Zmn f u l c).Y3,dS (Zmn f u l c).X6,dU (Zmn f u l c).Xc,dI (Zmn f u l c).X0.Xu,dI (Zmn f u l c).X0.Xl,.d (dsl false false (kE false) (Zmn f u l c).Xa),.d (dsl false false (kE false) (Zmn f u l c).Xw),.d (dsl false false (kC false) (Zmn f u l c).X5)] (.agg [dI (Zmn f u l c).X1,dI (Zmn f u l c).Xb,dI (Zmn f u l c).Xg,dI (Zmn f u l c).Xe,dI (Zmn f u l c).Y3,dS (Zmn f u l c).X6,dU (Zmn f u l c).Xc,dI (Zmn f u l c).X0.Xu,dI (Zmn f u l c).X0.Xl,.d (dsl false false (kE false) (Zmn f u l c).Xa),.d (dsl false false (kE false) (Zmn f u l c).Xw),.d (dsl false false (kC false) (Zmn f u l c).X5)]),.t 5 (.one (dI (ceE (X9 f u l) f c 4 (2*f+1))))] ⟨⟨rfl,rfl,by kernel_rfl,by kernel_rfl,.inl ⟨12,Yy,rfl,Nat.le_of_ble_eq_true rfl⟩⟩,⟨⟨rfl,by kernel_rfl⟩,trivial⟩⟩ [0,1] rfl (ix (ix trivial))
end Go.Proofs.YtnaopgohccacmaaGreat.Q
namespace Go.Proofs.YtnaopgohccacmaaGreat.Q
set_option linter.unusedVariables false
set_option linter.unusedSimpArgs false
set_option maxRecDepth 100000
section
variable (C:aE→Int) (f seq:Int) (x:List aE) (b:List UInt8)
def s9E:Int:=if seq<1 then 2 else if stE C f seq x≠0 then stE C f seq x else if stD C f seq x≠ofB 7 [b] then 132 else if unE ((b.length:Nat):Int) b≠0∨unH ((b.length:Nat):Int) b≠seq then 12 else 0
def s9D:List UInt8:=if s9E C f seq x b=0 then unD ((b.length:Nat):Int) b else []
def s9S:List UInt8:=if s9E C f seq x b=0 then unS ((b.length:Nat):Int) b else []
end
section
variable {C:aE→Int} {f seq:Int} {x:List aE} {b:List UInt8}
theorem s9_of {n:Int} (h:s9E C f seq x b=n) (hn:n≠0):s9D C f seq x b=[]∧s9S C f seq x b=[]∧s9E C f seq x b=n:=⟨if_neg (by rw [h];exact hn),if_neg (by rw [h];exact hn),h⟩
theorem s9_rng (h:seq<1):s9D C f seq x b=[]∧s9S C f seq x b=[]∧s9E C f seq x b=2:=s9_of (if_pos h) (by decide)
theorem s9_st (h:¬seq<1) (h1:stE C f seq x≠0):s9D C f seq x b=[]∧s9S C f seq x b=[]∧s9E C f seq x b=stE C f seq x:=s9_of ((if_neg h).trans (if_pos h1)) h1
theorem s9_dig (h:¬seq<1) (h1:¬stE C f seq x≠0) (h2:stD C f seq x≠ofB 7 [b]):s9D C f seq x b=[]∧s9S C f seq x b=[]∧s9E C f seq x b=132:=s9_of ((if_neg h).trans ((if_neg h1).trans (if_pos h2))) (by decide)
theorem Xi8 (h:¬seq<1) (h1:¬stE C f seq x≠0) (h2:¬stD C f seq x≠ofB 7 [b]) (h3:unE ((b.length:Nat):Int) b≠0∨unH ((b.length:Nat):Int) b≠seq):s9D C f seq x b=[]∧s9S C f seq x b=[]∧s9E C f seq x b=12:=s9_of ((if_neg h).trans ((if_neg h1).trans ((if_neg h2).trans (if_pos h3)))) (by decide)
theorem s9_ok (h:¬seq<1) (h1:¬stE C f seq x≠0) (h2:¬stD C f seq x≠ofB 7 [b]) (h3:¬unE ((b.length:Nat):Int) b≠0) (h4:¬unH ((b.length:Nat):Int) b≠seq):s9D C f seq x b=unD ((b.length:Nat):Int) b∧s9S C f seq x b=unS ((b.length:Nat):Int) b∧s9E C f seq x b=0:=by
  have e:s9E C f seq x b=0:=(if_neg h).trans ((if_neg h1).trans ((if_neg h2).trans (if_neg (fun q=>q.elim h3 h4))))
  exact ⟨if_pos e,if_pos e,e⟩
theorem s9_seq (h:s9E C f seq x b=0):¬seq<1:=fun q=>by rw [(s9_rng (C:=C) (f:=f) (x:=x) (b:=b) q).2.2] at h;cases h
end
def X4v (l:List Yh) (d:List UInt8) (i:Nat):List UInt8:=if i+1<l.length then (l.getD (i+1) Y2).Y9 else d
def X7g (l:List Yh) (H:Int) (k:Nat):Prop:=∀ i,i<l.length→l.length-k≤i→(l.getD i Y2).Xq=H-(((l.length:Nat):Int)-1-((i:Nat):Int))
def Eu (l:List Yh) (d:List UInt8) (k:Nat):Prop:=∀ i,i<l.length→l.length-k≤i→E0 (l.getD i Y2)=X4v l d i
instance (l:List Yh) (H:Int) (k:Nat):Decidable (X7g l H k):=by unfold X7g;infer_instance
instance (l:List Yh) (d:List UInt8) (k:Nat):Decidable (Eu l d k):=by unfold Eu;infer_instance
def Fz (l:List Yh) (d:List UInt8) (k:Nat):Int:=if Eu l d k then 0 else 101
def lnkE (l:List Yh) (H:Int) (d:List UInt8):Int:=if X7g l H l.length then Fz l d l.length else 100
section
variable {l:List Yh} {H:Int} {d:List UInt8} {k:Nat}
theorem hgt_0:X7g l H 0:=fun i h1 h2=>by omega
theorem dig_00:Eu l d 0:=fun i h1 h2=>by omega
theorem hgt_succ (hk:k<l.length) (h:X7g l H k) (h1:¬(l.getD (l.length-1-k) Y2).Xq≠H-((k:Nat):Int)):X7g l H (k+1):=fun i hi h2=>by
  by_cases q:l.length-k≤i
  · exact h i hi q
  · rw [show i=l.length-1-k by omega,Classical.not_not.1 h1];omega
theorem lnk_h (hk:k<l.length) (h1:(l.getD (l.length-1-k) Y2).Xq≠H-((k:Nat):Int)):lnkE l H d=100:=if_neg fun q=>h1 (by rw [q (l.length-1-k) (by omega) (by omega)];omega)
theorem lnk_end (hk:l.length≤k) (hk2:k≤l.length) (h:X7g l H k):lnkE l H d=Fz l d k:=by
  have e:k=l.length:=by omega
  subst e
  exact if_pos h
theorem Xfb (h:Fz l d k≠0):Fz l d (k+1)=Fz l d k∧¬Eu l d (k+1):=by
  have hn:¬Eu l d k:=fun q=>h (if_pos q)
  have hn':¬Eu l d (k+1):=fun q=>hn fun i h1 h2=>q i h1 (by omega)
  exact ⟨by unfold Fz;rw [if_neg hn,if_neg hn'],hn'⟩
theorem err_0 (h:¬Fz l d k≠0):Eu l d k:=Classical.byContradiction fun q=>h (by unfold Fz;rw [if_neg q];decide)
theorem Xj4 {w:List UInt8} (hk:k<l.length) (hw:Eu l d k→k<l.length→w=X4v l d (l.length-1-k)) (h:¬Fz l d k≠0) (h1:E0 (l.getD (l.length-1-k) Y2)≠w):Fz l d (k+1)=101∧¬Eu l d (k+1):=by
  have hn:¬Eu l d (k+1):=fun q=>h1 (by rw [hw (err_0 h) hk,q (l.length-1-k) (by omega) (by omega)])
  exact ⟨if_neg hn,hn⟩
theorem err_good {w:List UInt8} (hk:k<l.length) (hw:Eu l d k→k<l.length→w=X4v l d (l.length-1-k)) (h:¬Fz l d k≠0) (h1:¬E0 (l.getD (l.length-1-k) Y2)≠w):Fz l d (k+1)=Fz l d k:=by
  have h0:=err_0 h
  have hn:Eu l d (k+1):=fun i hi h2=>by
    by_cases q:l.length-k≤i
    · exact h0 i hi q
    · rw [show i=l.length-1-k by omega,Classical.not_not.1 h1,hw h0 hk]
  unfold Fz
  rw [if_pos hn,if_pos h0]
theorem nxt_end (hk:0<l.length):X4v l d (l.length-1-0)=d:=if_neg (by omega)
theorem nxt_prev (hk:k+1<l.length):X4v l d (l.length-1-(k+1))=(l.getD (l.length-1-k) Y2).Y9:=by
  unfold X4v
  rw [if_pos (by omega),show l.length-1-(k+1)+1=l.length-1-k by omega]
end
def okHs (l:List Yh):Prop:=∀ h,h∈l→h.Y9.length≤10000000∧h.Wf.length≤10000000∧h.Yl≤9223372036854775807∧X0w h.Xq
def okC9 (c:V4):Prop:=F9 c.Xo∧c.Xc.length≤100000000∧okHs c.X4∧c.X4.length≤100000∧Ig szS 70 30000 c.W4∧c.Y1.X7.length≤500∧X0w c.Xg
theorem Xej {l:List Yh} (h:okHs l) (k:Nat):(l.getD k Y2).Y9.length≤10000000∧(l.getD k Y2).Wf.length≤10000000∧(l.getD k Y2).Yl≤9223372036854775807∧X0w (l.getD k Y2).Xq:=by
  by_cases hk:k<l.length
  · exact h _ (Ur hk)
  · rw [List.getD_eq_getElem?_getD,List.getElem?_eq_none (by omega)]
    exact ⟨by decide,by decide,by decide,by unfold X0w;decide⟩
def inc9 (c:V4):Int:=Ia (c.X4.getD 0 Y2).Wf (Vp c.Y1 c.X0) c.Ji (c.X4.getD 0 Y2).Yl c.W4
def c9E (C:aE→Int) (f:Int) (c:V4):Int:=if s9E C f c.Xg c.Xo c.Xc≠0 then s9E C f c.Xg c.Xo c.Xc else if c.X4.length=0∨1000<c.X4.length then 90 else if lnkE c.X4 c.Xg (s9D C f c.Xg c.Xo c.Xc)≠0 then lnkE c.X4 c.Xg (s9D C f c.Xg c.Xo c.Xc) else inc9 c
section
variable {C:aE→Int} {f:Int} {c:V4}
theorem c9_s (h:s9E C f c.Xg c.Xo c.Xc≠0):c9E C f c=s9E C f c.Xg c.Xo c.Xc:=if_pos h
theorem c9_n (h:¬s9E C f c.Xg c.Xo c.Xc≠0) (h1:c.X4.length=0∨1000<c.X4.length):c9E C f c=90:=(if_neg h).trans (if_pos h1)
theorem c9_l (h:¬s9E C f c.Xg c.Xo c.Xc≠0) (h1:¬(c.X4.length=0∨1000<c.X4.length)) (h2:lnkE c.X4 c.Xg (s9D C f c.Xg c.Xo c.Xc)≠0):c9E C f c=lnkE c.X4 c.Xg (s9D C f c.Xg c.Xo c.Xc):=(if_neg h).trans ((if_neg h1).trans (if_pos h2))
theorem c9_i (h:¬s9E C f c.Xg c.Xo c.Xc≠0) (h1:¬(c.X4.length=0∨1000<c.X4.length)) (h2:¬lnkE c.X4 c.Xg (s9D C f c.Xg c.Xo c.Xc)≠0):c9E C f c=inc9 c:=(if_neg h).trans ((if_neg h1).trans (if_neg h2))
end
def hdrs (bf:Int→Xs) (h:Int) (k:Nat):List Yh:=(List.range k).map fun (t:Nat)=>V2 (bf (h+((t:Nat):Int)))
theorem X2z (bf:Int→Xs) (h:Int) (k:Nat):hdrs bf h (k+1)=hdrs bf h k++[V2 (bf (h+((k:Nat):Int)))]:=by unfold hdrs;rw [List.range_succ,List.map_append];rfl
theorem Xf2 (bf:Int→Xs) (h:Int) (k:Nat):(hdrs bf h k).length=k:=by unfold hdrs;rw [List.length_map,List.length_range]
def Hf (bf:Int→Xs) (h:Int) (k:Nat):Xs:=if k=0 then Wp else bf h
theorem frs_0 {bf:Int→Xs} {h:Int} {k:Nat} (hk:h+((k:Nat):Int)=h):Hf bf h (k+1)=bf (h+((k:Nat):Int)):=by rw [hk];exact if_neg (by omega)
theorem frs_s {bf:Int→Xs} {h:Int} {k:Nat} (hk:¬h+((k:Nat):Int)=h):Hf bf h (k+1)=Hf bf h k:=by unfold Hf;rw [if_neg (by omega),if_neg (by omega)]
theorem frs_pos {bf:Int→Xs} {h:Int} {k:Nat} (hk:0<k):Hf bf h k=bf h:=if_neg (by omega)
section
variable (bf:Int→Xs) (n:Nat) (seq:Int) (x:List aE) (b:List UInt8) (h i:Int)
def X4r:Int:=if unE ((b.length:Nat):Int) b≠0∨unH ((b.length:Nat):Int) b≠seq then 12 else if h<1∨h>seq∨seq-h>999 then 2 else if seq>((n:Nat):Int) then 4 else H2 (bf h) i
def Iu:V4:=if X4r bf n seq b h i=0 then ⟨seq,x,b,hdrs bf h (seq-h+1).toNat,i,(bf h).Xh.getD i.toNat zE,(bf h).Xt.getD i.toNat Yk,E9 (bf h) i⟩ else Jz
end
section
variable {bf:Int→Xs} {n:Nat} {seq:Int} {x:List aE} {b:List UInt8} {h i:Int}
theorem Xch {e:Int} (q:X4r bf n seq b h i=e) (he:e≠0):Iu bf n seq x b h i=Jz∧X4r bf n seq b h i=e:=⟨if_neg (by rw [q];exact he),q⟩
theorem Xea (q:unE ((b.length:Nat):Int) b≠0∨unH ((b.length:Nat):Int) b≠seq):Iu bf n seq x b h i=Jz∧X4r bf n seq b h i=12:=Xch (if_pos q) (by decide)
theorem Xcg (q1:¬unE ((b.length:Nat):Int) b≠0) (q2:¬unH ((b.length:Nat):Int) b≠seq) (q:h<1∨h>seq∨seq-h>999):Iu bf n seq x b h i=Jz∧X4r bf n seq b h i=2:=Xch ((if_neg (fun w=>w.elim q1 q2)).trans (if_pos q)) (by decide)
theorem prv_none (q1:¬unE ((b.length:Nat):Int) b≠0) (q2:¬unH ((b.length:Nat):Int) b≠seq) (q:¬(h<1∨h>seq∨seq-h>999)) (q3:seq>((n:Nat):Int)):Iu bf n seq x b h i=Jz∧X4r bf n seq b h i=4:=Xch ((if_neg (fun w=>w.elim q1 q2)).trans ((if_neg q).trans (if_pos q3))) (by decide)
theorem prv_err (q1:¬unE ((b.length:Nat):Int) b≠0) (q2:¬unH ((b.length:Nat):Int) b≠seq) (q:¬(h<1∨h>seq∨seq-h>999)) (q3:¬seq>((n:Nat):Int)) (q4:H2 (bf h) i≠0):Iu bf n seq x b h i=Jz∧X4r bf n seq b h i=H2 (bf h) i:=Xch ((if_neg (fun w=>w.elim q1 q2)).trans ((if_neg q).trans (if_neg q3))) q4
theorem prv_ok (q1:¬unE ((b.length:Nat):Int) b≠0) (q2:¬unH ((b.length:Nat):Int) b≠seq) (q:¬(h<1∨h>seq∨seq-h>999)) (q3:¬seq>((n:Nat):Int)) (q4:¬H2 (bf h) i≠0) {k:Nat} (hk:((k:Nat):Int)=seq-h+1):Iu bf n seq x b h i=⟨seq,x,b,hdrs bf h k,i,(bf h).Xh.getD i.toNat zE,(bf h).Xt.getD i.toNat Yk,E9 (bf h) i⟩∧X4r bf n seq b h i=0:=by
  have e:X4r bf n seq b h i=0:=(if_neg (fun w=>w.elim q1 q2)).trans ((if_neg q).trans ((if_neg q3).trans (Classical.not_not.1 q4)))
  refine ⟨(if_pos e).trans ?_,e⟩
  rw [← hk];rfl
end
theorem un_rng {M:Int} {b:List UInt8} (h:¬unE M b≠0):0≤unH M b∧unH M b≤1099511627776:=by
  have h:=Classical.not_not.1 h
  unfold unE at h
  unfold unH
  split at h
  · rename_i q;rw [if_pos q];exact ⟨q.2.1,q.2.2⟩
  · cases h
theorem blk_in {n:Nat} {x:Int} (h:¬Xa3 0 n x≠0):1≤x∧x≤((n:Nat):Int):=by
  have h:=Classical.not_not.1 h
  unfold Xa3 at h
  split at h
  · rename_i q;obtain ⟨q1,q2⟩:=q;omega
  · cases h
theorem blk_out {n:Nat} {x:Int} (h:Xa3 0 n x≠0) (hx:1≤x):x>((n:Nat):Int):=by
  refine Classical.byContradiction fun q=>h (if_pos ⟨by omega,by omega⟩)
theorem blk_few {l:Links} (hw:Xbq l) (x:Int):Fb (Yz 0 l x):=by
  unfold Yz;split
  · exact Xbp hw _
  · decide
theorem blk_fun (L:List Xs):Yz 0 (W3 L)=rblk 0 L:=funext fun x=>Xl1 0 L x
end Go.Proofs.YtnaopgohccacmaaGreat.Q
namespace Go.Proofs.YtnaopgohccacmaaGreat.Q
open Go Go.RowKit
set_option linter.unusedVariables false
set_option linter.unusedSimpArgs false
set_option maxRecDepth 100000
set_option maxHeartbeats 4000000
section
variable (f:Int) (u:Int) (rows:List (Yb×Bool)) (seq:Int) (tx:Bool) (nx:Bool) (sx:Bool) (x:List aE) (tb:Bool) (nb:Bool) (b:List UInt8)
abbrev Zmo:AV:=slV tx nx (kE sx) x
abbrev Zmp:List HS:=[.live (.box 130 [dI (3*f+1),dI u,.mref 1]),.live (mpK Xi Y8 rows)]
abbrev Zmq:AV:=vB (decide (seq<1))
abbrev Zmr:AV:=slV false false kU8 ([]:List UInt8)
abbrev Zms:TV:=.one (dS [])
abbrev Zmt:TV:=.one (dU ([]:List UInt8))
abbrev Zmu:AV:=vB (decide ((stD (Xd f u rows) f seq x)≠(ofB 7 [b])))
abbrev Zmv:St:=⟨[pv 0 0,vI seq,(Zmo tx nx sx x),slV tb nb kU8 b,aa,aa,aa,aa,dv (Ys []),dv (.slice none 0 0),vI 132,dv (Ys (stD (Xd f u rows) f seq x)),vI 132,aa,aa,aa,aa,(Zmq seq),aa,aa,aa,aa,aa,aa,aa,aa,aa,aa,aa,aa,aa,aa,(Zmu f u rows seq x b),aa,vB true],(Zmp f u rows)⟩
abbrev Zmw:AV:=vI (unE ((b.length:Nat):Int) b)
abbrev Zmx:AV:=vI (unH ((b.length:Nat):Int) b)
abbrev Zmy:AV:=dv (Ys (unD ((b.length:Nat):Int) b))
abbrev Zmz:AV:=slV false false kU8 (unS ((b.length:Nat):Int) b)
abbrev Zn0:AV:=vB (decide ((stE (Xd f u rows) f seq x)≠0))
abbrev Zn1:St:=⟨[pv 0 0,vI seq,(Zmo tx nx sx x),slV tb nb kU8 b,aa,aa,aa,aa,dv (Ys []),dv (.slice none 0 0),vI 12,dv (Ys (stD (Xd f u rows) f seq x)),(Zmw b),(Zmx b),(Zmy b),(Zmz b),aa,(Zmq seq),aa,aa,aa,aa,aa,aa,aa,aa,aa,aa,aa,aa,aa,aa,(Zmu f u rows seq x b),aa,(Zn0 f u rows seq x),aa,aa,aa,aa,aa,aa,aa,aa,aa,aa,aa,aa,aa,aa,vB true],(Zmp f u rows)⟩
abbrev Zn2:St:=⟨[pv 0 0,vI seq,(Zmo tx nx sx x),slV tb nb kU8 b,aa,aa,aa,aa,dv (Ys []),dv (.slice none 0 0),vI 12,dv (Ys (stD (Xd f u rows) f seq x)),(Zmw b),(Zmx b),(Zmy b),(Zmz b),aa,(Zmq seq),aa,aa,aa,aa,aa,aa,aa,aa,aa,aa,aa,aa,aa,aa,(Zmu f u rows seq x b),aa,(Zn0 f u rows seq x),aa,aa,aa,aa,aa,aa,aa,aa,aa,aa,aa,aa,aa,aa,vB (decide ((unH ((b.length:Nat):Int) b)≠seq))],(Zmp f u rows)⟩
abbrev Zn3:St:=⟨[pv 0 0,vI seq,(Zmo tx nx sx x),slV tb nb kU8 b,aa,aa,aa,aa,dv (Ys []),dv (.slice none 0 0),vI (stE (Xd f u rows) f seq x),dv (Ys (stD (Xd f u rows) f seq x)),vI (stE (Xd f u rows) f seq x),aa,aa,aa,aa,(Zmq seq),aa,aa,aa,aa,aa,aa,aa,aa,aa,aa,aa,aa,aa,aa,vB false,aa,(Zn0 f u rows seq x)],(Zmp f u rows)⟩
end
theorem Xer (f:Int) (u:Int) (rows:List (Yb×Bool)) (seq:Int) (tx:Bool) (nx:Bool) (sx:Bool) (x:List aE) (tb:Bool) (nb:Bool) (b:List UInt8) (hf:0≤f∧f≤2) (hu:0≤u∧u≤8) (hx:F9 x) (hb:b.length≤100000000) (hi:-9223372036854775808≤seq∧seq≤9223372036854775807):Holds Tryz.prog 22 ⟨[pv 0 0,vI seq,slV tx nx (kE sx) x,slV tb nb kU8 b],[.box 130 [dI (3*f+1),dI u,.mref 1],mpK Xi Y8 rows],.tup [.one (dS (s9D (Xd f u rows) f seq x b)),.one (dU (s9S (Xd f u rows) f seq x b)),.one (dI (s9E (Xd f u rows) f seq x b))],[.live (.box 130 [dI (3*f+1),dI u,.mref 1]),.live (mpK Xi Y8 rows)]⟩:=by
 refine Holds.of Tryz.func22 rfl (N:=52) Tryz.ntmps22 rfl fun w0 B0 S0 U0=>?_
 show T _ (Y5 52 2 w0 S0 U0 B0) ⟨[pv 0 0,vI seq,(Zmo tx nx sx x),slV tb nb kU8 b],(Zmp f u rows)⟩ _ _
 have hun:=un_any (b:=b) (M:=((b.length:Nat):Int)) (M':=1099511627776) (Int.le_refl _) (by omega)
 obtain ⟨hun1,hun2,hun3,hun4⟩:=hun
 refine sR [] (T.seq (sR [] ?_))
 by_cases hq1:seq<1
 ·have hx9:=s9_rng (C:=(Xd f u rows)) (f:=f) (x:=x) (b:=b) hq1
  refine cT (dT hq1) (sR [] (T.ret (rT ?_)))
  refine eN ⟨[pv 0 0,vI seq,(Zmo tx nx sx x),slV tb nb kU8 b,aa,aa,aa,aa,dv (Ys []),dv (.slice none 0 0),vI 2,aa,aa,aa,aa,aa,aa,(Zmq seq)],(Zmp f u rows)⟩ ?_
  refine X8 (s':=⟨[pv 0 0,vI seq,(Zmo tx nx sx x),slV tb nb kU8 b,aa,aa,aa,aa,dv (Ys []),Zmr,vI 2,aa,aa,aa,aa,aa,aa,(Zmq seq)],(Zmp f u rows)⟩) (fun _ _ hG=>Ym (s:=⟨[pv 0 0,vI seq,(Zmo tx nx sx x),slV tb nb kU8 b,aa,aa,aa,aa,dv (Ys []),dv (.slice none 0 0),vI 2,aa,aa,aa,aa,aa,aa,(Zmq seq)],(Zmp f u rows)⟩) ⟨.inl rfl,(kk8 ⟨pq,(kk8 trivial)⟩)⟩ (kk2 trivial) hG) ?_
  exact eX [.t 8 (Zms),.t 9 (Zmt),.t 10 (.one (dI 2))] ⟨⟨rfl,by kernel_rfl⟩,⟨⟨rfl,by kernel_rfl⟩,⟨⟨rfl,by kernel_rfl⟩,trivial⟩⟩⟩ [0,1] (cg3 (fun (q1:List UInt8) (q2:List UInt8) (q3:Int)=>(.tup [.one (dS q1),.one (dU q2),.one (dI q3)]:AV)) p3y p4m p53) (ix (ix trivial))
 have h0:=hq1
 refine cF (dF hq1) (T.skip (nT (sR [hR 3 rfl rfl (rCa (Xfo f u rows seq tx nx sx x ‹_› ‹_› ‹_›) Tryz.func59 [0,1] [(.tmp 19,pv 0 0),(.tmp 20,vI seq),(.tmp 21,(Zmo tx nx sx x))] 2 2)] (T.seq ?_))))
 by_cases hq2:(stE (Xd f u rows) f seq x)=0
 rotate_left
 ·have hx9:=s9_st (b:=b) h0 hq2
  refine sR (Xr (hN · true (dF hq2)) [3,4,5,6] (hP 7 (dF hq2)::[])) (cF (b:=false) rfl (T.skip (nT (T.seq (sR [] ?_)))))
  by_cases hq7:(stE (Xd f u rows) f seq x)≠0
  ·have hx9:=s9_st (b:=b) h0 hq7
   refine cT (dT hq7) (sR [] (T.ret (rT ?_)))
   refine eN (Zn3 f u rows seq tx nx sx x tb nb b) ?_
   refine X8 (s':=⟨[pv 0 0,vI seq,(Zmo tx nx sx x),slV tb nb kU8 b,aa,aa,aa,aa,dv (Ys []),Zmr,vI (stE (Xd f u rows) f seq x),dv (Ys (stD (Xd f u rows) f seq x)),vI (stE (Xd f u rows) f seq x),aa,aa,aa,aa,(Zmq seq),aa,aa,aa,aa,aa,aa,aa,aa,aa,aa,aa,aa,aa,aa,vB false,aa,(Zn0 f u rows seq x)],(Zmp f u rows)⟩) (fun _ _ hG=>Ym (s:=(Zn3 f u rows seq tx nx sx x tb nb b)) ⟨.inl rfl,(kk8 ⟨pq,⟨.inl rfl,p2k⟩⟩)⟩ (kk2 trivial) hG) ?_
   exact eX [.t 8 (Zms),.t 9 (Zmt),.t 10 (.one (dI (stE (Xd f u rows) f seq x)))] ⟨⟨rfl,by kernel_rfl⟩,⟨⟨rfl,by kernel_rfl⟩,⟨⟨rfl,by kernel_rfl⟩,trivial⟩⟩⟩ [0,1] (cg3 (fun (q1:List UInt8) (q2:List UInt8) (q3:Int)=>(.tup [.one (dS q1),.one (dU q2),.one (dI q3)]:AV)) p3y p4m p53) (ix (ix trivial))
  exact absurd hq2 hq7
 have h1:¬stE (Xd f u rows) f seq x≠0:=fun w=>w hq2
 refine sR [hY 3 (dT hq2),hY 4 (dT hq2),hS 5 (oY rfl rfl rfl rfl (X3 rfl) (dT hq2) (rCa (Xeu tb nb b (by omega)) Tryz.func60 [] [(.tmp 29,slV tb nb kU8 b)] 0 0)),hY 6 (dT hq2),hP 7 (dT hq2)] ?_
 by_cases hq3:(stD (Xd f u rows) f seq x)≠(ofB 7 [b])
 ·have hx9:=s9_dig h0 h1 hq3
  refine cT (dT hq3) (xK [] (nT (T.seq (sR [] (cT (b:=true) rfl (sR [] (T.ret (rT ?_))))))))
  refine eN (Zmv f u rows seq tx nx sx x tb nb b) ?_
  refine X8 (s':=⟨[pv 0 0,vI seq,(Zmo tx nx sx x),slV tb nb kU8 b,aa,aa,aa,aa,dv (Ys []),Zmr,vI 132,dv (Ys (stD (Xd f u rows) f seq x)),vI 132,aa,aa,aa,aa,(Zmq seq),aa,aa,aa,aa,aa,aa,aa,aa,aa,aa,aa,aa,aa,aa,(Zmu f u rows seq x b),aa,vB true],(Zmp f u rows)⟩) (fun _ _ hG=>Ym (s:=(Zmv f u rows seq tx nx sx x tb nb b)) ⟨.inl rfl,(kk8 ⟨pq,⟨.inl rfl,p2k⟩⟩)⟩ (kk2 trivial) hG) ?_
  exact eX [.t 8 (Zms),.t 9 (Zmt),.t 10 (.one (dI 132))] ⟨⟨rfl,by kernel_rfl⟩,⟨⟨rfl,by kernel_rfl⟩,⟨⟨rfl,by kernel_rfl⟩,trivial⟩⟩⟩ [0,1] (cg3 (fun (q1:List UInt8) (q2:List UInt8) (q3:Int)=>(.tup [.one (dS q1),.one (dU q2),.one (dI q3)]:AV)) p3y p4m p53) (ix (ix trivial))
 have h2:=hq3
 refine cF (dF hq3) (T.skip (nT (T.seq (sR [] ?_))))
 by_cases hq4:(stE (Xd f u rows) f seq x)≠0
 ·exact absurd hq2 hq4
 have h1:=hq4
 refine cF (dF hq4) (T.skip (nT (sR [hR 1 rfl rfl (rCa (X3m tb nb b ‹_›) Tryz.func50 [] [(.tmp 37,slV tb nb kU8 b)] 0 0)] (T.seq ?_))))
 by_cases hq5:(unE ((b.length:Nat):Int) b)≠0
 ·have h3:=hq5;have hx9:=Xi8 h0 h1 h2 (.inl h3)
  refine sR (Xr (hN · false (dT hq5)) [3,4,5] (hP 6 (dT hq5)::[])) (cT (b:=true) rfl (sR [] (T.ret (rT ?_))))
  refine eN (Zn1 f u rows seq tx nx sx x tb nb b) ?_
  refine X8 (s':=⟨[pv 0 0,vI seq,(Zmo tx nx sx x),slV tb nb kU8 b,aa,aa,aa,aa,dv (Ys []),Zmr,vI 12,dv (Ys (stD (Xd f u rows) f seq x)),(Zmw b),(Zmx b),(Zmy b),(Zmz b),aa,(Zmq seq),aa,aa,aa,aa,aa,aa,aa,aa,aa,aa,aa,aa,aa,aa,(Zmu f u rows seq x b),aa,(Zn0 f u rows seq x),aa,aa,aa,aa,aa,aa,aa,aa,aa,aa,aa,aa,aa,aa,vB true],(Zmp f u rows)⟩) (fun _ _ hG=>Ym (s:=(Zn1 f u rows seq tx nx sx x tb nb b)) ⟨.inl rfl,(kk8 ⟨pq,p2y⟩)⟩ (kk2 trivial) hG) ?_
  exact eX [.t 8 (Zms),.t 9 (Zmt),.t 10 (.one (dI 12))] ⟨⟨rfl,by kernel_rfl⟩,⟨⟨rfl,by kernel_rfl⟩,⟨⟨rfl,by kernel_rfl⟩,trivial⟩⟩⟩ [0,1] (cg3 (fun (q1:List UInt8) (q2:List UInt8) (q3:Int)=>(.tup [.one (dS q1),.one (dU q2),.one (dI q3)]:AV)) p3y p4m p53) (ix (ix trivial))
 have h3:=hq5; 
 refine sR (Xr (hY · (dF hq5)) [3,4,5] (hP 6 (dF hq5)::[])) ?_
 by_cases hq6:(unH ((b.length:Nat):Int) b)≠seq
 ·have h4:=hq6;have hx9:=Xi8 h0 h1 h2 (.inr h4)
  refine cT (dT hq6) (sR [] (T.ret (rT ?_)))
  refine eN (Zn2 f u rows seq tx nx sx x tb nb b) ?_
  refine X8 (s':=⟨[pv 0 0,vI seq,(Zmo tx nx sx x),slV tb nb kU8 b,aa,aa,aa,aa,dv (Ys []),Zmr,vI 12,dv (Ys (stD (Xd f u rows) f seq x)),(Zmw b),(Zmx b),(Zmy b),(Zmz b),aa,(Zmq seq),aa,aa,aa,aa,aa,aa,aa,aa,aa,aa,aa,aa,aa,aa,(Zmu f u rows seq x b),aa,(Zn0 f u rows seq x),aa,aa,aa,aa,aa,aa,aa,aa,aa,aa,aa,aa,aa,aa,vB (decide ((unH ((b.length:Nat):Int) b)≠seq))],(Zmp f u rows)⟩) (fun _ _ hG=>Ym (s:=(Zn2 f u rows seq tx nx sx x tb nb b)) ⟨.inl rfl,(kk8 ⟨pq,p2y⟩)⟩ (kk2 trivial) hG) ?_
  exact eX [.t 8 (Zms),.t 9 (Zmt),.t 10 (.one (dI 12))] ⟨⟨rfl,by kernel_rfl⟩,⟨⟨rfl,by kernel_rfl⟩,⟨⟨rfl,by kernel_rfl⟩,trivial⟩⟩⟩ [0,1] (cg3 (fun (q1:List UInt8) (q2:List UInt8) (q3:Int)=>(.tup [.one (dS q1),.one (dU q2),.one (dI q3)]:AV)) p3y p4m p53) (ix (ix trivial))
 have h4:=hq6;have hx9:=s9_ok h0 h1 h2 h3 h4
 refine cF (dF hq6) (T.skip (nT (sR [] (T.ret ?_))))
 exact eX [.t 8 (.one (dS (unD ((b.length:Nat):Int) b))),.t 9 (.one (dU (unS ((b.length:Nat):Int) b))),.t 10 (.one (dI 0))] ⟨⟨rfl,by kernel_rfl⟩,⟨⟨rfl,by kernel_rfl⟩,⟨⟨rfl,by kernel_rfl⟩,trivial⟩⟩⟩ [0,1] (cg3 (fun (q1:List UInt8) (q2:List UInt8) (q3:Int)=>(.tup [.one (dS q1),.one (dU q2),.one (dI q3)]:AV)) p3y p4m p53) (ix (ix trivial))
section
variable (f:Int) (u:Int) (l:List aE) (seq:Int) (x:List aE) (b:List UInt8)
end
section
variable (th:Bool) (nh:Bool) (hs:List Yh) (H:Int) (d:List UInt8) (k:Nat) (w:List UInt8)
abbrev Znl:AV:=slV th nh (Xm false) hs
abbrev Znn:AV:=vI (H-((k:Nat):Int))
abbrev Zno:AV:=vB (decide ((((hs.length:Nat):Int)-1-((k:Nat):Int))≥0))
abbrev Znp:List AV:=[(Znl th nh hs),(Znn H k),aa,aa,aa,aa,aa,vI (Fz hs d k),dv (Ys w),vI (((hs.length:Nat):Int)-1-((k:Nat):Int)),aa,aa,aa,aa,aa,(Zno hs k)]
abbrev Znq:List AV:=[(Znl th nh hs),(Znn H k),aa,aa,aa,aa,aa,vI (Fz hs d k),dv (Ys w),vI (((hs.length-1-k):Nat):Int),aa,aa,aa,aa,aa,(Zno hs k)]
abbrev Zns:AV:=vI ((H-((k:Nat):Int))-1)
abbrev Znt:AV:=vI ((((hs.length-1-k):Nat):Int)-1)
abbrev Znu:AV:=dv (Ys (hs.getD (hs.length-1-k) Y2).Y9)
end
theorem Xcv (th:Bool) (nh:Bool) (hs:List Yh) (H:Int) (d:List UInt8) (ho:okHs hs) (hn:hs.length≤1000) (hH:-9223372036854770000≤H∧H≤9223372036854775807):Holds Tryz.prog 46 ⟨[slV th nh (Xm false) hs,vI H,dv (Ys d)],[],vI (lnkE hs H d),[]⟩:=by
 refine Holds.of Tryz.func46 rfl (N:=42) Tryz.ntmps46 rfl fun w0 B0 S0 U0=>?_
 show T _ (Y5 42 0 w0 S0 U0 B0) ⟨[(Znl th nh hs),vI H,dv (Ys d)],[]⟩ _ _
 refine sR [] (Xfy (sR [] (sR [] (T.seq ?_))))
 refine T.label (nT (T.seq (sR [hR 2 rfl rfl (Yg (u1:=.int .i64 ((hs.length:Nat):Int)) (u2:=.int .i64 1) (v:=.int .i64 (((hs.length:Nat):Int)-1)) (Uu pb) (X3 rfl) ⟨rfl,trivial⟩)] (T.block ?_))))
 refine T.loop (ι:=Nat×(List UInt8)) (fun (x_:Nat×(List UInt8))=>⟨[(Znl th nh hs),vI (H-((x_.1:Nat):Int)),aa,aa,aa,aa,aa,vI (Fz hs d x_.1),dv (Ys x_.2),vI (((hs.length:Nat):Int)-1-((x_.1:Nat):Int))],[]⟩) (fun (x_:Nat×(List UInt8))=>(x_.1≤hs.length)∧(X7g hs H x_.1)∧(Eu hs d x_.1→x_.1<hs.length→x_.2=X4v hs d (hs.length-1-x_.1))) (fun (x_:Nat×(List UInt8))=>hs.length-x_.1) (0,d) ⟨(Nat.zero_le _),hgt_0,(fun _ q=>(nxt_end q).symm)⟩ (fun _ _ hG=>Yp [] (bm 10 899) (t2:=[(Znl th nh hs),vI H,aa,aa,aa,aa,aa,vI 0,dv (Ys d),vI (((hs.length:Nat):Int)-1)]) (cg3 (fun (q1:Int) (q2:Int) (q3:Int)=>([(Znl th nh hs),vI q1,aa,aa,aa,aa,aa,vI q2,dv (Ys d),vI q3]:List AV)) (show (H-((0:Nat):Int):Int)=H from (by omega)) (by exact (if_pos dig_00)) (show (((hs.length:Nat):Int)-1-((0:Nat):Int):Int)=((hs.length:Nat):Int)-1 from (by omega))) rfl hG) ?_
 rintro ⟨k,w⟩ ⟨hk,hh,hw⟩
 show T _ _ ⟨[(Znl th nh hs),(Znn H k),aa,aa,aa,aa,aa,vI (Fz hs d k),dv (Ys w),vI (((hs.length:Nat):Int)-1-((k:Nat):Int))],[]⟩ _ _
 replace hk:k≤hs.length:=hk
 replace hh:X7g hs H k:=hh
 replace hw:Eu hs d k→k<hs.length→w=X4v hs d (hs.length-1-k):=hw
 refine T.seq (sR [] ?_)
 by_cases hq1:(((hs.length:Nat):Int)-1-((k:Nat):Int))≥0
 rotate_left
 ·have hz9:=lnk_end (d:=d) (by omega) hk hh
  refine cF (dF hq1) (T.exit (xT (xT (xH (nT (sR [] (T.ret (rS ?_))))))))
  exact eRt 6 (.one (dI (Fz hs d k))) [] p1f trivial
 have hkl:k<hs.length:=(by omega);have hok:=Xej ho (hs.length-1-k);have hok1:=hok.1;have hok2:=hok.2.1
 refine cT (dT hq1) (T.skip (nT (T.seq (T.block (T.seq ?_)))))
 refine tN ⟨(Znp th nh hs H d k w),[]⟩ ?_
 refine Wr (s':=⟨(Znq th nh hs H d k w),[]⟩) (fun _ _ hG=>Yp [] (bm 16 33667) (t2:=(Znp th nh hs H d k w)) (congrArg (fun (q1:Int)=>([(Znl th nh hs),(Znn H k),aa,aa,aa,aa,aa,vI (Fz hs d k),dv (Ys w),vI q1,aa,aa,aa,aa,aa,(Zno hs k)]:List AV)) (by omega)) rfl hG) (sR [hR 2 rfl rfl (W9 th nh (Xm false) hs (hs.length-1-k) (k:=.i64) (i:=(((hs.length-1-k):Nat):Int)) Tryz.underlying41 H1 rfl rfl (by omega) (X3 rfl) trivial)] ?_)
 by_cases hq2:(hs.getD (hs.length-1-k) Y2).Xq≠(H-((k:Nat):Int))
 ·have hz9:=lnk_h (d:=d) hkl hq2
  refine cT (dT hq2) (sR [] (T.ret (rT (rB (rT (rT (rB (rT (rS ?_)))))))))
  exact eRt 6 (.one (dI 100)) [] p1f trivial
 have hh9:=hgt_succ hkl hh hq2
 refine cF (dF hq2) (T.skip (nT (sR [hR 1 rfl rfl (Yg (u1:=.int .i64 (H-((k:Nat):Int))) (u2:=.int .i64 1) (v:=.int .i64 ((H-((k:Nat):Int))-1)) (Uu pb) (X3 rfl) ⟨rfl,trivial⟩)] (T.seq (sR [] ?_)))))
 by_cases hq3:(Fz hs d k)≠0
 ·have he9:=(Xfb hq3).1;have hw9:Eu hs d (k+1)→k+1<hs.length→w=X4v hs d (hs.length-1-(k+1)):=fun q=>absurd q (Xfb hq3).2
  refine cT (dT hq3) (T.exit (xT (xH (nT (xK [hR 1 rfl rfl (Yg (u1:=.int .i64 (((hs.length-1-k):Nat):Int)) (u2:=.int .i64 1) (v:=.int .i64 ((((hs.length-1-k):Nat):Int)-1)) (Uu pb) (X3 rfl) ⟨rfl,trivial⟩)] ?_)))))
  refine nL (k+1,w) ⟨(show (k+1)≤hs.length from (by omega)),(show X7g hs H (k+1) from hh9),(show Eu hs d (k+1)→(k+1)<hs.length→w=X4v hs d (hs.length-1-(k+1)) from hw9)⟩ (show (hs.length-(k+1):Nat)<hs.length-k from (by omega)) (fun _ _ hG=>Yp [] (bm 10 899) (t2:=[(Znl th nh hs),(Zns H k),aa,aa,aa,aa,aa,vI (Fz hs d k),dv (Ys w),(Znt hs k)]) (cg3 (fun (q1:Int) (q2:Int) (q3:Int)=>([(Znl th nh hs),vI q1,aa,aa,aa,aa,aa,vI q2,dv (Ys w),vI q3]:List AV)) (by omega) (by exact he9) (by omega)) rfl hG)
 have h7:=hq3
 refine cF (dF hq3) (T.skip (nT (T.seq (sR [hR 2 rfl rfl (W9 th nh (Xm false) hs (hs.length-1-k) (k:=.i64) (i:=(((hs.length-1-k):Nat):Int)) Tryz.underlying41 H1 rfl rfl (by omega) (X3 rfl) trivial),hR 4 rfl rfl (rCa (X5d (hs.getD (hs.length-1-k) Y2) ‹_› ‹_›) Tryz.func91 [] [(.tmp 32,.tv (.agg [dI (hs.getD (hs.length-1-k) Y2).Xq,dS (hs.getD (hs.length-1-k) Y2).Y9,dI (hs.getD (hs.length-1-k) Y2).Yl,dS (hs.getD (hs.length-1-k) Y2).Wf]))] 0 0)] ?_))))
 by_cases hq4:(E0 (hs.getD (hs.length-1-k) Y2))≠w
 ·have he9:=(Xj4 hkl hw h7 hq4).1;have hw9:Eu hs d (k+1)→k+1<hs.length→(hs.getD (hs.length-1-k) Y2).Y9=X4v hs d (hs.length-1-(k+1)):=fun q=>absurd q (Xj4 hkl hw h7 hq4).2
  refine cT (dT hq4) (xK [] (nT (xK [hR 2 rfl rfl (W9 th nh (Xm false) hs (hs.length-1-k) (k:=.i64) (i:=(((hs.length-1-k):Nat):Int)) Tryz.underlying41 H1 rfl rfl (by omega) (X3 rfl) trivial)] (nB (nT (xK [hR 1 rfl rfl (Yg (u1:=.int .i64 (((hs.length-1-k):Nat):Int)) (u2:=.int .i64 1) (v:=.int .i64 ((((hs.length-1-k):Nat):Int)-1)) (Uu pb) (X3 rfl) ⟨rfl,trivial⟩)] ?_))))))
  refine nL (k+1,(hs.getD (hs.length-1-k) Y2).Y9) ⟨(show (k+1)≤hs.length from (by omega)),(show X7g hs H (k+1) from hh9),(show Eu hs d (k+1)→(k+1)<hs.length→(hs.getD (hs.length-1-k) Y2).Y9=X4v hs d (hs.length-1-(k+1)) from hw9)⟩ (show (hs.length-(k+1):Nat)<hs.length-k from (by omega)) (fun _ _ hG=>Yp [] (bm 10 899) (t2:=[(Znl th nh hs),(Zns H k),aa,aa,aa,aa,aa,vI 101,(Znu hs k),(Znt hs k)]) (cg3 (fun (q1:Int) (q2:Int) (q3:Int)=>([(Znl th nh hs),vI q1,aa,aa,aa,aa,aa,vI q2,(Znu hs k),vI q3]:List AV)) (by omega) (by exact he9) (by omega)) rfl hG)
 have he9:=err_good hkl hw h7 hq4;have hw9:Eu hs d (k+1)→k+1<hs.length→(hs.getD (hs.length-1-k) Y2).Y9=X4v hs d (hs.length-1-(k+1)):=fun _ q=>(nxt_prev q).symm
 refine cF (dF hq4) (T.skip (nT (xK [hR 2 rfl rfl (W9 th nh (Xm false) hs (hs.length-1-k) (k:=.i64) (i:=(((hs.length-1-k):Nat):Int)) Tryz.underlying41 H1 rfl rfl (by omega) (X3 rfl) trivial)] (nB (nT (xK [hR 1 rfl rfl (Yg (u1:=.int .i64 (((hs.length-1-k):Nat):Int)) (u2:=.int .i64 1) (v:=.int .i64 ((((hs.length-1-k):Nat):Int)-1)) (Uu pb) (X3 rfl) ⟨rfl,trivial⟩)] ?_))))))
 refine nL (k+1,(hs.getD (hs.length-1-k) Y2).Y9) ⟨(show (k+1)≤hs.length from (by omega)),(show X7g hs H (k+1) from hh9),(show Eu hs d (k+1)→(k+1)<hs.length→(hs.getD (hs.length-1-k) Y2).Y9=X4v hs d (hs.length-1-(k+1)) from hw9)⟩ (show (hs.length-(k+1):Nat)<hs.length-k from (by omega)) (fun _ _ hG=>Yp [] (bm 10 899) (t2:=[(Znl th nh hs),(Zns H k),aa,aa,aa,aa,aa,vI (Fz hs d k),(Znu hs k),(Znt hs k)]) (cg3 (fun (q1:Int) (q2:Int) (q3:Int)=>([(Znl th nh hs),vI q1,aa,aa,aa,aa,aa,vI q2,(Znu hs k),vI q3]:List AV)) (by omega) (by exact he9) (by omega)) rfl hG)
theorem Ef (f:Int) (u:Int) (rows:List (Yb×Bool)) (c:V4) (hf:0≤f∧f≤2) (hu:0≤u∧u≤8) (hc:okC9 c):Holds Tryz.prog 14 ⟨[pv 0 0,.tv (.agg [dI c.Xg,.d (dsl false false (kE false) c.Xo),dU c.Xc,.d (dsl false false (Xm false) c.X4),dI c.Ji,dI c.Y1.X2,dU c.Y1.X7,dI c.X0.Xu,dI c.X0.Xl,.d (dsl false false (Xz false) c.W4)])],[.box 130 [dI (3*f+1),dI u,.mref 1],mpK Xi Y8 rows],vI (c9E (Xd f u rows) f c),[.live (.box 130 [dI (3*f+1),dI u,.mref 1]),.live (mpK Xi Y8 rows)]⟩:=by
 refine Holds.of Tryz.func14 rfl (N:=58) Tryz.ntmps14 rfl fun w0 B0 S0 U0=>?_
 show T _ (Y5 58 2 w0 S0 U0 B0) ⟨[pv 0 0,.tv (.agg [dI c.Xg,.d (dsl false false (kE false) c.Xo),dU c.Xc,.d (dsl false false (Xm false) c.X4),dI c.Ji,dI c.Y1.X2,dU c.Y1.X7,dI c.X0.Xu,dI c.X0.Xl,.d (dsl false false (Xz false) c.W4)])],[.live (.box 130 [dI (3*f+1),dI u,.mref 1]),.live (mpK Xi Y8 rows)]⟩ _ _
 obtain ⟨hc1,hc2,hc3,hc4,hc5,hc6,hc7⟩:=hc
 have hc8:-9223372036854775808≤c.Xg∧c.Xg≤9223372036854775807:=hc7
 have hg0:=Xej hc3 0
 have hg1:=hg0.2.2.1
 refine sR [] (sR [hR 7 rfl rfl (rCa (Xer f u rows c.Xg false false false c.Xo false false c.Xc ‹_› ‹_› ‹_› ‹_› ‹_›) Tryz.func22 [0,1] [(.tmp 9,pv 0 0),(.tmp 11,vI c.Xg),(.tmp 13,slV false false (kE false) c.Xo),(.tmp 15,slV false false kU8 c.Xc)] 2 2)] (T.seq ?_))
 by_cases hq1:(s9E (Xd f u rows) f c.Xg c.Xo c.Xc)=0
 rotate_left
 ·have hz9:=c9_s hq1
  refine sR (Xr (hN · true (dF hq1)) [3,4,5,6,7] (hU 8::(hU 9::(hU 10::(hU 11::(hN 12 true (dF hq1)::(hP 13 (dF hq1)::[]))))))) (cF (b:=false) rfl (T.skip (nT (T.seq (sR [] (cF (dF hq1) (T.skip (nT (T.seq (sR [] ?_))))))))))
  by_cases hq5:(s9E (Xd f u rows) f c.Xg c.Xo c.Xc)≠0
  ·have hz9:=c9_s hq5
   refine cT (dT hq5) (sR [] (T.ret (rT ?_)))
   exact eRt 4 (.one (dI (s9E (Xd f u rows) f c.Xg c.Xo c.Xc))) [0,1] p1f (ix (ix trivial))
  exact absurd hq1 hq5
 have h0:¬s9E (Xd f u rows) f c.Xg c.Xo c.Xc≠0:=fun w=>w hq1;have hs9:=s9_seq hq1
 by_cases hq2:((c.X4.length:Nat):Int)=0
 ·have hz9:=c9_n h0 (.inl (by omega))
  refine sR (Xr (hY · (dT hq1)) [3,4,5,6,7] (Xr (hN · false (dT hq2)) [8,9,10,11] (hS 12 (oY rfl rfl rfl rfl (X3 rfl) (dT hq1) (Wg (b:=(decide (((c.X4.length:Nat):Int)=0))) (av:=vB true) (X3 rfl) ⟨rfl,trivial⟩ (dT hq2)))::(hP 13 (dT hq1)::[])))) (cT (b:=true) rfl (xK [] (nT (T.seq (sR [] (cF (b:=false) rfl (T.skip (nT (T.seq (sR [] (cT (b:=true) rfl (sR [] (T.ret (rT ?_))))))))))))))
  exact eRt 4 (.one (dI 90)) [0,1] p1f (ix (ix trivial))
 refine sR (Xr (hY · (dT hq1)) [3,4,5,6,7] (Xr (hY · (dF hq2)) [8,9,10,11] (hS 12 (oY rfl rfl rfl rfl (X3 rfl) (dT hq1) (Wq (b:=(decide (((c.X4.length:Nat):Int)=0))) (av:=vB (decide (((c.X4.length:Nat):Int)>1000))) (X3 rfl) trivial (dF hq2)))::(hP 13 (dT hq1)::[])))) ?_
 by_cases hq3:((c.X4.length:Nat):Int)>1000
 ·have hz9:=c9_n h0 (.inr (by omega))
  refine cT (dT hq3) (xK [] (nT (T.seq (sR [] (cF (b:=false) rfl (T.skip (nT (T.seq (sR [] (cT (b:=true) rfl (sR [] (T.ret (rT ?_)))))))))))))
  exact eRt 4 (.one (dI 90)) [0,1] p1f (ix (ix trivial))
 have hn:¬(c.X4.length=0∨1000<c.X4.length):=(by omega)
 refine cF (dF hq3) (T.skip (nT (T.seq (sR [] (cT (dT hq1) (xK [hR 5 rfl rfl (rCa (Xcv false false c.X4 c.Xg (s9D (Xd f u rows) f c.Xg c.Xo c.Xc) ‹_› (by omega) (by omega)) Tryz.func46 [] [(.tmp 37,slV false false (Xm false) c.X4),(.tmp 39,vI c.Xg),(.tmp 40,dv (Ys (s9D (Xd f u rows) f c.Xg c.Xo c.Xc)))] 0 0)] (nT (T.seq (sR [] ?_)))))))))
 by_cases hq4:(lnkE c.X4 c.Xg (s9D (Xd f u rows) f c.Xg c.Xo c.Xc))≠0
 ·have hz9:=c9_l h0 hn hq4
  refine cT (dT hq4) (sR [] (T.ret (rT ?_)))
  exact eRt 4 (.one (dI (lnkE c.X4 c.Xg (s9D (Xd f u rows) f c.Xg c.Xo c.Xc)))) [0,1] p1f (ix (ix trivial))
 have hz9:=c9_i h0 hn hq4
 refine cF (dF hq4) (T.skip (nT ?_))
 refine sD [[],[0],[0,1],[0,1,2],[],[4],[],[6],[],[8],[],[10],[0,1,2,3,4,5,6,7,8,9,10,11],[0,1,2,3,4,5,6,7,8,9,10,11,12]] [hR 2 rfl rfl (W9 false false (Xm false) c.X4 0 (k:=.i64) (i:=0) Tryz.underlying41 H1 rfl rfl (by omega) (X3 rfl) ⟨rfl,trivial⟩),hR 12 rfl rfl (rCa (Xa2 (c.X4.getD 0 Y2) c.Ji false c.Y1 c.X0 false false c.W4 ‹_› ‹_› ‹_›) Tryz.func47 [] [(.tmp 48,.tv (.agg [dI (c.X4.getD 0 Y2).Xq,dS (c.X4.getD 0 Y2).Y9,dI (c.X4.getD 0 Y2).Yl,dS (c.X4.getD 0 Y2).Wf])),(.tmp 50,vI c.Ji),(.tmp 52,.tv (.agg [dI c.Y1.X2,dU c.Y1.X7])),(.tmp 54,.tv (.agg [dI c.X0.Xu,dI c.X0.Xl])),(.tmp 56,slV false false (Xz false) c.W4)] 0 0)] ?_
 refine T.ret ?_
 exact eRt 4 (.one (dI (Ia (c.X4.getD 0 Y2).Wf (Vp c.Y1 c.X0) c.Ji (c.X4.getD 0 Y2).Yl c.W4))) [0,1] p1f (ix (ix trivial))
section
variable (f:Int) (u:Int) (l:List aE) (c:V4) (k:Nat) (k2:Nat)
end
end Go.Proofs.YtnaopgohccacmaaGreat.Q
