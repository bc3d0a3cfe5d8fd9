import Derived.Test.YtnaopgohccacmaaGreatC19n34
namespace Go.Proofs.YtnaopgohccacmaaGreat.Q
open Go Go.RowKit
set_option linter.unusedVariables false
set_option linter.unusedSimpArgs false
set_option maxRecDepth 100000
set_option maxHeartbeats 4000000
section
variable (f:Int) (u:Int) (rows:List (Yn×Bool)) (seq:Int) (tx:Bool) (nx:Bool) (sx:Bool) (x:List aE) (need:Int) (k:Nat)
abbrev Zl4:HS:=.live (.box 130 [dI (3*f+1),dI u,.mref 1])
abbrev Zl5:HS:=.live (mpK Y0 Yc rows)
abbrev Zl6:HS:=.live (.box 3 [dI seq])
abbrev Zl7:List AV:=[pv 0 0,slV tx nx (kE sx) x,vI 5,vI need,sv (.clo 117 [2,3,4]),aa,aa,aa,aa,aa,aa,sv (.mref 5),aa,aa,aa,aa,aa,slV tx nx (kE sx) x,vI ((x.length:Nat):Int),vI ((k:Nat):Int)]
abbrev Zl9:=(vtV (Xz f u rows) f (x.getD k zE) 5)
abbrev Zla:AV:=vI (x.getD k zE).X4
end
theorem Xf9 (f:Int) (u:Int) (rows:List (Yn×Bool)) (tx:Bool) (nx:Bool) (sx:Bool) (x:List aE) (need:Int) (seq:Int) (hf:0≤f∧f≤2) (hu:0≤u∧u≤8) (hx:X0l x):Holds Tryz.prog 116 ⟨[pv 0 0,slV tx nx (kE sx) x,vI 5,vI need,sv (.clo 117 [2,3,4])],[.box 130 [dI (3*f+1),dI u,.mref 1],mpK Y0 Yc rows,.box 4 [dB true],.box 60 [dS []],.box 3 [dI seq]],vI (X5j (gS (Xz f u rows) f seq (Ur x)) x need),[.live (.box 130 [dI (3*f+1),dI u,.mref 1]),.live (mpK Y0 Yc rows),.live (.box 4 [dB (fstF (Xz f u rows) f x)]),.live (.box 60 [dS (X9v (Xz f u rows) f x)]),.live (.box 3 [dI seq])]⟩:=by
 refine Holds.of Tryz.func116 rfl (N:=56) Tryz.ntmps116 rfl fun w0 B0 S0 U0=>?_
 show T _ (Y2 56 5 w0 S0 U0 B0) ⟨[pv 0 0,slV tx nx (kE sx) x,vI 5,vI need,sv (.clo 117 [2,3,4])],[(Zl4 f u),(Zl5 rows),.live (.box 4 [dB true]),.live (.box 60 [dS []]),(Zl6 seq)]⟩ _ _
 have hx1:=hx.1
 refine sR [] ?_
 refine sR [hR 0 rfl rfl (Xb4 5 (fInt .i64) Yc (X3 rfl))] ?_
 refine T.seq ?_
 refine sR [] ?_
 refine T.block ?_
 refine T.loop (ι:=Nat) (fun (k:Nat)=>⟨(Zl7 tx nx sx x need k),[(Zl4 f u),(Zl5 rows),.live (.box 4 [dB (X0s k)]),.live (.box 60 [dS (Ft x k)]),(Zl6 seq),.live (mpK (fInt .i64) Yc (E1 x k))]⟩) (fun (k:Nat)=>(k≤x.length)∧(∀ i,i<k→X08 (gS (Xz f u rows) f seq (Ur x)) x i=0)) (fun (k:Nat)=>x.length-k) (0) ⟨(Nat.zero_le _),(fun j hj=>absurd hj (Nat.not_lt_zero _))⟩ (fun _ _ hG=>Yt [0,1,2,3,4,5] (bm 20 919583) (h2:=[(Zl4 f u),(Zl5 rows),.live (.box 4 [dB true]),.live (.box 60 [dS []]),(Zl6 seq),.live (mpK (fInt .i64) Yc ([]:List (Int×Bool)))]) rfl (cg3 (fun (q1:Bool) (q2:List UInt8) (q3:List (Int×Bool))=>([(Zl4 f u),(Zl5 rows),.live (.box 4 [dB q1]),.live (.box 60 [dS q2]),(Zl6 seq),.live (mpK (fInt .i64) Yc q3)]:List HS)) (by rfl) (by rfl) (by rfl)) hG) ?_
 rintro k ⟨hk,hb⟩
 show T _ _ ⟨(Zl7 tx nx sx x need k),[(Zl4 f u),(Zl5 rows),.live (.box 4 [dB (X0s k)]),.live (.box 60 [dS (Ft x k)]),(Zl6 seq),.live (mpK (fInt .i64) Yc (E1 x k))]⟩ _ _
 replace hk:k≤x.length:=hk
 replace hb:∀ i,i<k→X08 (gS (Xz f u rows) f seq (Ur x)) x i=0:=hb
 refine sR [] ?_
 refine T.seq ?_
 by_cases hq1:((k:Nat):Int)<((x.length:Nat):Int)
 rotate_left
 ·have hz9:=tly_0 (g:=gS (Xz f u rows) f seq (Ur x)) need hb (by omega);have hda:=Xgt hb hk (.inl (by omega))
  refine cF (dF hq1) ?_
  refine T.exit ?_
  refine xT ?_
  refine xT ?_
  refine xH ?_
  refine nT (T.seq ?_)
  refine sR [] ?_
  by_cases hq8:((x.length:Nat):Int)<need
  ·refine cT (dT hq8) ?_
   refine sR [] ?_
   refine T.ret (rT ?_)
   exact eRt 10 (.one (dI 32)) [0,1,2,3,4] (by have e1:((X5j (gS (Xz f u rows) f seq (Ur x)) x need):Int)=32:=(by (rw [hz9,if_pos ‹_›]));have hE:=cI e1;exact hE) (ix (ix ⟨⟨rfl,pZ21⟩,⟨⟨rfl,p1u⟩,(ix trivial)⟩⟩))
  refine cF (dF hq8) ?_
  refine T.skip (nT ?_)
  refine sR [] ?_
  refine T.ret ?_
  exact eRt 10 (.one (dI 0)) [0,1,2,3,4] (by have e1:((X5j (gS (Xz f u rows) f seq (Ur x)) x need):Int)=0:=(by (rw [hz9,if_neg ‹_›]));have hE:=cI e1;exact hE) (ix (ix ⟨⟨rfl,pZ21⟩,⟨⟨rfl,p1u⟩,(ix trivial)⟩⟩))
 have hgk:=X9d hx (k:=k) (by omega);have hgk1:=hgk.1.1;have hgk2:=hgk.1.2;have hgk3:=hgk.2
 refine cT (dT hq1) ?_
 refine T.skip (nT (T.seq ?_))
 refine T.block ?_
 refine sR [hR 0 rfl rfl (Wd tx nx (kE sx) x k (k:=.i64) (i:=((k:Nat):Int)) Tryz.underlying37 Vs rfl rfl (by omega) (X3 rfl) trivial)] ?_
 refine sR [hR 3 rfl rfl (rCa (Xjz f u rows sx (x.getD k zE) 5 ‹_› ‹_› (by omega) (by omega)) Tryz.func151 [0,1] [(.tmp 24,pv 0 0),(.tmp 25,.tv (.agg [dI (x.getD k zE).X4,.d (dsl sx false kU8 (x.getD k zE).Xf)])),(.tmp 26,vI 5)] 2 2)] ?_
 refine T.seq ?_
 refine sR [] ?_
 by_cases hq2:(vtE (Xz f u rows) f (x.getD k zE) 5)=0
 rotate_left
 ·have hg9:=gS_1 (seq:=seq) (d:=Ur x) hq2;have hda:=Xgt hb (by omega) (.inr hq2)
  refine cF (dF hq2) ?_
  refine T.skip (nT (T.seq ?_))
  refine sR (Xm (hN · true (dF hq2)) [3,4,5,6] (hP 7 (dF hq2)::[])) ?_
  refine cF (b:=false) rfl ?_
  refine T.skip (nT (T.seq ?_))
  refine sR [] ?_
  by_cases hq7:(vtE (Xz f u rows) f (x.getD k zE) 5)≠0
  ·have hz9:=Eg (g:=gS (Xz f u rows) f seq (Ur x)) need hb ((X6i (by rw [hg9];exact hq7)).trans hg9) hq7 (by omega)
   refine cT (dT hq7) ?_
   refine sR [] ?_
   refine T.ret (rT (rB (rT (rT (rB (rT ?_))))))
   exact eRt 10 (.one (dI (vtE (Xz f u rows) f (x.getD k zE) 5))) [0,1,2,3,4] p2n (ix (ix ⟨⟨rfl,pZ21⟩,⟨⟨rfl,p1u⟩,(ix trivial)⟩⟩))
  exact absurd hq2 hq7
 have hv9:¬vtE (Xz f u rows) f (x.getD k zE) 5≠0:=(fun q=>q hq2);have hdn:=X9u hb (by omega) hv9;have hg9:gS (Xz f u rows) f seq (Ur x) (x.getD k zE)=X0n seq (if X0s k=true then (vtV (Xz f u rows) f (x.getD k zE) 5).X8 else Ft x k) (vtV (Xz f u rows) f (x.getD k zE) 5):=((gS_2 hv9).trans (by rw [← hdn.1];rfl))
 refine cT (dT hq2) ?_
 refine xK [hR 4 rfl rfl (r_callC (ls:=[2,3,4]) (Xgv false (vtV (Xz f u rows) f (x.getD k zE) 5) (x.getD k zE).X4 (X0s k) (Ft x k) seq ) Tryz.func117 rfl (by decide) [2,3,4] [] (l:=[(.tmp 33,.tv (.agg [dI (Zl9 f u rows x k).X2,dI (Zl9 f u rows x k).Y1,dI (Zl9 f u rows x k).Xo,dI (Zl9 f u rows x k).Xi,dI (Zl9 f u rows x k).Yj,dS (Zl9 f u rows x k).X8,dU (Zl9 f u rows x k).Xa,dI (Zl9 f u rows x k).X1.Xw,dI (Zl9 f u rows x k).X1.Xn,.d (dsl false false (kE false) (Zl9 f u rows x k).Xp),.d (dsl false false (kE false) (Zl9 f u rows x k).Y5),.d (dsl false false (kC false) (Zl9 f u rows x k).X5)])),(.tmp 35,(Zla x k))]) [] rfl 3 3 rfl rfl rfl rfl rfl rfl rfl rfl rfl ⟨⟨.inl ⟨rfl,rfl⟩,⟨.inl ⟨rfl,rfl⟩,⟨.inl ⟨rfl,rfl⟩,⟨.inl ⟨rfl,rfl⟩,⟨.inl ⟨rfl,rfl⟩,⟨.inl ⟨rfl,rfl⟩,⟨.inl ⟨rfl,rfl⟩,⟨.inl ⟨rfl,rfl⟩,⟨.inl ⟨rfl,rfl⟩,⟨.inl ⟨rfl,rfl⟩,⟨.inl ⟨rfl,rfl⟩,⟨.inl ⟨rfl,rfl⟩,trivial⟩⟩⟩⟩⟩⟩⟩⟩⟩⟩⟩⟩,⟨.inl ⟨rfl,rfl⟩,⟨.inl ⟨rfl,rfl⟩,⟨.inl ⟨rfl,rfl⟩,⟨.inl ⟨rfl,rfl⟩,trivial⟩⟩⟩⟩⟩ rfl p4z (.inl rfl) (X3 rfl) trivial)] ?_
 refine nT (T.seq ?_)
 by_cases hq3:(X0n seq (if (X0s k)=true then (vtV (Xz f u rows) f (x.getD k zE) 5).X8 else (Ft x k)) (vtV (Xz f u rows) f (x.getD k zE) 5))=0
 ·have hn9:¬(gS (Xz f u rows) f seq (Ur x)) (x.getD k zE)≠0:=(by rw [hg9];exact fun q=>q hq3)
  refine sR (Xm (hY · (dT hq3)) [3,4,5] (hS 6 (oY rfl rfl rfl rfl (X3 rfl) (dT hq3) (r_lookup 5 (E1 x k) (x.getD k zE).X4 (.one (dB (mget (E1 x k) (x.getD k zE).X4 false))) (ak:=(Zla x k)) (kd:=Yc) Tryz.underlying201 (Xe9 Tryz.underlying3) rfl Xh4 ⟨.inl rfl,trivial⟩ rfl (X3 rfl) F2))::(hP 7 (dT hq3)::[]))) ?_
  by_cases hq4:(mget (E1 x k) (x.getD k zE).X4 false)=true
  ·have ht9:=(X8e (l:=x) (k:=k) (by omega)).1 hq4;have hz9:=Eg (g:=gS (Xz f u rows) f seq (Ur x)) need hb (vot_2 hn9 ht9) (by decide) (by omega)
   refine cT hq4 ?_
   refine xK [] ?_
   refine nT (T.seq ?_)
   refine sR [] ?_
   refine cT (b:=true) rfl ?_
   refine sR [] ?_
   refine T.ret (rT (rB (rT (rT (rB (rT ?_))))))
   exact eRt 10 (.one (dI 33)) [0,1,2,3,4] p2n (ix (ix ⟨⟨rfl,p3h⟩,⟨⟨rfl,p2f⟩,(ix trivial)⟩⟩))
  have ht9:¬X09 x k:=(fun q=>absurd ((X8e (by omega)).2 q) ‹_›)
  replace hq4:=Bool.eq_false_iff.2 hq4
  refine cF hq4 ?_
  refine T.skip (nT (T.seq ?_))
  refine sR [] ?_
  by_cases hq5:(X0n seq (if (X0s k)=true then (vtV (Xz f u rows) f (x.getD k zE) 5).X8 else (Ft x k)) (vtV (Xz f u rows) f (x.getD k zE) 5))≠0
  ·exact absurd hq3 hq5
  refine cF (dF hq5) ?_
  refine T.skip (nT ?_)
  refine xK [hR 3 rfl rfl (X6y 5 (E1 x k) (x.getD k zE).X4 true (kd:=Yc) (ak:=(Zla x k)) (tv:=.one (dB true)) Tryz.underlying201 (Xe9 Tryz.underlying3) rfl rfl ⟨.inl rfl,trivial⟩ ⟨rfl,trivial⟩)] ?_
  refine nB ?_
  refine nT ?_
  refine xK [hR 0 rfl rfl (Ye (u1:=.int .i64 ((k:Nat):Int)) (u2:=.int .i64 1) (v:=.int .i64 ((k+1:Nat):Int)) (Wa pa) (X3 rfl) ⟨rfl,trivial⟩)] ?_
  refine nL (k+1) ⟨(show (k+1)≤x.length from (by omega)),(show ∀ i,i<(k+1)→X08 (gS (Xz f u rows) f seq (Ur x)) x i=0 from (U5 hb (vot_3 hn9 ht9)))⟩ (show (x.length-(k+1):Nat)<x.length-k from (by omega)) (fun _ _ hG=>Yt [0,1,2,3,4,5] (bm 20 919583) (h2:=[(Zl4 f u),(Zl5 rows),.live (.box 4 [dB false]),.live (.box 60 [dS (if (X0s k)=true then (Zl9 f u rows x k).X8 else (Ft x k))]),(Zl6 seq),.live (mpK (fInt .i64) Yc (mput (E1 x k) (x.getD k zE).X4 true))]) rfl (by have e1:((X0s (k+1)):Bool)=false:=(by rfl);have e2:((Ft x (k+1)):List UInt8)=(if (X0s k)=true then (vtV (Xz f u rows) f (x.getD k zE) 5).X8 else (Ft x k)):=(by exact (hdn.1.trans hdn.2.2.2.1.symm).symm);have e3:((E1 x (k+1)):List (Int×Bool))=(mput (E1 x k) (x.getD k zE).X4 true):=(by (rw [Xay (by omega)]));have hE:=congr (congr (congrArg (fun (q1:Bool) (q2:List UInt8) (q3:List (Int×Bool))=>([(Zl4 f u),(Zl5 rows),.live (.box 4 [dB q1]),.live (.box 60 [dS q2]),(Zl6 seq),.live (mpK (fInt .i64) Yc q3)]:List HS)) e1) e2) e3;exact hE) hG)
 refine sR (Xm (hN · true (dF hq3)) [3,4,5,6] (hP 7 (dF hq3)::[])) ?_
 refine cF (b:=false) rfl ?_
 refine T.skip (nT (T.seq ?_))
 refine sR [] ?_
 by_cases hq6:(X0n seq (if (X0s k)=true then (vtV (Xz f u rows) f (x.getD k zE) 5).X8 else (Ft x k)) (vtV (Xz f u rows) f (x.getD k zE) 5))≠0
 ·have hz9:=Eg (g:=gS (Xz f u rows) f seq (Ur x)) need hb ((X6i (by rw [hg9];exact hq6)).trans hg9) hq6 (by omega)
  refine cT (dT hq6) ?_
  refine sR [] ?_
  refine T.ret (rT (rB (rT (rT (rB (rT ?_))))))
  exact eRt 10 (.one (dI (X0n seq (if (X0s k)=true then (Zl9 f u rows x k).X8 else (Ft x k)) (Zl9 f u rows x k)))) [0,1,2,3,4] p2n (ix (ix ⟨⟨rfl,p3h⟩,⟨⟨rfl,p2f⟩,(ix trivial)⟩⟩))
 exact absurd hq3 hq6
abbrev Zlc:TV:=.one (dS [])
theorem Xfa (f:Int) (u:Int) (rows:List (Yn×Bool)) (seq:Int) (tx:Bool) (nx:Bool) (sx:Bool) (x:List aE) (hf:0≤f∧f≤2) (hu:0≤u∧u≤8) (hx:X0l x):Holds Tryz.prog 59 ⟨[pv 0 0,vI seq,slV tx nx (kE sx) x],[.box 130 [dI (3*f+1),dI u,.mref 1],mpK Y0 Yc rows],.tup [.one (dS (stD (Xz f u rows) f seq x)),.one (dI (stE (Xz f u rows) f seq x))],[.live (.box 130 [dI (3*f+1),dI u,.mref 1]),.live (mpK Y0 Yc rows)]⟩:=by
 refine Holds.of Tryz.func59 rfl (N:=25) Tryz.ntmps59 rfl fun w0 B0 S0 U0=>?_
 show T _ (Y2 25 2 w0 S0 U0 B0) ⟨[pv 0 0,vI seq,slV tx nx (kE sx) x],[.live (.box 130 [dI (3*f+1),dI u,.mref 1]),.live (mpK Y0 Yc rows)]⟩ _ _
 refine sR [] ?_
 refine T.seq ?_
 refine sR [] ?_
 by_cases hq1:seq=0
 ·refine cT (dT hq1) ?_
  refine T.seq ?_
  refine sR [] ?_
  by_cases hq2:((x.length:Nat):Int)>0
  ·have hx9:=st_0 (C:=(Xz f u rows)) (f:=f) ‹_› hq2
   refine cT (dT hq2) ?_
   refine sR [] ?_
   refine T.ret (rT (rT ?_))
   exact eX [.c 6 3 60 0 60 [dS []] (Zlc),.t 7 (.one (dI 120))] ⟨⟨rfl,rfl,by kernel_rfl,by kernel_rfl,.inr ⟨X2h,_,rfl,rfl⟩⟩,⟨⟨rfl,by kernel_rfl⟩,trivial⟩⟩ [0,1] (cg2 (fun (q1:List UInt8) (q2:Int)=>(.tup [.one (dS q1),.one (dI q2)]:AV)) p2a p3t) (ix (ix trivial))
  have hx9:=st_1 (C:=(Xz f u rows)) (f:=f) ‹_› hq2
  refine cF (dF hq2) ?_
  refine T.skip (nT ?_)
  refine sR [] ?_
  refine T.ret (rT ?_)
  exact eX [.c 6 3 60 0 60 [dS []] (Zlc),.t 7 (.one (dI 0))] ⟨⟨rfl,rfl,by kernel_rfl,by kernel_rfl,.inr ⟨X2h,_,rfl,rfl⟩⟩,⟨⟨rfl,by kernel_rfl⟩,trivial⟩⟩ [0,1] (cg2 (fun (q1:List UInt8) (q2:Int)=>(.tup [.one (dS q1),.one (dI q2)]:AV)) p2a p3t) (ix (ix trivial))
 have hs0:=hq1
 refine cF (dF hq1) ?_
 refine T.skip (nT ?_)
 refine sR [] ?_
 refine sR [hR 3 rfl rfl (rCa (Xd0 f u rows ‹_› ‹_›) Tryz.func33 [0,1] [(.tmp 16,pv 0 0)] 2 2),hR 4 rfl rfl (X1p (k:=.i64) (a:=1) (b:=2*f+1) (X3 rfl) ⟨rfl,trivial⟩),hR 5 rfl rfl (Xj4 (f:=117) (ls:=[(.tmp 8,4),(.tmp 6,3),(.tmp 4,2)]) rfl (X3 rfl) trivial),hR 6 rfl rfl (rCa (Xf9 f u rows tx nx sx x (max 1 (2*f+1)) seq ‹_› ‹_› ‹_›) Tryz.func116 [0,1,4,3,2] [(.tmp 14,pv 0 0),(.tmp 15,slV tx nx (kE sx) x),(.const (.int .i64 5),vI 5),(.tmp 18,vI (max 1 (2*f+1))),(.tmp 19,sv (.clo 117 [4,3,2]))] 5 5)] ?_
 refine T.seq ?_
 refine sR [] ?_
 by_cases hq3:(X5j (gS (Xz f u rows) f seq (Ur x)) x (max 1 (2*f+1)))≠0
 ·have hx9:=st_t hs0 rfl hq3
  refine cT (dT hq3) ?_
  refine sR [] ?_
  refine T.ret (rT ?_)
  exact eX [.c 6 3 60 0 60 [dS []] (Zlc),.t 7 (.one (dI (X5j (gS (Xz f u rows) f seq (Ur x)) x (max 1 (2*f+1)))))] ⟨⟨rfl,rfl,by kernel_rfl,by kernel_rfl,.inr ⟨X2h,_,rfl,rfl⟩⟩,⟨⟨rfl,by kernel_rfl⟩,trivial⟩⟩ [0,1] (cg2 (fun (q1:List UInt8) (q2:Int)=>(.tup [.one (dS q1),.one (dI q2)]:AV)) p2a p3t) (ix (ix trivial))
 have hx9:=st_ok hs0 (Classical.not_not.1 hq3)
 refine cF (dF hq3) ?_
 refine T.skip (nT ?_)
 refine sR [] ?_
 refine T.ret ?_
 exact eX [.c 6 3 60 0 60 [dS (X9v (Xz f u rows) f x)] (.one (dS (X9v (Xz f u rows) f x))),.t 7 (.one (dI 0))] ⟨⟨rfl,rfl,by kernel_rfl,by kernel_rfl,.inr ⟨X2h,_,rfl,rfl⟩⟩,⟨⟨rfl,by kernel_rfl⟩,trivial⟩⟩ [0,1] (cg2 (fun (q1:List UInt8) (q2:Int)=>(.tup [.one (dS q1),.one (dI q2)]:AV)) p2a p3j) (ix (ix trivial))
abbrev Zld (x:List aE):AV:=slV false false (kE false) x
abbrev Zle (j:Nat):AV:=vI ((j:Nat):Int)
theorem X6t (x:List aE) (j:Nat) (hj:j<x.length) (hx:x.length≤9223372036854775807):Holds Tryz.prog 113 ⟨[slV false false (kE false) x,vI ((j:Nat):Int)],[],vB (decide (X09 x j)),[]⟩:=by
 refine Holds.of Tryz.func113 rfl (N:=22) Tryz.ntmps113 rfl fun w0 B0 S0 U0=>?_
 show T _ (Y2 22 0 w0 S0 U0 B0) ⟨[(Zld x),(Zle j)],[]⟩ _ _
 refine sR [] ?_
 refine T.seq ?_
 refine sR [] ?_
 refine T.block ?_
 refine T.loop (ι:=Nat) (fun (k:Nat)=>⟨[(Zld x),(Zle j),aa,aa,vB false,vI ((k:Nat):Int)],[]⟩) (fun (k:Nat)=>(k≤j)∧(∀ i,i<k→¬(x.getD i zE).X4=(x.getD j zE).X4)) (fun (k:Nat)=>j-k) (0) ⟨(Nat.zero_le _),(fun j hj=>absurd hj (Nat.not_lt_zero _))⟩ (fun _ _ hG=>Yt [] (bm 6 51) rfl rfl hG) ?_
 rintro k ⟨hk,hb⟩
 show T _ _ ⟨[(Zld x),(Zle j),aa,aa,vB false,vI ((k:Nat):Int)],[]⟩ _ _
 replace hk:k≤j:=hk
 replace hb:∀ i,i<k→¬(x.getD i zE).X4=(x.getD j zE).X4:=hb
 refine T.seq ?_
 refine sR [] ?_
 by_cases hq1:((k:Nat):Int)<((j:Nat):Int)
 ·refine cT (dT hq1) ?_
  refine T.skip (nT (T.seq ?_))
  refine T.block ?_
  refine sD [[],[],[0,1],[0,1,2],[0,1,2,3],[],[],[5,6],[5,6,7],[5,6,7,8],[0,1,2,3,4,5,6,7,8,9]] [hR 2 rfl rfl (Wd false false (kE false) x k (k:=.i64) (i:=((k:Nat):Int)) Tryz.underlying37 Vs rfl rfl (by omega) (X3 rfl) trivial),hR 7 rfl rfl (Wd false false (kE false) x j (k:=.i64) (i:=((j:Nat):Int)) Tryz.underlying37 Vs rfl rfl ‹_› (X3 rfl) trivial)] ?_
  by_cases hq2:(x.getD k zE).X4=(x.getD j zE).X4
  ·refine cT (dT hq2) ?_
   refine sR [] ?_
   refine T.ret (rB (rT (rT (rB (rT ?_)))))
   exact eRt 4 (.one (dB true)) [] (cB (by exact dT ⟨k,by omega,by assumption⟩)) trivial
  refine cF (dF hq2) ?_
  refine T.skip ?_
  refine nB ?_
  refine nT ?_
  refine xK [hR 1 rfl rfl (Ye (u1:=.int .i64 ((k:Nat):Int)) (u2:=.int .i64 1) (v:=.int .i64 ((k+1:Nat):Int)) (Wa pa) (X3 rfl) ⟨rfl,trivial⟩)] ?_
  refine nL (k+1) ⟨(show (k+1)≤j from (by omega)),(show ∀ i,i<(k+1)→¬(x.getD i zE).X4=(x.getD j zE).X4 from (U5 hb ‹_›))⟩ (show (j-(k+1):Nat)<j-k from (by omega)) (fun _ _ hG=>Yt [] (bm 6 51) rfl rfl hG)
 refine cF (dF hq1) ?_
 refine T.exit ?_
 refine xT ?_
 refine xT ?_
 refine xH ?_
 refine nT ?_
 refine sR [] ?_
 refine T.ret ?_
 exact eRt 4 (.one (dB false)) [] (cB (by exact dF (fun ⟨i,h1,h2⟩=>hb i (by omega) h2))) trivial
section
variable (f:Int) (u:Int) (l:List aE) (seq:Int) (x:List aE) (k:Nat)
abbrev Zlf:AV:=slV false false (kE false) x
abbrev Zlg:List HS:=[.live (.box 135 [dB true,dI f,dI u,.own 1 (kE false).sz 0 l.length]),.live (Xe 43 (kE false) l)]
abbrev Zlh:TV:=.one (dS [])
abbrev Zli:List AV:=[pv 0 0,vI seq,(Zlf x),aa,aa,aa,aa,aa,dv (Yh (Ft x k)),vI ((k:Nat):Int)]
abbrev Zlk:AV:=vI ((k+1:Nat):Int)
end
theorem Xbx (f:Int) (u:Int) (l:List aE) (seq:Int) (x:List aE) (hf:0≤f∧f≤2) (hu:0≤u∧u≤8) (hl:l.length≤9223372036854775806) (hx:X0l x):Holds Tryz.prog 57 ⟨[pv 0 0,vI seq,slV false false (kE false) x],[.box 135 [dB true,dI f,dI u,.own 1 (kE false).sz 0 l.length],Xe 43 (kE false) l],.tup [.one (dS (stD (Xu f u l) f seq x)),.one (dI (stE (Xu f u l) f seq x))],[.live (.box 135 [dB true,dI f,dI u,.own 1 (kE false).sz 0 l.length]),.live (Xe 43 (kE false) l)]⟩:=by
 refine Holds.of Tryz.func57 rfl (N:=61) Tryz.ntmps57 rfl fun w0 B0 S0 U0=>?_
 show T _ (Y2 61 2 w0 S0 U0 B0) ⟨[pv 0 0,vI seq,(Zlf x)],(Zlg f u l)⟩ _ _
 have hx1:=hx.1
 refine sR [] ?_
 refine T.seq ?_
 refine sR [] ?_
 by_cases hq1:seq=0
 ·refine cT (dT hq1) ?_
  refine T.seq ?_
  refine sR [] ?_
  by_cases hq2:((x.length:Nat):Int)>0
  ·have hx9:=st_0 (C:=(Xu f u l)) (f:=f) ‹_› hq2
   refine cT (dT hq2) ?_
   refine sR [] ?_
   refine T.ret (rT (rT ?_))
   exact eX [.t 6 (Zlh),.t 7 (.one (dI 120))] ⟨⟨rfl,by kernel_rfl⟩,⟨⟨rfl,by kernel_rfl⟩,trivial⟩⟩ [0,1] (cg2 (fun (q1:List UInt8) (q2:Int)=>(.tup [.one (dS q1),.one (dI q2)]:AV)) p2a p3t) (ix (ix trivial))
  have hx9:=st_1 (C:=(Xu f u l)) (f:=f) ‹_› hq2
  refine cF (dF hq2) ?_
  refine T.skip (nT ?_)
  refine sR [] ?_
  refine T.ret (rT ?_)
  exact eX [.t 6 (Zlh),.t 7 (.one (dI 0))] ⟨⟨rfl,by kernel_rfl⟩,⟨⟨rfl,by kernel_rfl⟩,trivial⟩⟩ [0,1] (cg2 (fun (q1:List UInt8) (q2:Int)=>(.tup [.one (dS q1),.one (dI q2)]:AV)) p2a p3t) (ix (ix trivial))
 have hs0:=hq1
 refine cF (dF hq1) ?_
 refine T.skip (nT ?_)
 refine sR [] ?_
 refine T.seq ?_
 refine sR [] ?_
 refine T.block ?_
 refine T.loop (ι:=Nat) (fun (k:Nat)=>⟨(Zli seq x k),(Zlg f u l)⟩) (fun (k:Nat)=>(k≤x.length)∧(∀ i,i<k→X08 (gS (Xu f u l) f seq (Ur x)) x i=0)) (fun (k:Nat)=>x.length-k) (0) ⟨(Nat.zero_le _),(fun j hj=>absurd hj (Nat.not_lt_zero _))⟩ (fun _ _ hG=>Yt [0,1] (bm 10 775) (t2:=[pv 0 0,vI seq,(Zlf x),aa,aa,aa,aa,aa,dv (Yh []),vI 0]) (congrArg (fun (q1:List UInt8)=>([pv 0 0,vI seq,(Zlf x),aa,aa,aa,aa,aa,dv (Yh q1),vI 0]:List AV)) (by rfl)) rfl hG) ?_
 rintro k ⟨hk,hb⟩
 show T _ _ ⟨(Zli seq x k),(Zlg f u l)⟩ _ _
 replace hk:k≤x.length:=hk
 replace hb:∀ i,i<k→X08 (gS (Xu f u l) f seq (Ur x)) x i=0:=hb
 refine T.seq ?_
 refine sR [] ?_
 by_cases hq3:((k:Nat):Int)<((x.length:Nat):Int)
 rotate_left
 ·have hz0:=tly_0 (g:=gS (Xu f u l) f seq (Ur x)) (max 1 (2*f+1)) hb (by omega);have hda:=Xgt hb hk (.inl (by omega))
  refine cF (dF hq3) ?_
  refine T.exit ?_
  refine xT ?_
  refine xT ?_
  refine xH ?_
  refine nT (T.seq ?_)
  refine sR [hR 3 rfl rfl (rCa (Xc2 f u l ‹_› ‹_›) Tryz.func114 [0,1] [(.tmp 56,pv 0 0)] 2 2),hR 4 rfl rfl (X1p (k:=.i64) (a:=1) (b:=2*f+1) (X3 rfl) ⟨rfl,trivial⟩)] ?_
  by_cases hq12:((x.length:Nat):Int)<(max 1 (2*f+1))
  ·have hx9:=st_t hs0 (hz0.trans (if_pos hq12)) (by decide)
   refine cT (dT hq12) ?_
   refine sR [] ?_
   refine T.ret (rT ?_)
   exact eX [.t 6 (Zlh),.t 7 (.one (dI 32))] ⟨⟨rfl,by kernel_rfl⟩,⟨⟨rfl,by kernel_rfl⟩,trivial⟩⟩ [0,1] (cg2 (fun (q1:List UInt8) (q2:Int)=>(.tup [.one (dS q1),.one (dI q2)]:AV)) p2a p3t) (ix (ix trivial))
  have hx9:=st_ok hs0 (hz0.trans (if_neg hq12))
  refine cF (dF hq12) ?_
  refine T.skip (nT ?_)
  refine sR [] ?_
  refine T.ret ?_
  exact eX [.t 6 (.one (dS (Ft x k))),.t 7 (.one (dI 0))] ⟨⟨rfl,by kernel_rfl⟩,⟨⟨rfl,by kernel_rfl⟩,trivial⟩⟩ [0,1] (cg2 (fun (q1:List UInt8) (q2:Int)=>(.tup [.one (dS q1),.one (dI q2)]:AV)) (by exact (hda.1.trans hx9.1.symm).symm) p3j) (ix (ix trivial))
 have hgk:=X9d hx (k:=k) (by omega);have hgk1:=hgk.1.1;have hgk2:=hgk.1.2;have hgk3:=hgk.2
 refine cT (dT hq3) ?_
 refine T.skip (nT (T.seq ?_))
 refine T.block ?_
 refine sR [hR 3 rfl rfl (Wd false false (kE false) x k (k:=.i64) (i:=((k:Nat):Int)) Tryz.underlying37 Vs rfl rfl (by omega) (X3 rfl) trivial),hR 5 rfl rfl (rCa (Xfw f u l (x.getD k zE) 5 ‹_› ‹_› ‹_› (by omega) (by omega)) Tryz.func112 [0,1] [(.tmp 24,pv 0 0),(.tmp 28,.tv (.agg [dI (x.getD k zE).X4,dU (x.getD k zE).Xf])),(.const (.int .i64 5),vI 5)] 2 2)] ?_
 refine T.seq ?_
 refine sR [] ?_
 by_cases hq4:((k:Nat):Int)=0
 ·have hgd:digN (Xu f u l) f x k=(vtV (Xu f u l) f (x.getD k zE) 5).X8:=if_pos (dT (show k=0 by omega))
  refine cT (dT hq4) ?_
  refine xK [] ?_
  refine nT ?_
  refine T.block ?_
  refine sR [] ?_
  by_cases hq5:(vtE (Xu f u l) f (x.getD k zE) 5)≠0
  ·have hg9:=gS_1 (seq:=seq) (d:=Ur x) hq5;have hz9:=Eg (g:=gS (Xu f u l) f seq (Ur x)) (max 1 (2*f+1)) hb ((X6i (by rw [hg9];exact hq5)).trans hg9) hq5 (by omega);have hx9:=st_t hs0 hz9 hq5
   refine cT (dT hq5) ?_
   refine sR [] ?_
   refine T.ret (rB (rB (rT (rT (rB (rT ?_))))))
   exact eX [.t 6 (Zlh),.t 7 (.one (dI (vtE (Xu f u l) f (x.getD k zE) 5)))] ⟨⟨rfl,by kernel_rfl⟩,⟨⟨rfl,by kernel_rfl⟩,trivial⟩⟩ [0,1] (cg2 (fun (q1:List UInt8) (q2:Int)=>(.tup [.one (dS q1),.one (dI q2)]:AV)) p2a p3t) (ix (ix trivial))
  have hv9:=hq5;have hdn:=X9u hb (by omega) hv9;have hg9:gS (Xu f u l) f seq (Ur x) (x.getD k zE)=X0n seq (digN (Xu f u l) f x k) (vtV (Xu f u l) f (x.getD k zE) 5):=(gS_2 hv9).trans (by rw [hdn.1]);rw [hgd] at hg9
  refine cF (dF hq5) ?_
  refine sR [] ?_
  by_cases hq6:(vtV (Xu f u l) f (x.getD k zE) 5).Xo≠seq
  ·have he9:=hg9.trans (if_pos hq6);have hz9:=Eg (g:=gS (Xu f u l) f seq (Ur x)) (max 1 (2*f+1)) hb ((X6i (by rw [he9];decide)).trans he9) (by decide) (by omega);have hx9:=st_t hs0 hz9 (by decide)
   refine cT (dT hq6) ?_
   refine sR [] ?_
   refine T.ret (rB (rB (rT (rT (rB (rT ?_))))))
   exact eX [.t 6 (Zlh),.t 7 (.one (dI 131))] ⟨⟨rfl,by kernel_rfl⟩,⟨⟨rfl,by kernel_rfl⟩,trivial⟩⟩ [0,1] (cg2 (fun (q1:List UInt8) (q2:Int)=>(.tup [.one (dS q1),.one (dI q2)]:AV)) p2a p3t) (ix (ix trivial))
  have hq9:=hq6
  refine cF (dF hq6) ?_
  refine sR [] ?_
  refine cF (show decide ((vtV (Xu f u l) f (x.getD k zE) 5).X8≠(vtV (Xu f u l) f (x.getD k zE) 5).X8)=false from dF (fun h=>h rfl)) ?_
  refine sR [hR 2 rfl rfl (rCa (X6t x k (by omega) (by omega)) Tryz.func113 [] [(.tmp 51,(Zlf x)),(.tmp 52,vI ((k:Nat):Int))] 0 0)] ?_
  by_cases hq7:X09 x k
  ·have hn9:¬(gS (Xu f u l) f seq (Ur x)) (x.getD k zE)≠0:=p5h;have hz9:=Eg (g:=gS (Xu f u l) f seq (Ur x)) (max 1 (2*f+1)) hb (vot_2 hn9 hq7) (by decide) (by omega);have hx9:=st_t hs0 hz9 (by decide)
   refine cT (dT hq7) ?_
   refine sR [] ?_
   refine T.ret (rB (rB (rT (rT (rB (rT ?_))))))
   exact eX [.t 6 (Zlh),.t 7 (.one (dI 33))] ⟨⟨rfl,by kernel_rfl⟩,⟨⟨rfl,by kernel_rfl⟩,trivial⟩⟩ [0,1] (cg2 (fun (q1:List UInt8) (q2:Int)=>(.tup [.one (dS q1),.one (dI q2)]:AV)) p2a p3t) (ix (ix trivial))
  have hn9:¬(gS (Xu f u l) f seq (Ur x)) (x.getD k zE)≠0:=p5h;have ht9:=hq7
  refine cF (dF hq7) ?_
  refine T.skip ?_
  refine nB ?_
  refine nB ?_
  refine nT ?_
  refine xK [hR 1 rfl rfl (Ye (u1:=.int .i64 ((k:Nat):Int)) (u2:=.int .i64 1) (v:=.int .i64 ((k+1:Nat):Int)) (Wa pa) (X3 rfl) ⟨rfl,trivial⟩)] ?_
  refine nL (k+1) ⟨(show (k+1)≤x.length from (by omega)),(show ∀ i,i<(k+1)→X08 (gS (Xu f u l) f seq (Ur x)) x i=0 from (U5 hb (vot_3 hn9 ht9)))⟩ (show (x.length-(k+1):Nat)<x.length-k from (by omega)) (fun _ _ hG=>Yt [0,1] (bm 10 775) (t2:=[pv 0 0,vI seq,(Zlf x),aa,aa,aa,aa,aa,dv (Yh (vtV (Xu f u l) f (x.getD k zE) 5).X8),(Zlk k)]) p3k rfl hG)
 have hgd:digN (Xu f u l) f x k=Ft x k:=if_neg (by rw [show X0s k=false from dF (by omega)];decide)
 refine cF (dF hq4) ?_
 refine T.skip (nT ?_)
 refine T.block ?_
 refine sR [] ?_
 by_cases hq8:(vtE (Xu f u l) f (x.getD k zE) 5)≠0
 ·have hg9:=gS_1 (seq:=seq) (d:=Ur x) hq8;have hz9:=Eg (g:=gS (Xu f u l) f seq (Ur x)) (max 1 (2*f+1)) hb ((X6i (by rw [hg9];exact hq8)).trans hg9) hq8 (by omega);have hx9:=st_t hs0 hz9 hq8
  refine cT (dT hq8) ?_
  refine sR [] ?_
  refine T.ret (rB (rB (rT (rT (rB (rT ?_))))))
  exact eX [.t 6 (Zlh),.t 7 (.one (dI (vtE (Xu f u l) f (x.getD k zE) 5)))] ⟨⟨rfl,by kernel_rfl⟩,⟨⟨rfl,by kernel_rfl⟩,trivial⟩⟩ [0,1] (cg2 (fun (q1:List UInt8) (q2:Int)=>(.tup [.one (dS q1),.one (dI q2)]:AV)) p2a p3t) (ix (ix trivial))
 have hv9:=hq8;have hdn:=X9u hb (by omega) hv9;have hg9:gS (Xu f u l) f seq (Ur x) (x.getD k zE)=X0n seq (digN (Xu f u l) f x k) (vtV (Xu f u l) f (x.getD k zE) 5):=(gS_2 hv9).trans (by rw [hdn.1]);rw [hgd] at hg9
 refine cF (dF hq8) ?_
 refine sR [] ?_
 by_cases hq9:(vtV (Xu f u l) f (x.getD k zE) 5).Xo≠seq
 ·have he9:=hg9.trans (if_pos hq9);have hz9:=Eg (g:=gS (Xu f u l) f seq (Ur x)) (max 1 (2*f+1)) hb ((X6i (by rw [he9];decide)).trans he9) (by decide) (by omega);have hx9:=st_t hs0 hz9 (by decide)
  refine cT (dT hq9) ?_
  refine sR [] ?_
  refine T.ret (rB (rB (rT (rT (rB (rT ?_))))))
  exact eX [.t 6 (Zlh),.t 7 (.one (dI 131))] ⟨⟨rfl,by kernel_rfl⟩,⟨⟨rfl,by kernel_rfl⟩,trivial⟩⟩ [0,1] (cg2 (fun (q1:List UInt8) (q2:Int)=>(.tup [.one (dS q1),.one (dI q2)]:AV)) p2a p3t) (ix (ix trivial))
 have hq9:=hq9
 refine cF (dF hq9) ?_
 refine sR [] ?_
 by_cases hq10:(vtV (Xu f u l) f (x.getD k zE) 5).X8≠(Ft x k)
 ·have he9:=hg9.trans ((if_neg hq9).trans (if_pos hq10));have hz9:=Eg (g:=gS (Xu f u l) f seq (Ur x)) (max 1 (2*f+1)) hb ((X6i (by rw [he9];decide)).trans he9) (by decide) (by omega);have hx9:=st_t hs0 hz9 (by decide)
  refine cT (dT hq10) ?_
  refine sR [] ?_
  refine T.ret (rB (rB (rT (rT (rB (rT ?_))))))
  exact eX [.t 6 (Zlh),.t 7 (.one (dI 132))] ⟨⟨rfl,by kernel_rfl⟩,⟨⟨rfl,by kernel_rfl⟩,trivial⟩⟩ [0,1] (cg2 (fun (q1:List UInt8) (q2:Int)=>(.tup [.one (dS q1),.one (dI q2)]:AV)) p2a p3t) (ix (ix trivial))
 have he9:=hg9.trans ((if_neg hq9).trans (if_neg hq10));have hn9:¬(gS (Xu f u l) f seq (Ur x)) (x.getD k zE)≠0:=(by rw [he9];simp)
 refine cF (dF hq10) ?_
 refine sR [hR 2 rfl rfl (rCa (X6t x k (by omega) (by omega)) Tryz.func113 [] [(.tmp 51,(Zlf x)),(.tmp 52,vI ((k:Nat):Int))] 0 0)] ?_
 by_cases hq11:X09 x k
 ·have hn9:¬(gS (Xu f u l) f seq (Ur x)) (x.getD k zE)≠0:=(by exact hn9);have hz9:=Eg (g:=gS (Xu f u l) f seq (Ur x)) (max 1 (2*f+1)) hb (vot_2 hn9 hq11) (by decide) (by omega);have hx9:=st_t hs0 hz9 (by decide)
  refine cT (dT hq11) ?_
  refine sR [] ?_
  refine T.ret (rB (rB (rT (rT (rB (rT ?_))))))
  exact eX [.t 6 (Zlh),.t 7 (.one (dI 33))] ⟨⟨rfl,by kernel_rfl⟩,⟨⟨rfl,by kernel_rfl⟩,trivial⟩⟩ [0,1] (cg2 (fun (q1:List UInt8) (q2:Int)=>(.tup [.one (dS q1),.one (dI q2)]:AV)) p2a p3t) (ix (ix trivial))
 have hn9:¬(gS (Xu f u l) f seq (Ur x)) (x.getD k zE)≠0:=(by exact hn9);have ht9:=hq11
 refine cF (dF hq11) ?_
 refine T.skip ?_
 refine nB ?_
 refine nB ?_
 refine nT ?_
 refine xK [hR 1 rfl rfl (Ye (u1:=.int .i64 ((k:Nat):Int)) (u2:=.int .i64 1) (v:=.int .i64 ((k+1:Nat):Int)) (Wa pa) (X3 rfl) ⟨rfl,trivial⟩)] ?_
 refine nL (k+1) ⟨(show (k+1)≤x.length from (by omega)),(show ∀ i,i<(k+1)→X08 (gS (Xu f u l) f seq (Ur x)) x i=0 from (U5 hb (vot_3 hn9 ht9)))⟩ (show (x.length-(k+1):Nat)<x.length-k from (by omega)) (fun _ _ hG=>Yt [0,1] (bm 10 775) (t2:=[pv 0 0,vI seq,(Zlf x),aa,aa,aa,aa,aa,dv (Yh (Ft x k)),(Zlk k)]) p3k rfl hG)
end Go.Proofs.YtnaopgohccacmaaGreat.Q
namespace Go.Proofs.YtnaopgohccacmaaGreat.Q
open Go Go.RowKit
set_option linter.unusedVariables false
end Go.Proofs.YtnaopgohccacmaaGreat.Q
