import Derived.Test.YtnaopgohccacmaaGreatC19n37
namespace Go.Proofs.YtnaopgohccacmaaGreat.Q
open Go Go.RowKit
set_option linter.unusedVariables false
set_option linter.unusedSimpArgs false
set_option maxRecDepth 100000
set_option maxHeartbeats 4000000
section
variable (th:Bool) (nh:Bool) (hs:List Yb) (H:Int) (d:List UInt8) (k:Nat) (w:List UInt8)
abbrev Znl:AV:=slV th nh (X8 false) hs
abbrev Znn:AV:=vI (H-((k:Nat):Int))
abbrev Zno:AV:=vB (decide ((((hs.length:Nat):Int)-1-((k:Nat):Int))≥0))
abbrev Znp:List AV:=[(Znl th nh hs),(Znn H k),aa,aa,aa,aa,aa,vI (Fq hs d k),dv (Yk w),vI (((hs.length:Nat):Int)-1-((k:Nat):Int)),aa,aa,aa,aa,aa,(Zno hs k)]
abbrev Znq:List AV:=[(Znl th nh hs),(Znn H k),aa,aa,aa,aa,aa,vI (Fq hs d k),dv (Yk w),vI (((hs.length-1-k):Nat):Int),aa,aa,aa,aa,aa,(Zno hs k)]
abbrev Zns:AV:=vI ((H-((k:Nat):Int))-1)
abbrev Znt:AV:=vI ((((hs.length-1-k):Nat):Int)-1)
abbrev Znu:AV:=dv (Yk (hs.getD (hs.length-1-k) Xo).Y0)
end
theorem Xcc (th:Bool) (nh:Bool) (hs:List Yb) (H:Int) (d:List UInt8) (ho:okHs hs) (hn:hs.length≤1000) (hH:-9223372036854770000≤H∧H≤9223372036854775807):Holds Tryz.prog 46 ⟨[slV th nh (X8 false) hs,vI H,dv (Yk d)],[],vI (X95 hs H d),[]⟩:=by
 refine Holds.of Tryz.func46 rfl (N:=42) Tryz.ntmps46 rfl fun w0 B0 S0 U0=>?_
 show T _ (Y2 42 0 w0 S0 U0 B0) ⟨[(Znl th nh hs),vI H,dv (Yk d)],[]⟩ _ _
 refine sR [] (Xfm (sR [] (sR [] (T.seq ?_))))
 refine T.label (nT (T.seq (sR [hR 2 rfl rfl (Yd (u1:=.int .i64 ((hs.length:Nat):Int)) (u2:=.int .i64 1) (v:=.int .i64 (((hs.length:Nat):Int)-1)) (Ug pc) (X3 rfl) ⟨rfl,trivial⟩)] (T.block ?_))))
 refine T.loop (ι:=Nat×(List UInt8)) (fun (x_:Nat×(List UInt8))=>⟨[(Znl th nh hs),vI (H-((x_.1:Nat):Int)),aa,aa,aa,aa,aa,vI (Fq hs d x_.1),dv (Yk x_.2),vI (((hs.length:Nat):Int)-1-((x_.1:Nat):Int))],[]⟩) (fun (x_:Nat×(List UInt8))=>(x_.1≤hs.length)∧(X5v hs H x_.1)∧(Fv hs d x_.1→x_.1<hs.length→x_.2=X3k hs d (hs.length-1-x_.1))) (fun (x_:Nat×(List UInt8))=>hs.length-x_.1) (0,d) ⟨(Nat.zero_le _),hgt_0,(fun _ q=>(nxt_end q).symm)⟩ (fun _ _ hG=>Yv [] (bm 10 899) (t2:=[(Znl th nh hs),vI H,aa,aa,aa,aa,aa,vI 0,dv (Yk d),vI (((hs.length:Nat):Int)-1)]) (cg3 (fun (q1:Int) (q2:Int) (q3:Int)=>([(Znl th nh hs),vI q1,aa,aa,aa,aa,aa,vI q2,dv (Yk d),vI q3]:List AV)) (show (H-((0:Nat):Int):Int)=H from (by omega)) (by exact (if_pos dig_00)) (show (((hs.length:Nat):Int)-1-((0:Nat):Int):Int)=((hs.length:Nat):Int)-1 from (by omega))) rfl hG) ?_
 rintro ⟨k,w⟩ ⟨hk,hh,hw⟩
 show T _ _ ⟨[(Znl th nh hs),(Znn H k),aa,aa,aa,aa,aa,vI (Fq hs d k),dv (Yk w),vI (((hs.length:Nat):Int)-1-((k:Nat):Int))],[]⟩ _ _
 replace hk:k≤hs.length:=hk
 replace hh:X5v hs H k:=hh
 replace hw:Fv hs d k→k<hs.length→w=X3k hs d (hs.length-1-k):=hw
 refine T.seq (sR [] ?_)
 by_cases hq1:(((hs.length:Nat):Int)-1-((k:Nat):Int))≥0
 rotate_left
 ·have hz9:=lnk_end (d:=d) (by omega) hk hh
  refine cF (dF hq1) (T.exit (xT (xT (xH (nT (sR [] (T.ret (rS ?_))))))))
  exact eRt 6 (.one (dI (Fq hs d k))) [] p3p trivial
 have hkl:k<hs.length:=(by omega);have hok:=Xe4 ho (hs.length-1-k);have hok1:=hok.1;have hok2:=hok.2.1
 refine cT (dT hq1) (T.skip (nT (T.seq (T.block (T.seq ?_)))))
 refine tN ⟨(Znp th nh hs H d k w),[]⟩ ?_
 refine Wx (s':=⟨(Znq th nh hs H d k w),[]⟩) (fun _ _ hG=>Yv [] (bm 16 33667) (t2:=(Znp th nh hs H d k w)) (congrArg (fun (q1:Int)=>([(Znl th nh hs),(Znn H k),aa,aa,aa,aa,aa,vI (Fq hs d k),dv (Yk w),vI q1,aa,aa,aa,aa,aa,(Zno hs k)]:List AV)) (by omega)) rfl hG) (sR [hR 2 rfl rfl (We th nh (X8 false) hs (hs.length-1-k) (k:=.i64) (i:=(((hs.length-1-k):Nat):Int)) Tryz.underlying41 Jz rfl rfl (by omega) (X3 rfl) trivial)] ?_)
 by_cases hq2:(hs.getD (hs.length-1-k) Xo).Xg≠(H-((k:Nat):Int))
 ·have hz9:=lnk_h (d:=d) hkl hq2
  refine cT (dT hq2) (sR [] (T.ret (rT (rB (rT (rT (rB (rT (rS ?_)))))))))
  exact eRt 6 (.one (dI 100)) [] p3p trivial
 have hh9:=hgt_succ hkl hh hq2
 refine cF (dF hq2) (T.skip (nT (sR [hR 1 rfl rfl (Yd (u1:=.int .i64 (H-((k:Nat):Int))) (u2:=.int .i64 1) (v:=.int .i64 ((H-((k:Nat):Int))-1)) (Ug pc) (X3 rfl) ⟨rfl,trivial⟩)] (T.seq (sR [] ?_)))))
 by_cases hq3:(Fq hs d k)≠0
 ·have he9:=(Xex hq3).1;have hw9:Fv hs d (k+1)→k+1<hs.length→w=X3k hs d (hs.length-1-(k+1)):=fun q=>absurd q (Xex hq3).2
  refine cT (dT hq3) (T.exit (xT (xH (nT (xK [hR 1 rfl rfl (Yd (u1:=.int .i64 (((hs.length-1-k):Nat):Int)) (u2:=.int .i64 1) (v:=.int .i64 ((((hs.length-1-k):Nat):Int)-1)) (Ug pc) (X3 rfl) ⟨rfl,trivial⟩)] ?_)))))
  refine nL (k+1,w) ⟨(show (k+1)≤hs.length from (by omega)),(show X5v hs H (k+1) from hh9),(show Fv hs d (k+1)→(k+1)<hs.length→w=X3k hs d (hs.length-1-(k+1)) from hw9)⟩ (show (hs.length-(k+1):Nat)<hs.length-k from (by omega)) (fun _ _ hG=>Yv [] (bm 10 899) (t2:=[(Znl th nh hs),(Zns H k),aa,aa,aa,aa,aa,vI (Fq hs d k),dv (Yk w),(Znt hs k)]) (cg3 (fun (q1:Int) (q2:Int) (q3:Int)=>([(Znl th nh hs),vI q1,aa,aa,aa,aa,aa,vI q2,dv (Yk w),vI q3]:List AV)) (by omega) (by exact he9) (by omega)) rfl hG)
 have h7:=hq3
 refine cF (dF hq3) (T.skip (nT (T.seq (sR [hR 2 rfl rfl (We th nh (X8 false) hs (hs.length-1-k) (k:=.i64) (i:=(((hs.length-1-k):Nat):Int)) Tryz.underlying41 Jz rfl rfl (by omega) (X3 rfl) trivial),hR 4 rfl rfl (rCa (X4y (hs.getD (hs.length-1-k) Xo) ‹_› ‹_›) Tryz.func91 [] [(.tmp 32,.tv (.agg [dI (hs.getD (hs.length-1-k) Xo).Xg,dS (hs.getD (hs.length-1-k) Xo).Y0,dI (hs.getD (hs.length-1-k) Xo).Ye,dS (hs.getD (hs.length-1-k) Xo).W3]))] 0 0)] ?_))))
 by_cases hq4:(Fa (hs.getD (hs.length-1-k) Xo))≠w
 ·have he9:=(Xio hkl hw h7 hq4).1;have hw9:Fv hs d (k+1)→k+1<hs.length→(hs.getD (hs.length-1-k) Xo).Y0=X3k hs d (hs.length-1-(k+1)):=fun q=>absurd q (Xio hkl hw h7 hq4).2
  refine cT (dT hq4) (xK [] (nT (xK [hR 2 rfl rfl (We th nh (X8 false) hs (hs.length-1-k) (k:=.i64) (i:=(((hs.length-1-k):Nat):Int)) Tryz.underlying41 Jz rfl rfl (by omega) (X3 rfl) trivial)] (nB (nT (xK [hR 1 rfl rfl (Yd (u1:=.int .i64 (((hs.length-1-k):Nat):Int)) (u2:=.int .i64 1) (v:=.int .i64 ((((hs.length-1-k):Nat):Int)-1)) (Ug pc) (X3 rfl) ⟨rfl,trivial⟩)] ?_))))))
  refine nL (k+1,(hs.getD (hs.length-1-k) Xo).Y0) ⟨(show (k+1)≤hs.length from (by omega)),(show X5v hs H (k+1) from hh9),(show Fv hs d (k+1)→(k+1)<hs.length→(hs.getD (hs.length-1-k) Xo).Y0=X3k hs d (hs.length-1-(k+1)) from hw9)⟩ (show (hs.length-(k+1):Nat)<hs.length-k from (by omega)) (fun _ _ hG=>Yv [] (bm 10 899) (t2:=[(Znl th nh hs),(Zns H k),aa,aa,aa,aa,aa,vI 101,(Znu hs k),(Znt hs k)]) (cg3 (fun (q1:Int) (q2:Int) (q3:Int)=>([(Znl th nh hs),vI q1,aa,aa,aa,aa,aa,vI q2,(Znu hs k),vI q3]:List AV)) (by omega) (by exact he9) (by omega)) rfl hG)
 have he9:=err_good hkl hw h7 hq4;have hw9:Fv hs d (k+1)→k+1<hs.length→(hs.getD (hs.length-1-k) Xo).Y0=X3k hs d (hs.length-1-(k+1)):=fun _ q=>(nxt_prev q).symm
 refine cF (dF hq4) (T.skip (nT (xK [hR 2 rfl rfl (We th nh (X8 false) hs (hs.length-1-k) (k:=.i64) (i:=(((hs.length-1-k):Nat):Int)) Tryz.underlying41 Jz rfl rfl (by omega) (X3 rfl) trivial)] (nB (nT (xK [hR 1 rfl rfl (Yd (u1:=.int .i64 (((hs.length-1-k):Nat):Int)) (u2:=.int .i64 1) (v:=.int .i64 ((((hs.length-1-k):Nat):Int)-1)) (Ug pc) (X3 rfl) ⟨rfl,trivial⟩)] ?_))))))
 refine nL (k+1,(hs.getD (hs.length-1-k) Xo).Y0) ⟨(show (k+1)≤hs.length from (by omega)),(show X5v hs H (k+1) from hh9),(show Fv hs d (k+1)→(k+1)<hs.length→(hs.getD (hs.length-1-k) Xo).Y0=X3k hs d (hs.length-1-(k+1)) from hw9)⟩ (show (hs.length-(k+1):Nat)<hs.length-k from (by omega)) (fun _ _ hG=>Yv [] (bm 10 899) (t2:=[(Znl th nh hs),(Zns H k),aa,aa,aa,aa,aa,vI (Fq hs d k),(Znu hs k),(Znt hs k)]) (cg3 (fun (q1:Int) (q2:Int) (q3:Int)=>([(Znl th nh hs),vI q1,aa,aa,aa,aa,aa,vI q2,(Znu hs k),vI q3]:List AV)) (by omega) (by exact he9) (by omega)) rfl hG)
theorem Hw (f:Int) (u:Int) (rows:List (Yl×Bool)) (c:Wr) (hf:0≤f∧f≤2) (hu:0≤u∧u≤8) (hc:okC9 c):Holds Tryz.prog 14 ⟨[pv 0 0,.tv (.agg [dI c.Xs,.d (dsl false false (kE false) c.Xu),dU c.Xc,.d (dsl false false (X8 false) c.X2),dI c.Vp,dI c.Xl.X5,dU c.Xl.Xd,dI c.X0.Xt,dI c.X0.Xn,.d (dsl false false (Xa false) c.Yu)])],[.box 130 [dI (3*f+1),dI u,.mref 1],mpK Xx Yg rows],vI (c9E (Y5 f u rows) f c),[.live (.box 130 [dI (3*f+1),dI u,.mref 1]),.live (mpK Xx Yg rows)]⟩:=by
 refine Holds.of Tryz.func14 rfl (N:=58) Tryz.ntmps14 rfl fun w0 B0 S0 U0=>?_
 show T _ (Y2 58 2 w0 S0 U0 B0) ⟨[pv 0 0,.tv (.agg [dI c.Xs,.d (dsl false false (kE false) c.Xu),dU c.Xc,.d (dsl false false (X8 false) c.X2),dI c.Vp,dI c.Xl.X5,dU c.Xl.Xd,dI c.X0.Xt,dI c.X0.Xn,.d (dsl false false (Xa false) c.Yu)])],[.live (.box 130 [dI (3*f+1),dI u,.mref 1]),.live (mpK Xx Yg rows)]⟩ _ _
 obtain ⟨hc1,hc2,hc3,hc4,hc5,hc6,hc7⟩:=hc
 have hc8:-9223372036854775808≤c.Xs∧c.Xs≤9223372036854775807:=hc7
 have hg0:=Xe4 hc3 0
 have hg1:=hg0.2.2.1
 refine sR [] (sR [hR 7 rfl rfl (rCa (Xee f u rows c.Xs false false false c.Xu false false c.Xc ‹_› ‹_› ‹_› ‹_› ‹_›) Tryz.func22 [0,1] [(.tmp 9,pv 0 0),(.tmp 11,vI c.Xs),(.tmp 13,slV false false (kE false) c.Xu),(.tmp 15,slV false false kU8 c.Xc)] 2 2)] (T.seq ?_))
 by_cases hq1:(s9E (Y5 f u rows) f c.Xs c.Xu c.Xc)=0
 rotate_left
 ·have hz9:=c9_s hq1
  refine sR (Xm (hN · true (dF hq1)) [3,4,5,6,7] (hU 8::(hU 9::(hU 10::(hU 11::(hN 12 true (dF hq1)::(hP 13 (dF hq1)::[]))))))) (cF (b:=false) rfl (T.skip (nT (T.seq (sR [] (cF (dF hq1) (T.skip (nT (T.seq (sR [] ?_))))))))))
  by_cases hq5:(s9E (Y5 f u rows) f c.Xs c.Xu c.Xc)≠0
  ·have hz9:=c9_s hq5
   refine cT (dT hq5) (sR [] (T.ret (rT ?_)))
   exact eRt 4 (.one (dI (s9E (Y5 f u rows) f c.Xs c.Xu c.Xc))) [0,1] p3p (ix (ix trivial))
  exact absurd hq1 hq5
 have h0:¬s9E (Y5 f u rows) f c.Xs c.Xu c.Xc≠0:=fun w=>w hq1;have hs9:=s9_seq hq1
 by_cases hq2:((c.X2.length:Nat):Int)=0
 ·have hz9:=c9_n h0 (.inl (by omega))
  refine sR (Xm (hY · (dT hq1)) [3,4,5,6,7] (Xm (hN · false (dT hq2)) [8,9,10,11] (hS 12 (oY rfl rfl rfl rfl (X3 rfl) (dT hq1) (Wc (b:=(decide (((c.X2.length:Nat):Int)=0))) (av:=vB true) (X3 rfl) ⟨rfl,trivial⟩ (dT hq2)))::(hP 13 (dT hq1)::[])))) (cT (b:=true) rfl (xK [] (nT (T.seq (sR [] (cF (b:=false) rfl (T.skip (nT (T.seq (sR [] (cT (b:=true) rfl (sR [] (T.ret (rT ?_))))))))))))))
  exact eRt 4 (.one (dI 90)) [0,1] p3p (ix (ix trivial))
 refine sR (Xm (hY · (dT hq1)) [3,4,5,6,7] (Xm (hY · (dF hq2)) [8,9,10,11] (hS 12 (oY rfl rfl rfl rfl (X3 rfl) (dT hq1) (Wo (b:=(decide (((c.X2.length:Nat):Int)=0))) (av:=vB (decide (((c.X2.length:Nat):Int)>1000))) (X3 rfl) trivial (dF hq2)))::(hP 13 (dT hq1)::[])))) ?_
 by_cases hq3:((c.X2.length:Nat):Int)>1000
 ·have hz9:=c9_n h0 (.inr (by omega))
  refine cT (dT hq3) (xK [] (nT (T.seq (sR [] (cF (b:=false) rfl (T.skip (nT (T.seq (sR [] (cT (b:=true) rfl (sR [] (T.ret (rT ?_)))))))))))))
  exact eRt 4 (.one (dI 90)) [0,1] p3p (ix (ix trivial))
 have hn:¬(c.X2.length=0∨1000<c.X2.length):=(by omega)
 refine cF (dF hq3) (T.skip (nT (T.seq (sR [] (cT (dT hq1) (xK [hR 5 rfl rfl (rCa (Xcc false false c.X2 c.Xs (s9D (Y5 f u rows) f c.Xs c.Xu c.Xc) ‹_› (by omega) (by omega)) Tryz.func46 [] [(.tmp 37,slV false false (X8 false) c.X2),(.tmp 39,vI c.Xs),(.tmp 40,dv (Yk (s9D (Y5 f u rows) f c.Xs c.Xu c.Xc)))] 0 0)] (nT (T.seq (sR [] ?_)))))))))
 by_cases hq4:(X95 c.X2 c.Xs (s9D (Y5 f u rows) f c.Xs c.Xu c.Xc))≠0
 ·have hz9:=c9_l h0 hn hq4
  refine cT (dT hq4) (sR [] (T.ret (rT ?_)))
  exact eRt 4 (.one (dI (X95 c.X2 c.Xs (s9D (Y5 f u rows) f c.Xs c.Xu c.Xc)))) [0,1] p3p (ix (ix trivial))
 have hz9:=c9_i h0 hn hq4
 refine cF (dF hq4) (T.skip (nT ?_))
 refine sD [[],[0],[0,1],[0,1,2],[],[4],[],[6],[],[8],[],[10],[0,1,2,3,4,5,6,7,8,9,10,11],[0,1,2,3,4,5,6,7,8,9,10,11,12]] [hR 2 rfl rfl (We false false (X8 false) c.X2 0 (k:=.i64) (i:=0) Tryz.underlying41 Jz rfl rfl (by omega) (X3 rfl) ⟨rfl,trivial⟩),hR 12 rfl rfl (rCa (X9q (c.X2.getD 0 Xo) c.Vp false c.Xl c.X0 false false c.Yu ‹_› ‹_› ‹_›) Tryz.func47 [] [(.tmp 48,.tv (.agg [dI (c.X2.getD 0 Xo).Xg,dS (c.X2.getD 0 Xo).Y0,dI (c.X2.getD 0 Xo).Ye,dS (c.X2.getD 0 Xo).W3])),(.tmp 50,vI c.Vp),(.tmp 52,.tv (.agg [dI c.Xl.X5,dU c.Xl.Xd])),(.tmp 54,.tv (.agg [dI c.X0.Xt,dI c.X0.Xn])),(.tmp 56,slV false false (Xa false) c.Yu)] 0 0)] ?_
 refine T.ret ?_
 exact eRt 4 (.one (dI (I1 (c.X2.getD 0 Xo).W3 (Vr c.Xl c.X0) c.Vp (c.X2.getD 0 Xo).Ye c.Yu))) [0,1] p3p (ix (ix trivial))
section
variable (f:Int) (u:Int) (l:List aE) (c:Wr) (k:Nat) (k2:Nat)
end
theorem iat_49:Tryz.prog.info? 49=some Tryz.t49:=by kernel_rfl
theorem J0:Wide Tryz.prog 49 (some 10):=⟨_,_,Tryz.underlying49,.inl ⟨_,rfl⟩,iat_49,rfl⟩
theorem X4r:Elem Tryz.prog 41 69 4 48:=⟨Tryz.underlying41,_,_,Jz,rfl,rfl,rfl,rfl,by decide⟩
section
variable (d:List UInt8) (l:List Yq) (seq:Int) (x:List aE) (b:List UInt8) (h:Int) (i:Int) (k:Nat) (k2:Nat)
abbrev Zob:AV:=slV false false (kE false) x
abbrev Zoc:HS:=.live (.box 149 [dI 0,dS d,dB true,.own 1 (Xk false).sz 0 l.length])
abbrev Zod:HS:=.live (Xf 152 (Xk false) l)
abbrev Zoe:AV:=vI (unH ((b.length:Nat):Int) b)
abbrev Zof:AV:=vI (unE ((b.length:Nat):Int) b)
abbrev Zog:List AV:=[pv 0 0,vI seq,(Zob x),slV false false kU8 b,vI h,vI i,aa,aa,aa,aa,aa,aa,pv 2 0,vI 12,(Zoe b),aa,aa,(Zof b),aa,aa,aa,aa,aa,aa,aa,aa,aa,aa,aa,aa,aa,aa,aa,aa,aa,aa,aa,aa,aa,aa,vB true]
abbrev Zoh:SV:=.d (.val (.slice none 0 0))
abbrev Zoi:HS:=.live (.box 49 [dI 0,Zoh,Zoh,Zoh,dI 0,dI 0,Zoh,dI 0,dI 0,Zoh])
abbrev Zoj:List HS:=[(Zoc d l),(Zod l),Zoi]
abbrev Zok:SV:=.d (dsl false false (kE false) ([]:List aE))
abbrev Zol:SV:=dU ([]:List UInt8)
abbrev Zom:SV:=.d (dsl false false (X8 false) ([]:List Yb))
abbrev Zon:SV:=.d (dsl false false (Xa false) ([]:List Xz))
abbrev Zoo:List SV:=[dI 0,Zok,Zol,Zom,dI 0,dI 0,Zol,dI 0,dI 0,Zon]
abbrev Zop:List HS:=[(Zoc d l),(Zod l),.live (.box 49 Zoo)]
abbrev Zoq:AV:=vB (decide ((unH ((b.length:Nat):Int) b)≠seq))
abbrev Zor:List AV:=[pv 0 0,vI seq,(Zob x),slV false false kU8 b,vI h,vI i,aa,aa,aa,aa,aa,aa,pv 2 0,vI 12,(Zoe b),aa,aa,(Zof b),aa,aa,aa,aa,aa,aa,aa,aa,aa,aa,aa,aa,aa,aa,aa,aa,aa,aa,aa,aa,aa,aa,(Zoq seq b)]
abbrev Zos:List AV:=[pv 0 0,vI seq,(Zob x),slV false false kU8 b,vI h,vI i,aa,aa,aa,aa,aa,aa,pv 2 0,vI 2,(Zoe b),aa,aa,(Zof b),aa,aa,aa,aa,aa,aa,aa,aa,aa,aa,aa,aa,aa,aa,aa,aa,aa,aa,aa,aa,aa,aa,(Zoq seq b),aa,aa,aa,aa,aa,aa,aa,aa,aa,aa,aa,aa,aa,vB true]
abbrev Zot:TV:=.one (dI 2)
abbrev Zou:AV:=vB (decide ((seq-h)>999))
abbrev Zov:List AV:=[pv 0 0,vI seq,(Zob x),slV false false kU8 b,vI h,vI i,aa,aa,aa,aa,aa,aa,pv 2 0,vI 2,(Zoe b),aa,aa,(Zof b),aa,aa,aa,aa,aa,aa,aa,aa,aa,aa,aa,aa,aa,aa,aa,aa,aa,aa,aa,aa,aa,aa,(Zoq seq b),aa,aa,aa,aa,aa,aa,aa,aa,aa,aa,aa,aa,aa,(Zou seq h)]
abbrev Zow:AV:=vI ((x.length:Nat):Int)
abbrev Zox:List AV:=[pv 0 0,vI seq,(Zob x),slV false false kU8 b,vI h,vI i,aa,aa,aa,aa,aa,aa,pv 2 0,vI 0,(Zoe b),aa,aa,(Zof b),pv 4 0,aa,aa,aa,aa,aa,aa,aa,aa,aa,aa,aa,aa,aa,aa,aa,aa,aa,aa,aa,aa,aa,(Zoq seq b),aa,aa,aa,aa,aa,aa,aa,aa,aa,aa,aa,aa,aa,(Zou seq h),aa,aa,aa,aa,aa,aa,(Zob x),(Zow x),vI 0]
abbrev Zoy:SV:=dI seq
abbrev Zoz:SV:=.own 3 kU8.sz 0 b.length
abbrev Zp0:List HS:=[(Zoc d l),(Zod l),Zoi,.live (Xf 5 kU8 b),.live (.box 49 [(Zoy seq),.own 5 (kE false).sz 0 0,(Zoz b),Zoh,dI i,dI 0,Zoh,dI 0,dI 0,Zoh]),.live (Xf 43 (kE false) ([]:List aE))]
abbrev Zp1:List AV:=[pv 0 0,vI seq,(Zob x),slV false false kU8 b,vI h,vI i,aa,aa,aa,aa,aa,aa,pv 2 0,vI 0,(Zoe b),aa,aa,(Zof b),pv 4 0,aa,aa,aa,aa,aa,aa,aa,aa,aa,aa,aa,aa,aa,aa,aa,aa,aa,aa,aa,aa,aa,(Zoq seq b),aa,aa,aa,aa,aa,aa,aa,aa,aa,aa,aa,aa,aa,(Zou seq h),aa,aa,aa,aa,aa,aa,(Zob x),(Zow x),vI ((k:Nat):Int)]
abbrev Zp2:List HS:=[(Zoc d l),(Zod l),Zoi,.live (Xf 5 kU8 b),.live (.box 49 [(Zoy seq),.own 5 (kE false).sz 0 (x.take k).length,(Zoz b),Zoh,dI i,dI 0,Zoh,dI 0,dI 0,Zoh]),.live (Xf 43 (kE false) (x.take k))]
abbrev Zp4:List AV:=[pv 0 0,vI seq,(Zob x),slV false false kU8 b,vI h,vI i,aa,aa,aa,aa,aa,aa,pv 2 0,vI 0,(Zoe b),aa,aa,(Zof b),pv 4 0,aa,aa,aa,aa,aa,aa,aa,aa,aa,aa,aa,aa,aa,aa,aa,aa,aa,aa,aa,aa,aa,(Zoq seq b),aa,aa,aa,aa,aa,aa,aa,aa,aa,aa,aa,aa,aa,(Zou seq h),aa,aa,aa,aa,aa,aa,(Zob x),(Zow x),vI ((k+1:Nat):Int)]
abbrev Zp5:List AV:=[pv 0 0,vI seq,aa,aa,vI h,vI i,aa,aa,aa,aa,aa,aa,pv 2 0,aa,aa,aa,aa,aa,pv 4 0]
abbrev Zp6:SV:=.own 5 (kE false).sz 0 x.length
abbrev Zp7:HS:=.live (.box 49 [(Zoy seq),(Zp6 x),(Zoz b),Zoh,dI i,dI 0,Zoh,dI 0,dI 0,Zoh])
abbrev Zp8:HS:=.live (Xf 43 (kE false) x)
abbrev Zp9:List AV:=[pv 0 0,vI seq,aa,aa,vI h,vI i,aa,aa,aa,aa,aa,aa,pv 2 0,aa,aa,aa,aa,aa,pv 4 0,aa,aa,pv 6 0,vI h]
abbrev Zpa:HS:=.live (.box 65 [dI 0,dS [],Zoh,Zoh])
abbrev Zpb:HS:=.live (.box 49 [(Zoy seq),(Zp6 x),(Zoz b),.own 7 (X8 false).sz 0 0,dI i,dI 0,Zoh,dI 0,dI 0,Zoh])
abbrev Zpc:HS:=.live (Xf 69 (X8 false) ([]:List Yb))
abbrev Zpd:HS:=.live (.box 65 [dI 0,dS [],Zok,.d (dsl false false (Xe false) ([]:List Y6))])
abbrev Zpe:AV:=vI (h+((k2:Nat):Int))
abbrev Zpf:List AV:=[pv 0 0,vI seq,aa,aa,vI h,vI i,aa,aa,aa,aa,aa,aa,pv 2 0,aa,aa,aa,aa,aa,pv 4 0,aa,aa,pv 6 0,(Zpe h k2)]
abbrev Zpg:SV:=.own 7 (X8 false).sz 0 (hdrs (Yz 0 l) h k2).length
abbrev Zph:HS:=.live (.box 49 [(Zoy seq),(Zp6 x),(Zoz b),(Zpg l h k2),dI i,dI 0,Zoh,dI 0,dI 0,Zoh])
abbrev Zpi:HS:=.live (.box 65 [dI (Hc (Yz 0 l) h k2).Xg,dS (Hc (Yz 0 l) h k2).Y0,.d (dsl false false (kE false) (Hc (Yz 0 l) h k2).Xb),.d (dsl false false (Xe false) (Hc (Yz 0 l) h k2).Xj)])
abbrev Zpj:HS:=.live (Xf 69 (X8 false) (hdrs (Yz 0 l) h k2))
abbrev Zpk:List HS:=[(Zoc d l),(Zod l),Zoi,.live (Xf 5 kU8 b),(Zph l seq x b h i k2),(Zp8 x),(Zpi l h k2),(Zpj l h k2)]
abbrev Zpn:AV:=vB (decide ((h+((k2:Nat):Int))≤seq))
abbrev Zpo:List AV:=[pv 0 0,vI seq,aa,aa,vI h,vI i,aa,aa,aa,aa,aa,aa,pv 2 0,vI 4,aa,aa,aa,aa,pv 4 0,aa,aa,pv 6 0,(Zpe h k2),pv 8 0,vI (X0t 0 l.length (h+((k2:Nat):Int))),aa,aa,aa,aa,aa,aa,aa,aa,aa,aa,aa,aa,aa,aa,aa,aa,aa,aa,aa,aa,aa,aa,aa,aa,aa,aa,aa,aa,aa,aa,aa,aa,aa,aa,aa,aa,aa,aa,aa,aa,aa,aa,aa,aa,aa,aa,aa,aa,aa,aa,aa,aa,aa,aa,aa,aa,(Zpn seq h k2),aa,aa,aa,aa,aa,aa,aa,aa,aa,vB (decide ((X0t 0 l.length (h+((k2:Nat):Int)))≠0))]
abbrev Zpp:List SV:=[dI (Yz 0 l (h+((k2:Nat):Int))).Xg,dS (Yz 0 l (h+((k2:Nat):Int))).Y0,.d (dsl false false (kE false) (Yz 0 l (h+((k2:Nat):Int))).Xb),.d (dsl false false (Xe false) (Yz 0 l (h+((k2:Nat):Int))).Xj)]
abbrev Zpq:=(Wp (Yz 0 l (h+((k2:Nat):Int))))
abbrev Zpr:TV:=.agg [dI (Zpq l h k2).Xg,dS (Zpq l h k2).Y0,dI (Zpq l h k2).Ye,dS (Zpq l h k2).W3]
abbrev Zps:List AV:=[pv 0 0,vI seq,aa,aa,vI h,vI i,aa,aa,aa,aa,aa,aa,pv 2 0,aa,aa,aa,aa,aa,pv 4 0,aa,aa,pv 6 0,vI (h+(((k2+1):Nat):Int))]
abbrev Zpt:HS:=.live (.box 65 [dI (Hc (Yz 0 l) h (k2+1)).Xg,dS (Hc (Yz 0 l) h (k2+1)).Y0,.d (dsl false false (kE false) (Hc (Yz 0 l) h (k2+1)).Xb),.d (dsl false false (Xe false) (Hc (Yz 0 l) h (k2+1)).Xj)])
abbrev Zpv:List AV:=[pv 0 0,vI seq,aa,aa,vI h,vI i,aa,aa,aa,aa,aa,aa,pv 2 0,aa,aa,aa,aa,aa,pv 4 0,aa,aa,pv 6 0,vI ((h+((k2:Nat):Int))+1)]
abbrev Zpw:List HS:=[(Zoc d l),(Zod l),Zoi,.live (Xf 5 kU8 b),.live (.box 49 [(Zoy seq),(Zp6 x),(Zoz b),.own 10 (X8 false).sz 0 (hdrs (Yz 0 l) h (k2+1)).length,dI i,dI 0,Zoh,dI 0,dI 0,Zoh]),(Zp8 x),(Zpt l h k2),.live (Xf 69 (X8 false) (hdrs (Yz 0 l) h (k2+1)))]
abbrev Zpx:HS:=.live (.box 49 [(Zoy seq),(Zp6 x),(Zoz b),.own 10 (X8 false).sz 0 ((hdrs (Yz 0 l) h k2)++[(Zpq l h k2)]).length,dI i,dI 0,Zoh,dI 0,dI 0,Zoh])
abbrev Zpy:List AV:=[pv 0 0,vI seq,aa,aa,vI h,vI i,aa,aa,aa,aa,aa,aa,pv 2 0,aa,aa,aa,aa,aa,pv 4 0,aa,aa,pv 6 0,(Zpe h k2),aa,aa,aa,aa,aa,aa,aa,aa,aa,aa,aa,aa,aa,aa,aa,aa,aa,aa,aa,aa,aa,aa,aa,aa,aa,aa,aa,aa,aa,aa,aa,aa,aa,aa,aa,aa,aa,aa,aa,aa,aa,aa,aa,aa,aa,aa,aa,aa,aa,aa,aa,aa,aa,aa,aa,aa,aa,aa,(Zpn seq h k2)]
abbrev Zpz:List SV:=[dI (Yz 0 l h).Xg,dS (Yz 0 l h).Y0,.d (dsl false false (kE false) (Yz 0 l h).Xb),.d (dsl false false (Xe false) (Yz 0 l h).Xj)]
abbrev Zq0:List HS:=[(Zoc d l),(Zod l),Zoi,.live (Xf 5 kU8 b),(Zph l seq x b h i k2),(Zp8 x),.live (.box 65 (Zpz l h)),(Zpj l h k2)]
abbrev Zq1:List AV:=[pv 0 0,vI seq,aa,aa,vI h,vI i,aa,aa,aa,aa,aa,aa,pv 2 0,vI (J8 (Yz 0 l h) i),aa,aa,aa,aa,pv 4 0,aa,aa,pv 6 0,(Zpe h k2),aa,aa,slV false false (Xa false) (Is (Yz 0 l h) i),vI (J8 (Yz 0 l h) i),aa,aa,aa,aa,aa,aa,aa,aa,aa,aa,aa,aa,aa,aa,aa,aa,aa,aa,aa,aa,aa,aa,aa,aa,aa,aa,aa,aa,aa,aa,aa,aa,aa,aa,aa,aa,aa,aa,aa,aa,aa,aa,aa,aa,aa,aa,aa,aa,aa,aa,aa,aa,aa,aa,(Zpn seq h k2),aa,aa,aa,aa,aa,aa,aa,aa,aa,aa,aa,aa,aa,aa,aa,aa,aa,aa,aa,aa,aa,aa,aa,aa,aa,aa,aa,aa,aa,vB (decide ((J8 (Yz 0 l h) i)≠0))]
abbrev Zq2:List AV:=[pv 0 0,vI seq,aa,aa,vI h,vI i,aa,aa,aa,aa,aa,aa,pv 2 0,vI 0,aa,aa,aa,aa,pv 4 0,aa,aa,pv 6 0,(Zpe h k2),aa,aa,slV false false (Xa false) (Is (Yz 0 l h) i),vI (J8 (Yz 0 l h) i),aa,aa,aa,aa,aa,aa,aa,aa,aa,aa,aa,aa,aa,aa,aa,aa,aa,aa,aa,aa,aa,aa,aa,aa,aa,aa,aa,aa,aa,aa,aa,aa,aa,aa,aa,aa,aa,aa,aa,aa,aa,aa,aa,aa,aa,aa,aa,aa,aa,aa,aa,aa,aa,aa,(Zpn seq h k2),aa,aa,aa,aa,aa,aa,aa,aa,aa,aa,aa,aa,aa,aa,aa,aa,aa,aa,aa,aa,aa,aa,aa,aa,aa,aa,aa,aa,aa,vB (decide ((J8 (Yz 0 l h) i)≠0))]
abbrev Zq3:SV:=dI ((Yz 0 l h).Xb.getD (i).toNat zE).X5
abbrev Zq4:SV:=dU ((Yz 0 l h).Xb.getD (i).toNat zE).Xd
abbrev Zq5:SV:=dI ((Yz 0 l h).Xj.getD (i).toNat Yj).Xt
abbrev Zq6:SV:=dI ((Yz 0 l h).Xj.getD (i).toNat Yj).Xn
abbrev Zq7:SV:=.d (dsl false false (Xa false) (Is (Yz 0 l h) i))
abbrev Zq8:HS:=.live (.box 49 [(Zoy seq),(Zp6 x),(Zoz b),(Zpg l h k2),dI i,(Zq3 l h i),(Zq4 l h i),(Zq5 l h i),(Zq6 l h i),(Zq7 l h i)])
abbrev Zq9:SV:=.d (dsl false false (kE false) x)
abbrev Zqa:St:=⟨(Zq2 l seq h i k2),[(Zoc d l),(Zod l),.live (.box 49 [(Zoy seq),(Zq9 x),(Zoz b),(Zpg l h k2),dI i,(Zq3 l h i),(Zq4 l h i),(Zq5 l h i),(Zq6 l h i),(Zq7 l h i)]),.live (Xf 5 kU8 b),.live (.box 49 [(Zoy seq),(Zq9 x),(Zoz b),(Zpg l h k2),dI i,(Zq3 l h i),(Zq4 l h i),(Zq5 l h i),(Zq6 l h i),(Zq7 l h i)]),.dead,.live (.box 65 (Zpz l h)),(Zpj l h k2)]⟩
abbrev Zqb:HS:=.live (.box 49 [(Zoy seq),(Zq9 x),dU b,(Zpg l h k2),dI i,(Zq3 l h i),(Zq4 l h i),(Zq5 l h i),(Zq6 l h i),(Zq7 l h i)])
abbrev Zqc:St:=⟨(Zq2 l seq h i k2),[(Zoc d l),(Zod l),(Zqb l seq x b h i k2),.dead,(Zqb l seq x b h i k2),.dead,.live (.box 65 (Zpz l h)),(Zpj l h k2)]⟩
abbrev Zqd:List SV:=[(Zoy seq),(Zq9 x),dU b,.d (dsl false false (X8 false) (hdrs (Yz 0 l) h k2)),dI i,(Zq3 l h i),(Zq4 l h i),(Zq5 l h i),(Zq6 l h i),(Zq7 l h i)]
end
theorem X6s (d:List UInt8) (l:List Yq) (seq:Int) (x:List aE) (b:List UInt8) (h:Int) (i:Int) (hl:l.length≤100) (hw:Xbd l) (hx:X16 x) (hb:b.length≤100000000) (hsq:-9223372036854775808≤seq∧seq≤9223372036854775807) (hh:-9223372036854775808≤h∧h≤9223372036854775807) (hi:-9223372036854775808≤i∧i≤9223372036854775807):Holds Tryz.prog 17 ⟨[pv 0 0,vI seq,slV false false (kE false) x,slV false false kU8 b,vI h,vI i],[.box 149 [dI 0,dS d,dB true,.own 1 (Xk false).sz 0 l.length],Xf 152 (Xk false) l],.tup [.agg [dI (Vc (Yz 0 l) l.length seq x b h i).Xs,.d (dsl false false (kE false) (Vc (Yz 0 l) l.length seq x b h i).Xu),dU (Vc (Yz 0 l) l.length seq x b h i).Xc,.d (dsl false false (X8 false) (Vc (Yz 0 l) l.length seq x b h i).X2),dI (Vc (Yz 0 l) l.length seq x b h i).Vp,dI (Vc (Yz 0 l) l.length seq x b h i).Xl.X5,dU (Vc (Yz 0 l) l.length seq x b h i).Xl.Xd,dI (Vc (Yz 0 l) l.length seq x b h i).X0.Xt,dI (Vc (Yz 0 l) l.length seq x b h i).X0.Xn,.d (dsl false false (Xa false) (Vc (Yz 0 l) l.length seq x b h i).Yu)],.one (dI (Hy (Yz 0 l) l.length seq b h i))],[.live (.box 149 [dI 0,dS d,dB true,.own 1 (Xk false).sz 0 l.length]),.live (Xf 152 (Xk false) l)]⟩:=by
 refine Holds.of Tryz.func17 rfl (N:=129) Tryz.ntmps17 rfl fun w0 B0 S0 U0=>?_
 show T _ (Y2 129 2 w0 S0 U0 B0) ⟨[pv 0 0,vI seq,(Zob x),slV false false kU8 b,vI h,vI i],[(Zoc d l),(Zod l)]⟩ _ _
 have hx1:=hx.1
 have hfw:=fun y=>blk_few hw y
 have hfh:=hfw h
 refine sR [] (T.seq (sR [hR 1 rfl rfl (rCa (X34 false false b ‹_›) Tryz.func50 [] [(.tmp 28,slV false false kU8 b)] 0 0)] ?_))
 by_cases hq1:(unE ((b.length:Nat):Int) b)≠0
 ·have h3:=hq1;have hx9:=X4d (bf:=(Yz 0 l)) (n:=l.length) (seq:=seq) (x:=x) (b:=b) (h:=h) (i:=i) (.inl h3)
  refine sR (Xm (hN · false (dT hq1)) [3,4,5] (hP 6 (dT hq1)::[])) (cT (b:=true) rfl (sR [] (T.ret (rT ?_))))
  refine eN ⟨(Zog seq x b h i),(Zoj d l)⟩ ?_
  refine X7 (s':=⟨(Zog seq x b h i),(Zop d l)⟩) (fun _ _ hG=>Yt (s:=⟨(Zog seq x b h i),(Zoj d l)⟩) ⟨.inl rfl,p3m⟩ p36 hG) ?_
  exact eX [.c 12 2 49 0 49 [dI 0,Zok,Zol,Zom,dI 0,dI 0,Zol,dI 0,dI 0,Zon] (.agg Zoo),.t 13 (.one (dI 12))] ⟨⟨rfl,rfl,by kernel_rfl,by kernel_rfl,.inl ⟨10,J0,rfl,Nat.le_of_ble_eq_true rfl⟩⟩,⟨⟨rfl,by kernel_rfl⟩,trivial⟩⟩ [0,1] pZ4 (ix (ix trivial))
 have h3:=hq1;have hur:=un_rng h3
 refine sR (Xm (hY · (dF hq1)) [3,4,5] (hP 6 (dF hq1)::[])) ?_
 by_cases hq2:(unH ((b.length:Nat):Int) b)≠seq
 ·have h4:=hq2;have hx9:=X4d (bf:=(Yz 0 l)) (n:=l.length) (seq:=seq) (x:=x) (b:=b) (h:=h) (i:=i) (.inr h4)
  refine cT (dT hq2) (sR [] (T.ret (rT ?_)))
  refine eN ⟨(Zor seq x b h i),(Zoj d l)⟩ ?_
  refine X7 (s':=⟨(Zor seq x b h i),(Zop d l)⟩) (fun _ _ hG=>Yt (s:=⟨(Zor seq x b h i),(Zoj d l)⟩) ⟨.inl rfl,p3m⟩ p36 hG) ?_
  exact eX [.c 12 2 49 0 49 [dI 0,Zok,Zol,Zom,dI 0,dI 0,Zol,dI 0,dI 0,Zon] (.agg Zoo),.t 13 (.one (dI 12))] ⟨⟨rfl,rfl,by kernel_rfl,by kernel_rfl,.inl ⟨10,J0,rfl,Nat.le_of_ble_eq_true rfl⟩⟩,⟨⟨rfl,by kernel_rfl⟩,trivial⟩⟩ [0,1] pZ4 (ix (ix trivial))
 have h4:=hq2; 
 refine cF (dF hq2) (T.skip (nT (T.seq ?_)))
 by_cases hq3:h<1
 ·have hx9:=X2l (bf:=(Yz 0 l)) (n:=l.length) (seq:=seq) (x:=x) (b:=b) (h:=h) (i:=i) h3 h4 (by omega)
  refine sR (Xm (hN · false (dT hq3)) [3,4,5] (hP 6 (dT hq3)::(Xm hN0 [8,9,10,11] (hP1 12::[])))) (cT (b:=true) rfl (sR [] (T.ret (rT ?_))))
  refine eN ⟨(Zos seq x b h i),(Zoj d l)⟩ ?_
  refine X7 (s':=⟨(Zos seq x b h i),(Zop d l)⟩) (fun _ _ hG=>Yt (s:=⟨(Zos seq x b h i),(Zoj d l)⟩) ⟨.inl rfl,(kk2 (kk4 p37))⟩ p36 hG) ?_
  exact eX [.c 12 2 49 0 49 [dI 0,Zok,Zol,Zom,dI 0,dI 0,Zol,dI 0,dI 0,Zon] (.agg Zoo),.t 13 (Zot)] ⟨⟨rfl,rfl,by kernel_rfl,by kernel_rfl,.inl ⟨10,J0,rfl,Nat.le_of_ble_eq_true rfl⟩⟩,⟨⟨rfl,by kernel_rfl⟩,trivial⟩⟩ [0,1] pZ4 (ix (ix trivial))
 by_cases hq4:h>seq
 ·have hx9:=X2l (bf:=(Yz 0 l)) (n:=l.length) (seq:=seq) (x:=x) (b:=b) (h:=h) (i:=i) h3 h4 (by omega)
  refine sR (Xm (hY · (dF hq3)) [3,4,5] (hP 6 (dF hq3)::(Xm (hN · false (dT hq4)) [8,9,10,11] (hP 12 (dT hq4)::[])))) (cT (b:=true) rfl (sR [] (T.ret (rT ?_))))
  refine eN ⟨(Zos seq x b h i),(Zoj d l)⟩ ?_
  refine X7 (s':=⟨(Zos seq x b h i),(Zop d l)⟩) (fun _ _ hG=>Yt (s:=⟨(Zos seq x b h i),(Zoj d l)⟩) ⟨.inl rfl,(kk2 (kk4 p37))⟩ p36 hG) ?_
  exact eX [.c 12 2 49 0 49 [dI 0,Zok,Zol,Zom,dI 0,dI 0,Zol,dI 0,dI 0,Zon] (.agg Zoo),.t 13 (Zot)] ⟨⟨rfl,rfl,by kernel_rfl,by kernel_rfl,.inl ⟨10,J0,rfl,Nat.le_of_ble_eq_true rfl⟩⟩,⟨⟨rfl,by kernel_rfl⟩,trivial⟩⟩ [0,1] pZ4 (ix (ix trivial))
 refine sR (Xm (hY · (dF hq3)) [3,4,5] (hP 6 (dF hq3)::(hY 8 (dF hq4)::(hY 9 (dF hq4)::(hS 10 (oY rfl rfl rfl rfl (X3 rfl) (dF hq4) (Yd (u1:=.int .i64 seq) (u2:=.int .i64 h) (v:=.int .i64 (seq-h)) (Ug pc) (X3 rfl) p1s))::(hY 11 (dF hq4)::(hP 12 (dF hq4)::[]))))))) ?_
 by_cases hq5:(seq-h)>999
 ·have hx9:=X2l (bf:=(Yz 0 l)) (n:=l.length) (seq:=seq) (x:=x) (b:=b) (h:=h) (i:=i) h3 h4 (by omega)
  refine cT (dT hq5) (sR [] (T.ret (rT ?_)))
  refine eN ⟨(Zov seq x b h i),(Zoj d l)⟩ ?_
  refine X7 (s':=⟨(Zov seq x b h i),(Zop d l)⟩) (fun _ _ hG=>Yt (s:=⟨(Zov seq x b h i),(Zoj d l)⟩) ⟨.inl rfl,(kk2 (kk4 p37))⟩ p36 hG) ?_
  exact eX [.c 12 2 49 0 49 [dI 0,Zok,Zol,Zom,dI 0,dI 0,Zol,dI 0,dI 0,Zon] (.agg Zoo),.t 13 (Zot)] ⟨⟨rfl,rfl,by kernel_rfl,by kernel_rfl,.inl ⟨10,J0,rfl,Nat.le_of_ble_eq_true rfl⟩⟩,⟨⟨rfl,by kernel_rfl⟩,trivial⟩⟩ [0,1] pZ4 (ix (ix trivial))
 have h5:¬(h<1∨h>seq∨seq-h>999):=(by omega)
 refine cF (dF hq5) (T.skip (nT (sR [hR 2 rfl rfl (rCa (Fs false false b (by omega)) Tryz.func51 [3] [(.tmp 57,slV false false kU8 b)] 0 1)] (T.seq (sR [] (T.block ?_))))))
 refine tN ⟨(Zox seq x b h i),[(Zoc d l),(Zod l),Zoi,.live (Xf 5 kU8 b),.live (.box 49 [(Zoy seq),Zoh,(Zoz b),Zoh,dI i,dI 0,Zoh,dI 0,dI 0,Zoh])]⟩ ?_
 refine Wx (s':=⟨(Zox seq x b h i),(Zp0 d l seq b i)⟩) (fun _ _ hG=>J7 5 4 1 43 (kE false) (Tb:=49) (cs:=[(Zoy seq),Zoh,(Zoz b),Zoh,dI i,dI 0,Zoh,dI 0,dI 0,Zoh]) rfl rfl rfl hG) ?_
 refine T.loop (ι:=Nat) (fun (k:Nat)=>⟨(Zp1 seq x b h i k),(Zp2 d l seq x b i k)⟩) (fun (k:Nat)=>(k≤x.length)) (fun (k:Nat)=>x.length-k) (0) (Nat.zero_le _) (fun _ _ hG=>Yv [0,1,2,3,4,5] (bm 64 16158916562517389375) (h2:=(Zp0 d l seq b i)) rfl (cg2 (fun (q1:Nat) (q2:List aE)=>([(Zoc d l),(Zod l),Zoi,.live (Xf 5 kU8 b),.live (.box 49 [(Zoy seq),.own 5 (kE false).sz 0 q1,(Zoz b),Zoh,dI i,dI 0,Zoh,dI 0,dI 0,Zoh]),.live (Xf 43 (kE false) q2)]:List HS)) (by rfl) (by rfl)) hG) ?_
 rintro k hk
 show T _ _ ⟨(Zp1 seq x b h i k),(Zp2 d l seq x b i k)⟩ _ _
 replace hk:k≤x.length:=hk
 have htk:(x.take k).length=k:=p1p
 refine sR [] (T.seq ?_)
 by_cases hq6:((k:Nat):Int)<((x.length:Nat):Int)
 ·have hgk:=X90 hx (k:=k) (by omega);have hgk1:=hgk.1.1;have hgk2:=hgk.1.2;have hgk3:=hgk.2
  refine cT (dT hq6) (T.skip (nT (T.seq (T.block (sR [hR 0 rfl rfl (We false false (kE false) x k (k:=.i64) (i:=((k:Nat):Int)) Tryz.underlying37 Vi rfl rfl (by omega) (X3 rfl) trivial)] (sR [hR 2 rfl rfl (rCa (Fs false false (x.getD k zE).Xd (by omega)) Tryz.func51 [7] [(.tmp 68,slV false false kU8 (x.getD k zE).Xd)] 0 1)] ?_))))))
  refine xR [hR 3 rfl rfl (Uz 0 73 7 5 kU8 (x.getD k zE).Xd (av:=.tv (.agg [dI (x.getD k zE).X5,.own 7 kU8.sz 0 (x.getD k zE).Xd.length])) (Yc 8 43 (kE false) (W4 false) [(x.getD k zE)] [⟨0,.tmp 73,.agg [dI (x.getD k zE).X5,dU (x.getD k zE).Xd],0⟩] (cs:=[dI (x.getD k zE).X5,dU (x.getD k zE).Xd]) Tryz.underlying37 Vi rfl F4 rfl rfl rfl pd (Yr rfl rfl pd W5) pZ8 (V4 pZ8) (X3 rfl) trivial) rfl p52 X71 rfl rfl),hR 4 rfl rfl (W2 5 9 43 32 (kE false) (W4 false) (x.take k) [(x.getD k zE)] ((x.take k)++[(x.getD k zE)]) (x.take k).length (sy:=(.own 8 (kE false).sz 0 [(x.getD k zE)].length)) (rhs:=[(8,.live (Xf 43 (kE false) [(x.getD k zE)]))]) F9 (by omega) (Wv 8 43 (kE false) [(x.getD k zE)]) Jy (by (simp [maxLen,-List.getD_eq_getElem?_getD]<;>omega)) (by (simp [maxLen,-List.getD_eq_getElem?_getD]<;>omega)) (X3 rfl) trivial)] pZ8 pZ8 ?_
  refine nB (nT (xK [hR 0 rfl rfl (Yd (u1:=.int .i64 ((k:Nat):Int)) (u2:=.int .i64 1) (v:=.int .i64 ((k+1:Nat):Int)) (Wb pc) (X3 rfl) ⟨rfl,trivial⟩)] ?_))
  refine nL (k+1) (show (k+1)≤x.length from (by omega)) (show (x.length-(k+1):Nat)<x.length-k from (by omega)) (fun _ _ hG=>Wf [0,1,2,3,4,9] (bm 64 16158916562517389375) (h1:=[(Zoc d l),(Zod l),Zoi,.live (Xf 5 kU8 b),.live (.box 49 [(Zoy seq),.own 9 (kE false).sz 0 (x.take (k+1)).length,(Zoz b),Zoh,dI i,dI 0,Zoh,dI 0,dI 0,Zoh]),.live (Xf 43 (kE false) (x.take (k+1)))]) (h2:=[(Zoc d l),(Zod l),Zoi,.live (Xf 5 kU8 b),.live (.box 49 [(Zoy seq),.own 9 (kE false).sz 0 ((x.take k)++[(x.getD k zE)]).length,(Zoz b),Zoh,dI i,dI 0,Zoh,dI 0,dI 0,Zoh]),.live (Xf 43 (kE false) ((x.take k)++[(x.getD k zE)]))]) (t1:=(Zp4 seq x b h i k)) rfl (by have e1:((x.take (k+1)).length:Nat)=((x.take k)++[(x.getD k zE)]).length:=p46;have e2:((x.take (k+1)):List aE)=(x.take k)++[(x.getD k zE)]:=p46;have hE:=congr (congrArg (fun (q1:Nat) (q2:List aE)=>([(Zoc d l),(Zod l),Zoi,.live (Xf 5 kU8 b),.live (.box 49 [(Zoy seq),.own 9 (kE false).sz 0 q1,(Zoz b),Zoh,dI i,dI 0,Zoh,dI 0,dI 0,Zoh]),.live (Xf 43 (kE false) q2)]:List HS)) e1) e2;exact hE) hG)
 refine cF (dF hq6) (T.exit (xT (xT (xH (nT ?_)))))
 refine tN ⟨[pv 0 0,vI seq,(Zob x),slV false false kU8 b,vI h,vI i,aa,aa,aa,aa,aa,aa,pv 2 0,vI 0,(Zoe b),aa,aa,(Zof b),pv 4 0,aa,aa,aa,aa,aa,aa,aa,aa,aa,aa,aa,aa,aa,aa,aa,aa,aa,aa,aa,aa,aa,(Zoq seq b),aa,aa,aa,aa,aa,aa,aa,aa,aa,aa,aa,aa,aa,(Zou seq h),aa,aa,aa,aa,aa,aa,(Zob x),(Zow x),vI ((k:Nat):Int),vB (decide (((k:Nat):Int)<((x.length:Nat):Int)))],(Zp2 d l seq x b i k)⟩ ?_
 refine Wx (s':=⟨(Zp5 seq h i),[(Zoc d l),(Zod l),Zoi,.live (Xf 5 kU8 b),(Zp7 seq x b i),(Zp8 x)]⟩) (fun _ _ hG=>Yv [0,1,2,3,4,5] (bm 19 266291) (h2:=(Zp2 d l seq x b i k)) rfl (by have e1:(x.length:Nat)=(x.take k).length:=p1w;have e2:(x:List aE)=(x.take k):=p1w;have hE:=congr (congrArg (fun (q1:Nat) (q2:List aE)=>([(Zoc d l),(Zod l),Zoi,.live (Xf 5 kU8 b),.live (.box 49 [(Zoy seq),.own 5 (kE false).sz 0 q1,(Zoz b),Zoh,dI i,dI 0,Zoh,dI 0,dI 0,Zoh]),.live (Xf 43 (kE false) q2)]:List HS)) e1) e2;exact hE) hG) (sR [] (T.seq (sR [] (T.block ?_))))
 refine tN ⟨(Zp9 seq h i),[(Zoc d l),(Zod l),Zoi,.live (Xf 5 kU8 b),(Zp7 seq x b i),(Zp8 x),Zpa]⟩ ?_
 refine Wx (s':=⟨(Zp9 seq h i),[(Zoc d l),(Zod l),Zoi,.live (Xf 5 kU8 b),(Zpb seq x b i),(Zp8 x),Zpa,Zpc]⟩) (fun _ _ hG=>J7 7 4 3 69 (X8 false) (Tb:=49) (cs:=[(Zoy seq),(Zp6 x),(Zoz b),Zoh,dI i,dI 0,Zoh,dI 0,dI 0,Zoh]) rfl rfl rfl hG) ?_
 refine Wx (s':=⟨(Zp9 seq h i),[(Zoc d l),(Zod l),Zoi,.live (Xf 5 kU8 b),(Zpb seq x b i),(Zp8 x),Zpd,Zpc]⟩) (fun _ _ hG=>Yt (s:=⟨(Zp9 seq h i),[(Zoc d l),(Zod l),Zoi,.live (Xf 5 kU8 b),(Zpb seq x b i),(Zp8 x),Zpa,Zpc]⟩) ⟨.inl rfl,p3i⟩ (kk2 (kk4 ⟨(.inr ⟨rfl,(kk2 ⟨pZ5,⟨pZ5,trivial⟩⟩)⟩),⟨.inl rfl,trivial⟩⟩)) hG) ?_
 refine T.loop (ι:=Nat) (fun (k2:Nat)=>⟨(Zpf seq h i k2),(Zpk d l seq x b h i k2)⟩) (fun (k2:Nat)=>(((k2:Nat):Int)≤seq-h+1)∧(k2=0∨h+((k2:Nat):Int)≤((l.length:Nat):Int)+1)) (fun (k2:Nat)=>(seq-h+1).toNat-k2) (0) ⟨(show ((0:Nat):Int)≤seq-h+1 from (by omega)),(show 0=0∨h+((0:Nat):Int)≤((l.length:Nat):Int)+1 from (.inl rfl))⟩ (fun _ _ hG=>Yv [0,1,2,3,4,5,6,7] (bm 23 6557747) (t2:=(Zp9 seq h i)) (h2:=[(Zoc d l),(Zod l),Zoi,.live (Xf 5 kU8 b),(Zpb seq x b i),(Zp8 x),Zpd,Zpc]) p1t (cg6 (fun (q1:Nat) (q2:Int) (q3:List UInt8) (q4:List aE) (q5:List Y6) (q6:List Yb)=>([(Zoc d l),(Zod l),Zoi,.live (Xf 5 kU8 b),.live (.box 49 [(Zoy seq),(Zp6 x),(Zoz b),.own 7 (X8 false).sz 0 q1,dI i,dI 0,Zoh,dI 0,dI 0,Zoh]),(Zp8 x),.live (.box 65 [dI q2,dS q3,.d (dsl false false (kE false) q4),.d (dsl false false (Xe false) q5)]),.live (Xf 69 (X8 false) q6)]:List HS)) (by rfl) (by rfl) (by rfl) (by rfl) (by rfl) (by rfl)) hG) ?_
 rintro k2 ⟨hk2,hb2⟩
 show T _ _ ⟨(Zpf seq h i k2),(Zpk d l seq x b h i k2)⟩ _ _
 replace hk2:((k2:Nat):Int)≤seq-h+1:=hk2
 replace hb2:k2=0∨h+((k2:Nat):Int)≤((l.length:Nat):Int)+1:=hb2
 have hhl:=X4m (Yz 0 l) h k2
 have hfk:=hfw (h+((k2:Nat):Int))
 refine T.seq (sR [] ?_)
 by_cases hq7:(h+((k2:Nat):Int))≤seq
 ·have hks:h+((k2:Nat):Int)≤seq:=(by omega)
  refine cT (dT hq7) (T.skip (nT (T.seq (T.block (sR [hR 2 rfl rfl (rCa (Xcd 0 d l (h+((k2:Nat):Int)) (by omega) ‹_› ‹_›) Tryz.func52 [0,1] [(.tmp 85,pv 0 0),(.tmp 86,(Zpe h k2))] 2 2)] (T.seq (sR [] ?_)))))))
  by_cases hq8:(X0t 0 l.length (h+((k2:Nat):Int)))≠0
  ·have hx9:=Xdx (bf:=(Yz 0 l)) (n:=l.length) (seq:=seq) (x:=x) (b:=b) (h:=h) (i:=i) h3 h4 h5 (by have h9:=Xix hq8 (by omega);omega)
   refine cT (dT hq8) (sR [] (T.ret (rT (rB (rT (rT (rB (rT ?_))))))))
   refine eN ⟨(Zpo l seq h i k2),[(Zoc d l),(Zod l),Zoi,.live (Xf 5 kU8 b),(Zph l seq x b h i k2),(Zp8 x),(Zpi l h k2),(Zpj l h k2),.live (.box 65 (Zpp l h k2))]⟩ ?_
   refine X7 (s':=⟨(Zpo l seq h i k2),[(Zoc d l),(Zod l),.live (.box 49 Zoo),.live (Xf 5 kU8 b),(Zph l seq x b h i k2),(Zp8 x),(Zpi l h k2),(Zpj l h k2),.live (.box 65 (Zpp l h k2))]⟩) (fun _ _ hG=>Yt (s:=⟨(Zpo l seq h i k2),[(Zoc d l),(Zod l),Zoi,.live (Xf 5 kU8 b),(Zph l seq x b h i k2),(Zp8 x),(Zpi l h k2),(Zpj l h k2),.live (.box 65 (Zpp l h k2))]⟩) (kk4 (kk8 (X3o p2b))) (kk2 ⟨pr,p4k⟩) hG) ?_
   exact eX [.c 12 2 49 0 49 [dI 0,Zok,Zol,Zom,dI 0,dI 0,Zol,dI 0,dI 0,Zon] (.agg Zoo),.t 13 (.one (dI 4))] ⟨⟨rfl,rfl,by kernel_rfl,by kernel_rfl,.inl ⟨10,J0,rfl,Nat.le_of_ble_eq_true rfl⟩⟩,⟨⟨rfl,by kernel_rfl⟩,trivial⟩⟩ [0,1] pZ4 (ix (ix trivial))
  have hbi:=blk_in hq8
  refine cF (dF hq8) (T.skip (nT (T.seq (sR [] ?_))))
  by_cases hq9:(h+((k2:Nat):Int))=h
  ·have hfr:=frs_0 (bf:=(Yz 0 l)) hq9
   refine cT (dT hq9) (xK [] (nT ?_))
   refine xD [[],[0],[],[2],[2,3],[0,1,2,3,4],[0,1,2,3,4,5],[0,1,2,3,4,5,6]] [hR 3 rfl rfl (rCa (X0s false (Yz 0 l (h+((k2:Nat):Int))) ‹_›) Tryz.func53 [] [(.tmp 99,.tv (.agg (Zpp l h k2)))] 0 0),hR 4 rfl rfl (Yc 9 69 (X8 false) (Vm false) [(Wp (Yz 0 l (h+((k2:Nat):Int))))] [⟨0,.tmp 100,(Zpr l h k2),0⟩] (cs:=[dI (Zpq l h k2).Xg,dS (Zpq l h k2).Y0,dI (Zpq l h k2).Ye,dS (Zpq l h k2).W3]) Tryz.underlying41 Jz rfl X78 rfl rfl rfl pd (Yr rfl rfl pd W5) pZ8 (V4 pZ8) (X3 rfl) trivial),hR 5 rfl rfl (W2 7 10 69 48 (X8 false) (Vm false) (hdrs (Yz 0 l) h k2) [(Wp (Yz 0 l (h+((k2:Nat):Int))))] ((hdrs (Yz 0 l) h k2)++[(Wp (Yz 0 l (h+((k2:Nat):Int))))]) (hdrs (Yz 0 l) h k2).length (sy:=(.own 9 (X8 false).sz 0 [(Zpq l h k2)].length)) (rhs:=[(9,.live (Xf 69 (X8 false) [(Zpq l h k2)]))]) X4r (by omega) (Wv 9 69 (X8 false) [(Wp (Yz 0 l (h+((k2:Nat):Int))))]) Jy (by (simp [maxLen,-List.getD_eq_getElem?_getD]<;>omega)) (by (simp [maxLen,-List.getD_eq_getElem?_getD]<;>omega)) (X3 rfl) trivial)] pZ8 pZ8 pZ8 pZ8 pZ8 pZ8 ?_
   refine nB (nT (xK [hR 1 rfl rfl (Yd (u1:=.int .i64 (h+((k2:Nat):Int))) (u2:=.int .i64 1) (v:=.int .i64 ((h+((k2:Nat):Int))+1)) (Wb pc) (X3 rfl) ⟨rfl,trivial⟩)] ?_))
   refine nL (k2+1) ⟨(show (((k2+1):Nat):Int)≤seq-h+1 from (by omega)),(show (k2+1)=0∨h+(((k2+1):Nat):Int)≤((l.length:Nat):Int)+1 from (.inr (by omega)))⟩ (show ((seq-h+1).toNat-(k2+1):Nat)<(seq-h+1).toNat-k2 from (by omega)) (fun _ _ hG=>Wf [0,1,2,3,4,5,6,10] (bm 23 6557747) (t1:=(Zps seq h i k2)) (t2:=(Zpv seq h i k2)) (h1:=(Zpw d l seq x b h i k2)) (h2:=[(Zoc d l),(Zod l),Zoi,.live (Xf 5 kU8 b),(Zpx l seq x b h i k2),(Zp8 x),.live (.box 65 (Zpp l h k2)),.live (Xf 69 (X8 false) ((hdrs (Yz 0 l) h k2)++[(Zpq l h k2)]))]) p1t (by have e1:((hdrs (Yz 0 l) h (k2+1)).length:Nat)=((hdrs (Yz 0 l) h k2)++[(Wp (Yz 0 l (h+((k2:Nat):Int))))]).length:=p4p;have e2:((Hc (Yz 0 l) h (k2+1)).Xg:Int)=(Yz 0 l (h+((k2:Nat):Int))).Xg:=p4v;have e3:((Hc (Yz 0 l) h (k2+1)).Y0:List UInt8)=(Yz 0 l (h+((k2:Nat):Int))).Y0:=p4v;have e4:((Hc (Yz 0 l) h (k2+1)).Xb:List aE)=(Yz 0 l (h+((k2:Nat):Int))).Xb:=p4v;have e5:((Hc (Yz 0 l) h (k2+1)).Xj:List Y6)=(Yz 0 l (h+((k2:Nat):Int))).Xj:=p4v;have e6:((hdrs (Yz 0 l) h (k2+1)):List Yb)=(hdrs (Yz 0 l) h k2)++[(Wp (Yz 0 l (h+((k2:Nat):Int))))]:=p4p;have hE:=congr p1b e6;exact hE) hG)
  have hfr:=frs_s (bf:=(Yz 0 l)) hq9
  refine cF (dF hq9) (T.skip (nT ?_))
  refine xD [[],[0],[],[2],[2,3],[0,1,2,3,4],[0,1,2,3,4,5],[0,1,2,3,4,5,6]] [hR 3 rfl rfl (rCa (X0s false (Yz 0 l (h+((k2:Nat):Int))) ‹_›) Tryz.func53 [] [(.tmp 99,.tv (.agg (Zpp l h k2)))] 0 0),hR 4 rfl rfl (Yc 9 69 (X8 false) (Vm false) [(Wp (Yz 0 l (h+((k2:Nat):Int))))] [⟨0,.tmp 100,(Zpr l h k2),0⟩] (cs:=[dI (Zpq l h k2).Xg,dS (Zpq l h k2).Y0,dI (Zpq l h k2).Ye,dS (Zpq l h k2).W3]) Tryz.underlying41 Jz rfl X78 rfl rfl rfl pd (Yr rfl rfl pd W5) pZ8 (V4 pZ8) (X3 rfl) trivial),hR 5 rfl rfl (W2 7 10 69 48 (X8 false) (Vm false) (hdrs (Yz 0 l) h k2) [(Wp (Yz 0 l (h+((k2:Nat):Int))))] ((hdrs (Yz 0 l) h k2)++[(Wp (Yz 0 l (h+((k2:Nat):Int))))]) (hdrs (Yz 0 l) h k2).length (sy:=(.own 9 (X8 false).sz 0 [(Zpq l h k2)].length)) (rhs:=[(9,.live (Xf 69 (X8 false) [(Zpq l h k2)]))]) X4r (by omega) (Wv 9 69 (X8 false) [(Wp (Yz 0 l (h+((k2:Nat):Int))))]) Jy (by (simp [maxLen,-List.getD_eq_getElem?_getD]<;>omega)) (by (simp [maxLen,-List.getD_eq_getElem?_getD]<;>omega)) (X3 rfl) trivial)] pZ8 pZ8 pZ8 pZ8 pZ8 pZ8 ?_
  refine nB (nT (xK [hR 1 rfl rfl (Yd (u1:=.int .i64 (h+((k2:Nat):Int))) (u2:=.int .i64 1) (v:=.int .i64 ((h+((k2:Nat):Int))+1)) (Wb pc) (X3 rfl) ⟨rfl,trivial⟩)] ?_))
  refine nL (k2+1) ⟨(show (((k2+1):Nat):Int)≤seq-h+1 from (by omega)),(show (k2+1)=0∨h+(((k2+1):Nat):Int)≤((l.length:Nat):Int)+1 from (.inr (by omega)))⟩ (show ((seq-h+1).toNat-(k2+1):Nat)<(seq-h+1).toNat-k2 from (by omega)) (fun _ _ hG=>Wf [0,1,2,3,4,5,6,10] (bm 23 6557747) (t1:=(Zps seq h i k2)) (t2:=(Zpv seq h i k2)) (h1:=(Zpw d l seq x b h i k2)) (h2:=[(Zoc d l),(Zod l),Zoi,.live (Xf 5 kU8 b),(Zpx l seq x b h i k2),(Zp8 x),(Zpi l h k2),.live (Xf 69 (X8 false) ((hdrs (Yz 0 l) h k2)++[(Zpq l h k2)]))]) p1t (by have e1:((hdrs (Yz 0 l) h (k2+1)).length:Nat)=((hdrs (Yz 0 l) h k2)++[(Wp (Yz 0 l (h+((k2:Nat):Int))))]).length:=p4p;have e2:((Hc (Yz 0 l) h (k2+1)).Xg:Int)=(Hc (Yz 0 l) h k2).Xg:=p4v;have e3:((Hc (Yz 0 l) h (k2+1)).Y0:List UInt8)=(Hc (Yz 0 l) h k2).Y0:=p4v;have e4:((Hc (Yz 0 l) h (k2+1)).Xb:List aE)=(Hc (Yz 0 l) h k2).Xb:=p4v;have e5:((Hc (Yz 0 l) h (k2+1)).Xj:List Y6)=(Hc (Yz 0 l) h k2).Xj:=p4v;have e6:((hdrs (Yz 0 l) h (k2+1)):List Yb)=(hdrs (Yz 0 l) h k2)++[(Wp (Yz 0 l (h+((k2:Nat):Int))))]:=p4p;have hE:=congr p1b e6;exact hE) hG)
 have hkn:((k2:Nat):Int)=seq-h+1:=(by omega);have h6:¬seq>((l.length:Nat):Int):=(by omega)
 refine cF (dF hq7) (T.exit (xT (xT (xH (nT ?_)))))
 refine tN ⟨(Zpy seq h i k2),(Zpk d l seq x b h i k2)⟩ ?_
 refine Wx (s':=⟨(Zpy seq h i k2),(Zq0 d l seq x b h i k2)⟩) (fun _ _ hG=>Yv [0,1,2,3,4,5,6,7] (bm 82 2417851639229258355970099) (h2:=(Zpk d l seq x b h i k2)) rfl (by have e1:((Yz 0 l h).Xg:Int)=(Hc (Yz 0 l) h k2).Xg:=p4x;have e2:((Yz 0 l h).Y0:List UInt8)=(Hc (Yz 0 l) h k2).Y0:=p4x;have e3:((Yz 0 l h).Xb:List aE)=(Hc (Yz 0 l) h k2).Xb:=p4x;have e4:((Yz 0 l h).Xj:List Y6)=(Hc (Yz 0 l) h k2).Xj:=p4x;have hE:=congr (congr (congr (congrArg (fun (q1:Int) (q2:List UInt8) (q3:List aE) (q4:List Y6)=>([(Zoc d l),(Zod l),Zoi,.live (Xf 5 kU8 b),(Zph l seq x b h i k2),(Zp8 x),.live (.box 65 [dI q1,dS q2,.d (dsl false false (kE false) q3),.d (dsl false false (Xe false) q4)]),(Zpj l h k2)]:List HS)) e1) e2) e3) e4;exact hE) hG) ?_
 refine sR [hR 2 rfl rfl (rCa (Xfi false (Yz 0 l h) i ‹_›) Tryz.func54 [] [(.tmp 105,.tv (.agg (Zpz l h))),(.tmp 106,vI i)] 0 0)] (T.seq (sR [] ?_))
 by_cases hq10:(J8 (Yz 0 l h) i)≠0
 ·have hx9:=Xi1 (bf:=(Yz 0 l)) (n:=l.length) (seq:=seq) (x:=x) (b:=b) (h:=h) (i:=i) h3 h4 h5 h6 hq10
  refine cT (dT hq10) (sR [] (T.ret (rT ?_)))
  refine eN ⟨(Zq1 l seq h i k2),(Zq0 d l seq x b h i k2)⟩ ?_
  refine X7 (s':=⟨(Zq1 l seq h i k2),[(Zoc d l),(Zod l),.live (.box 49 Zoo),.live (Xf 5 kU8 b),(Zph l seq x b h i k2),(Zp8 x),.live (.box 65 (Zpz l h)),(Zpj l h k2)]⟩) (fun _ _ hG=>Yt (s:=⟨(Zq1 l seq h i k2),(Zq0 d l seq x b h i k2)⟩) p4h (kk2 ⟨pr,⟨.inl rfl,(kk4 trivial)⟩⟩) hG) ?_
  exact eX [.c 12 2 49 0 49 [dI 0,Zok,Zol,Zom,dI 0,dI 0,Zol,dI 0,dI 0,Zon] (.agg Zoo),.t 13 (.one (dI (J8 (Yz 0 l h) i)))] ⟨⟨rfl,rfl,by kernel_rfl,by kernel_rfl,.inl ⟨10,J0,rfl,Nat.le_of_ble_eq_true rfl⟩⟩,⟨⟨rfl,by kernel_rfl⟩,trivial⟩⟩ [0,1] pZ4 (ix (ix trivial))
 have hx9:=prv_ok (bf:=(Yz 0 l)) (n:=l.length) (seq:=seq) (x:=x) (b:=b) (h:=h) (i:=i) h3 h4 h5 h6 hq10 hkn;obtain ⟨p1,p2,p3,p4,p5,p6,p7⟩:=X7i (hfw h) (Classical.not_not.1 hq10)
 refine cF (dF hq10) (T.skip (nT ?_))
 refine sD [[],[],[1],[],[1,2,3],[1,2,3,4],[],[6],[],[6,7,8],[6,7,8,9],[0],[0,11],[0,1,2,3,4,5,11,12],[0,1,2,3,4,5,11,12,13],[0,1,2,3,4,5,6,7,8,9,10,11,12,13,14],[0,1,2,3,4,5,6,7,8,9,10,11,12,13,14,15]] [hR 4 rfl rfl (We false false (kE false) (Yz 0 l h).Xb (i).toNat (k:=.i64) (i:=i) Tryz.underlying37 Vi rfl (by omega) (by omega) (X3 rfl) trivial),hR 9 rfl rfl (We false false (Xe false) (Yz 0 l h).Xj (i).toNat (k:=.i64) (i:=i) Tryz.underlying63 Ej rfl (by omega) (by omega) (X3 rfl) trivial)] (sR [] (T.ret ?_))
 refine eN ⟨(Zq2 l seq h i k2),[(Zoc d l),(Zod l),(Zq8 l seq x b h i k2),.live (Xf 5 kU8 b),(Zq8 l seq x b h i k2),(Zp8 x),.live (.box 65 (Zpz l h)),(Zpj l h k2)]⟩ ?_
 refine X7 (s':=(Zqa d l seq x b h i k2)) (fun _ _ hG=>Gs.freeze (s:=⟨(Zq2 l seq h i k2),[(Zoc d l),(Zod l),(Zq8 l seq x b h i k2),.live (Xf 5 kU8 b),(Zq8 l seq x b h i k2),(Zp8 x),.live (.box 65 (Zpz l h)),(Zpj l h k2)]⟩) 5 (el:=W7 (kE false) x) (sz:=(kE false).sz) (n:=x.length) rfl p4h ⟨pZ9,⟨pZ9,⟨p50,⟨pZ9,⟨p50,⟨(.inl ⟨rfl,rfl⟩),⟨pZ9,⟨pZ9,trivial⟩⟩⟩⟩⟩⟩⟩⟩ hG) ?_
 refine eN (Zqa d l seq x b h i k2) ?_
 refine X7 (s':=(Zqc d l seq x b h i k2)) (fun _ _ hG=>Gs.freeze (s:=(Zqa d l seq x b h i k2)) 3 (el:=W7 kU8 b) (sz:=kU8.sz) (n:=b.length) rfl p4h ⟨pZ9,⟨pZ9,⟨p3c,⟨(.inl ⟨rfl,rfl⟩),⟨p3c,⟨pZ9,⟨pZ9,⟨pZ9,trivial⟩⟩⟩⟩⟩⟩⟩⟩ hG) ?_
 refine eN (Zqc d l seq x b h i k2) ?_
 refine X7 (s':=⟨(Zq2 l seq h i k2),[(Zoc d l),(Zod l),.live (.box 49 (Zqd l seq x b h i k2)),.dead,.live (.box 49 (Zqd l seq x b h i k2)),.dead,.live (.box 65 (Zpz l h)),.dead]⟩) (fun _ _ hG=>Gs.freeze (s:=(Zqc d l seq x b h i k2)) 7 (el:=W7 (X8 false) (hdrs (Yz 0 l) h k2)) (sz:=(X8 false).sz) (n:=(hdrs (Yz 0 l) h k2).length) rfl p4h ⟨pZ9,⟨pZ9,⟨pq,⟨pZ9,⟨pq,⟨pZ9,⟨pZ9,⟨(.inl ⟨rfl,rfl⟩),trivial⟩⟩⟩⟩⟩⟩⟩⟩ hG) ?_
 exact eX [.c 12 2 49 0 49 [(Zoy seq),(Zq9 x),dU b,.d (dsl false false (X8 false) (hdrs (Yz 0 l) h k2)),dI i,(Zq3 l h i),(Zq4 l h i),(Zq5 l h i),(Zq6 l h i),(Zq7 l h i)] (.agg (Zqd l seq x b h i k2)),.t 13 (.one (dI 0))] ⟨⟨rfl,rfl,by kernel_rfl,by kernel_rfl,.inl ⟨10,J0,rfl,Nat.le_of_ble_eq_true rfl⟩⟩,⟨⟨rfl,by kernel_rfl⟩,trivial⟩⟩ [0,1] pZ4 (ix (ix trivial))
section
variable (d:List UInt8) (L:List Xq) (seq:Int) (x:List aE) (b:List UInt8) (h:Int) (i:Int) (k2:Nat)
abbrev Zqe:AV:=slV false false (kE false) x
abbrev Zqf:HS:=.live (.box 106 [dB true,dI 0,dS d,.own 1 (Xr false).sz 0 L.length])
abbrev Zqg:HS:=.live (Xf 65 (Xr false) L)
abbrev Zqh:AV:=vI (unH 1099511627776 b)
abbrev Zqi:AV:=vI (unE 1099511627776 b)
abbrev Zqj:List AV:=[pv 0 0,vI seq,(Zqe x),slV false false kU8 b,vI h,vI i,aa,aa,aa,aa,aa,aa,pv 2 0,vI 12,(Zqh b),aa,aa,(Zqi b),aa,aa,aa,aa,aa,aa,aa,aa,aa,aa,aa,aa,aa,aa,aa,aa,aa,aa,aa,aa,vB true]
abbrev Zqk:SV:=.d (.val (.slice none 0 0))
abbrev Zql:HS:=.live (.box 49 [dI 0,Zqk,Zqk,Zqk,dI 0,dI 0,Zqk,dI 0,dI 0,Zqk])
abbrev Zqm:List HS:=[(Zqf d L),(Zqg L),Zql]
abbrev Zqn:SV:=.d (dsl false false (kE false) ([]:List aE))
abbrev Zqo:SV:=dU ([]:List UInt8)
abbrev Zqp:SV:=.d (dsl false false (X8 false) ([]:List Yb))
abbrev Zqq:SV:=.d (dsl false false (Xa false) ([]:List Xz))
abbrev Zqr:List SV:=[dI 0,Zqn,Zqo,Zqp,dI 0,dI 0,Zqo,dI 0,dI 0,Zqq]
abbrev Zqs:List HS:=[(Zqf d L),(Zqg L),.live (.box 49 Zqr)]
abbrev Zqt:AV:=vB (decide ((unH 1099511627776 b)≠seq))
abbrev Zqu:List AV:=[pv 0 0,vI seq,(Zqe x),slV false false kU8 b,vI h,vI i,aa,aa,aa,aa,aa,aa,pv 2 0,vI 12,(Zqh b),aa,aa,(Zqi b),aa,aa,aa,aa,aa,aa,aa,aa,aa,aa,aa,aa,aa,aa,aa,aa,aa,aa,aa,aa,(Zqt seq b)]
abbrev Zqv:List AV:=[pv 0 0,vI seq,(Zqe x),slV false false kU8 b,vI h,vI i,aa,aa,aa,aa,aa,aa,pv 2 0,vI 2,(Zqh b),aa,aa,(Zqi b),aa,aa,aa,aa,aa,aa,aa,aa,aa,aa,aa,aa,aa,aa,aa,aa,aa,aa,aa,aa,(Zqt seq b),aa,aa,aa,aa,aa,aa,aa,aa,aa,aa,aa,aa,aa,vB true]
abbrev Zqw:TV:=.one (dI 2)
abbrev Zqx:AV:=vB (decide ((seq-h)>999))
abbrev Zqy:List AV:=[pv 0 0,vI seq,(Zqe x),slV false false kU8 b,vI h,vI i,aa,aa,aa,aa,aa,aa,pv 2 0,vI 2,(Zqh b),aa,aa,(Zqi b),aa,aa,aa,aa,aa,aa,aa,aa,aa,aa,aa,aa,aa,aa,aa,aa,aa,aa,aa,aa,(Zqt seq b),aa,aa,aa,aa,aa,aa,aa,aa,aa,aa,aa,aa,aa,(Zqx seq h)]
abbrev Zqz:List AV:=[pv 0 0,vI seq,(Zqe x),slV false false kU8 b,vI h,vI i,aa,aa,aa,aa,aa,aa,pv 2 0,vI 0,(Zqh b),aa,aa,(Zqi b),pv 3 0,vI h,aa,aa,aa,aa,aa,aa,aa,aa,aa,aa,aa,aa,aa,aa,aa,aa,aa,aa,(Zqt seq b),aa,aa,aa,aa,aa,aa,aa,aa,aa,aa,aa,aa,aa,(Zqx seq h)]
abbrev Zr0:SV:=dI seq
abbrev Zr1:SV:=.d (dsl false false (kE false) x)
abbrev Zr2:SV:=dU b
abbrev Zr3:List HS:=[(Zqf d L),(Zqg L),Zql,.live (.box 49 [(Zr0 seq),(Zr1 x),(Zr2 b),.own 4 (X8 false).sz 0 0,dI i,dI 0,Zqk,dI 0,dI 0,Zqk]),.live (Xf 69 (X8 false) ([]:List Yb))]
abbrev Zr4:AV:=vI (h+((k2:Nat):Int))
abbrev Zr5:HS:=.live (.box 49 [(Zr0 seq),(Zr1 x),(Zr2 b),.own 4 (X8 false).sz 0 (hdrs (rblk 0 L) h k2).length,dI i,dI 0,Zqk,dI 0,dI 0,Zqk])
abbrev Zr6:HS:=.live (Xf 69 (X8 false) (hdrs (rblk 0 L) h k2))
abbrev Zr7:St:=⟨[pv 0 0,vI seq,(Zqe x),slV false false kU8 b,vI h,vI i,aa,aa,aa,aa,aa,aa,pv 2 0,vI 0,(Zqh b),aa,aa,(Zqi b),pv 3 0,(Zr4 h k2),aa,aa,aa,aa,aa,aa,aa,aa,aa,aa,aa,aa,aa,aa,aa,aa,aa,aa,(Zqt seq b),aa,aa,aa,aa,aa,aa,aa,aa,aa,aa,aa,aa,aa,(Zqx seq h)],[(Zqf d L),(Zqg L),Zql,(Zr5 L seq x b h i k2),(Zr6 L h k2)]⟩
abbrev Zra:List AV:=[pv 0 0,vI seq,(Zqe x),slV false false kU8 b,vI h,vI i,aa,aa,aa,aa,aa,aa,pv 2 0,vI 4,(Zqh b),aa,aa,(Zqi b),pv 3 0,(Zr4 h k2),pv 5 0,vI (X0t 0 L.length (h+((k2:Nat):Int))),aa,aa,aa,aa,aa,aa,aa,aa,aa,aa,aa,aa,aa,aa,aa,aa,(Zqt seq b),aa,aa,aa,aa,aa,aa,aa,aa,aa,aa,aa,aa,aa,(Zqx seq h),aa,aa,aa,aa,aa,aa,aa,aa,aa,vB (decide ((h+((k2:Nat):Int))≤seq)),aa,aa,aa,aa,aa,aa,aa,aa,aa,vB (decide ((X0t 0 L.length (h+((k2:Nat):Int)))≠0))]
abbrev Zrb:List SV:=[dI (rblk 0 L (h+((k2:Nat):Int))).Xg,dS (rblk 0 L (h+((k2:Nat):Int))).Y0,.d (dsl false false (kE false) (rblk 0 L (h+((k2:Nat):Int))).Xb),.d (dsl false false (Xe false) (rblk 0 L (h+((k2:Nat):Int))).Xj)]
abbrev Zrc:=(Wp (rblk 0 L (h+((k2:Nat):Int))))
abbrev Zrd:List AV:=[pv 0 0,vI seq,(Zqe x),slV false false kU8 b,vI h,vI i,aa,aa,aa,aa,aa,aa,pv 2 0,vI 0,(Zqh b),aa,aa,(Zqi b),pv 3 0,vI (h+(((k2+1):Nat):Int)),aa,aa,aa,aa,aa,aa,aa,aa,aa,aa,aa,aa,aa,aa,aa,aa,aa,aa,(Zqt seq b),aa,aa,aa,aa,aa,aa,aa,aa,aa,aa,aa,aa,aa,(Zqx seq h)]
abbrev Zre:List SV:=[dI (rblk 0 L h).Xg,dS (rblk 0 L h).Y0,.d (dsl false false (kE false) (rblk 0 L h).Xb),.d (dsl false false (Xe false) (rblk 0 L h).Xj)]
abbrev Zrf:List AV:=[pv 0 0,vI seq,(Zqe x),slV false false kU8 b,vI h,vI i,aa,aa,aa,aa,aa,aa,pv 2 0,vI (J8 (rblk 0 L h) i),(Zqh b),aa,aa,vI (J8 (rblk 0 L h) i),pv 3 0,(Zr4 h k2),aa,aa,pv 5 0,aa,slV false false (Xa false) (Is (rblk 0 L h) i),aa,aa,aa,aa,aa,aa,aa,aa,aa,aa,aa,aa,aa,(Zqt seq b),aa,aa,aa,aa,aa,aa,aa,aa,aa,aa,aa,aa,aa,(Zqx seq h),aa,aa,aa,aa,aa,aa,aa,aa,aa,vB (decide ((h+((k2:Nat):Int))≤seq)),aa,aa,aa,aa,aa,aa,aa,aa,aa,aa,aa,aa,aa,aa,aa,aa,aa,aa,aa,aa,aa,aa,aa,aa,aa,aa,aa,aa,aa,aa,aa,vB (decide ((J8 (rblk 0 L h) i)≠0))]
abbrev Zrg:List AV:=[pv 0 0,vI seq,(Zqe x),slV false false kU8 b,vI h,vI i,aa,aa,aa,aa,aa,aa,pv 2 0,vI 0,(Zqh b),aa,aa,vI (J8 (rblk 0 L h) i),pv 3 0,(Zr4 h k2),aa,aa,pv 5 0,aa,slV false false (Xa false) (Is (rblk 0 L h) i),aa,aa,aa,aa,aa,aa,aa,aa,aa,aa,aa,aa,aa,(Zqt seq b),aa,aa,aa,aa,aa,aa,aa,aa,aa,aa,aa,aa,aa,(Zqx seq h),aa,aa,aa,aa,aa,aa,aa,aa,aa,vB (decide ((h+((k2:Nat):Int))≤seq)),aa,aa,aa,aa,aa,aa,aa,aa,aa,aa,aa,aa,aa,aa,aa,aa,aa,aa,aa,aa,aa,aa,aa,aa,aa,aa,aa,aa,aa,aa,aa,vB (decide ((J8 (rblk 0 L h) i)≠0))]
abbrev Zrh:SV:=dI ((rblk 0 L h).Xb.getD (i).toNat zE).X5
abbrev Zri:SV:=dU ((rblk 0 L h).Xb.getD (i).toNat zE).Xd
abbrev Zrj:SV:=dI ((rblk 0 L h).Xj.getD (i).toNat Yj).Xt
abbrev Zrk:SV:=dI ((rblk 0 L h).Xj.getD (i).toNat Yj).Xn
abbrev Zrl:HS:=.live (.box 49 [(Zr0 seq),(Zr1 x),(Zr2 b),.own 4 (X8 false).sz 0 (hdrs (rblk 0 L) h k2).length,dI i,(Zrh L h i),(Zri L h i),(Zrj L h i),(Zrk L h i),.d (dsl false false (Xa false) (Is (rblk 0 L h) i))])
abbrev Zrm:List SV:=[(Zr0 seq),(Zr1 x),(Zr2 b),.d (dsl false false (X8 false) (hdrs (rblk 0 L) h k2)),dI i,(Zrh L h i),(Zri L h i),(Zrj L h i),(Zrk L h i),.d (dsl false false (Xa false) (Is (rblk 0 L h) i))]
end
theorem Xdp (d:List UInt8) (L:List Xq) (seq:Int) (x:List aE) (b:List UInt8) (h:Int) (i:Int) (hl:L.length≤100) (hw:X12 L) (hx:X16 x) (hb:b.length≤100000000) (hsq:-9223372036854775808≤seq∧seq≤9223372036854775807) (hh:-9223372036854775808≤h∧h≤9223372036854775807) (hi:-9223372036854775808≤i∧i≤9223372036854775807):Holds Tryz.prog 11 ⟨[pv 0 0,vI seq,slV false false (kE false) x,slV false false kU8 b,vI h,vI i],[.box 106 [dB true,dI 0,dS d,.own 1 (Xr false).sz 0 L.length],Xf 65 (Xr false) L],.tup [.agg [dI (Vc (rblk 0 L) L.length seq x b h i).Xs,.d (dsl false false (kE false) (Vc (rblk 0 L) L.length seq x b h i).Xu),dU (Vc (rblk 0 L) L.length seq x b h i).Xc,.d (dsl false false (X8 false) (Vc (rblk 0 L) L.length seq x b h i).X2),dI (Vc (rblk 0 L) L.length seq x b h i).Vp,dI (Vc (rblk 0 L) L.length seq x b h i).Xl.X5,dU (Vc (rblk 0 L) L.length seq x b h i).Xl.Xd,dI (Vc (rblk 0 L) L.length seq x b h i).X0.Xt,dI (Vc (rblk 0 L) L.length seq x b h i).X0.Xn,.d (dsl false false (Xa false) (Vc (rblk 0 L) L.length seq x b h i).Yu)],.one (dI (Hy (rblk 0 L) L.length seq b h i))],[.live (.box 106 [dB true,dI 0,dS d,.own 1 (Xr false).sz 0 L.length]),.live (Xf 65 (Xr false) L)]⟩:=by
 refine Holds.of Tryz.func11 rfl (N:=112) Tryz.ntmps11 rfl fun w0 B0 S0 U0=>?_
 show T _ (Y2 112 2 w0 S0 U0 B0) ⟨[pv 0 0,vI seq,(Zqe x),slV false false kU8 b,vI h,vI i],[(Zqf d L),(Zqg L)]⟩ _ _
 have hun:=Xfs (b:=b) (M:=((b.length:Nat):Int)) (M':=1099511627776) (Int.le_refl _) (by omega)
 obtain ⟨hun1,hun2,hun3,hun4⟩:=hun
 have hfw:=fun y=>rblk_few hw y
 have hfh:=hfw h
 refine sR [] (sR [hR 1 rfl rfl (rCa (X46 b ‹_›) Tryz.func43 [] [(.tmp 26,slV false false kU8 b)] 0 0)] (T.seq ?_))
 by_cases hq1:(unE 1099511627776 b)≠0
 ·have h3:=hq1;rw [← hun4] at h3;have hx9:=X4d (bf:=(rblk 0 L)) (n:=L.length) (seq:=seq) (x:=x) (b:=b) (h:=h) (i:=i) (.inl h3)
  refine sR (Xm (hN · false (dT hq1)) [3,4,5] (hP 6 (dT hq1)::[])) (cT (b:=true) rfl (sR [] (T.ret (rT ?_))))
  refine eN ⟨(Zqj seq x b h i),(Zqm d L)⟩ ?_
  refine X7 (s':=⟨(Zqj seq x b h i),(Zqs d L)⟩) (fun _ _ hG=>Yt (s:=⟨(Zqj seq x b h i),(Zqm d L)⟩) ⟨.inl rfl,(kk2 p4u)⟩ p36 hG) ?_
  exact eX [.c 12 2 49 0 49 [dI 0,Zqn,Zqo,Zqp,dI 0,dI 0,Zqo,dI 0,dI 0,Zqq] (.agg Zqr),.t 13 (.one (dI 12))] ⟨⟨rfl,rfl,by kernel_rfl,by kernel_rfl,.inl ⟨10,J0,rfl,Nat.le_of_ble_eq_true rfl⟩⟩,⟨⟨rfl,by kernel_rfl⟩,trivial⟩⟩ [0,1] pZ4 (ix (ix trivial))
 have h3:=hq1;rw [← hun4] at h3;have hur:=un_rng h3
 refine sR (Xm (hY · (dF hq1)) [3,4,5] (hP 6 (dF hq1)::[])) ?_
 by_cases hq2:(unH 1099511627776 b)≠seq
 ·have h4:=hq2;rw [← hun1] at h4;have hx9:=X4d (bf:=(rblk 0 L)) (n:=L.length) (seq:=seq) (x:=x) (b:=b) (h:=h) (i:=i) (.inr h4)
  refine cT (dT hq2) (sR [] (T.ret (rT ?_)))
  refine eN ⟨(Zqu seq x b h i),(Zqm d L)⟩ ?_
  refine X7 (s':=⟨(Zqu seq x b h i),(Zqs d L)⟩) (fun _ _ hG=>Yt (s:=⟨(Zqu seq x b h i),(Zqm d L)⟩) ⟨.inl rfl,(kk2 p4u)⟩ p36 hG) ?_
  exact eX [.c 12 2 49 0 49 [dI 0,Zqn,Zqo,Zqp,dI 0,dI 0,Zqo,dI 0,dI 0,Zqq] (.agg Zqr),.t 13 (.one (dI 12))] ⟨⟨rfl,rfl,by kernel_rfl,by kernel_rfl,.inl ⟨10,J0,rfl,Nat.le_of_ble_eq_true rfl⟩⟩,⟨⟨rfl,by kernel_rfl⟩,trivial⟩⟩ [0,1] pZ4 (ix (ix trivial))
 have h4:=hq2;rw [← hun1] at h4; 
 refine cF (dF hq2) (T.skip (nT (T.seq ?_)))
 by_cases hq3:h<1
 ·have hx9:=X2l (bf:=(rblk 0 L)) (n:=L.length) (seq:=seq) (x:=x) (b:=b) (h:=h) (i:=i) h3 h4 (by omega)
  refine sR (Xm (hN · false (dT hq3)) [3,4,5] (hP 6 (dT hq3)::(Xm hN0 [8,9,10,11] (hP1 12::[])))) (cT (b:=true) rfl (sR [] (T.ret (rT ?_))))
  refine eN ⟨(Zqv seq x b h i),(Zqm d L)⟩ ?_
  refine X7 (s':=⟨(Zqv seq x b h i),(Zqs d L)⟩) (fun _ _ hG=>Yt (s:=⟨(Zqv seq x b h i),(Zqm d L)⟩) ⟨.inl rfl,(kk4 p37)⟩ p36 hG) ?_
  exact eX [.c 12 2 49 0 49 [dI 0,Zqn,Zqo,Zqp,dI 0,dI 0,Zqo,dI 0,dI 0,Zqq] (.agg Zqr),.t 13 (Zqw)] ⟨⟨rfl,rfl,by kernel_rfl,by kernel_rfl,.inl ⟨10,J0,rfl,Nat.le_of_ble_eq_true rfl⟩⟩,⟨⟨rfl,by kernel_rfl⟩,trivial⟩⟩ [0,1] pZ4 (ix (ix trivial))
 by_cases hq4:h>seq
 ·have hx9:=X2l (bf:=(rblk 0 L)) (n:=L.length) (seq:=seq) (x:=x) (b:=b) (h:=h) (i:=i) h3 h4 (by omega)
  refine sR (Xm (hY · (dF hq3)) [3,4,5] (hP 6 (dF hq3)::(Xm (hN · false (dT hq4)) [8,9,10,11] (hP 12 (dT hq4)::[])))) (cT (b:=true) rfl (sR [] (T.ret (rT ?_))))
  refine eN ⟨(Zqv seq x b h i),(Zqm d L)⟩ ?_
  refine X7 (s':=⟨(Zqv seq x b h i),(Zqs d L)⟩) (fun _ _ hG=>Yt (s:=⟨(Zqv seq x b h i),(Zqm d L)⟩) ⟨.inl rfl,(kk4 p37)⟩ p36 hG) ?_
  exact eX [.c 12 2 49 0 49 [dI 0,Zqn,Zqo,Zqp,dI 0,dI 0,Zqo,dI 0,dI 0,Zqq] (.agg Zqr),.t 13 (Zqw)] ⟨⟨rfl,rfl,by kernel_rfl,by kernel_rfl,.inl ⟨10,J0,rfl,Nat.le_of_ble_eq_true rfl⟩⟩,⟨⟨rfl,by kernel_rfl⟩,trivial⟩⟩ [0,1] pZ4 (ix (ix trivial))
 refine sR (Xm (hY · (dF hq3)) [3,4,5] (hP 6 (dF hq3)::(hY 8 (dF hq4)::(hY 9 (dF hq4)::(hS 10 (oY rfl rfl rfl rfl (X3 rfl) (dF hq4) (Yd (u1:=.int .i64 seq) (u2:=.int .i64 h) (v:=.int .i64 (seq-h)) (Ug pc) (X3 rfl) p1s))::(hY 11 (dF hq4)::(hP 12 (dF hq4)::[]))))))) ?_
 by_cases hq5:(seq-h)>999
 ·have hx9:=X2l (bf:=(rblk 0 L)) (n:=L.length) (seq:=seq) (x:=x) (b:=b) (h:=h) (i:=i) h3 h4 (by omega)
  refine cT (dT hq5) (sR [] (T.ret (rT ?_)))
  refine eN ⟨(Zqy seq x b h i),(Zqm d L)⟩ ?_
  refine X7 (s':=⟨(Zqy seq x b h i),(Zqs d L)⟩) (fun _ _ hG=>Yt (s:=⟨(Zqy seq x b h i),(Zqm d L)⟩) ⟨.inl rfl,(kk4 p37)⟩ p36 hG) ?_
  exact eX [.c 12 2 49 0 49 [dI 0,Zqn,Zqo,Zqp,dI 0,dI 0,Zqo,dI 0,dI 0,Zqq] (.agg Zqr),.t 13 (Zqw)] ⟨⟨rfl,rfl,by kernel_rfl,by kernel_rfl,.inl ⟨10,J0,rfl,Nat.le_of_ble_eq_true rfl⟩⟩,⟨⟨rfl,by kernel_rfl⟩,trivial⟩⟩ [0,1] pZ4 (ix (ix trivial))
 have h5:¬(h<1∨h>seq∨seq-h>999):=(by omega)
 refine cF (dF hq5) (T.skip (nT (sR [] (T.seq (sR [] (T.block ?_))))))
 refine tN ⟨(Zqz seq x b h i),[(Zqf d L),(Zqg L),Zql,.live (.box 49 [(Zr0 seq),(Zr1 x),(Zr2 b),Zqk,dI i,dI 0,Zqk,dI 0,dI 0,Zqk])]⟩ ?_
 refine Wx (s':=⟨(Zqz seq x b h i),(Zr3 d L seq x b i)⟩) (fun _ _ hG=>J7 4 3 3 69 (X8 false) (Tb:=49) (cs:=[(Zr0 seq),(Zr1 x),(Zr2 b),Zqk,dI i,dI 0,Zqk,dI 0,dI 0,Zqk]) rfl rfl rfl hG) ?_
 refine T.loop (ι:=Nat) (fun (k2:Nat)=>(Zr7 d L seq x b h i k2)) (fun (k2:Nat)=>(((k2:Nat):Int)≤seq-h+1)∧(k2=0∨h+((k2:Nat):Int)≤((L.length:Nat):Int)+1)) (fun (k2:Nat)=>(seq-h+1).toNat-k2) (0) ⟨(show ((0:Nat):Int)≤seq-h+1 from (by omega)),(show 0=0∨h+((0:Nat):Int)≤((L.length:Nat):Int)+1 from (.inl rfl))⟩ (fun _ _ hG=>Yv [0,1,2,3,4] (bm 53 4503874506223679) (t2:=(Zqz seq x b h i)) (h2:=(Zr3 d L seq x b i)) p1u (cg2 (fun (q1:Nat) (q2:List Yb)=>([(Zqf d L),(Zqg L),Zql,.live (.box 49 [(Zr0 seq),(Zr1 x),(Zr2 b),.own 4 (X8 false).sz 0 q1,dI i,dI 0,Zqk,dI 0,dI 0,Zqk]),.live (Xf 69 (X8 false) q2)]:List HS)) (by rfl) (by rfl)) hG) ?_
 rintro k2 ⟨hk2,hb2⟩
 show T _ _ (Zr7 d L seq x b h i k2) _ _
 replace hk2:((k2:Nat):Int)≤seq-h+1:=hk2
 replace hb2:k2=0∨h+((k2:Nat):Int)≤((L.length:Nat):Int)+1:=hb2
 have hhl:=X4m (rblk 0 L) h k2
 have hfk:=hfw (h+((k2:Nat):Int))
 refine T.seq (sR [] ?_)
 by_cases hq6:(h+((k2:Nat):Int))≤seq
 ·have hks:h+((k2:Nat):Int)≤seq:=(by omega)
  refine cT (dT hq6) (T.skip (nT (T.seq (T.block (sR [hR 2 rfl rfl (rCa (X6l 0 d L (h+((k2:Nat):Int)) (by omega) ‹_› ‹_›) Tryz.func20 [0,1] [(.tmp 66,pv 0 0),(.tmp 67,(Zr4 h k2))] 2 2)] (T.seq (sR [] ?_)))))))
  by_cases hq7:(X0t 0 L.length (h+((k2:Nat):Int)))≠0
  ·have hx9:=Xdx (bf:=(rblk 0 L)) (n:=L.length) (seq:=seq) (x:=x) (b:=b) (h:=h) (i:=i) h3 h4 h5 (by have h9:=Xix hq7 (by omega);omega)
   refine cT (dT hq7) (sR [] (T.ret (rT (rB (rT (rT (rB (rT ?_))))))))
   refine eN ⟨(Zra L seq x b h i k2),[(Zqf d L),(Zqg L),Zql,(Zr5 L seq x b h i k2),(Zr6 L h k2),.live (.box 65 (Zrb L h k2))]⟩ ?_
   refine X7 (s':=⟨(Zra L seq x b h i k2),[(Zqf d L),(Zqg L),.live (.box 49 Zqr),(Zr5 L seq x b h i k2),(Zr6 L h k2),.live (.box 65 (Zrb L h k2))]⟩) (fun _ _ hG=>Yt (s:=⟨(Zra L seq x b h i k2),[(Zqf d L),(Zqg L),Zql,(Zr5 L seq x b h i k2),(Zr6 L h k2),.live (.box 65 (Zrb L h k2))]⟩) ⟨.inl rfl,(kk8 p2b)⟩ (kk2 ⟨pr,⟨.inl rfl,(kk2 trivial)⟩⟩) hG) ?_
   exact eX [.c 12 2 49 0 49 [dI 0,Zqn,Zqo,Zqp,dI 0,dI 0,Zqo,dI 0,dI 0,Zqq] (.agg Zqr),.t 13 (.one (dI 4))] ⟨⟨rfl,rfl,by kernel_rfl,by kernel_rfl,.inl ⟨10,J0,rfl,Nat.le_of_ble_eq_true rfl⟩⟩,⟨⟨rfl,by kernel_rfl⟩,trivial⟩⟩ [0,1] pZ4 (ix (ix trivial))
  have hbi:=blk_in hq7
  refine cF (dF hq7) (T.skip (nT ?_))
  refine xD [[],[0],[],[2],[2,3],[0,1,2,3,4],[0,1,2,3,4,5],[0,1,2,3,4,5,6]] [hR 3 rfl rfl (rCa (X48 false (rblk 0 L (h+((k2:Nat):Int))) ‹_›) Tryz.func44 [] [(.tmp 76,.tv (.agg (Zrb L h k2)))] 0 0),hR 4 rfl rfl (Yc 6 69 (X8 false) (Vm false) [(Wp (rblk 0 L (h+((k2:Nat):Int))))] [⟨0,.tmp 77,.agg [dI (Zrc L h k2).Xg,dS (Zrc L h k2).Y0,dI (Zrc L h k2).Ye,dS (Zrc L h k2).W3],0⟩] (cs:=[dI (Zrc L h k2).Xg,dS (Zrc L h k2).Y0,dI (Zrc L h k2).Ye,dS (Zrc L h k2).W3]) Tryz.underlying41 Jz rfl X78 rfl rfl rfl pd (Yr rfl rfl pd W5) pZ8 (V4 pZ8) (X3 rfl) trivial),hR 5 rfl rfl (W2 4 7 69 48 (X8 false) (Vm false) (hdrs (rblk 0 L) h k2) [(Wp (rblk 0 L (h+((k2:Nat):Int))))] ((hdrs (rblk 0 L) h k2)++[(Wp (rblk 0 L (h+((k2:Nat):Int))))]) (hdrs (rblk 0 L) h k2).length (sy:=(.own 6 (X8 false).sz 0 [(Zrc L h k2)].length)) (rhs:=[(6,.live (Xf 69 (X8 false) [(Zrc L h k2)]))]) X4r (by omega) (Wv 6 69 (X8 false) [(Wp (rblk 0 L (h+((k2:Nat):Int))))]) Jy (by (simp [maxLen,-List.getD_eq_getElem?_getD]<;>omega)) (by (simp [maxLen,-List.getD_eq_getElem?_getD]<;>omega)) (X3 rfl) trivial)] pZ8 pZ8 pZ8 pZ8 pZ8 pZ8 ?_
  refine nB (nT (xK [hR 1 rfl rfl (Yd (u1:=.int .i64 (h+((k2:Nat):Int))) (u2:=.int .i64 1) (v:=.int .i64 ((h+((k2:Nat):Int))+1)) (Wb pc) (X3 rfl) ⟨rfl,trivial⟩)] ?_))
  refine nL (k2+1) ⟨(show (((k2+1):Nat):Int)≤seq-h+1 from (by omega)),(show (k2+1)=0∨h+(((k2+1):Nat):Int)≤((L.length:Nat):Int)+1 from (.inr (by omega)))⟩ (show ((seq-h+1).toNat-(k2+1):Nat)<(seq-h+1).toNat-k2 from (by omega)) (fun _ _ hG=>Wf [0,1,2,3,7] (bm 53 4503874506223679) (t1:=(Zrd seq x b h i k2)) (t2:=[pv 0 0,vI seq,(Zqe x),slV false false kU8 b,vI h,vI i,aa,aa,aa,aa,aa,aa,pv 2 0,vI 0,(Zqh b),aa,aa,(Zqi b),pv 3 0,vI ((h+((k2:Nat):Int))+1),aa,aa,aa,aa,aa,aa,aa,aa,aa,aa,aa,aa,aa,aa,aa,aa,aa,aa,(Zqt seq b),aa,aa,aa,aa,aa,aa,aa,aa,aa,aa,aa,aa,aa,(Zqx seq h)]) (h1:=[(Zqf d L),(Zqg L),Zql,.live (.box 49 [(Zr0 seq),(Zr1 x),(Zr2 b),.own 7 (X8 false).sz 0 (hdrs (rblk 0 L) h (k2+1)).length,dI i,dI 0,Zqk,dI 0,dI 0,Zqk]),.live (Xf 69 (X8 false) (hdrs (rblk 0 L) h (k2+1)))]) (h2:=[(Zqf d L),(Zqg L),Zql,.live (.box 49 [(Zr0 seq),(Zr1 x),(Zr2 b),.own 7 (X8 false).sz 0 ((hdrs (rblk 0 L) h k2)++[(Zrc L h k2)]).length,dI i,dI 0,Zqk,dI 0,dI 0,Zqk]),.live (Xf 69 (X8 false) ((hdrs (rblk 0 L) h k2)++[(Zrc L h k2)]))]) p1u (by have e1:((hdrs (rblk 0 L) h (k2+1)).length:Nat)=((hdrs (rblk 0 L) h k2)++[(Wp (rblk 0 L (h+((k2:Nat):Int))))]).length:=p4p;have e2:((hdrs (rblk 0 L) h (k2+1)):List Yb)=(hdrs (rblk 0 L) h k2)++[(Wp (rblk 0 L (h+((k2:Nat):Int))))]:=p4p;have hE:=congr (congrArg (fun (q1:Nat) (q2:List Yb)=>([(Zqf d L),(Zqg L),Zql,.live (.box 49 [(Zr0 seq),(Zr1 x),(Zr2 b),.own 7 (X8 false).sz 0 q1,dI i,dI 0,Zqk,dI 0,dI 0,Zqk]),.live (Xf 69 (X8 false) q2)]:List HS)) e1) e2;exact hE) hG)
 have hkn:((k2:Nat):Int)=seq-h+1:=(by omega);have h6:¬seq>((L.length:Nat):Int):=(by omega)
 refine cF (dF hq6) (T.exit (xT (xT (xH (nT (sR [hR 2 rfl rfl (rCa (X6l 0 d L h (by omega) ‹_› ‹_›) Tryz.func20 [0,1] [(.tmp 82,pv 0 0),(.tmp 83,vI h)] 2 2)] (sR [hR 2 rfl rfl (rCa (Xdr false (rblk 0 L h) i ‹_›) Tryz.func45 [] [(.tmp 88,.tv (.agg (Zre L h))),(.tmp 89,vI i)] 0 0)] (T.seq (sR [] ?_)))))))))
 by_cases hq8:(J8 (rblk 0 L h) i)≠0
 ·have hx9:=Xi1 (bf:=(rblk 0 L)) (n:=L.length) (seq:=seq) (x:=x) (b:=b) (h:=h) (i:=i) h3 h4 h5 h6 hq8
  refine cT (dT hq8) (sR [] (T.ret (rT ?_)))
  refine eN ⟨(Zrf L seq x b h i k2),[(Zqf d L),(Zqg L),Zql,(Zr5 L seq x b h i k2),(Zr6 L h k2),.live (.box 65 (Zre L h))]⟩ ?_
  refine X7 (s':=⟨(Zrf L seq x b h i k2),[(Zqf d L),(Zqg L),.live (.box 49 Zqr),(Zr5 L seq x b h i k2),(Zr6 L h k2),.live (.box 65 (Zre L h))]⟩) (fun _ _ hG=>Yt (s:=⟨(Zrf L seq x b h i k2),[(Zqf d L),(Zqg L),Zql,(Zr5 L seq x b h i k2),(Zr6 L h k2),.live (.box 65 (Zre L h))]⟩) ⟨.inl rfl,(kk2 (kk4 (kk8 (X3o p2b))))⟩ (kk2 ⟨pr,⟨.inl rfl,(kk2 trivial)⟩⟩) hG) ?_
  exact eX [.c 12 2 49 0 49 [dI 0,Zqn,Zqo,Zqp,dI 0,dI 0,Zqo,dI 0,dI 0,Zqq] (.agg Zqr),.t 13 (.one (dI (J8 (rblk 0 L h) i)))] ⟨⟨rfl,rfl,by kernel_rfl,by kernel_rfl,.inl ⟨10,J0,rfl,Nat.le_of_ble_eq_true rfl⟩⟩,⟨⟨rfl,by kernel_rfl⟩,trivial⟩⟩ [0,1] pZ4 (ix (ix trivial))
 have hx9:=prv_ok (bf:=(rblk 0 L)) (n:=L.length) (seq:=seq) (x:=x) (b:=b) (h:=h) (i:=i) h3 h4 h5 h6 hq8 hkn;obtain ⟨p1,p2,p3,p4,p5,p6,p7⟩:=X7i (hfw h) (Classical.not_not.1 hq8)
 refine cF (dF hq8) (T.skip (nT (sR [] (sR [hR 3 rfl rfl (We false false (kE false) (rblk 0 L h).Xb (i).toNat (k:=.i64) (i:=i) Tryz.underlying37 Vi rfl (by omega) (by omega) (X3 rfl) trivial)] (sR [hR 3 rfl rfl (We false false (Xe false) (rblk 0 L h).Xj (i).toNat (k:=.i64) (i:=i) Tryz.underlying63 Ej rfl (by omega) (by omega) (X3 rfl) trivial)] (sR [] (T.ret ?_)))))))
 refine eN ⟨(Zrg L seq x b h i k2),[(Zqf d L),(Zqg L),(Zrl L seq x b h i k2),(Zrl L seq x b h i k2),(Zr6 L h k2),.live (.box 65 (Zre L h))]⟩ ?_
 refine X7 (s':=⟨(Zrg L seq x b h i k2),[(Zqf d L),(Zqg L),.live (.box 49 (Zrm L seq x b h i k2)),.live (.box 49 (Zrm L seq x b h i k2)),.dead,.live (.box 65 (Zre L h))]⟩) (fun _ _ hG=>Gs.freeze (s:=⟨(Zrg L seq x b h i k2),[(Zqf d L),(Zqg L),(Zrl L seq x b h i k2),(Zrl L seq x b h i k2),(Zr6 L h k2),.live (.box 65 (Zre L h))]⟩) 4 (el:=W7 (X8 false) (hdrs (rblk 0 L) h k2)) (sz:=(X8 false).sz) (n:=(hdrs (rblk 0 L) h k2).length) rfl ⟨.inl rfl,(kk2 (kk4 (kk8 (X3o p2b))))⟩ ⟨pZ9,⟨pZ9,⟨pq,⟨pq,⟨(.inl ⟨rfl,rfl⟩),⟨pZ9,trivial⟩⟩⟩⟩⟩⟩ hG) ?_
 exact eX [.c 12 2 49 0 49 [(Zr0 seq),(Zr1 x),(Zr2 b),.d (dsl false false (X8 false) (hdrs (rblk 0 L) h k2)),dI i,(Zrh L h i),(Zri L h i),(Zrj L h i),(Zrk L h i),.d (dsl false false (Xa false) (Is (rblk 0 L h) i))] (.agg (Zrm L seq x b h i k2)),.t 13 (.one (dI 0))] ⟨⟨rfl,rfl,by kernel_rfl,by kernel_rfl,.inl ⟨10,J0,rfl,Nat.le_of_ble_eq_true rfl⟩⟩,⟨⟨rfl,by kernel_rfl⟩,trivial⟩⟩ [0,1] pZ4 (ix (ix trivial))
end Go.Proofs.YtnaopgohccacmaaGreat.Q
namespace Go.Proofs.YtnaopgohccacmaaGreat.Q
set_option linter.unusedVariables false
set_option linter.unusedSimpArgs false
set_option maxRecDepth 100000
abbrev d9:List UInt8:=ofB 6 ([]:List (List UInt8))
theorem dig_len9 {b:Xq} (h:Hl b):(Fa (Wp b)).length≤b.Y0.length+26000:=by
  have h2:=Ua (J6 h)
  have h3:(Wp b).W3.length≤25400:=h2
  have h4:(Wp b).Y0=b.Y0:=rfl
  unfold Fa
  rw [X2m,sz4,Wk,Wk,h4]
  omega
theorem at_snoc9 (d:List UInt8) (L:List Xq) (b:Xq):atB d (L++[b]) (L++[b]).length=Fa (Wp b):=by
  unfold atB
  rw [if_neg (by simp),List.length_append,List.getD_eq_getElem?_getD,List.getElem?_append_right (by simp)]
  simp
def Il (i n:Nat):List aE:=(List.range n).map fun (k:Nat)=>⟨((1000+k:Nat):Int),[UInt8.ofNat i,UInt8.ofNat k]⟩
def Ik (i n:Nat):List Y6:=(List.range n).map fun (k:Nat)=>⟨0,((i+k:Nat):Int)⟩
theorem X8d (i n:Nat):Il i (n+1)=Il i n++[⟨((1000+n:Nat):Int),[UInt8.ofNat i,UInt8.ofNat n]⟩]:=by unfold Il;rw [List.range_succ,List.map_append];rfl
theorem X8c (i n:Nat):Ik i (n+1)=Ik i n++[⟨0,((i+n:Nat):Int)⟩]:=by unfold Ik;rw [List.range_succ,List.map_append];rfl
theorem X5b (i n:Nat):(Il i n).length=n:=by unfold Il;rw [List.length_map,List.length_range]
theorem X5a (i n:Nat):(Ik i n).length=n:=by unfold Ik;rw [List.length_map,List.length_range]
def Jr (b:Int):Int:=(Int.tmod b 5+5) % 5
theorem X4t (b:Int):0≤Jr b∧Jr b≤4:=by
  unfold Jr
  have h1:=Int.emod_nonneg (Int.tmod b 5+5) (b:=5) (by decide)
  have h2:=Int.emod_lt_of_pos (Int.tmod b 5+5) (b:=5) (by decide)
  omega
theorem tmod5 (a:Int):-5<a.tmod 5∧a.tmod 5<5:=by
  rcases Int.le_total 0 a with h|h
  · rw [Int.tmod_eq_emod_of_nonneg h];omega
  · have e:a.tmod 5=-((-a).tmod 5):=by rw [Int.neg_tmod,Int.neg_neg]
    rw [e,Int.tmod_eq_emod_of_nonneg (by omega)];omega
def I2 (L:List Xq) (i n:Nat):Xq:=⟨((i+1:Nat):Int),atB d9 L L.length,Il i n,Ik i n⟩
def Ym (bs:List Int):Nat→List Xq
  | 0=>[]
  | i+1=>Ym bs i++[I2 (Ym bs i) i (Jr (bs.getD i 0)).toNat]
theorem Iw (bs:List Int):∀ i,(Ym bs i).length=i
  | 0=>rfl
  | i+1=>by rw [Ym,List.length_append,Iw bs i];rfl
theorem X62 {L:List Xq} {i n:Nat} (hn:n≤4) (hL:(atB d9 L L.length).length≤10000000):Hl (I2 L i n):=by
  refine ⟨⟨by rw [show (I2 L i n).Xb=Il i n from rfl,X5b];omega,fun e he=>?_⟩,by rw [show (I2 L i n).Xj=Ik i n from rfl,X5a];omega,hL⟩
  obtain ⟨k,_,rfl⟩:=List.mem_map.1 he
  show (2:Nat)≤500
  decide
theorem blk_chk9 {L:List Xq} {i n:Nat} (hn:n≤4) (hi:i≤1000000):Vd (I2 L i n)=0:=by
  have h1:(I2 L i n).Xb.length=n:=X5b i n
  have h2:(I2 L i n).Xj.length=n:=X5a i n
  have h3:(I2 L i n).Xg=((i+1:Nat):Int):=rfl
  unfold Vd
  rw [h1,h2,h3,if_neg (by omega),if_neg (by omega)]
theorem E9 (bs:List Int):∀ i,i≤100→(atB d9 (Ym bs i) (Ym bs i).length).length≤5000+26000*i∧X12 (Ym bs i)
  | 0,_=>⟨by show (ofB 6 ([]:List (List UInt8))).length≤_;decide +kernel,fun b hb=>by cases hb⟩
  | i+1,hi=>by
    obtain ⟨h1,h2⟩:=E9 bs i (by omega)
    have hc:=X4t (bs.getD i 0)
    have hf:Hl (I2 (Ym bs i) i (Jr (bs.getD i 0)).toNat):=X62 (by omega) (by omega)
    refine ⟨?_,fun b hb=>?_⟩
    · rw [Ym,at_snoc9]
      have h3:=dig_len9 hf
      have h4:(I2 (Ym bs i) i (Jr (bs.getD i 0)).toNat).Y0=atB d9 (Ym bs i) (Ym bs i).length:=rfl
      rw [h4] at h3
      omega
    · rw [Ym] at hb
      rcases List.mem_append.1 hb with hb|hb
      · exact h2 b hb
      · rw [List.mem_singleton] at hb;rw [hb];exact hf
theorem Xgt (L:List Xq) (b:Xq):Yn (L++[b])=Yn L++[lnk b]:=by unfold Yn;rw [List.map_append];rfl
theorem app_chn9 {bs:List Int} {i:Nat} (hi:i≤100):X0v 0 d9 (Yn (Ym bs i)) (I2 (Ym bs i) i (Jr (bs.getD i 0)).toNat)=Yn (Ym bs (i+1))∧H9 0 d9 (Ym bs i) (I2 (Ym bs i) i (Jr (bs.getD i 0)).toNat)=Ym bs (i+1):=by
  have hc:=X4t (bs.getD i 0)
  have hl:=Iw bs i
  have h1:¬Vd (I2 (Ym bs i) i (Jr (bs.getD i 0)).toNat)≠0:=fun q=>q (blk_chk9 (by omega) (by omega))
  have h2:(I2 (Ym bs i) i (Jr (bs.getD i 0)).toNat).Xg=((i+1:Nat):Int):=rfl
  refine ⟨?_,(X7g h1 (by rw [h2,hl];omega) (fun q=>q rfl)).2⟩
  rw [(X9x h1 (by rw [h2,Uy,hl];omega) (by rw [X9a];exact fun q=>q rfl)).2,Ym,Xgt]
abbrev chL (c:Y3):List Xq:=Ym c.X4 c.X4.length
def V8 (c:Y3):List UInt8:=Jh ((c.X4.length:Nat):Int) (atB d9 (chL c) (chL c).length) c.Uf
def Xi4:List UInt8:=[97,110,111,116,104,101,114,32,111,110,101]
def ckD9 (c:Y3):List UInt8:=if c.Iy=true then Xi4 else ofB 7 [V8 c]
def Ul (c:Y3):aM:=⟨5,0,max 1 ((c.X4.length:Nat):Int),0,0,ckD9 c,[],Yj,[],[],[]⟩
def votE9 (c:Y3) (s:Int):aE:=⟨s,F2 (Ul c)⟩
def Vn (c:Y3) (k:Nat):List aE:=(c.Xy.take k).map (votE9 c)
def H0 (f u:Int) (c:Y3):Nat→List aE
  | 0=>[]
  | k+1=>Ht f u (H0 f u c k) (c.Xy.getD k 0) (F2 (Ul c))
theorem Xal {c:Y3} {k:Nat} (hk:k<c.Xy.length):Vn c (k+1)=Vn c k++[votE9 c (c.Xy.getD k 0)]:=by unfold Vn;rw [Ho (z:=0) hk,List.map_append];rfl
theorem Xd6 {c:Y3} {k:Nat} (hk:k≤c.Xy.length):(Vn c k).length=k:=by unfold Vn;rw [List.length_map,List.length_take];omega
theorem X9v (f u:Int) (c:Y3):∀ k,(H0 f u c k).length≤k
  | 0=>Nat.le_refl _
  | k+1=>by have:=Xjf f u (H0 f u c k) (c.Xy.getD k 0) (F2 (Ul c));have:=X9v f u c k;rw [H0];omega
def Uj (c:Y3):Prop:=c.X4.length≤20∧c.Uf.length≤500∧c.Xy.length≤12
instance (c:Y3):Decidable (Uj c):=inferInstanceAs (Decidable (_∧_∧_))
theorem X25 {c:Y3} (h:Uj c):(V8 c).length≤600000:=by
  have h1:(atB d9 (chL c) (chL c).length).length≤5000+26000*c.X4.length:=(E9 c.X4 c.X4.length (by have:=h.1;omega)).1
  have h2:=h.1
  have h3:=h.2.1
  unfold V8
  rw [Xe0]
  omega
theorem Xf9 {c:Y3} (h:Uj c):(ckD9 c).length≤700000:=by
  unfold ckD9
  split
  · decide
  · rw [X2m]
    have h1:=X25 h
    show 5+(4+(V8 c).length)≤_
    omega
theorem Xf8 {c:Y3} (h:Uj c):(Ya (Ul c) 9).length≤800000:=by
  have e:=Xh2 (Ul c)
  have e1:(Ul c).X9=ckD9 c:=rfl
  have e2:(Ul c).Xc=[]:=rfl
  have e3:(Vq (Ul c).Xp).length=4:=rfl
  have e4:(Vq (Ul c).Y4).length=4:=rfl
  have e5:(Em (Ul c).X6).length=4:=rfl
  rw [e1,e2,e3,e4,e5,List.length_nil] at e
  have:=Xf9 h
  omega
theorem Xfa {c:Y3} (h:Uj c):(F2 (Ul c)).length≤800000:=by
  unfold F2
  split
  · exact Xf8 h
  · simp
def rngW (c:Y3):Prop:=∀ s,s∈c.Xy→Ek s
theorem Xbk {c:Y3} (h:Uj c) (hr:rngW c) {k:Nat}:X16 (Vn c k):=⟨by
  unfold Vn;rw [List.length_map,List.length_take];have:=h.2.2;omega,fun e he=>by
  obtain ⟨s,hs,rfl⟩:=List.mem_map.1 he
  exact ⟨hr s (List.mem_of_mem_take hs),Nat.le_trans (Xfa h) (by decide)⟩⟩
end Go.Proofs.YtnaopgohccacmaaGreat.Q
namespace Go.Proofs.YtnaopgohccacmaaGreat.Q
open Go Go.RowKit
set_option linter.unusedVariables false
set_option linter.unusedSimpArgs false
set_option maxRecDepth 100000
set_option maxHeartbeats 4000000
theorem Xk5 (c:Y3) (h0:c.X4.length≤9223372036854775807) (h1:c.Uf.length≤9223372036854775807) (h2:c.Xy.length≤9223372036854775807):Holds Tryz.prog 9 ⟨[.tv (.agg [.d (dsl false false (Vv .i64) c.X4),dU c.Uf,.d (dsl false false (Vv .i64) c.Xy),dB c.Iy])],[],vB (decide (Uj c)),[]⟩:=by
 refine Holds.of Tryz.func9 rfl (N:=19) Tryz.ntmps9 rfl fun w0 B0 S0 U0=>?_
 show T _ (Y2 19 0 w0 S0 U0 B0) ⟨[.tv (.agg [.d (dsl false false (Vv .i64) c.X4),dU c.Uf,.d (dsl false false (Vv .i64) c.Xy),dB c.Iy])],[]⟩ _ _
 refine sR [] ?_
 by_cases hq1:((c.X4.length:Nat):Int)≤20
 ·by_cases hq2:((c.Uf.length:Nat):Int)≤500
  ·refine sR (Xm (hY · (dT hq1)) [5,6,7,8] (hP 9 (dT hq1)::(Xm (hY · (dT hq2)) [11,12,13,14] (hP 15 (dT hq2)::[])))) (T.ret ?_)
   exact eRt 2 (.one (dB (decide (((c.Xy.length:Nat):Int)≤12)))) [] (cB (by exact decide_eq_decide.2 (by unfold Uj;omega))) trivial
  refine sR (Xm (hY · (dT hq1)) [5,6,7,8] (hP 9 (dT hq1)::(Xm (hN · true (dF hq2)) [11,12,13,14] (hP 15 (dF hq2)::[])))) (T.ret ?_)
  exact eRt 2 (.one (dB false)) [] (cB (by exact dF (by unfold Uj;omega))) trivial
 refine sR (Xm (hN · true (dF hq1)) [5,6,7,8] (hP 9 (dF hq1)::(Xm hN1 [11,12,13,14] (hP0 15::[])))) (T.ret ?_)
 exact eRt 2 (.one (dB false)) [] (cB (by exact dF (by unfold Uj;omega))) trivial
end Go.Proofs.YtnaopgohccacmaaGreat.Q
