import Derived.Test.YtnaopgohccacmaaGreatC19n37
namespace Go.Proofs.YtnaopgohccacmaaGreat.Q
open Go Go.RowKit
set_option linter.unusedVariables false
set_option linter.unusedSimpArgs false
set_option maxRecDepth 100000
set_option maxHeartbeats 4000000
section
variable (th:Bool) (nh:Bool) (hs:List Yf) (H:Int) (d:List UInt8) (k:Nat) (w:List UInt8)
abbrev Znl:AV:=slV th nh (X7 false) hs
abbrev Znn:AV:=vI (H-((k:Nat):Int))
abbrev Zno:AV:=vB (decide ((((hs.length:Nat):Int)-1-((k:Nat):Int))≥0))
abbrev Znp:List AV:=[(Znl th nh hs),(Znn H k),aa,aa,aa,aa,aa,vI (F1 hs d k),dv (Yh w),vI (((hs.length:Nat):Int)-1-((k:Nat):Int)),aa,aa,aa,aa,aa,(Zno hs k)]
abbrev Znq:List AV:=[(Znl th nh hs),(Znn H k),aa,aa,aa,aa,aa,vI (F1 hs d k),dv (Yh w),vI (((hs.length-1-k):Nat):Int),aa,aa,aa,aa,aa,(Zno hs k)]
abbrev Zns:AV:=vI ((H-((k:Nat):Int))-1)
abbrev Znt:AV:=vI ((((hs.length-1-k):Nat):Int)-1)
abbrev Znu:AV:=dv (Yh (hs.getD (hs.length-1-k) Xh).Y4)
end
theorem Xch (th:Bool) (nh:Bool) (hs:List Yf) (H:Int) (d:List UInt8) (ho:okHs hs) (hn:hs.length≤1000) (hH:-9223372036854770000≤H∧H≤9223372036854775807):Holds Tryz.prog 46 ⟨[slV th nh (X7 false) hs,vI H,dv (Yh d)],[],vI (X1w hs H d),[]⟩:=by
 refine Holds.of Tryz.func46 rfl (N:=42) Tryz.ntmps46 rfl fun w0 B0 S0 U0=>?_
 show T _ (Y2 42 0 w0 S0 U0 B0) ⟨[(Znl th nh hs),vI H,dv (Yh d)],[]⟩ _ _
 refine sR [] ?_
 refine Xfj ?_
 refine sR [] ?_
 refine sR [] ?_
 refine T.seq ?_
 refine T.label ?_
 refine nT (T.seq ?_)
 refine sR [hR 2 rfl rfl (Ye (u1:=.int .i64 ((hs.length:Nat):Int)) (u2:=.int .i64 1) (v:=.int .i64 (((hs.length:Nat):Int)-1)) (Ve pa) (X3 rfl) ⟨rfl,trivial⟩)] ?_
 refine T.block ?_
 refine T.loop (ι:=Nat×(List UInt8)) (fun (x_:Nat×(List UInt8))=>⟨[(Znl th nh hs),vI (H-((x_.1:Nat):Int)),aa,aa,aa,aa,aa,vI (F1 hs d x_.1),dv (Yh x_.2),vI (((hs.length:Nat):Int)-1-((x_.1:Nat):Int))],[]⟩) (fun (x_:Nat×(List UInt8))=>(x_.1≤hs.length)∧(X7e hs H x_.1)∧(En hs d x_.1→x_.1<hs.length→x_.2=F9 hs d (hs.length-1-x_.1))) (fun (x_:Nat×(List UInt8))=>hs.length-x_.1) (0,d) ⟨(Nat.zero_le _),hgt_0,(fun _ q=>(nxt_end q).symm)⟩ (fun _ _ hG=>Yt [] (bm 10 899) (t2:=[(Znl th nh hs),vI H,aa,aa,aa,aa,aa,vI 0,dv (Yh d),vI (((hs.length:Nat):Int)-1)]) (cg3 (fun (q1:Int) (q2:Int) (q3:Int)=>([(Znl th nh hs),vI q1,aa,aa,aa,aa,aa,vI q2,dv (Yh d),vI q3]:List AV)) (show (H-((0:Nat):Int):Int)=H from (by omega)) (by exact (if_pos dig_00)) (show (((hs.length:Nat):Int)-1-((0:Nat):Int):Int)=((hs.length:Nat):Int)-1 from (by omega))) rfl hG) ?_
 rintro ⟨k,w⟩ ⟨hk,hh,hw⟩
 show T _ _ ⟨[(Znl th nh hs),(Znn H k),aa,aa,aa,aa,aa,vI (F1 hs d k),dv (Yh w),vI (((hs.length:Nat):Int)-1-((k:Nat):Int))],[]⟩ _ _
 replace hk:k≤hs.length:=hk
 replace hh:X7e hs H k:=hh
 replace hw:En hs d k→k<hs.length→w=F9 hs d (hs.length-1-k):=hw
 refine T.seq ?_
 refine sR [] ?_
 by_cases hq1:(((hs.length:Nat):Int)-1-((k:Nat):Int))≥0
 rotate_left
 ·have hz9:=lnk_end (d:=d) (by omega) hk hh
  refine cF (dF hq1) ?_
  refine T.exit ?_
  refine xT ?_
  refine xT ?_
  refine xH ?_
  refine nT ?_
  refine sR [] ?_
  refine T.ret ?_
  refine rS ?_
  exact eRt 6 (.one (dI (F1 hs d k))) [] p2n trivial
 have hkl:k<hs.length:=(by omega);have hok:=X4s ho (hs.length-1-k);have hok1:=hok.1;have hok2:=hok.2.1
 refine cT (dT hq1) ?_
 refine T.skip (nT (T.seq ?_))
 refine T.block ?_
 refine T.seq ?_
 refine tN ⟨(Znp th nh hs H d k w),[]⟩ ?_
 refine Wv (s':=⟨(Znq th nh hs H d k w),[]⟩) (fun _ _ hG=>Yt [] (bm 16 33667) (t2:=(Znp th nh hs H d k w)) (congrArg (fun (q1:Int)=>([(Znl th nh hs),(Znn H k),aa,aa,aa,aa,aa,vI (F1 hs d k),dv (Yh w),vI q1,aa,aa,aa,aa,aa,(Zno hs k)]:List AV)) (by omega)) rfl hG) ?_
 refine sR [hR 2 rfl rfl (Wd th nh (X7 false) hs (hs.length-1-k) (k:=.i64) (i:=(((hs.length-1-k):Nat):Int)) Tryz.underlying41 Ja rfl rfl (by omega) (X3 rfl) trivial)] ?_
 by_cases hq2:(hs.getD (hs.length-1-k) Xh).Xg≠(H-((k:Nat):Int))
 ·have hz9:=lnk_h (d:=d) hkl hq2
  refine cT (dT hq2) ?_
  refine sR [] ?_
  refine T.ret (rT (rB (rT (rT (rB (rT ?_))))))
  refine rS ?_
  exact eRt 6 (.one (dI 100)) [] p2n trivial
 have hh9:=hgt_succ hkl hh hq2
 refine cF (dF hq2) ?_
 refine T.skip (nT ?_)
 refine sR [hR 1 rfl rfl (Ye (u1:=.int .i64 (H-((k:Nat):Int))) (u2:=.int .i64 1) (v:=.int .i64 ((H-((k:Nat):Int))-1)) (Ve pa) (X3 rfl) ⟨rfl,trivial⟩)] ?_
 refine T.seq ?_
 refine sR [] ?_
 by_cases hq3:(F1 hs d k)≠0
 ·have he9:=(Xew hq3).1;have hw9:En hs d (k+1)→k+1<hs.length→w=F9 hs d (hs.length-1-(k+1)):=fun q=>absurd q (Xew hq3).2
  refine cT (dT hq3) ?_
  refine T.exit ?_
  refine xT ?_
  refine xH ?_
  refine nT ?_
  refine xK [hR 1 rfl rfl (Ye (u1:=.int .i64 (((hs.length-1-k):Nat):Int)) (u2:=.int .i64 1) (v:=.int .i64 ((((hs.length-1-k):Nat):Int)-1)) (Ve pa) (X3 rfl) ⟨rfl,trivial⟩)] ?_
  refine nL (k+1,w) ⟨(show (k+1)≤hs.length from (by omega)),(show X7e hs H (k+1) from hh9),(show En hs d (k+1)→(k+1)<hs.length→w=F9 hs d (hs.length-1-(k+1)) from hw9)⟩ (show (hs.length-(k+1):Nat)<hs.length-k from (by omega)) (fun _ _ hG=>Yt [] (bm 10 899) (t2:=[(Znl th nh hs),(Zns H k),aa,aa,aa,aa,aa,vI (F1 hs d k),dv (Yh w),(Znt hs k)]) (cg3 (fun (q1:Int) (q2:Int) (q3:Int)=>([(Znl th nh hs),vI q1,aa,aa,aa,aa,aa,vI q2,dv (Yh w),vI q3]:List AV)) (by omega) (by exact he9) (by omega)) rfl hG)
 have h7:=hq3
 refine cF (dF hq3) ?_
 refine T.skip (nT (T.seq ?_))
 refine sR [hR 2 rfl rfl (Wd th nh (X7 false) hs (hs.length-1-k) (k:=.i64) (i:=(((hs.length-1-k):Nat):Int)) Tryz.underlying41 Ja rfl rfl (by omega) (X3 rfl) trivial),hR 4 rfl rfl (rCa (X5a (hs.getD (hs.length-1-k) Xh) ‹_› ‹_›) Tryz.func91 [] [(.tmp 32,.tv (.agg [dI (hs.getD (hs.length-1-k) Xh).Xg,dS (hs.getD (hs.length-1-k) Xh).Y4,dI (hs.getD (hs.length-1-k) Xh).Yg,dS (hs.getD (hs.length-1-k) Xh).W2]))] 0 0)] ?_
 by_cases hq4:(Ii (hs.getD (hs.length-1-k) Xh))≠w
 ·have he9:=(Xi5 hkl hw h7 hq4).1;have hw9:En hs d (k+1)→k+1<hs.length→(hs.getD (hs.length-1-k) Xh).Y4=F9 hs d (hs.length-1-(k+1)):=fun q=>absurd q (Xi5 hkl hw h7 hq4).2
  refine cT (dT hq4) ?_
  refine xK [] ?_
  refine nT ?_
  refine xK [hR 2 rfl rfl (Wd th nh (X7 false) hs (hs.length-1-k) (k:=.i64) (i:=(((hs.length-1-k):Nat):Int)) Tryz.underlying41 Ja rfl rfl (by omega) (X3 rfl) trivial)] ?_
  refine nB ?_
  refine nT ?_
  refine xK [hR 1 rfl rfl (Ye (u1:=.int .i64 (((hs.length-1-k):Nat):Int)) (u2:=.int .i64 1) (v:=.int .i64 ((((hs.length-1-k):Nat):Int)-1)) (Ve pa) (X3 rfl) ⟨rfl,trivial⟩)] ?_
  refine nL (k+1,(hs.getD (hs.length-1-k) Xh).Y4) ⟨(show (k+1)≤hs.length from (by omega)),(show X7e hs H (k+1) from hh9),(show En hs d (k+1)→(k+1)<hs.length→(hs.getD (hs.length-1-k) Xh).Y4=F9 hs d (hs.length-1-(k+1)) from hw9)⟩ (show (hs.length-(k+1):Nat)<hs.length-k from (by omega)) (fun _ _ hG=>Yt [] (bm 10 899) (t2:=[(Znl th nh hs),(Zns H k),aa,aa,aa,aa,aa,vI 101,(Znu hs k),(Znt hs k)]) (cg3 (fun (q1:Int) (q2:Int) (q3:Int)=>([(Znl th nh hs),vI q1,aa,aa,aa,aa,aa,vI q2,(Znu hs k),vI q3]:List AV)) (by omega) (by exact he9) (by omega)) rfl hG)
 have he9:=err_good hkl hw h7 hq4;have hw9:En hs d (k+1)→k+1<hs.length→(hs.getD (hs.length-1-k) Xh).Y4=F9 hs d (hs.length-1-(k+1)):=fun _ q=>(nxt_prev q).symm
 refine cF (dF hq4) ?_
 refine T.skip (nT ?_)
 refine xK [hR 2 rfl rfl (Wd th nh (X7 false) hs (hs.length-1-k) (k:=.i64) (i:=(((hs.length-1-k):Nat):Int)) Tryz.underlying41 Ja rfl rfl (by omega) (X3 rfl) trivial)] ?_
 refine nB ?_
 refine nT ?_
 refine xK [hR 1 rfl rfl (Ye (u1:=.int .i64 (((hs.length-1-k):Nat):Int)) (u2:=.int .i64 1) (v:=.int .i64 ((((hs.length-1-k):Nat):Int)-1)) (Ve pa) (X3 rfl) ⟨rfl,trivial⟩)] ?_
 refine nL (k+1,(hs.getD (hs.length-1-k) Xh).Y4) ⟨(show (k+1)≤hs.length from (by omega)),(show X7e hs H (k+1) from hh9),(show En hs d (k+1)→(k+1)<hs.length→(hs.getD (hs.length-1-k) Xh).Y4=F9 hs d (hs.length-1-(k+1)) from hw9)⟩ (show (hs.length-(k+1):Nat)<hs.length-k from (by omega)) (fun _ _ hG=>Yt [] (bm 10 899) (t2:=[(Znl th nh hs),(Zns H k),aa,aa,aa,aa,aa,vI (F1 hs d k),(Znu hs k),(Znt hs k)]) (cg3 (fun (q1:Int) (q2:Int) (q3:Int)=>([(Znl th nh hs),vI q1,aa,aa,aa,aa,aa,vI q2,(Znu hs k),vI q3]:List AV)) (by omega) (by exact he9) (by omega)) rfl hG)
theorem Hy (f:Int) (u:Int) (rows:List (Yn×Bool)) (c:Wo) (hf:0≤f∧f≤2) (hu:0≤u∧u≤8) (hc:okC9 c):Holds Tryz.prog 14 ⟨[pv 0 0,.tv (.agg [dI c.Xo,.d (dsl false false (kE false) c.Xv),dU c.Xa,.d (dsl false false (X7 false) c.X0),dI c.J6,dI c.Xs.X4,dU c.Xs.Xf,dI c.X1.Xw,dI c.X1.Xn,.d (dsl false false (Xb false) c.Yv)])],[.box 130 [dI (3*f+1),dI u,.mref 1],mpK Y0 Yc rows],vI (c9E (Xz f u rows) f c),[.live (.box 130 [dI (3*f+1),dI u,.mref 1]),.live (mpK Y0 Yc rows)]⟩:=by
 refine Holds.of Tryz.func14 rfl (N:=58) Tryz.ntmps14 rfl fun w0 B0 S0 U0=>?_
 show T _ (Y2 58 2 w0 S0 U0 B0) ⟨[pv 0 0,.tv (.agg [dI c.Xo,.d (dsl false false (kE false) c.Xv),dU c.Xa,.d (dsl false false (X7 false) c.X0),dI c.J6,dI c.Xs.X4,dU c.Xs.Xf,dI c.X1.Xw,dI c.X1.Xn,.d (dsl false false (Xb false) c.Yv)])],[.live (.box 130 [dI (3*f+1),dI u,.mref 1]),.live (mpK Y0 Yc rows)]⟩ _ _
 obtain ⟨hc1,hc2,hc3,hc4,hc5,hc6,hc7⟩:=hc
 have hc8:-9223372036854775808≤c.Xo∧c.Xo≤9223372036854775807:=hc7
 have hg0:=X4s hc3 0
 have hg1:=hg0.2.2.1
 refine sR [] ?_
 refine sR [hR 7 rfl rfl (rCa (X1x f u rows c.Xo false false false c.Xv false false c.Xa ‹_› ‹_› ‹_› ‹_› ‹_›) Tryz.func22 [0,1] [(.tmp 9,pv 0 0),(.tmp 11,vI c.Xo),(.tmp 13,slV false false (kE false) c.Xv),(.tmp 15,slV false false kU8 c.Xa)] 2 2)] ?_
 refine T.seq ?_
 by_cases hq1:(s9E (Xz f u rows) f c.Xo c.Xv c.Xa)=0
 rotate_left
 ·have hz9:=c9_s hq1
  refine sR (Xm (hN · true (dF hq1)) [3,4,5,6,7] (hU 8::(hU 9::(hU 10::(hU 11::(hN 12 true (dF hq1)::(hP 13 (dF hq1)::[]))))))) ?_
  refine cF (b:=false) rfl ?_
  refine T.skip (nT (T.seq ?_))
  refine sR [] ?_
  refine cF (dF hq1) ?_
  refine T.skip (nT (T.seq ?_))
  refine sR [] ?_
  by_cases hq5:(s9E (Xz f u rows) f c.Xo c.Xv c.Xa)≠0
  ·have hz9:=c9_s hq5
   refine cT (dT hq5) ?_
   refine sR [] ?_
   refine T.ret (rT ?_)
   exact eRt 4 (.one (dI (s9E (Xz f u rows) f c.Xo c.Xv c.Xa))) [0,1] p2n (ix (ix trivial))
  exact absurd hq1 hq5
 have h0:¬s9E (Xz f u rows) f c.Xo c.Xv c.Xa≠0:=fun w=>w hq1;have hs9:=s9_seq hq1
 by_cases hq2:((c.X0.length:Nat):Int)=0
 ·have hz9:=c9_n h0 (.inl (by omega))
  refine sR (Xm (hY · (dT hq1)) [3,4,5,6,7] (Xm (hN · false (dT hq2)) [8,9,10,11] (hS 12 (oY rfl rfl rfl rfl (X3 rfl) (dT hq1) (Wc (b:=(decide (((c.X0.length:Nat):Int)=0))) (av:=vB true) (X3 rfl) ⟨rfl,trivial⟩ (dT hq2)))::(hP 13 (dT hq1)::[])))) ?_
  refine cT (b:=true) rfl ?_
  refine xK [] ?_
  refine nT (T.seq ?_)
  refine sR [] ?_
  refine cF (b:=false) rfl ?_
  refine T.skip (nT (T.seq ?_))
  refine sR [] ?_
  refine cT (b:=true) rfl ?_
  refine sR [] ?_
  refine T.ret (rT ?_)
  exact eRt 4 (.one (dI 90)) [0,1] p2n (ix (ix trivial))
 refine sR (Xm (hY · (dT hq1)) [3,4,5,6,7] (Xm (hY · (dF hq2)) [8,9,10,11] (hS 12 (oY rfl rfl rfl rfl (X3 rfl) (dT hq1) (Wi (b:=(decide (((c.X0.length:Nat):Int)=0))) (av:=vB (decide (((c.X0.length:Nat):Int)>1000))) (X3 rfl) trivial (dF hq2)))::(hP 13 (dT hq1)::[])))) ?_
 by_cases hq3:((c.X0.length:Nat):Int)>1000
 ·have hz9:=c9_n h0 (.inr (by omega))
  refine cT (dT hq3) ?_
  refine xK [] ?_
  refine nT (T.seq ?_)
  refine sR [] ?_
  refine cF (b:=false) rfl ?_
  refine T.skip (nT (T.seq ?_))
  refine sR [] ?_
  refine cT (b:=true) rfl ?_
  refine sR [] ?_
  refine T.ret (rT ?_)
  exact eRt 4 (.one (dI 90)) [0,1] p2n (ix (ix trivial))
 have hn:¬(c.X0.length=0∨1000<c.X0.length):=(by omega)
 refine cF (dF hq3) ?_
 refine T.skip (nT (T.seq ?_))
 refine sR [] ?_
 refine cT (dT hq1) ?_
 refine xK [hR 5 rfl rfl (rCa (Xch false false c.X0 c.Xo (s9D (Xz f u rows) f c.Xo c.Xv c.Xa) ‹_› (by omega) (by omega)) Tryz.func46 [] [(.tmp 37,slV false false (X7 false) c.X0),(.tmp 39,vI c.Xo),(.tmp 40,dv (Yh (s9D (Xz f u rows) f c.Xo c.Xv c.Xa)))] 0 0)] ?_
 refine nT (T.seq ?_)
 refine sR [] ?_
 by_cases hq4:(X1w c.X0 c.Xo (s9D (Xz f u rows) f c.Xo c.Xv c.Xa))≠0
 ·have hz9:=c9_l h0 hn hq4
  refine cT (dT hq4) ?_
  refine sR [] ?_
  refine T.ret (rT ?_)
  exact eRt 4 (.one (dI (X1w c.X0 c.Xo (s9D (Xz f u rows) f c.Xo c.Xv c.Xa)))) [0,1] p2n (ix (ix trivial))
 have hz9:=c9_i h0 hn hq4
 refine cF (dF hq4) ?_
 refine T.skip (nT ?_)
 refine sD [[],[0],[0,1],[0,1,2],[],[4],[],[6],[],[8],[],[10],[0,1,2,3,4,5,6,7,8,9,10,11],[0,1,2,3,4,5,6,7,8,9,10,11,12]] [hR 2 rfl rfl (Wd false false (X7 false) c.X0 0 (k:=.i64) (i:=0) Tryz.underlying41 Ja rfl rfl (by omega) (X3 rfl) ⟨rfl,trivial⟩),hR 12 rfl rfl (rCa (Xa0 (c.X0.getD 0 Xh) c.J6 false c.Xs c.X1 false false c.Yv ‹_› ‹_› ‹_›) Tryz.func47 [] [(.tmp 48,.tv (.agg [dI (c.X0.getD 0 Xh).Xg,dS (c.X0.getD 0 Xh).Y4,dI (c.X0.getD 0 Xh).Yg,dS (c.X0.getD 0 Xh).W2])),(.tmp 50,vI c.J6),(.tmp 52,.tv (.agg [dI c.Xs.X4,dU c.Xs.Xf])),(.tmp 54,.tv (.agg [dI c.X1.Xw,dI c.X1.Xn])),(.tmp 56,slV false false (Xb false) c.Yv)] 0 0)] ?_
 refine T.ret ?_
 exact eRt 4 (.one (dI (Jc (c.X0.getD 0 Xh).W2 (V6 c.Xs c.X1) c.J6 (c.X0.getD 0 Xh).Yg c.Yv))) [0,1] p2n (ix (ix trivial))
section
variable (f:Int) (u:Int) (l:List aE) (c:Wo) (k:Nat) (k2:Nat)
abbrev Znw:List SV:=[dI c.Xo,.d (dsl false false (kE false) c.Xv),dU c.Xa,.d (dsl false false (X7 false) c.X0),dI c.J6,dI c.Xs.X4,dU c.Xs.Xf,dI c.X1.Xw,dI c.X1.Xn,.d (dsl false false (Xb false) c.Yv)]
abbrev Znx:HS:=.live (.box 135 [dB true,dI f,dI u,.own 1 (kE false).sz 0 l.length])
abbrev Zny:AV:=dv (Yh (s9D (Xu f u l) f c.Xo c.Xv c.Xa))
abbrev Znz:AV:=vI (s9E (Xu f u l) f c.Xo c.Xv c.Xa)
abbrev Zo0:AV:=vI ((c.X0.length:Nat):Int)
abbrev Zo1:AV:=vB (decide ((s9E (Xu f u l) f c.Xo c.Xv c.Xa)≠0))
abbrev Zo2:AV:=vB (decide (((c.X0.length:Nat):Int)>1000))
abbrev Zo3:List HS:=[(Znx f u l),.live (Xe 43 (kE false) l),.live (.box 49 (Znw c))]
abbrev Zo4:St:=⟨[pv 0 0,.tv (.agg (Znw c)),aa,pv 2 0,vI 0,(Zny f u l c),aa,(Znz f u l c),(Zo0 c),vI ((k:Nat):Int),aa,aa,aa,aa,aa,aa,aa,aa,aa,aa,aa,aa,aa,aa,aa,(Zo1 f u l c),aa,aa,aa,aa,aa,aa,aa,aa,aa,(Zo2 c)],(Zo3 f u l c)⟩
abbrev Zo7:AV:=vB (decide (((k:Nat):Int)<((c.X0.length:Nat):Int)))
abbrev Zo8:St:=⟨[pv 0 0,.tv (.agg (Znw c)),aa,pv 2 0,vI 0,(Zny f u l c),aa,(Znz f u l c),(Zo0 c),aa,vI ((k2:Nat):Int),aa,aa,aa,aa,aa,aa,aa,aa,aa,aa,aa,aa,aa,aa,(Zo1 f u l c),aa,aa,aa,aa,aa,aa,aa,aa,aa,(Zo2 c),aa,aa,(Zo7 c k)],(Zo3 f u l c)⟩
end
theorem Xdp (f:Int) (u:Int) (l:List aE) (c:Wo) (hf:0≤f∧f≤2) (hu:0≤u∧u≤8) (hl:l.length≤9223372036854775806) (hc:okC9 c):Holds Tryz.prog 15 ⟨[pv 0 0,.tv (.agg [dI c.Xo,.d (dsl false false (kE false) c.Xv),dU c.Xa,.d (dsl false false (X7 false) c.X0),dI c.J6,dI c.Xs.X4,dU c.Xs.Xf,dI c.X1.Xw,dI c.X1.Xn,.d (dsl false false (Xb false) c.Yv)])],[.box 135 [dB true,dI f,dI u,.own 1 (kE false).sz 0 l.length],Xe 43 (kE false) l],vI (c9E (Xu f u l) f c),[.live (.box 135 [dB true,dI f,dI u,.own 1 (kE false).sz 0 l.length]),.live (Xe 43 (kE false) l)]⟩:=by
 refine Holds.of Tryz.func15 rfl (N:=105) Tryz.ntmps15 rfl fun w0 B0 S0 U0=>?_
 show T _ (Y2 105 2 w0 S0 U0 B0) ⟨[pv 0 0,.tv (.agg (Znw c))],[(Znx f u l),.live (Xe 43 (kE false) l)]⟩ _ _
 obtain ⟨hc1,hc2,hc3,hc4,hc5,hc6,hc7⟩:=hc
 have hc8:-9223372036854775808≤c.Xo∧c.Xo≤9223372036854775807:=hc7
 have hg0:=X4s hc3 0
 have hg1:=hg0.2.2.1
 refine sR [] ?_
 refine sR [hR 7 rfl rfl (rCa (X1i f u l c.Xo c.Xv c.Xa ‹_› ‹_› ‹_› ‹_› ‹_› ‹_›) Tryz.func19 [0,1] [(.tmp 13,pv 0 0),(.tmp 15,vI c.Xo),(.tmp 17,slV false false (kE false) c.Xv),(.tmp 19,slV false false kU8 c.Xa)] 2 2)] ?_
 refine T.seq ?_
 refine sR [] ?_
 by_cases hq1:(s9E (Xu f u l) f c.Xo c.Xv c.Xa)≠0
 ·have hz9:=c9_s hq1
  refine cT (dT hq1) ?_
  refine sR [] ?_
  refine T.ret (rT ?_)
  exact eRt 4 (.one (dI (s9E (Xu f u l) f c.Xo c.Xv c.Xa))) [0,1] p2n (ix (ix trivial))
 have h0:=hq1;have hs9:=s9_seq (Classical.not_not.1 h0)
 refine cF (dF hq1) ?_
 refine T.skip (nT ?_)
 refine sR [] ?_
 refine T.seq ?_
 by_cases hq2:((c.X0.length:Nat):Int)<1
 ·have hz9:=c9_n h0 (.inl (by omega))
  refine sR [hN 3 false (dT hq2),hN 4 false (dT hq2),hP 5 (dT hq2)] ?_
  refine cT (b:=true) rfl ?_
  refine sR [] ?_
  refine T.ret (rT ?_)
  exact eRt 4 (.one (dI 90)) [0,1] p2n (ix (ix trivial))
 refine sR [hY 3 (dF hq2),hY 4 (dF hq2),hP 5 (dF hq2)] ?_
 by_cases hq3:((c.X0.length:Nat):Int)>1000
 ·have hz9:=c9_n h0 (.inr (by omega))
  refine cT (dT hq3) ?_
  refine sR [] ?_
  refine T.ret (rT ?_)
  exact eRt 4 (.one (dI 90)) [0,1] p2n (ix (ix trivial))
 have hn:¬(c.X0.length=0∨1000<c.X0.length):=(by omega)
 refine cF (dF hq3) ?_
 refine T.skip (nT (T.seq ?_))
 refine sR [] ?_
 refine T.block ?_
 refine T.loop (ι:=Nat) (fun (k:Nat)=>(Zo4 f u l c k)) (fun (k:Nat)=>(k≤c.X0.length)∧(∀ i,i<k→(c.X0.getD i Xh).Xg=c.Xo-(((c.X0.length:Nat):Int)-1-((i:Nat):Int)))) (fun (k:Nat)=>c.X0.length-k) (0) ⟨(Nat.zero_le _),(fun j hj=>absurd hj (Nat.not_lt_zero _))⟩ (fun _ _ hG=>Yt [0,1,2] (bm 36 34393293755) rfl rfl hG) ?_
 rintro k ⟨hk,hb⟩
 show T _ _ (Zo4 f u l c k) _ _
 replace hk:k≤c.X0.length:=hk
 replace hb:∀ i,i<k→(c.X0.getD i Xh).Xg=c.Xo-(((c.X0.length:Nat):Int)-1-((i:Nat):Int)):=hb
 refine T.seq ?_
 refine sR [] ?_
 by_cases hq4:((k:Nat):Int)<((c.X0.length:Nat):Int)
 ·have hkl:k<c.X0.length:=(by omega)
  refine cT (dT hq4) ?_
  refine T.skip (nT (T.seq ?_))
  refine T.block ?_
  refine sD [[],[0],[],[0,1,2],[0,1,2,3],[0,1,2,3,4],[],[6],[],[8],[],[8,9,10],[6,7,8,9,10,11],[0,1,2,3,4,5,6,7,8,9,10,11,12]] [hR 3 rfl rfl (Wd false false (X7 false) c.X0 k (k:=.i64) (i:=((k:Nat):Int)) Tryz.underlying41 Ja rfl rfl ‹_› (X3 rfl) trivial),hR 9 rfl rfl (Ye (u1:=.int .i64 ((c.X0.length:Nat):Int)) (u2:=.int .i64 1) (v:=.int .i64 (((c.X0.length:Nat):Int)-1)) (Ve pa) (X3 rfl) ⟨rfl,trivial⟩),hR 11 rfl rfl (Ye (u1:=.int .i64 (((c.X0.length:Nat):Int)-1)) (u2:=.int .i64 ((k:Nat):Int)) (v:=.int .i64 ((((c.X0.length:Nat):Int)-1)-((k:Nat):Int))) (Ve pa) (X3 rfl) trivial),hR 12 rfl rfl (Ye (u1:=.int .i64 c.Xo) (u2:=.int .i64 ((((c.X0.length:Nat):Int)-1)-((k:Nat):Int))) (v:=.int .i64 (c.Xo-((((c.X0.length:Nat):Int)-1)-((k:Nat):Int)))) (Ve pa) (X3 rfl) trivial)] ?_
  by_cases hq5:(c.X0.getD k Xh).Xg≠(c.Xo-((((c.X0.length:Nat):Int)-1)-((k:Nat):Int)))
  ·have hl9:X1w c.X0 c.Xo (s9D (Xu f u l) f c.Xo c.Xv c.Xa)=100:=Xji hkl hq5;have hz9:=(c9_l h0 hn (by rw [hl9];decide)).trans hl9
   refine cT (dT hq5) ?_
   refine sR [] ?_
   refine T.ret (rB (rT (rT (rB (rT ?_)))))
   exact eRt 4 (.one (dI 100)) [0,1] p2n (ix (ix trivial))
  have hb9:=Classical.not_not.1 hq5
  refine cF (dF hq5) ?_
  refine T.skip ?_
  refine nB ?_
  refine nT ?_
  refine xK [hR 1 rfl rfl (Ye (u1:=.int .i64 ((k:Nat):Int)) (u2:=.int .i64 1) (v:=.int .i64 ((k+1:Nat):Int)) (Wa pa) (X3 rfl) ⟨rfl,trivial⟩)] ?_
  refine nL (k+1) ⟨(show (k+1)≤c.X0.length from (by omega)),(show ∀ i,i<(k+1)→(c.X0.getD i Xh).Xg=c.Xo-(((c.X0.length:Nat):Int)-1-((i:Nat):Int)) from (U5 hb hb9))⟩ (show (c.X0.length-(k+1):Nat)<c.X0.length-k from (by omega)) (fun _ _ hG=>Yt [0,1,2] (bm 36 34393293755) rfl rfl hG)
 have hla:=Xee (d:=(s9D (Xu f u l) f c.Xo c.Xv c.Xa)) hb (by omega)
 refine cF (dF hq4) ?_
 refine T.exit ?_
 refine xT ?_
 refine xT ?_
 refine xH ?_
 refine nT (T.seq ?_)
 refine sR [] ?_
 refine T.block ?_
 refine T.loop (ι:=Nat) (fun (k2:Nat)=>(Zo8 f u l c k k2)) (fun (k2:Nat)=>(k2≤c.X0.length)∧(∀ i,i<k2→Ii (c.X0.getD i Xh)=F9 c.X0 (s9D (Xu f u l) f c.Xo c.Xv c.Xa) i)) (fun (k2:Nat)=>c.X0.length-k2) (0) ⟨(Nat.zero_le _),(fun j hj=>absurd hj (Nat.not_lt_zero _))⟩ (fun _ _ hG=>Yt [0,1,2] (bm 39 309271201211) rfl rfl hG) ?_
 rintro k2 ⟨hk2,hb2⟩
 show T _ _ (Zo8 f u l c k k2) _ _
 replace hk2:k2≤c.X0.length:=hk2
 replace hb2:∀ i,i<k2→Ii (c.X0.getD i Xh)=F9 c.X0 (s9D (Xu f u l) f c.Xo c.Xv c.Xa) i:=hb2
 refine T.seq ?_
 refine sR [] ?_
 by_cases hq6:((k2:Nat):Int)<((c.X0.length:Nat):Int)
 rotate_left
 ·have hl0:=Xjj hla hb2 (by omega);have hz9:=c9_i h0 hn (fun w=>w hl0)
  refine cF (dF hq6) ?_
  refine T.exit ?_
  refine xT ?_
  refine xT ?_
  refine xH ?_
  refine nT ?_
  refine sD [[],[0],[0,1],[0,1,2],[],[4],[],[6],[],[8],[],[10],[0,1,2,3,4,5,6,7,8,9,10,11],[0,1,2,3,4,5,6,7,8,9,10,11,12]] [hR 2 rfl rfl (Wd false false (X7 false) c.X0 0 (k:=.i64) (i:=0) Tryz.underlying41 Ja rfl rfl (by omega) (X3 rfl) ⟨rfl,trivial⟩),hR 12 rfl rfl (rCa (X8w (c.X0.getD 0 Xh) c.J6 false c.Xs c.X1 false false c.Yv ‹_› ‹_› ‹_›) Tryz.func49 [] [(.tmp 95,.tv (.agg [dI (c.X0.getD 0 Xh).Xg,dS (c.X0.getD 0 Xh).Y4,dI (c.X0.getD 0 Xh).Yg,dS (c.X0.getD 0 Xh).W2])),(.tmp 97,vI c.J6),(.tmp 99,.tv (.agg [dI c.Xs.X4,dU c.Xs.Xf])),(.tmp 101,.tv (.agg [dI c.X1.Xw,dI c.X1.Xn])),(.tmp 103,slV false false (Xb false) c.Yv)] 0 0)] ?_
  refine T.ret ?_
  exact eRt 4 (.one (dI (Jc (c.X0.getD 0 Xh).W2 (V6 c.Xs c.X1) c.J6 (c.X0.getD 0 Xh).Yg c.Yv))) [0,1] p2n (ix (ix trivial))
 have hkl2:k2<c.X0.length:=(by omega);have hok:=X4s hc3 k2;have hok1:=hok.1;have hok2:=hok.2.1
 refine cT (dT hq6) ?_
 refine T.skip (nT (T.seq ?_))
 refine T.block ?_
 refine sR [hR 3 rfl rfl (Wd false false (X7 false) c.X0 k2 (k:=.i64) (i:=((k2:Nat):Int)) Tryz.underlying41 Ja rfl rfl ‹_› (X3 rfl) trivial),hR 5 rfl rfl (rCa (X4l (c.X0.getD k2 Xh) ‹_› ‹_›) Tryz.func48 [] [(.tmp 64,.tv (.agg [dI (c.X0.getD k2 Xh).Xg,dS (c.X0.getD k2 Xh).Y4,dI (c.X0.getD k2 Xh).Yg,dS (c.X0.getD k2 Xh).W2]))] 0 0)] ?_
 by_cases hq7:((k2:Nat):Int)<(((c.X0.length:Nat):Int)-1)
 ·have hnx:=nxt_in (l:=c.X0) (d:=(s9D (Xu f u l) f c.Xo c.Xv c.Xa)) (k:=k2) (by omega)
  by_cases hq8:(c.X0.getD (k2+1) Xh).Y4≠(Ii (c.X0.getD k2 Xh))
  ·have hl9:=Xb8 hla hkl2 (by rw [hnx];exact fun w=>hq8 w.symm);have hz9:=(c9_l h0 hn (by rw [hl9];decide)).trans hl9
   refine sR (hR 2 rfl rfl (Ye (u1:=.int .i64 ((c.X0.length:Nat):Int)) (u2:=.int .i64 1) (v:=.int .i64 (((c.X0.length:Nat):Int)-1)) (Ve pa) (X3 rfl) ⟨rfl,trivial⟩)::(Xm (hY · (dT hq7)) [5,6,7] (hS 8 (oY rfl rfl rfl rfl (X3 rfl) (dT hq7) (Ye (u1:=.int .i64 ((k2:Nat):Int)) (u2:=.int .i64 1) (v:=.int .i64 ((k2+1:Nat):Int)) (Wa pa) (X3 rfl) ⟨rfl,trivial⟩))::(hS 9 (oY rfl rfl rfl rfl (X3 rfl) (dT hq7) (Wd false false (X7 false) c.X0 (k2+1) (k:=.i64) (i:=((k2+1:Nat):Int)) Tryz.underlying41 Ja rfl rfl (by omega) (X3 rfl) F2))::(Xm (hY · (dT hq7)) [10,11,12,13] (hP 14 (dT hq7)::(Xm (hN · false (dT hq8)) [16,17,18,19,20] (hU 21::(hU 22::(hU 23::(hN 24 false (dT hq8)::(hP 25 (dT hq8)::[])))))))))))) ?_
   refine cT (b:=true) rfl ?_
   refine sR [] ?_
   refine T.ret (rB (rT (rT (rB (rT ?_)))))
   exact eRt 4 (.one (dI 101)) [0,1] p2n (ix (ix trivial))
  have hd9:Ii (c.X0.getD k2 Xh)=F9 c.X0 (s9D (Xu f u l) f c.Xo c.Xv c.Xa) k2:=(by rw [hnx];exact (Classical.not_not.1 hq8).symm)
  by_cases hq9:((k2:Nat):Int)=(((c.X0.length:Nat):Int)-1)
  ·exact absurd hq9 (by omega)
  refine sR (hR 2 rfl rfl (Ye (u1:=.int .i64 ((c.X0.length:Nat):Int)) (u2:=.int .i64 1) (v:=.int .i64 (((c.X0.length:Nat):Int)-1)) (Ve pa) (X3 rfl) ⟨rfl,trivial⟩)::(Xm (hY · (dT hq7)) [5,6,7] (hS 8 (oY rfl rfl rfl rfl (X3 rfl) (dT hq7) (Ye (u1:=.int .i64 ((k2:Nat):Int)) (u2:=.int .i64 1) (v:=.int .i64 ((k2+1:Nat):Int)) (Wa pa) (X3 rfl) ⟨rfl,trivial⟩))::(hS 9 (oY rfl rfl rfl rfl (X3 rfl) (dT hq7) (Wd false false (X7 false) c.X0 (k2+1) (k:=.i64) (i:=((k2+1:Nat):Int)) Tryz.underlying41 Ja rfl rfl (by omega) (X3 rfl) F2))::(Xm (hY · (dT hq7)) [10,11,12,13] (hP 14 (dT hq7)::(hY 16 (dF hq8)::(hY 17 (dF hq8)::(hS 18 (oY rfl rfl rfl rfl (X3 rfl) (dF hq8) (Ye (u1:=.int .i64 ((c.X0.length:Nat):Int)) (u2:=.int .i64 1) (v:=.int .i64 (((c.X0.length:Nat):Int)-1)) (Ve pa) (X3 rfl) ⟨rfl,trivial⟩))::(hY 19 (dF hq8)::(hY 20 (dF hq8)::(Xm (hN · true (dF hq9)) [21,22,23] (hS 24 (oY rfl rfl rfl rfl (X3 rfl) (dF hq8) (Wi (b:=(decide (((k2:Nat):Int)=(((c.X0.length:Nat):Int)-1)))) (av:=vB false) (X3 rfl) ⟨rfl,trivial⟩ (dF hq9)))::(hP 25 (dF hq8)::[])))))))))))))) ?_
  refine cF (b:=false) rfl ?_
  refine T.skip ?_
  refine nB ?_
  refine nT ?_
  refine xK [hR 1 rfl rfl (Ye (u1:=.int .i64 ((k2:Nat):Int)) (u2:=.int .i64 1) (v:=.int .i64 ((k2+1:Nat):Int)) (Wa pa) (X3 rfl) ⟨rfl,trivial⟩)] ?_
  refine nL (k2+1) ⟨(show (k2+1)≤c.X0.length from (by omega)),(show ∀ i,i<(k2+1)→Ii (c.X0.getD i Xh)=F9 c.X0 (s9D (Xu f u l) f c.Xo c.Xv c.Xa) i from (U5 hb2 hd9))⟩ (show (c.X0.length-(k2+1):Nat)<c.X0.length-k2 from (by omega)) (fun _ _ hG=>Yt [0,1,2] (bm 39 309271201211) rfl rfl hG)
 have hnx:=nxt_last (l:=c.X0) (d:=(s9D (Xu f u l) f c.Xo c.Xv c.Xa)) (k:=k2) (by omega)
 by_cases hq10:((k2:Nat):Int)=(((c.X0.length:Nat):Int)-1)
 ·refine sR (hR 2 rfl rfl (Ye (u1:=.int .i64 ((c.X0.length:Nat):Int)) (u2:=.int .i64 1) (v:=.int .i64 (((c.X0.length:Nat):Int)-1)) (Ve pa) (X3 rfl) ⟨rfl,trivial⟩)::(Xm (hN · true (dF hq7)) [5,6,7,8,9,10,11,12,13] (hP 14 (dF hq7)::(hY0 16::(hY0 17::(hS 18 (oY (b:=false) rfl rfl rfl rfl (X3 rfl) rfl (Ye (u1:=.int .i64 ((c.X0.length:Nat):Int)) (u2:=.int .i64 1) (v:=.int .i64 (((c.X0.length:Nat):Int)-1)) (Ve pa) (X3 rfl) ⟨rfl,trivial⟩))::(hY0 19::(hY0 20::(Xm (hY · (dT hq10)) [21,22,23] (hS 24 (oY (b:=false) rfl rfl rfl rfl (X3 rfl) rfl (Wc (b:=(decide (((k2:Nat):Int)=(((c.X0.length:Nat):Int)-1)))) (av:=vB (decide ((s9D (Xu f u l) f c.Xo c.Xv c.Xa)≠(Ii (c.X0.getD k2 Xh))))) (X3 rfl) trivial (dT hq10)))::(hP0 25::[]))))))))))) ?_
  by_cases hq11:(s9D (Xu f u l) f c.Xo c.Xv c.Xa)≠(Ii (c.X0.getD k2 Xh))
  ·have hl9:=Xb8 hla hkl2 (by rw [hnx];exact fun w=>hq11 w.symm);have hz9:=(c9_l h0 hn (by rw [hl9];decide)).trans hl9
   refine cT (dT hq11) ?_
   refine sR [] ?_
   refine T.ret (rB (rT (rT (rB (rT ?_)))))
   exact eRt 4 (.one (dI 101)) [0,1] p2n (ix (ix trivial))
  have hd9:Ii (c.X0.getD k2 Xh)=F9 c.X0 (s9D (Xu f u l) f c.Xo c.Xv c.Xa) k2:=(by rw [hnx];exact (Classical.not_not.1 hq11).symm)
  refine cF (dF hq11) ?_
  refine T.skip ?_
  refine nB ?_
  refine nT ?_
  refine xK [hR 1 rfl rfl (Ye (u1:=.int .i64 ((k2:Nat):Int)) (u2:=.int .i64 1) (v:=.int .i64 ((k2+1:Nat):Int)) (Wa pa) (X3 rfl) ⟨rfl,trivial⟩)] ?_
  refine nL (k2+1) ⟨(show (k2+1)≤c.X0.length from (by omega)),(show ∀ i,i<(k2+1)→Ii (c.X0.getD i Xh)=F9 c.X0 (s9D (Xu f u l) f c.Xo c.Xv c.Xa) i from (U5 hb2 hd9))⟩ (show (c.X0.length-(k2+1):Nat)<c.X0.length-k2 from (by omega)) (fun _ _ hG=>Yt [0,1,2] (bm 39 309271201211) rfl rfl hG)
 exact absurd (by omega) hq10
end Go.Proofs.YtnaopgohccacmaaGreat.Q
