import Derived.Test.YtnaopgohccacmaaGreatC19n4
namespace Go.Proofs.YtnaopgohccacmaaGreat.Q
open Go Go.RowKit
set_option linter.unusedVariables false
set_option linter.unusedSimpArgs false
set_option maxRecDepth 100000
set_option maxHeartbeats 4000000
theorem X85:Wide Tryz.prog 4 none:=⟨_,Tryz.underlying4,(fun _ h=>by cases h),(fun _ _ h=>by cases h)⟩
theorem ref03_N (f:Int) (u:Int) (l:List aE) (hf:0≤f∧f≤2) (hu:0≤u∧u≤8):Holds Tryz.prog 72 ⟨[pv 0 0],[.box 135 [dB true,dI f,dI u,.own 1 (kE false).sz 0 l.length],Xe 43 (kE false) l],vI (3*f+1),[.live (.box 135 [dB true,dI f,dI u,.own 1 (kE false).sz 0 l.length]),.live (Xe 43 (kE false) l)]⟩:=by
 refine Holds.of Tryz.func72 rfl (N:=14) Tryz.ntmps72 rfl fun w0 B0 S0 U0=>?_
 show T _ (Y2 14 2 w0 S0 U0 B0) ⟨[pv 0 0],[.live (.box 135 [dB true,dI f,dI u,.own 1 (kE false).sz 0 l.length]),.live (Xe 43 (kE false) l)]⟩ _ _
 refine sR [] ?_
 refine T.seq ?_
 refine sR [] ?_
 refine cF (b:=(!true)) rfl ?_
 refine T.skip (nT ?_)
 refine sR [hR 4 rfl rfl (Ye (u1:=.int .i64 3) (u2:=.int .i64 f) (v:=.int .i64 (3*f)) (Xa2 pa) (X3 rfl) ⟨rfl,trivial⟩),hR 5 rfl rfl (Ye (u1:=.int .i64 (3*f)) (u2:=.int .i64 1) (v:=.int .i64 ((3*f)+1)) (Wa pa) (X3 rfl) ⟨rfl,trivial⟩)] ?_
 refine T.ret ?_
 exact eRt 2 (.one (dI ((3*f)+1))) [0,1] (cI (by rfl)) (ix (ix trivial))
theorem Xc2 (f:Int) (u:Int) (l:List aE) (hf:0≤f∧f≤2) (hu:0≤u∧u≤8):Holds Tryz.prog 114 ⟨[pv 0 0],[.box 135 [dB true,dI f,dI u,.own 1 (kE false).sz 0 l.length],Xe 43 (kE false) l],vI (2*f+1),[.live (.box 135 [dB true,dI f,dI u,.own 1 (kE false).sz 0 l.length]),.live (Xe 43 (kE false) l)]⟩:=by
 refine Holds.of Tryz.func114 rfl (N:=14) Tryz.ntmps114 rfl fun w0 B0 S0 U0=>?_
 show T _ (Y2 14 2 w0 S0 U0 B0) ⟨[pv 0 0],[.live (.box 135 [dB true,dI f,dI u,.own 1 (kE false).sz 0 l.length]),.live (Xe 43 (kE false) l)]⟩ _ _
 refine sR [] ?_
 refine T.seq ?_
 refine sR [] ?_
 refine cF (b:=(!true)) rfl ?_
 refine T.skip (nT ?_)
 refine sR [hR 4 rfl rfl (Ye (u1:=.int .i64 2) (u2:=.int .i64 f) (v:=.int .i64 (2*f)) (Xa2 pa) (X3 rfl) ⟨rfl,trivial⟩),hR 5 rfl rfl (Ye (u1:=.int .i64 (2*f)) (u2:=.int .i64 1) (v:=.int .i64 ((2*f)+1)) (Wa pa) (X3 rfl) ⟨rfl,trivial⟩)] ?_
 refine T.ret ?_
 exact eRt 2 (.one (dI ((2*f)+1))) [0,1] (cI (by rfl)) (ix (ix trivial))
theorem Xc3 (f:Int) (u:Int) (l:List aE) (s:Int) (hf:0≤f∧f≤2) (hu:0≤u∧u≤8) (hs:-9223372036854775808≤s∧s≤9223372036854775807):Holds Tryz.prog 125 ⟨[pv 0 0,vI s],[.box 135 [dB true,dI f,dI u,.own 1 (kE false).sz 0 l.length],Xe 43 (kE false) l],vB (decide (Ic u s)),[.live (.box 135 [dB true,dI f,dI u,.own 1 (kE false).sz 0 l.length]),.live (Xe 43 (kE false) l)]⟩:=by
 refine Holds.of Tryz.func125 rfl (N:=16) Tryz.ntmps125 rfl fun w0 B0 S0 U0=>?_
 show T _ (Y2 16 2 w0 S0 U0 B0) ⟨[pv 0 0,vI s],[.live (.box 135 [dB true,dI f,dI u,.own 1 (kE false).sz 0 l.length]),.live (Xe 43 (kE false) l)]⟩ _ _
 refine sR [] ?_
 by_cases hq1:s≥1000
 ·refine sR (hY 3 (dT hq1)::(hS 4 (oY rfl rfl rfl rfl (X3 rfl) (dT hq1) (Ye (u1:=.int .i64 s) (u2:=.int .i64 1000) (v:=.int .i64 (s-1000)) (Ve pa) (X3 rfl) ⟨rfl,trivial⟩))::(Xm (hY · (dT hq1)) [5,6,7,8,9] (hP 10 (dT hq1)::[])))) ?_
  refine T.ret ?_
  exact eRt 4 (.one (dB (decide ((s-1000)<u)))) [0,1] p4i (ix (ix trivial))
 refine sR (Xm (hN · true (dF hq1)) [3,4,5,6,7,8,9] (hP 10 (dF hq1)::[])) ?_
 refine T.ret ?_
 exact eRt 4 (.one (dB false)) [0,1] p51 (ix (ix trivial))
theorem It (f:Int) (u:Int) (l:List aE) (s:Int) (hf:0≤f∧f≤2) (hu:0≤u∧u≤8):Holds Tryz.prog 124 ⟨[pv 0 0,vI s],[.box 135 [dB true,dI f,dI u,.own 1 (kE false).sz 0 l.length],Xe 43 (kE false) l],vB (decide (V0 f s)),[.live (.box 135 [dB true,dI f,dI u,.own 1 (kE false).sz 0 l.length]),.live (Xe 43 (kE false) l)]⟩:=by
 refine Holds.of Tryz.func124 rfl (N:=13) Tryz.ntmps124 rfl fun w0 B0 S0 U0=>?_
 show T _ (Y2 13 2 w0 S0 U0 B0) ⟨[pv 0 0,vI s],[.live (.box 135 [dB true,dI f,dI u,.own 1 (kE false).sz 0 l.length]),.live (Xe 43 (kE false) l)]⟩ _ _
 refine sR [] ?_
 by_cases hq1:s≥0
 ·refine sR [hY 3 (dT hq1),hY 4 (dT hq1),hS 5 (oY rfl rfl rfl rfl (X3 rfl) (dT hq1) (rCa (ref03_N f u l ‹_› ‹_›) Tryz.func72 [0,1] [(.tmp 9,pv 0 0)] 2 2)),hY 6 (dT hq1),hP 7 (dT hq1)] ?_
  refine T.ret ?_
  exact eRt 4 (.one (dB (decide (s<(3*f+1))))) [0,1] p4e (ix (ix trivial))
 refine sR (Xm (hN · true (dF hq1)) [3,4,5,6] (hP 7 (dF hq1)::[])) ?_
 refine T.ret ?_
 exact eRt 4 (.one (dB false)) [0,1] p50 (ix (ix trivial))
theorem X6x (f:Int) (u:Int) (l:List aE) (s:Int) (hf:0≤f∧f≤2) (hu:0≤u∧u≤8) (hs:-9223372036854775808≤s∧s≤9223372036854775807):Holds Tryz.prog 69 ⟨[pv 0 0,vI s],[.box 135 [dB true,dI f,dI u,.own 1 (kE false).sz 0 l.length],Xe 43 (kE false) l],vB (decide (Um f u s)),[.live (.box 135 [dB true,dI f,dI u,.own 1 (kE false).sz 0 l.length]),.live (Xe 43 (kE false) l)]⟩:=by
 refine Holds.of Tryz.func69 rfl (N:=13) Tryz.ntmps69 rfl fun w0 B0 S0 U0=>?_
 show T _ (Y2 13 2 w0 S0 U0 B0) ⟨[pv 0 0,vI s],[.live (.box 135 [dB true,dI f,dI u,.own 1 (kE false).sz 0 l.length]),.live (Xe 43 (kE false) l)]⟩ _ _
 refine sR [] ?_
 by_cases hq1:V0 f s
 ·refine sR (hR 2 rfl rfl (rCa (It f u l s ‹_› ‹_›) Tryz.func124 [0,1] [(.tmp 5,pv 0 0),(.tmp 6,vI s)] 2 2)::(Xm (hN · false (dT hq1)) [4,5,6] (hP 7 (dT hq1)::[]))) ?_
  refine T.ret ?_
  exact eRt 4 (.one (dB true)) [0,1] p45 (ix (ix trivial))
 refine sR [hR 2 rfl rfl (rCa (It f u l s ‹_› ‹_›) Tryz.func124 [0,1] [(.tmp 5,pv 0 0),(.tmp 6,vI s)] 2 2),hY 4 (dF hq1),hY 5 (dF hq1),hS 6 (oY rfl rfl rfl rfl (X3 rfl) (dF hq1) (rCa (Xc3 f u l s ‹_› ‹_› ‹_›) Tryz.func125 [0,1] [(.tmp 9,pv 0 0),(.tmp 10,vI s)] 2 2)),hP 7 (dF hq1)] ?_
 refine T.ret ?_
 exact eRt 4 (.one (dB (decide (Ic u s)))) [0,1] p3y (ix (ix trivial))
section
variable (f:Int) (u:Int) (l:List aE) (te:Bool) (e:aE) (k:Nat)
abbrev Z12:AV:=.tv (.agg [dI e.X4,.d (dsl te false kU8 e.Xf)])
abbrev Z13:HS:=.live (.box 135 [dB true,dI f,dI u,.own 1 (kE false).sz 0 l.length])
abbrev Z14:List HS:=[(Z13 f u l),.live (Xe 43 (kE false) l),.live (.box 43 [dI e.X4,.d (dsl te false kU8 e.Xf)])]
end
theorem Xb3 (f:Int) (u:Int) (l:List aE) (te:Bool) (e:aE) (hl:l.length≤9223372036854775806):Holds Tryz.prog 70 ⟨[pv 0 0,.tv (.agg [dI e.X4,.d (dsl te false kU8 e.Xf)])],[.box 135 [dB true,dI f,dI u,.own 1 (kE false).sz 0 l.length],Xe 43 (kE false) l],vB (decide (e∈l)),[.live (.box 135 [dB true,dI f,dI u,.own 1 (kE false).sz 0 l.length]),.live (Xe 43 (kE false) l)]⟩:=by
 refine Holds.of Tryz.func70 rfl (N:=39) Tryz.ntmps70 rfl fun w0 B0 S0 U0=>?_
 show T _ (Y2 39 2 w0 S0 U0 B0) ⟨[pv 0 0,(Z12 te e)],[(Z13 f u l),.live (Xe 43 (kE false) l)]⟩ _ _
 refine sR [] ?_
 refine T.seq ?_
 refine sR [] ?_
 refine T.block ?_
 refine T.loop (ι:=Nat) (fun (k:Nat)=>⟨[pv 0 0,(Z12 te e),aa,pv 2 0,vB false,vI ((k:Nat):Int)],(Z14 f u l te e)⟩) (fun (k:Nat)=>(k≤l.length)∧(∀ j,j<k→¬l.getD j zE=e)) (fun (k:Nat)=>l.length-k) (0) ⟨(Nat.zero_le _),(fun j hj=>absurd hj (Nat.not_lt_zero _))⟩ (fun _ _ hG=>Yt [0,1,2] (bm 6 59) rfl rfl hG) ?_
 rintro k ⟨hk,hb⟩
 show T _ _ ⟨[pv 0 0,(Z12 te e),aa,pv 2 0,vB false,vI ((k:Nat):Int)],(Z14 f u l te e)⟩ _ _
 replace hk:k≤l.length:=hk
 replace hb:∀ j,j<k→¬l.getD j zE=e:=hb
 refine T.seq ?_
 refine sR [] ?_
 by_cases hq1:((k:Nat):Int)<((l.length:Nat):Int)
 ·refine cT (dT hq1) ?_
  refine T.skip (nT (T.seq ?_))
  refine T.block ?_
  by_cases hq2:(l.getD k zE).X4=e.X4
  ·refine sD [[],[0],[0,1],[0,1,2],[],[0,1,2,3,4],[0,1,2,3,4,5],[0,1,2,3,4,5,6],[],[8],[0,1,2,3,4,5,6,7,8,9],[0,1,2,3,4,5,6,7,8,9,10],[0,1,2,3,4,5,6,7,8,9,10,11],[0,1,2,3,4,5,6,7,8,9,10,11,12],[0,1,2,3,4,5,6,7,8,9,10,11,12,13],[0,1,2,3,4,5,6,7,8,9,10,11,12,13,14],[0,1,2,3,4,5,6,7,8,9,10,11],[0,1,2,3,4,5,6,7,8,9,10,11,12,13,14,15,16],[0,1,2,3,4,5,6,7,8,9,10,11,12,13,14,15,16,17],[0,1,2,3,4,5,6,7,8,9,10,11,12,13,14,15,16,17,18],[0,1,2,3,4,5,6,7,8,9,10,11],[0,1,2,3,4,5,6,7,8,9,10,11,20],[0,1,2,3,4,5,6,7,8,9,10,11,12,13,14,15,16,17,18,19,20,21],[0,1,2,3,4,5,6,7,8,9,10,11,12,13,14,15,16,17,18,19,20,21,22]] (hR 5 rfl rfl (V9 (k:=.i64) (l:=1) (sz:=(kE false).sz) (off:=0) (n:=l.length) (i:=((k:Nat):Int)) (m:=k) (o':=k*(kE false).sz+0) Tryz.underlying37 Vs rfl rfl (by omega) (by simp) (X3 rfl) trivial)::(hR 7 rfl rfl (Ha (l:=1) (off:=k*(kE false).sz+0) (i:=k) (j:=0) (T:=43) (sz:=(kE false).sz) (n:=l.length) (el:=W6 (kE false) l) (c:=.val (.int .i64 (l.getD k zE).X4)) wide_3 rfl (by omega) (by decide) rfl (X3 rfl) trivial)::(Xm (hY · (dT hq2)) [12,13,14,15,16] (hS 17 (oY rfl rfl rfl rfl (X3 rfl) (dT hq2) (V9 (k:=.i64) (l:=1) (sz:=(kE false).sz) (off:=0) (n:=l.length) (i:=((k:Nat):Int)) (m:=k) (o':=k*(kE false).sz+0) Tryz.underlying37 Vs rfl rfl (by omega) (by simp) (X3 rfl) F2))::(hY 18 (dT hq2)::(hS 19 (oY rfl rfl rfl rfl (X3 rfl) (dT hq2) (Ha (l:=1) (off:=k*(kE false).sz+1) (i:=k) (j:=1) (T:=43) (sz:=(kE false).sz) (n:=l.length) (el:=W6 (kE false) l) (c:=dsl false false kU8 (l.getD k zE).Xf) Xh8 rfl (by omega) (by decide) rfl (X3 rfl) F2))::(hY 20 (dT hq2)::(hY 21 (dT hq2)::(hS 22 (oY rfl rfl rfl rfl (X3 rfl) (dT hq2) (rCa (X3r false false te false (l.getD k zE).Xf e.Xf ) Tryz.func23 [] [(.tmp 34,slV false false kU8 (l.getD k zE).Xf),(.tmp 36,slV te false kU8 e.Xf)] 0 0))::(hP 23 (dT hq2)::[])))))))))) ?_
   by_cases hq3:(l.getD k zE).Xf=e.Xf
   ·refine cT (dT hq3) ?_
    refine sR [] ?_
    refine T.ret (rB (rT (rT (rB (rT ?_)))))
    exact eRt 4 (.one (dB true)) [0,1] (by have e1:((decide (e∈l)):Bool)=true:=(by exact dT (mem_get (z:=zE) (k:=k) (by omega) (by rw [Hp];exact ⟨by assumption,by assumption⟩)));have hE:=cB e1;exact hE) (ix (ix trivial))
   refine cF (dF hq3) ?_
   refine T.skip ?_
   refine nB ?_
   refine nT ?_
   refine xK [hR 1 rfl rfl (Ye (u1:=.int .i64 ((k:Nat):Int)) (u2:=.int .i64 1) (v:=.int .i64 ((k+1:Nat):Int)) (Wa pa) (X3 rfl) ⟨rfl,trivial⟩)] ?_
   refine nL (k+1) ⟨(show (k+1)≤l.length from (by omega)),(show ∀ j,j<(k+1)→¬l.getD j zE=e from (U5 hb (by rw [Hp];intro h1;exact absurd h1.2 ‹_›)))⟩ (show (l.length-(k+1):Nat)<l.length-k from (by omega)) (fun _ _ hG=>Yt [0,1,2] (bm 6 59) rfl rfl hG)
  refine sD [[],[0],[0,1],[0,1,2],[],[0,1,2,3,4],[0,1,2,3,4,5],[0,1,2,3,4,5,6],[],[8],[0,1,2,3,4,5,6,7,8,9],[0,1,2,3,4,5,6,7,8,9,10],[0,1,2,3,4,5,6,7,8,9,10,11],[0,1,2,3,4,5,6,7,8,9,10,11,12],[0,1,2,3,4,5,6,7,8,9,10,11,12,13],[0,1,2,3,4,5,6,7,8,9,10,11,12,13,14],[0,1,2,3,4,5,6,7,8,9,10,11],[0,1,2,3,4,5,6,7,8,9,10,11,12,13,14,15,16],[0,1,2,3,4,5,6,7,8,9,10,11,12,13,14,15,16,17],[0,1,2,3,4,5,6,7,8,9,10,11,12,13,14,15,16,17,18],[0,1,2,3,4,5,6,7,8,9,10,11],[0,1,2,3,4,5,6,7,8,9,10,11,20],[0,1,2,3,4,5,6,7,8,9,10,11,12,13,14,15,16,17,18,19,20,21],[0,1,2,3,4,5,6,7,8,9,10,11,12,13,14,15,16,17,18,19,20,21,22]] (hR 5 rfl rfl (V9 (k:=.i64) (l:=1) (sz:=(kE false).sz) (off:=0) (n:=l.length) (i:=((k:Nat):Int)) (m:=k) (o':=k*(kE false).sz+0) Tryz.underlying37 Vs rfl rfl (by omega) (by simp) (X3 rfl) trivial)::(hR 7 rfl rfl (Ha (l:=1) (off:=k*(kE false).sz+0) (i:=k) (j:=0) (T:=43) (sz:=(kE false).sz) (n:=l.length) (el:=W6 (kE false) l) (c:=.val (.int .i64 (l.getD k zE).X4)) wide_3 rfl (by omega) (by decide) rfl (X3 rfl) trivial)::(Xm (hN · true (dF hq2)) [12,13,14,15,16,17,18,19,20,21,22] (hP 23 (dF hq2)::[])))) ?_
  refine cF (b:=false) rfl ?_
  refine T.skip ?_
  refine nB ?_
  refine nT ?_
  refine xK [hR 1 rfl rfl (Ye (u1:=.int .i64 ((k:Nat):Int)) (u2:=.int .i64 1) (v:=.int .i64 ((k+1:Nat):Int)) (Wa pa) (X3 rfl) ⟨rfl,trivial⟩)] ?_
  refine nL (k+1) ⟨(show (k+1)≤l.length from (by omega)),(show ∀ j,j<(k+1)→¬l.getD j zE=e from (U5 hb (by rw [Hp];intro h1;exact absurd h1.1 ‹_›)))⟩ (show (l.length-(k+1):Nat)<l.length-k from (by omega)) (fun _ _ hG=>Yt [0,1,2] (bm 6 59) rfl rfl hG)
 refine cF (dF hq1) ?_
 refine T.exit ?_
 refine xT ?_
 refine xT ?_
 refine xH ?_
 refine nT ?_
 refine sR [] ?_
 refine T.ret ?_
 exact eRt 4 (.one (dB false)) [0,1] (cB (by exact dF (Xe7 (z:=zE) (k:=k) (by omega) hb))) (ix (ix trivial))
theorem Fb:Elem Tryz.prog 37 43 2 32:=⟨Tryz.underlying37,_,_,Vs,rfl,rfl,rfl,rfl,by decide⟩
section
variable (f:Int) (u:Int) (l:List aE) (s:Int) (tb:Bool) (nb:Bool) (b:List UInt8)
abbrev Z16:HS:=.live (.box 135 [dB true,dI f,dI u,.own 1 (kE false).sz 0 l.length])
abbrev Z17:HObj:=Xe 43 (kE false) l
abbrev Z18:HS:=.live ((Z17 l))
abbrev Z19:AV:=vB (!(decide (Um f u s)))
abbrev Z1a:AV:=vB (decide (((b.length:Nat):Int)>16777216))
abbrev Z1b:List AV:=[pv 0 0,vI s,slV tb nb kU8 b,aa,aa,aa,pv 2 0,vI 11,aa,aa,aa,aa,(Z19 f u s),aa,aa,aa,(Z1a b)]
abbrev Z1c:HS:=.live (.box 43 [dI 0,.d (.val (.slice none 0 0))])
abbrev Z1d:HS:=.live (.box 135 [dB true,dI f,dI u,.own 3 (kE false).sz 0 l.length])
abbrev Z1e:List HS:=[(Z1d f u l),.dead,Z1c,(Z18 l)]
abbrev Z1f:SV:=dU ([]:List UInt8)
abbrev Z1g:List SV:=[dI 0,Z1f]
abbrev Z1h:List AV:=[pv 0 0,vI s,slV tb nb kU8 b,aa,aa,aa,pv 2 0,vI 0,pv 5 0,aa,aa,aa,(Z19 f u s),aa,aa,aa,(Z1a b)]
abbrev Z1i:List SV:=[dI s,dU b]
abbrev Z1j:HS:=.live (.box 43 (Z1i s b))
abbrev Z1k:List AV:=[pv 0 0,vI s,slV tb nb kU8 b,aa,aa,aa,pv 2 0,vI 0,pv 5 0,aa,aa,aa,(Z19 f u s),aa,aa,aa,(Z1a b),aa,aa,aa,aa,aa,aa,aa,aa,aa,vB (!(decide ((aE.mk s b)∈l)))]
abbrev Z1l:List AV:=[pv 0 0,vI s,slV tb nb kU8 b,aa,aa,aa,pv 2 0,vI 30,aa,aa,aa,aa,(Z19 f u s)]
end
theorem Xg1 (f:Int) (u:Int) (l:List aE) (s:Int) (tb:Bool) (nb:Bool) (b:List UInt8) (hf:0≤f∧f≤2) (hu:0≤u∧u≤8) (hs:-9223372036854775808≤s∧s≤9223372036854775807) (hb:b.length≤140737488355328) (hl:l.length≤2147483648):Holds Tryz.prog 27 ⟨[pv 0 0,vI s,slV tb nb kU8 b],[.box 135 [dB true,dI f,dI u,.own 1 (kE false).sz 0 l.length],Xe 43 (kE false) l],.tup [.agg [dI (Hh f u s b).X4,dU (Hh f u s b).Xf],.one (dI (Et f u s b))],[.live (.box 135 [dB true,dI f,dI u,.own 2 (kE false).sz 0 (Hv f u l s b).length]),.dead,.live (Xe 43 (kE false) (Hv f u l s b))]⟩:=by
 refine Holds.of Tryz.func27 rfl (N:=38) Tryz.ntmps27 rfl fun w0 B0 S0 U0=>?_
 show T _ (Y2 38 2 w0 S0 U0 B0) ⟨[pv 0 0,vI s,slV tb nb kU8 b],[(Z16 f u l),(Z18 l)]⟩ _ _
 refine sR [] ?_
 refine T.seq ?_
 refine sR [hR 2 rfl rfl (rCa (X6x f u l s ‹_› ‹_› ‹_›) Tryz.func69 [0,1] [(.tmp 9,pv 0 0),(.tmp 10,vI s)] 2 2)] ?_
 by_cases hq1:Um f u s
 rotate_left
 ·refine cT (cn (dF hq1)) ?_
  refine sR [] ?_
  refine T.ret (rT ?_)
  refine eN ⟨(Z1l f u s tb nb b),[(Z16 f u l),(Z18 l),Z1c]⟩ ?_
  refine Xc (s':=⟨(Z1l f u s tb nb b),(Z1e f u l)⟩) (fun _ _ hG=>Gs.move (s:=⟨(Z1l f u s tb nb b),[(Z16 f u l),(Z18 l),Z1c]⟩) 1 3 (o:=(Z17 l)) rfl rfl rfl ⟨.inl rfl,p3w⟩ ⟨(.inr pZ16),⟨(.inl ⟨rfl,rfl⟩),⟨(.inr p1l),⟨(.inr (.inl ⟨rfl,rfl⟩)),trivial⟩⟩⟩⟩ hG) ?_
  refine eN ⟨(Z1l f u s tb nb b),(Z1e f u l)⟩ ?_
  refine Xc (s':=⟨(Z1l f u s tb nb b),[(Z1d f u l),.dead,.live (.box 43 Z1g),(Z18 l)]⟩) (fun _ _ hG=>Ys (s:=⟨(Z1l f u s tb nb b),(Z1e f u l)⟩) ⟨.inl rfl,p3w⟩ (kk2 ⟨p3v,⟨.inl rfl,trivial⟩⟩) hG) ?_
  exact eX [.c 6 2 43 0 43 [dI 0,Z1f] (.agg Z1g),.t 7 (.one (dI 30))] ⟨⟨rfl,rfl,by kernel_rfl,by kernel_rfl,.inl ⟨2,F8,rfl,Nat.le_of_ble_eq_true rfl⟩⟩,⟨⟨rfl,by kernel_rfl⟩,trivial⟩⟩ [0,1,3] (by have e1:((Hh f u s b).X4:Int)=0:=pz;have e2:((Hh f u s b).Xf:List UInt8)=([]:List UInt8):=pz;have e3:((Et f u s b):Int)=30:=pz;have hE:=congr pZ17 e3;exact hE) ⟨⟨rfl,p3a⟩,⟨⟨rfl,pZ28⟩,trivial⟩⟩
 refine cF (cn (dT hq1)) ?_
 refine T.skip (nT (T.seq ?_))
 refine sR [] ?_
 by_cases hq2:((b.length:Nat):Int)>16777216
 ·refine cT (dT hq2) ?_
  refine sR [] ?_
  refine T.ret (rT ?_)
  refine eN ⟨(Z1b f u s tb nb b),[(Z16 f u l),(Z18 l),Z1c]⟩ ?_
  refine Xc (s':=⟨(Z1b f u s tb nb b),(Z1e f u l)⟩) (fun _ _ hG=>Gs.move (s:=⟨(Z1b f u s tb nb b),[(Z16 f u l),(Z18 l),Z1c]⟩) 1 3 (o:=(Z17 l)) rfl rfl rfl ⟨.inl rfl,(Fq trivial)⟩ ⟨(.inr pZ16),⟨(.inl ⟨rfl,rfl⟩),⟨(.inr p1l),⟨(.inr (.inl ⟨rfl,rfl⟩)),trivial⟩⟩⟩⟩ hG) ?_
  refine eN ⟨(Z1b f u s tb nb b),(Z1e f u l)⟩ ?_
  refine Xc (s':=⟨(Z1b f u s tb nb b),[(Z1d f u l),.dead,.live (.box 43 Z1g),(Z18 l)]⟩) (fun _ _ hG=>Ys (s:=⟨(Z1b f u s tb nb b),(Z1e f u l)⟩) ⟨.inl rfl,(Fq trivial)⟩ (kk2 ⟨p3v,⟨.inl rfl,trivial⟩⟩) hG) ?_
  exact eX [.c 6 2 43 0 43 [dI 0,Z1f] (.agg Z1g),.t 7 (.one (dI 11))] ⟨⟨rfl,rfl,by kernel_rfl,by kernel_rfl,.inl ⟨2,F8,rfl,Nat.le_of_ble_eq_true rfl⟩⟩,⟨⟨rfl,by kernel_rfl⟩,trivial⟩⟩ [0,1,3] (by have e1:((Hh f u s b).X4:Int)=0:=pz;have e2:((Hh f u s b).Xf:List UInt8)=([]:List UInt8):=pz;have e3:((Et f u s b):Int)=11:=pz;have hE:=congr pZ17 e3;exact hE) ⟨⟨rfl,p3a⟩,⟨⟨rfl,pZ28⟩,trivial⟩⟩
 refine cF (dF hq2) ?_
 refine T.skip (nT ?_)
 refine sR [hR 1 rfl rfl (Yd 3 5 kU8 Vr ([]:List UInt8) [] (cs:=[]) Tryz.underlying25 Jl rfl Io rfl rfl rfl pd W4 pZ7 (V1 pZ7) (X3 rfl) trivial),hR 3 rfl rfl (Yy 3 4 5 1 kU8 Vr ([]:List UInt8) b b ([]:List UInt8).length (sy:=(.d (dsl tb nb kU8 b))) (rhs:=[]) Jf (by omega) (Ji tb nb kU8 b) (by simp) (by (simp [maxLen,-List.getD_eq_getElem?_getD]<;>omega)) (by (simp [maxLen,-List.getD_eq_getElem?_getD]<;>omega)) (X3 rfl) trivial)] ?_
 refine T.seq ?_
 refine tN ⟨(Z1h f u s tb nb b),[(Z16 f u l),(Z18 l),Z1c,.dead,.live (Xe 5 kU8 b),.live (.box 43 [dI s,.own 4 kU8.sz 0 b.length])]⟩ ?_
 refine Wv (s':=⟨(Z1h f u s tb nb b),[(Z16 f u l),(Z18 l),Z1c,.dead,.dead,(Z1j s b)]⟩) (fun _ _ hG=>Gs.freeze (s:=⟨(Z1h f u s tb nb b),[(Z16 f u l),(Z18 l),Z1c,.dead,.live (Xe 5 kU8 b),.live (.box 43 [dI s,.own 4 kU8.sz 0 b.length])]⟩) 4 (el:=W6 kU8 b) (sz:=kU8.sz) (n:=b.length) rfl ⟨.inl rfl,(Fq trivial)⟩ ⟨pc,⟨pc,⟨pc,⟨pc,⟨(.inl ⟨rfl,rfl⟩),⟨p36,trivial⟩⟩⟩⟩⟩⟩ hG) ?_
 refine sR [hR 2 rfl rfl (rCa (Xb3 f u l false (aE.mk s b) (by omega)) Tryz.func70 [0,1] [(.tmp 23,pv 0 0),(.tmp 24,.tv (.agg (Z1i s b)))] 2 2)] ?_
 by_cases hq3:(aE.mk s b)∈l
 ·refine cF (cn (dT hq3)) ?_
  refine T.skip (nT ?_)
  refine sR [] ?_
  refine T.ret ?_
  refine eN ⟨(Z1k f u l s tb nb b),[(Z16 f u l),(Z18 l),(Z1j s b),.dead,.dead,(Z1j s b)]⟩ ?_
  refine Xc (s':=⟨(Z1k f u l s tb nb b),[.live (.box 135 [dB true,dI f,dI u,.own 6 (kE false).sz 0 l.length]),.dead,(Z1j s b),.dead,.dead,(Z1j s b),(Z18 l)]⟩) (fun _ _ hG=>Gs.move (s:=⟨(Z1k f u l s tb nb b),[(Z16 f u l),(Z18 l),(Z1j s b),.dead,.dead,(Z1j s b)]⟩) 1 6 (o:=(Z17 l)) rfl rfl rfl ⟨.inl rfl,(kk2 p2w)⟩ ⟨(.inr pZ16),⟨(.inl ⟨rfl,rfl⟩),⟨(.inr p1l),⟨(.inr p1l),⟨(.inr p1l),⟨(.inr p1l),⟨(.inr (.inl ⟨rfl,rfl⟩)),trivial⟩⟩⟩⟩⟩⟩⟩ hG) ?_
  exact eX [.c 6 2 43 0 43 [dI s,dU b] (.agg (Z1i s b)),.t 7 (.one (dI 0))] ⟨⟨rfl,rfl,by kernel_rfl,by kernel_rfl,.inl ⟨2,F8,rfl,Nat.le_of_ble_eq_true rfl⟩⟩,⟨⟨rfl,by kernel_rfl⟩,trivial⟩⟩ [0,1,6] p3e ⟨⟨rfl,(by have e1:(l.length:Nat)=(Hv f u l s b).length:=pz;have hE:=congrArg (fun (q1:Nat)=>(.live (.box 135 [dB true,dI f,dI u,.own 6 (kE false).sz 0 q1]):HS)) e1;exact Eq.trans pZ7 hE)⟩,⟨⟨rfl,pZ28⟩,trivial⟩⟩
 refine cT (cn (dF hq3)) ?_
 refine xD [[],[],[1],[1,2],[1,2,3],[],[5],[1,2,3,4,5,6],[0,1,2,3,4,5,6,7],[0,1,2,3,4,5,6,7,8],[0,1,2,3,4,5,6,7,8,9]] [hR 6 rfl rfl (Yd 6 43 (kE false) (W5 false) [(aE.mk s b)] [⟨0,.tmp 32,.agg (Z1i s b),0⟩] (cs:=[dI s,dU b]) Tryz.underlying37 Vs rfl F7 rfl rfl rfl pd (Yp rfl rfl pd W4) pZ7 (V1 pZ7) (X3 rfl) trivial),hR 7 rfl rfl (Yy 1 7 43 32 (kE false) (W5 false) l [(aE.mk s b)] (l++[(aE.mk s b)]) l.length (sy:=(.own 6 (kE false).sz 0 [(aE.mk s b)].length)) (rhs:=[(6,.live (Xe 43 (kE false) [(aE.mk s b)]))]) Fb (by omega) (Wu 6 43 (kE false) [(aE.mk s b)]) Jn (by (simp [maxLen,-List.getD_eq_getElem?_getD]<;>omega)) (by (simp [maxLen,-List.getD_eq_getElem?_getD]<;>omega)) (X3 rfl) trivial)] pZ7 pZ7 pZ7 pZ7 pZ7 pZ7 ?_
 refine nT ?_
 refine sR [] ?_
 refine T.ret ?_
 exact eX [.c 6 2 43 0 43 [dI s,dU b] (.agg (Z1i s b)),.t 7 (.one (dI 0))] ⟨⟨rfl,rfl,by kernel_rfl,by kernel_rfl,.inl ⟨2,F8,rfl,Nat.le_of_ble_eq_true rfl⟩⟩,⟨⟨rfl,by kernel_rfl⟩,trivial⟩⟩ [0,1,7] p3e ⟨⟨rfl,(by have e1:((l++[(aE.mk s b)]).length:Nat)=(Hv f u l s b).length:=pz;have hE:=congrArg (fun (q1:Nat)=>(.live (.box 135 [dB true,dI f,dI u,.own 7 (kE false).sz 0 q1]):HS)) e1;exact Eq.trans pZ7 hE)⟩,⟨⟨rfl,(by have e1:(l++[(aE.mk s b)]:List aE)=(Hv f u l s b):=pz;have hE:=congrArg (fun (q1:List aE)=>(.live (Xe 43 (kE false) q1):HS)) e1;exact Eq.trans pZ7 hE)⟩,trivial⟩⟩
theorem Xdu (f:Int) (u:Int) (l:List aE) (te:Bool) (e:aE) (hf:0≤f∧f≤2) (hu:0≤u∧u≤8) (hs:-9223372036854775808≤e.X4∧e.X4≤9223372036854775807) (hl:l.length≤9223372036854775806):Holds Tryz.prog 171 ⟨[pv 0 0,.tv (.agg [dI e.X4,.d (dsl te false kU8 e.Xf)])],[.box 135 [dB true,dI f,dI u,.own 1 (kE false).sz 0 l.length],Xe 43 (kE false) l],vI (Xu f u l e),[.live (.box 135 [dB true,dI f,dI u,.own 1 (kE false).sz 0 l.length]),.live (Xe 43 (kE false) l)]⟩:=by
 refine Holds.of Tryz.func171 rfl (N:=14) Tryz.ntmps171 rfl fun w0 B0 S0 U0=>?_
 show T _ (Y2 14 2 w0 S0 U0 B0) ⟨[pv 0 0,.tv (.agg [dI e.X4,.d (dsl te false kU8 e.Xf)])],[.live (.box 135 [dB true,dI f,dI u,.own 1 (kE false).sz 0 l.length]),.live (Xe 43 (kE false) l)]⟩ _ _
 refine sR [] ?_
 refine T.seq ?_
 refine sR [hR 3 rfl rfl (rCa (X6x f u l e.X4 ‹_› ‹_› ‹_›) Tryz.func69 [0,1] [(.tmp 5,pv 0 0),(.tmp 7,vI e.X4)] 2 2)] ?_
 by_cases hq1:Um f u e.X4
 ·refine cF (cn (dT hq1)) ?_
  refine T.skip (nT (T.seq ?_))
  refine sR [hR 2 rfl rfl (rCa (Xb3 f u l te e ‹_›) Tryz.func70 [0,1] [(.tmp 10,pv 0 0),(.tmp 11,.tv (.agg [dI e.X4,.d (dsl te false kU8 e.Xf)]))] 2 2)] ?_
  by_cases hq2:e∈l
  ·refine cF (cn (dT hq2)) ?_
   refine T.skip (nT ?_)
   refine sR [] ?_
   refine T.ret ?_
   exact eRt 4 (.one (dI 0)) [0,1] (by have e1:((Xu f u l e):Int)=0:=(by (simp [Xu, *];done));have hE:=cI e1;exact hE) (ix (ix trivial))
  refine cT (cn (dF hq2)) ?_
  refine sR [] ?_
  refine T.ret (rT ?_)
  exact eRt 4 (.one (dI 31)) [0,1] (by have e1:((Xu f u l e):Int)=31:=(by (simp [Xu, *];done));have hE:=cI e1;exact hE) (ix (ix trivial))
 refine cT (cn (dF hq1)) ?_
 refine sR [] ?_
 refine T.ret (rT ?_)
 exact eRt 4 (.one (dI 30)) [0,1] (by have e1:((Xu f u l e):Int)=30:=(by (simp [Xu, *];done));have hE:=cI e1;exact hE) (ix (ix trivial))
theorem clip_u8 (tb:Bool) (nb:Bool) (b:List UInt8):Holds Tryz.prog 184 ⟨[slV tb nb kU8 b],[],clV tb nb kU8 b,[]⟩:=by
 refine Holds.of Tryz.func184 rfl (N:=9) Tryz.ntmps184 rfl fun w0 B0 S0 U0=>?_
 show T _ (Y2 9 0 w0 S0 U0 B0) ⟨[slV tb nb kU8 b],[]⟩ _ _
 refine sR [] ?_
 refine sR [hR 5 rfl rfl (q_clip tb nb kU8 b (p:=((b.length:Nat):Int)) (q:=((b.length:Nat):Int)) Tryz.underlying25 Jl rfl (by omega) (by omega) (X3 rfl) trivial)] ?_
 refine T.ret ?_
 exact eRt 2 (.one (.cl tb nb kU8.sz b.length (W6 kU8 b))) [] rfl trivial
abbrev Z1m (n:Nat):AV:=dv (.int .u64 ((n:Nat):Int))
abbrev Z1n (m:Nat):AV:=vI ((m:Nat):Int)
abbrev Z1o (j:Nat):AV:=vI ((j-1:Nat):Int)
theorem X84 (tb:Bool) (nb:Bool) (b:List UInt8) (n:Nat) (m:Nat) (hb:b.length≤140737488355000) (hn:n<18446744073709551616) (hm:m≤7):Holds Tryz.prog 167 ⟨[slV tb nb kU8 b,dv (.int .u64 ((n:Nat):Int)),vI ((m+1:Nat):Int)],[],Y9 0 kU8 0 (b++(Wr n (m+1))).length,[.live (Xe 5 kU8 (b++(Wr n (m+1))))]⟩:=by
 refine Holds.of Tryz.func167 rfl (N:=22) Tryz.ntmps167 rfl fun w0 B0 S0 U0=>?_
 show T _ (Y2 22 0 w0 S0 U0 B0) ⟨[slV tb nb kU8 b,(Z1m n),vI ((m+1:Nat):Int)],[]⟩ _ _
 refine sR [] ?_
 refine sR [hR 1 rfl rfl (rCa (clip_u8 tb nb b ) Tryz.func184 [] [(.tmp 7,slV tb nb kU8 b)] 0 0)] ?_
 refine T.seq ?_
 refine T.block ?_
 refine Xnf ?_
 refine Xik ?_
 refine T.seq ?_
 refine sR [] ?_
 by_cases hq1:((m+1:Nat):Int)>0
 rotate_left
 ·exact absurd (by omega) hq1
 refine cT (dT hq1) ?_
 refine T.skip (nT ?_)
 refine T.block ?_
 refine sR [hR 1 rfl rfl (Ye (u1:=.int .i64 ((m+1:Nat):Int)) (u2:=.int .i64 1) (v:=.int .i64 ((m:Nat):Int)) (Ve pa) (X3 rfl) ⟨rfl,trivial⟩)] ?_
 refine xR [hR 3 rfl rfl (Ye (u1:=.int .i64 8) (u2:=.int .i64 ((m:Nat):Int)) (v:=.int .i64 ((8*m:Nat):Int)) (Xa2 pa) (X3 rfl) ⟨rfl,trivial⟩),hR 4 rfl rfl (Ye (u1:=.int .u64 ((n:Nat):Int)) (u2:=.int .i64 ((8*m:Nat):Int)) (v:=.int .u64 ((n / 2 ^ (8*m):Nat):Int)) (Er (n:=8*m) rfl py) (X3 rfl) trivial),hR 5 rfl rfl (Vc (u:=.int .u64 ((n / 2 ^ (8*m):Nat):Int)) (v:=.int .u8 (((UInt8.ofNat (n / 2 ^ (8*m))).toNat:Nat):Int)) (Hn Tryz.underlying179 Tryz.underlying5) (X3 rfl) trivial),hR 6 rfl rfl (Yd 0 5 kU8 Vr [(UInt8.ofNat (n / 2 ^ (8*m)))] [⟨0,.tmp 18,.one (.d (.val (.int .u8 (((UInt8.ofNat (n / 2 ^ (8*m))).toNat:Nat):Int)))),0⟩] (cs:=[.d (.val (.int .u8 (((UInt8.ofNat (n / 2 ^ (8*m))).toNat:Nat):Int)))]) Tryz.underlying25 Jl rfl Io rfl rfl rfl pd (Yp rfl rfl pd W4) pZ7 (V1 pZ7) (X3 rfl) trivial),hR 7 rfl rfl (Xj9 1 5 1 tb nb kU8 Vr b [(UInt8.ofNat (n / 2 ^ (8*m)))] (b++[(UInt8.ofNat (n / 2 ^ (8*m)))]) (sy:=(.own 0 kU8.sz 0 [(UInt8.ofNat (n / 2 ^ (8*m)))].length)) (rhs:=[(0,.live (Xe 5 kU8 [(UInt8.ofNat (n / 2 ^ (8*m)))]))]) Jf (by (simp [maxLen,-List.getD_eq_getElem?_getD]<;>omega)) (Wu 0 5 kU8 [(UInt8.ofNat (n / 2 ^ (8*m)))]) rfl (by (simp [maxLen,-List.getD_eq_getElem?_getD]<;>omega)) (by (simp [maxLen,-List.getD_eq_getElem?_getD]<;>omega)) (X3 rfl) trivial)] pZ7 pZ7 ?_
 refine nB ?_
 refine nP ?_
 refine TL.loop (ι:=Nat×(List UInt8)) (fun (x_:Nat×(List UInt8))=>⟨[Y9 0 kU8 0 x_.2.length,(Z1m n),vI ((x_.1:Nat):Int)],[.live (Xe 5 kU8 x_.2)]⟩) (fun (x_:Nat×(List UInt8))=>(x_.1≤m)∧(x_.2++Wr n x_.1=b++Wr n (m+1))) (fun (x_:Nat×(List UInt8))=>x_.1) (m,b++[UInt8.ofNat (n / 2 ^ (8*m))]) ⟨(Nat.le_refl _),(by rw [List.append_assoc];rfl)⟩ (fun _ _ hG=>Vb [1] [true,true,true] (t1:=[Y9 1 kU8 0 (b++[UInt8.ofNat (n / 2 ^ (8*m))]).length,(Z1m n),(Z1n m)]) (t2:=[Y9 1 kU8 0 (b++[(UInt8.ofNat (n / 2 ^ (8*m)))]).length,(Z1m n),(Z1n m)]) (h1:=[.live (Xe 5 kU8 (b++[UInt8.ofNat (n / 2 ^ (8*m))]))]) (h2:=[.live (Xe 5 kU8 (b++[(UInt8.ofNat (n / 2 ^ (8*m)))]))]) (congrArg (fun (q1:Nat)=>([Y9 1 kU8 0 q1,(Z1m n),(Z1n m)]:List AV)) (by rfl)) pZ29 hG) ?_
 rintro ⟨j,acc⟩ ⟨hj,he⟩
 show T _ _ ⟨[Y9 0 kU8 0 acc.length,(Z1m n),vI ((j:Nat):Int)],[.live (Xe 5 kU8 acc)]⟩ _ _
 replace hj:j≤m:=hj
 replace he:acc++Wr n j=b++Wr n (m+1):=he
 have hacc:=X8c he
 refine T.seq ?_
 refine sR [] ?_
 by_cases hq2:((j:Nat):Int)>0
 ·refine cT (dT hq2) ?_
  refine T.skip (nT ?_)
  refine T.block ?_
  refine sR [hR 1 rfl rfl (Ye (u1:=.int .i64 ((j:Nat):Int)) (u2:=.int .i64 1) (v:=.int .i64 ((j-1:Nat):Int)) (Ve pa) (X3 rfl) ⟨rfl,trivial⟩)] ?_
  refine xR [hR 3 rfl rfl (Ye (u1:=.int .i64 8) (u2:=.int .i64 ((j-1:Nat):Int)) (v:=.int .i64 ((8*(j-1):Nat):Int)) (Xa2 pa) (X3 rfl) ⟨rfl,trivial⟩),hR 4 rfl rfl (Ye (u1:=.int .u64 ((n:Nat):Int)) (u2:=.int .i64 ((8*(j-1):Nat):Int)) (v:=.int .u64 ((n / 2 ^ (8*(j-1)):Nat):Int)) (Er (n:=8*(j-1)) rfl py) (X3 rfl) trivial),hR 5 rfl rfl (Vc (u:=.int .u64 ((n / 2 ^ (8*(j-1)):Nat):Int)) (v:=.int .u8 (((UInt8.ofNat (n / 2 ^ (8*(j-1)))).toNat:Nat):Int)) (Hn Tryz.underlying179 Tryz.underlying5) (X3 rfl) trivial),hR 6 rfl rfl (Yd 1 5 kU8 Vr [(UInt8.ofNat (n / 2 ^ (8*(j-1))))] [⟨0,.tmp 18,.one (.d (.val (.int .u8 (((UInt8.ofNat (n / 2 ^ (8*(j-1)))).toNat:Nat):Int)))),0⟩] (cs:=[.d (.val (.int .u8 (((UInt8.ofNat (n / 2 ^ (8*(j-1)))).toNat:Nat):Int)))]) Tryz.underlying25 Jl rfl Io rfl rfl rfl pd (Yp rfl rfl pd W4) pZ7 (V1 pZ7) (X3 rfl) trivial),hR 7 rfl rfl (Yy 0 2 5 1 kU8 Vr acc [(UInt8.ofNat (n / 2 ^ (8*(j-1))))] (acc++[(UInt8.ofNat (n / 2 ^ (8*(j-1))))]) acc.length (sy:=(.own 1 kU8.sz 0 [(UInt8.ofNat (n / 2 ^ (8*(j-1))))].length)) (rhs:=[(1,.live (Xe 5 kU8 [(UInt8.ofNat (n / 2 ^ (8*(j-1))))]))]) Jf (by omega) (Wu 1 5 kU8 [(UInt8.ofNat (n / 2 ^ (8*(j-1))))]) Jn (by (simp [maxLen,-List.getD_eq_getElem?_getD]<;>omega)) (by (simp [maxLen,-List.getD_eq_getElem?_getD]<;>omega)) (X3 rfl) trivial)] pZ7 pZ7 ?_
  refine nB ?_
  refine nL (j-1,acc++[UInt8.ofNat (n / 2 ^ (8*(j-1)))]) ⟨(show (j-1)≤m from (by omega)),(show (acc++[UInt8.ofNat (n / 2 ^ (8*(j-1)))])++Wr n (j-1)=b++Wr n (m+1) from (X8b he (by omega)))⟩ (show ((j-1):Nat)<j from (by omega)) (fun _ _ hG=>Vb [2] [true,true,true] (t1:=[Y9 2 kU8 0 (acc++[UInt8.ofNat (n / 2 ^ (8*(j-1)))]).length,(Z1m n),(Z1o j)]) (t2:=[Y9 2 kU8 0 (acc++[(UInt8.ofNat (n / 2 ^ (8*(j-1))))]).length,(Z1m n),(Z1o j)]) (h1:=[.live (Xe 5 kU8 (acc++[UInt8.ofNat (n / 2 ^ (8*(j-1)))]))]) (h2:=[.live (Xe 5 kU8 (acc++[(UInt8.ofNat (n / 2 ^ (8*(j-1))))]))]) (congrArg (fun (q1:Nat)=>([Y9 2 kU8 0 q1,(Z1m n),(Z1o j)]:List AV)) (by rfl)) pZ29 hG)
 refine cF (dF hq2) ?_
 refine T.exit ?_
 refine xT ?_
 refine xT ?_
 refine xH ?_
 refine nT ?_
 refine sR [] ?_
 refine T.ret ?_
 exact eRt 6 (.one (.own 0 kU8.sz 0 acc.length)) [0] (by have e1:((b++(Wr n (m+1))).length:Nat)=acc.length:=p4u;have hE:=congrArg (fun (q1:Nat)=>(Y9 0 kU8 0 q1:AV)) e1;exact hE) ⟨⟨rfl,(by have e1:(acc:List UInt8)=b++(Wr n (m+1)):=p4u;have hE:=congrArg (fun (q1:List UInt8)=>(.live (Xe 5 kU8 q1):HS)) e1;exact Eq.trans pZ7 hE)⟩,trivial⟩
end Go.Proofs.YtnaopgohccacmaaGreat.Q
