import Derived.Test.YtnaopgohccacmaaGreatC19n4
namespace Go.Proofs.YtnaopgohccacmaaGreat.Q
open Go Go.RowKit
set_option linter.unusedVariables false
set_option linter.unusedSimpArgs false
set_option maxRecDepth 100000
set_option maxHeartbeats 4000000
theorem Xfp:Wide Tryz.prog 4 none:=⟨_,Tryz.underlying4,(fun _ h=>by cases h),(fun _ _ h=>by cases h)⟩
theorem ref03_N (f:Int) (u:Int) (l:List aE) (hf:0≤f∧f≤2) (hu:0≤u∧u≤8):Holds Tryz.prog 72 ⟨[pv 0 0],[.box 135 [dB true,dI f,dI u,.own 1 (kE false).sz 0 l.length],Xf 43 (kE false) l],vI (3*f+1),[.live (.box 135 [dB true,dI f,dI u,.own 1 (kE false).sz 0 l.length]),.live (Xf 43 (kE false) l)]⟩:=by
 refine Holds.of Tryz.func72 rfl (N:=14) Tryz.ntmps72 rfl fun w0 B0 S0 U0=>?_
 show T _ (Y2 14 2 w0 S0 U0 B0) ⟨[pv 0 0],[.live (.box 135 [dB true,dI f,dI u,.own 1 (kE false).sz 0 l.length]),.live (Xf 43 (kE false) l)]⟩ _ _
 refine sR [] (T.seq (sR [] (cF (b:=(!true)) rfl (T.skip (nT (sR [hR 4 rfl rfl (Yd (u1:=.int .i64 3) (u2:=.int .i64 f) (v:=.int .i64 (3*f)) (X9s pc) (X3 rfl) ⟨rfl,trivial⟩),hR 5 rfl rfl (Yd (u1:=.int .i64 (3*f)) (u2:=.int .i64 1) (v:=.int .i64 ((3*f)+1)) (Wb pc) (X3 rfl) ⟨rfl,trivial⟩)] (T.ret ?_)))))))
 exact eRt 2 (.one (dI ((3*f)+1))) [0,1] (cI (by rfl)) (ix (ix trivial))
theorem Xby (f:Int) (u:Int) (l:List aE) (hf:0≤f∧f≤2) (hu:0≤u∧u≤8):Holds Tryz.prog 114 ⟨[pv 0 0],[.box 135 [dB true,dI f,dI u,.own 1 (kE false).sz 0 l.length],Xf 43 (kE false) l],vI (2*f+1),[.live (.box 135 [dB true,dI f,dI u,.own 1 (kE false).sz 0 l.length]),.live (Xf 43 (kE false) l)]⟩:=by
 refine Holds.of Tryz.func114 rfl (N:=14) Tryz.ntmps114 rfl fun w0 B0 S0 U0=>?_
 show T _ (Y2 14 2 w0 S0 U0 B0) ⟨[pv 0 0],[.live (.box 135 [dB true,dI f,dI u,.own 1 (kE false).sz 0 l.length]),.live (Xf 43 (kE false) l)]⟩ _ _
 refine sR [] (T.seq (sR [] (cF (b:=(!true)) rfl (T.skip (nT (sR [hR 4 rfl rfl (Yd (u1:=.int .i64 2) (u2:=.int .i64 f) (v:=.int .i64 (2*f)) (X9s pc) (X3 rfl) ⟨rfl,trivial⟩),hR 5 rfl rfl (Yd (u1:=.int .i64 (2*f)) (u2:=.int .i64 1) (v:=.int .i64 ((2*f)+1)) (Wb pc) (X3 rfl) ⟨rfl,trivial⟩)] (T.ret ?_)))))))
 exact eRt 2 (.one (dI ((2*f)+1))) [0,1] (cI (by rfl)) (ix (ix trivial))
theorem Xbz (f:Int) (u:Int) (l:List aE) (s:Int) (hf:0≤f∧f≤2) (hu:0≤u∧u≤8) (hs:-9223372036854775808≤s∧s≤9223372036854775807):Holds Tryz.prog 125 ⟨[pv 0 0,vI s],[.box 135 [dB true,dI f,dI u,.own 1 (kE false).sz 0 l.length],Xf 43 (kE false) l],vB (decide (Id u s)),[.live (.box 135 [dB true,dI f,dI u,.own 1 (kE false).sz 0 l.length]),.live (Xf 43 (kE false) l)]⟩:=by
 refine Holds.of Tryz.func125 rfl (N:=16) Tryz.ntmps125 rfl fun w0 B0 S0 U0=>?_
 show T _ (Y2 16 2 w0 S0 U0 B0) ⟨[pv 0 0,vI s],[.live (.box 135 [dB true,dI f,dI u,.own 1 (kE false).sz 0 l.length]),.live (Xf 43 (kE false) l)]⟩ _ _
 refine sR [] ?_
 by_cases hq1:s≥1000
 ·refine sR (hY 3 (dT hq1)::(hS 4 (oY rfl rfl rfl rfl (X3 rfl) (dT hq1) (Yd (u1:=.int .i64 s) (u2:=.int .i64 1000) (v:=.int .i64 (s-1000)) (Ug pc) (X3 rfl) ⟨rfl,trivial⟩))::(Xm (hY · (dT hq1)) [5,6,7,8,9] (hP 10 (dT hq1)::[])))) (T.ret ?_)
  exact eRt 4 (.one (dB (decide ((s-1000)<u)))) [0,1] p4a (ix (ix trivial))
 refine sR (Xm (hN · true (dF hq1)) [3,4,5,6,7,8,9] (hP 10 (dF hq1)::[])) (T.ret ?_)
 exact eRt 4 (.one (dB false)) [0,1] p4t (ix (ix trivial))
theorem Ir (f:Int) (u:Int) (l:List aE) (s:Int) (hf:0≤f∧f≤2) (hu:0≤u∧u≤8):Holds Tryz.prog 124 ⟨[pv 0 0,vI s],[.box 135 [dB true,dI f,dI u,.own 1 (kE false).sz 0 l.length],Xf 43 (kE false) l],vB (decide (V0 f s)),[.live (.box 135 [dB true,dI f,dI u,.own 1 (kE false).sz 0 l.length]),.live (Xf 43 (kE false) l)]⟩:=by
 refine Holds.of Tryz.func124 rfl (N:=13) Tryz.ntmps124 rfl fun w0 B0 S0 U0=>?_
 show T _ (Y2 13 2 w0 S0 U0 B0) ⟨[pv 0 0,vI s],[.live (.box 135 [dB true,dI f,dI u,.own 1 (kE false).sz 0 l.length]),.live (Xf 43 (kE false) l)]⟩ _ _
 refine sR [] ?_
 by_cases hq1:s≥0
 ·refine sR [hY 3 (dT hq1),hY 4 (dT hq1),hS 5 (oY rfl rfl rfl rfl (X3 rfl) (dT hq1) (rCa (ref03_N f u l ‹_› ‹_›) Tryz.func72 [0,1] [(.tmp 9,pv 0 0)] 2 2)),hY 6 (dT hq1),hP 7 (dT hq1)] (T.ret ?_)
  exact eRt 4 (.one (dB (decide (s<(3*f+1))))) [0,1] p47 (ix (ix trivial))
 refine sR (Xm (hN · true (dF hq1)) [3,4,5,6] (hP 7 (dF hq1)::[])) (T.ret ?_)
 exact eRt 4 (.one (dB false)) [0,1] p4s (ix (ix trivial))
theorem X6n (f:Int) (u:Int) (l:List aE) (s:Int) (hf:0≤f∧f≤2) (hu:0≤u∧u≤8) (hs:-9223372036854775808≤s∧s≤9223372036854775807):Holds Tryz.prog 69 ⟨[pv 0 0,vI s],[.box 135 [dB true,dI f,dI u,.own 1 (kE false).sz 0 l.length],Xf 43 (kE false) l],vB (decide (Uk f u s)),[.live (.box 135 [dB true,dI f,dI u,.own 1 (kE false).sz 0 l.length]),.live (Xf 43 (kE false) l)]⟩:=by
 refine Holds.of Tryz.func69 rfl (N:=13) Tryz.ntmps69 rfl fun w0 B0 S0 U0=>?_
 show T _ (Y2 13 2 w0 S0 U0 B0) ⟨[pv 0 0,vI s],[.live (.box 135 [dB true,dI f,dI u,.own 1 (kE false).sz 0 l.length]),.live (Xf 43 (kE false) l)]⟩ _ _
 refine sR [] ?_
 by_cases hq1:V0 f s
 ·refine sR (hR 2 rfl rfl (rCa (Ir f u l s ‹_› ‹_›) Tryz.func124 [0,1] [(.tmp 5,pv 0 0),(.tmp 6,vI s)] 2 2)::(Xm (hN · false (dT hq1)) [4,5,6] (hP 7 (dT hq1)::[]))) (T.ret ?_)
  exact eRt 4 (.one (dB true)) [0,1] p3y (ix (ix trivial))
 refine sR [hR 2 rfl rfl (rCa (Ir f u l s ‹_› ‹_›) Tryz.func124 [0,1] [(.tmp 5,pv 0 0),(.tmp 6,vI s)] 2 2),hY 4 (dF hq1),hY 5 (dF hq1),hS 6 (oY rfl rfl rfl rfl (X3 rfl) (dF hq1) (rCa (Xbz f u l s ‹_› ‹_› ‹_›) Tryz.func125 [0,1] [(.tmp 9,pv 0 0),(.tmp 10,vI s)] 2 2)),hP 7 (dF hq1)] (T.ret ?_)
 exact eRt 4 (.one (dB (decide (Id u s)))) [0,1] p3r (ix (ix trivial))
section
variable (f:Int) (u:Int) (l:List aE) (te:Bool) (e:aE) (k:Nat)
abbrev Z12:AV:=.tv (.agg [dI e.X5,.d (dsl te false kU8 e.Xd)])
abbrev Z13:HS:=.live (.box 135 [dB true,dI f,dI u,.own 1 (kE false).sz 0 l.length])
abbrev Z14:List HS:=[(Z13 f u l),.live (Xf 43 (kE false) l),.live (.box 43 [dI e.X5,.d (dsl te false kU8 e.Xd)])]
end
theorem Xay (f:Int) (u:Int) (l:List aE) (te:Bool) (e:aE) (hl:l.length≤9223372036854775806):Holds Tryz.prog 70 ⟨[pv 0 0,.tv (.agg [dI e.X5,.d (dsl te false kU8 e.Xd)])],[.box 135 [dB true,dI f,dI u,.own 1 (kE false).sz 0 l.length],Xf 43 (kE false) l],vB (decide (e∈l)),[.live (.box 135 [dB true,dI f,dI u,.own 1 (kE false).sz 0 l.length]),.live (Xf 43 (kE false) l)]⟩:=by
 refine Holds.of Tryz.func70 rfl (N:=39) Tryz.ntmps70 rfl fun w0 B0 S0 U0=>?_
 show T _ (Y2 39 2 w0 S0 U0 B0) ⟨[pv 0 0,(Z12 te e)],[(Z13 f u l),.live (Xf 43 (kE false) l)]⟩ _ _
 refine sR [] (T.seq (sR [] (T.block ?_)))
 refine T.loop (ι:=Nat) (fun (k:Nat)=>⟨[pv 0 0,(Z12 te e),aa,pv 2 0,vB false,vI ((k:Nat):Int)],(Z14 f u l te e)⟩) (fun (k:Nat)=>(k≤l.length)∧(∀ j,j<k→¬l.getD j zE=e)) (fun (k:Nat)=>l.length-k) (0) ⟨(Nat.zero_le _),(fun j hj=>absurd hj (Nat.not_lt_zero _))⟩ (fun _ _ hG=>Yv [0,1,2] (bm 6 59) rfl rfl hG) ?_
 rintro k ⟨hk,hb⟩
 show T _ _ ⟨[pv 0 0,(Z12 te e),aa,pv 2 0,vB false,vI ((k:Nat):Int)],(Z14 f u l te e)⟩ _ _
 replace hk:k≤l.length:=hk
 replace hb:∀ j,j<k→¬l.getD j zE=e:=hb
 refine T.seq (sR [] ?_)
 by_cases hq1:((k:Nat):Int)<((l.length:Nat):Int)
 ·refine cT (dT hq1) (T.skip (nT (T.seq (T.block ?_))))
  by_cases hq2:(l.getD k zE).X5=e.X5
  ·refine sD [[],[0],[0,1],[0,1,2],[],[0,1,2,3,4],[0,1,2,3,4,5],[0,1,2,3,4,5,6],[],[8],[0,1,2,3,4,5,6,7,8,9],[0,1,2,3,4,5,6,7,8,9,10],[0,1,2,3,4,5,6,7,8,9,10,11],[0,1,2,3,4,5,6,7,8,9,10,11,12],[0,1,2,3,4,5,6,7,8,9,10,11,12,13],[0,1,2,3,4,5,6,7,8,9,10,11,12,13,14],[0,1,2,3,4,5,6,7,8,9,10,11],[0,1,2,3,4,5,6,7,8,9,10,11,12,13,14,15,16],[0,1,2,3,4,5,6,7,8,9,10,11,12,13,14,15,16,17],[0,1,2,3,4,5,6,7,8,9,10,11,12,13,14,15,16,17,18],[0,1,2,3,4,5,6,7,8,9,10,11],[0,1,2,3,4,5,6,7,8,9,10,11,20],[0,1,2,3,4,5,6,7,8,9,10,11,12,13,14,15,16,17,18,19,20,21],[0,1,2,3,4,5,6,7,8,9,10,11,12,13,14,15,16,17,18,19,20,21,22]] (hR 5 rfl rfl (Vh (k:=.i64) (l:=1) (sz:=(kE false).sz) (off:=0) (n:=l.length) (i:=((k:Nat):Int)) (m:=k) (o':=k*(kE false).sz+0) Tryz.underlying37 Vi rfl rfl (by omega) (by simp) (X3 rfl) trivial)::(hR 7 rfl rfl (F7 (l:=1) (off:=k*(kE false).sz+0) (i:=k) (j:=0) (T:=43) (sz:=(kE false).sz) (n:=l.length) (el:=W7 (kE false) l) (c:=.val (.int .i64 (l.getD k zE).X5)) wide_3 rfl (by omega) (by decide) rfl (X3 rfl) trivial)::(Xm (hY · (dT hq2)) [12,13,14,15,16] (hS 17 (oY rfl rfl rfl rfl (X3 rfl) (dT hq2) (Vh (k:=.i64) (l:=1) (sz:=(kE false).sz) (off:=0) (n:=l.length) (i:=((k:Nat):Int)) (m:=k) (o':=k*(kE false).sz+0) Tryz.underlying37 Vi rfl rfl (by omega) (by simp) (X3 rfl) p1s))::(hY 18 (dT hq2)::(hS 19 (oY rfl rfl rfl rfl (X3 rfl) (dT hq2) (F7 (l:=1) (off:=k*(kE false).sz+1) (i:=k) (j:=1) (T:=43) (sz:=(kE false).sz) (n:=l.length) (el:=W7 (kE false) l) (c:=dsl false false kU8 (l.getD k zE).Xd) Xhl rfl (by omega) (by decide) rfl (X3 rfl) p1s))::(hY 20 (dT hq2)::(hY 21 (dT hq2)::(hS 22 (oY rfl rfl rfl rfl (X3 rfl) (dT hq2) (rCa (X3f false false te false (l.getD k zE).Xd e.Xd ) Tryz.func23 [] [(.tmp 34,slV false false kU8 (l.getD k zE).Xd),(.tmp 36,slV te false kU8 e.Xd)] 0 0))::(hP 23 (dT hq2)::[])))))))))) ?_
   by_cases hq3:(l.getD k zE).Xd=e.Xd
   ·refine cT (dT hq3) (sR [] (T.ret (rB (rT (rT (rB (rT ?_)))))))
    exact eRt 4 (.one (dB true)) [0,1] (by have e1:((decide (e∈l)):Bool)=true:=(by exact dT (mem_get (z:=zE) (k:=k) (by omega) (by rw [Jk];exact ⟨by assumption,by assumption⟩)));have hE:=cB e1;exact hE) (ix (ix trivial))
   refine cF (dF hq3) (T.skip (nB (nT (xK [hR 1 rfl rfl (Yd (u1:=.int .i64 ((k:Nat):Int)) (u2:=.int .i64 1) (v:=.int .i64 ((k+1:Nat):Int)) (Wb pc) (X3 rfl) ⟨rfl,trivial⟩)] ?_))))
   refine nL (k+1) ⟨(show (k+1)≤l.length from (by omega)),(show ∀ j,j<(k+1)→¬l.getD j zE=e from (Ut hb (by rw [Jk];intro h1;exact absurd h1.2 ‹_›)))⟩ (show (l.length-(k+1):Nat)<l.length-k from (by omega)) (fun _ _ hG=>Yv [0,1,2] (bm 6 59) rfl rfl hG)
  refine sD [[],[0],[0,1],[0,1,2],[],[0,1,2,3,4],[0,1,2,3,4,5],[0,1,2,3,4,5,6],[],[8],[0,1,2,3,4,5,6,7,8,9],[0,1,2,3,4,5,6,7,8,9,10],[0,1,2,3,4,5,6,7,8,9,10,11],[0,1,2,3,4,5,6,7,8,9,10,11,12],[0,1,2,3,4,5,6,7,8,9,10,11,12,13],[0,1,2,3,4,5,6,7,8,9,10,11,12,13,14],[0,1,2,3,4,5,6,7,8,9,10,11],[0,1,2,3,4,5,6,7,8,9,10,11,12,13,14,15,16],[0,1,2,3,4,5,6,7,8,9,10,11,12,13,14,15,16,17],[0,1,2,3,4,5,6,7,8,9,10,11,12,13,14,15,16,17,18],[0,1,2,3,4,5,6,7,8,9,10,11],[0,1,2,3,4,5,6,7,8,9,10,11,20],[0,1,2,3,4,5,6,7,8,9,10,11,12,13,14,15,16,17,18,19,20,21],[0,1,2,3,4,5,6,7,8,9,10,11,12,13,14,15,16,17,18,19,20,21,22]] (hR 5 rfl rfl (Vh (k:=.i64) (l:=1) (sz:=(kE false).sz) (off:=0) (n:=l.length) (i:=((k:Nat):Int)) (m:=k) (o':=k*(kE false).sz+0) Tryz.underlying37 Vi rfl rfl (by omega) (by simp) (X3 rfl) trivial)::(hR 7 rfl rfl (F7 (l:=1) (off:=k*(kE false).sz+0) (i:=k) (j:=0) (T:=43) (sz:=(kE false).sz) (n:=l.length) (el:=W7 (kE false) l) (c:=.val (.int .i64 (l.getD k zE).X5)) wide_3 rfl (by omega) (by decide) rfl (X3 rfl) trivial)::(Xm (hN · true (dF hq2)) [12,13,14,15,16,17,18,19,20,21,22] (hP 23 (dF hq2)::[])))) ?_
  refine cF (b:=false) rfl (T.skip (nB (nT (xK [hR 1 rfl rfl (Yd (u1:=.int .i64 ((k:Nat):Int)) (u2:=.int .i64 1) (v:=.int .i64 ((k+1:Nat):Int)) (Wb pc) (X3 rfl) ⟨rfl,trivial⟩)] ?_))))
  refine nL (k+1) ⟨(show (k+1)≤l.length from (by omega)),(show ∀ j,j<(k+1)→¬l.getD j zE=e from (Ut hb (by rw [Jk];intro h1;exact absurd h1.1 ‹_›)))⟩ (show (l.length-(k+1):Nat)<l.length-k from (by omega)) (fun _ _ hG=>Yv [0,1,2] (bm 6 59) rfl rfl hG)
 refine cF (dF hq1) (T.exit (xT (xT (xH (nT (sR [] (T.ret ?_)))))))
 exact eRt 4 (.one (dB false)) [0,1] (cB (by exact dF (Xe7 (z:=zE) (k:=k) (by omega) hb))) (ix (ix trivial))
theorem F9:Elem Tryz.prog 37 43 2 32:=⟨Tryz.underlying37,_,_,Vi,rfl,rfl,rfl,rfl,by decide⟩
section
variable (f:Int) (u:Int) (l:List aE) (s:Int) (tb:Bool) (nb:Bool) (b:List UInt8)
abbrev Z16:HS:=.live (.box 135 [dB true,dI f,dI u,.own 1 (kE false).sz 0 l.length])
abbrev Z17:HObj:=Xf 43 (kE false) l
abbrev Z18:HS:=.live ((Z17 l))
abbrev Z19:AV:=vB (!(decide (Uk f u s)))
abbrev Z1a:AV:=vB (decide (((b.length:Nat):Int)>16777216))
abbrev Z1b:List AV:=[pv 0 0,vI s,slV tb nb kU8 b,aa,aa,aa,pv 2 0,vI 11,aa,aa,aa,aa,(Z19 f u s),aa,aa,aa,(Z1a b)]
abbrev Z1c:HS:=.live (.box 43 [dI 0,.d (.val (.slice none 0 0))])
abbrev Z1d:HS:=.live (.box 135 [dB true,dI f,dI u,.own 3 (kE false).sz 0 l.length])
abbrev Z1e:List HS:=[(Z1d f u l),.dead,Z1c,(Z18 l)]
abbrev Z1f:SV:=dU ([]:List UInt8)
abbrev Z1g:List SV:=[dI 0,Z1f]
abbrev Z1h:List AV:=[pv 0 0,vI s,slV tb nb kU8 b,aa,aa,aa,pv 2 0,vI 0,pv 5 0,aa,aa,aa,(Z19 f u s),aa,aa,aa,(Z1a b)]
abbrev Z1i:List SV:=[dI s,dU b]
abbrev Z1j:HS:=.live (.box 43 (Z1i s b))
abbrev Z1k:List AV:=[pv 0 0,vI s,slV tb nb kU8 b,aa,aa,aa,pv 2 0,vI 0,pv 5 0,aa,aa,aa,(Z19 f u s),aa,aa,aa,(Z1a b),aa,aa,aa,aa,aa,aa,aa,aa,aa,vB (!(decide ((aE.mk s b)∈l)))]
abbrev Z1l:List AV:=[pv 0 0,vI s,slV tb nb kU8 b,aa,aa,aa,pv 2 0,vI 30,aa,aa,aa,aa,(Z19 f u s)]
end
theorem Xga (f:Int) (u:Int) (l:List aE) (s:Int) (tb:Bool) (nb:Bool) (b:List UInt8) (hf:0≤f∧f≤2) (hu:0≤u∧u≤8) (hs:-9223372036854775808≤s∧s≤9223372036854775807) (hb:b.length≤140737488355328) (hl:l.length≤2147483648):Holds Tryz.prog 27 ⟨[pv 0 0,vI s,slV tb nb kU8 b],[.box 135 [dB true,dI f,dI u,.own 1 (kE false).sz 0 l.length],Xf 43 (kE false) l],.tup [.agg [dI (Hg f u s b).X5,dU (Hg f u s b).Xd],.one (dI (Ep f u s b))],[.live (.box 135 [dB true,dI f,dI u,.own 2 (kE false).sz 0 (Ht f u l s b).length]),.dead,.live (Xf 43 (kE false) (Ht f u l s b))]⟩:=by
 refine Holds.of Tryz.func27 rfl (N:=38) Tryz.ntmps27 rfl fun w0 B0 S0 U0=>?_
 show T _ (Y2 38 2 w0 S0 U0 B0) ⟨[pv 0 0,vI s,slV tb nb kU8 b],[(Z16 f u l),(Z18 l)]⟩ _ _
 refine sR [] (T.seq (sR [hR 2 rfl rfl (rCa (X6n f u l s ‹_› ‹_› ‹_›) Tryz.func69 [0,1] [(.tmp 9,pv 0 0),(.tmp 10,vI s)] 2 2)] ?_))
 by_cases hq1:Uk f u s
 rotate_left
 ·refine cT (cn (dF hq1)) (sR [] (T.ret (rT ?_)))
  refine eN ⟨(Z1l f u s tb nb b),[(Z16 f u l),(Z18 l),Z1c]⟩ ?_
  refine X7 (s':=⟨(Z1l f u s tb nb b),(Z1e f u l)⟩) (fun _ _ hG=>Gs.move (s:=⟨(Z1l f u s tb nb b),[(Z16 f u l),(Z18 l),Z1c]⟩) 1 3 (o:=(Z17 l)) rfl rfl rfl ⟨.inl rfl,p3o⟩ ⟨(.inr pZ14),⟨(.inl ⟨rfl,rfl⟩),⟨(.inr p1e),⟨(.inr (.inl ⟨rfl,rfl⟩)),trivial⟩⟩⟩⟩ hG) ?_
  refine eN ⟨(Z1l f u s tb nb b),(Z1e f u l)⟩ ?_
  refine X7 (s':=⟨(Z1l f u s tb nb b),[(Z1d f u l),.dead,.live (.box 43 Z1g),(Z18 l)]⟩) (fun _ _ hG=>Yt (s:=⟨(Z1l f u s tb nb b),(Z1e f u l)⟩) ⟨.inl rfl,p3o⟩ (kk2 ⟨p3n,⟨.inl rfl,trivial⟩⟩) hG) ?_
  exact eX [.c 6 2 43 0 43 [dI 0,Z1f] (.agg Z1g),.t 7 (.one (dI 30))] ⟨⟨rfl,rfl,by kernel_rfl,by kernel_rfl,.inl ⟨2,F5,rfl,Nat.le_of_ble_eq_true rfl⟩⟩,⟨⟨rfl,by kernel_rfl⟩,trivial⟩⟩ [0,1,3] (by have e1:((Hg f u s b).X5:Int)=0:=pz;have e2:((Hg f u s b).Xd:List UInt8)=([]:List UInt8):=pz;have e3:((Ep f u s b):Int)=30:=pz;have hE:=congr pZ15 e3;exact hE) ⟨⟨rfl,p2z⟩,⟨⟨rfl,p1z⟩,trivial⟩⟩
 refine cF (cn (dT hq1)) (T.skip (nT (T.seq (sR [] ?_))))
 by_cases hq2:((b.length:Nat):Int)>16777216
 ·refine cT (dT hq2) (sR [] (T.ret (rT ?_)))
  refine eN ⟨(Z1b f u s tb nb b),[(Z16 f u l),(Z18 l),Z1c]⟩ ?_
  refine X7 (s':=⟨(Z1b f u s tb nb b),(Z1e f u l)⟩) (fun _ _ hG=>Gs.move (s:=⟨(Z1b f u s tb nb b),[(Z16 f u l),(Z18 l),Z1c]⟩) 1 3 (o:=(Z17 l)) rfl rfl rfl ⟨.inl rfl,(X3o trivial)⟩ ⟨(.inr pZ14),⟨(.inl ⟨rfl,rfl⟩),⟨(.inr p1e),⟨(.inr (.inl ⟨rfl,rfl⟩)),trivial⟩⟩⟩⟩ hG) ?_
  refine eN ⟨(Z1b f u s tb nb b),(Z1e f u l)⟩ ?_
  refine X7 (s':=⟨(Z1b f u s tb nb b),[(Z1d f u l),.dead,.live (.box 43 Z1g),(Z18 l)]⟩) (fun _ _ hG=>Yt (s:=⟨(Z1b f u s tb nb b),(Z1e f u l)⟩) ⟨.inl rfl,(X3o trivial)⟩ (kk2 ⟨p3n,⟨.inl rfl,trivial⟩⟩) hG) ?_
  exact eX [.c 6 2 43 0 43 [dI 0,Z1f] (.agg Z1g),.t 7 (.one (dI 11))] ⟨⟨rfl,rfl,by kernel_rfl,by kernel_rfl,.inl ⟨2,F5,rfl,Nat.le_of_ble_eq_true rfl⟩⟩,⟨⟨rfl,by kernel_rfl⟩,trivial⟩⟩ [0,1,3] (by have e1:((Hg f u s b).X5:Int)=0:=pz;have e2:((Hg f u s b).Xd:List UInt8)=([]:List UInt8):=pz;have e3:((Ep f u s b):Int)=11:=pz;have hE:=congr pZ15 e3;exact hE) ⟨⟨rfl,p2z⟩,⟨⟨rfl,p1z⟩,trivial⟩⟩
 refine cF (dF hq2) (T.skip (nT ?_))
 refine sR [hR 1 rfl rfl (Yc 3 5 kU8 Vu ([]:List UInt8) [] (cs:=[]) Tryz.underlying25 Ji rfl Im rfl rfl rfl pd W5 pZ8 (V4 pZ8) (X3 rfl) trivial),hR 3 rfl rfl (W2 3 4 5 1 kU8 Vu ([]:List UInt8) b b ([]:List UInt8).length (sy:=(.d (dsl tb nb kU8 b))) (rhs:=[]) Jb (by omega) (Jf tb nb kU8 b) (by simp) (by (simp [maxLen,-List.getD_eq_getElem?_getD]<;>omega)) (by (simp [maxLen,-List.getD_eq_getElem?_getD]<;>omega)) (X3 rfl) trivial)] ?_
 refine T.seq ?_
 refine tN ⟨(Z1h f u s tb nb b),[(Z16 f u l),(Z18 l),Z1c,.dead,.live (Xf 5 kU8 b),.live (.box 43 [dI s,.own 4 kU8.sz 0 b.length])]⟩ ?_
 refine Wx (s':=⟨(Z1h f u s tb nb b),[(Z16 f u l),(Z18 l),Z1c,.dead,.dead,(Z1j s b)]⟩) (fun _ _ hG=>Gs.freeze (s:=⟨(Z1h f u s tb nb b),[(Z16 f u l),(Z18 l),Z1c,.dead,.live (Xf 5 kU8 b),.live (.box 43 [dI s,.own 4 kU8.sz 0 b.length])]⟩) 4 (el:=W7 kU8 b) (sz:=kU8.sz) (n:=b.length) rfl ⟨.inl rfl,(X3o trivial)⟩ ⟨pZ9,⟨pZ9,⟨pZ9,⟨pZ9,⟨(.inl ⟨rfl,rfl⟩),⟨p2t,trivial⟩⟩⟩⟩⟩⟩ hG) (sR [hR 2 rfl rfl (rCa (Xay f u l false (aE.mk s b) (by omega)) Tryz.func70 [0,1] [(.tmp 23,pv 0 0),(.tmp 24,.tv (.agg (Z1i s b)))] 2 2)] ?_)
 by_cases hq3:(aE.mk s b)∈l
 ·refine cF (cn (dT hq3)) (T.skip (nT (sR [] (T.ret ?_))))
  refine eN ⟨(Z1k f u l s tb nb b),[(Z16 f u l),(Z18 l),(Z1j s b),.dead,.dead,(Z1j s b)]⟩ ?_
  refine X7 (s':=⟨(Z1k f u l s tb nb b),[.live (.box 135 [dB true,dI f,dI u,.own 6 (kE false).sz 0 l.length]),.dead,(Z1j s b),.dead,.dead,(Z1j s b),(Z18 l)]⟩) (fun _ _ hG=>Gs.move (s:=⟨(Z1k f u l s tb nb b),[(Z16 f u l),(Z18 l),(Z1j s b),.dead,.dead,(Z1j s b)]⟩) 1 6 (o:=(Z17 l)) rfl rfl rfl ⟨.inl rfl,(kk2 p2y)⟩ ⟨(.inr pZ14),⟨(.inl ⟨rfl,rfl⟩),⟨(.inr p1e),⟨(.inr p1e),⟨(.inr p1e),⟨(.inr p1e),⟨(.inr (.inl ⟨rfl,rfl⟩)),trivial⟩⟩⟩⟩⟩⟩⟩ hG) ?_
  exact eX [.c 6 2 43 0 43 [dI s,dU b] (.agg (Z1i s b)),.t 7 (.one (dI 0))] ⟨⟨rfl,rfl,by kernel_rfl,by kernel_rfl,.inl ⟨2,F5,rfl,Nat.le_of_ble_eq_true rfl⟩⟩,⟨⟨rfl,by kernel_rfl⟩,trivial⟩⟩ [0,1,6] p33 ⟨⟨rfl,(by have e1:(l.length:Nat)=(Ht f u l s b).length:=pz;have hE:=congrArg (fun (q1:Nat)=>(.live (.box 135 [dB true,dI f,dI u,.own 6 (kE false).sz 0 q1]):HS)) e1;exact Eq.trans pZ8 hE)⟩,⟨⟨rfl,p1z⟩,trivial⟩⟩
 refine cT (cn (dF hq3)) ?_
 refine xD [[],[],[1],[1,2],[1,2,3],[],[5],[1,2,3,4,5,6],[0,1,2,3,4,5,6,7],[0,1,2,3,4,5,6,7,8],[0,1,2,3,4,5,6,7,8,9]] [hR 6 rfl rfl (Yc 6 43 (kE false) (W4 false) [(aE.mk s b)] [⟨0,.tmp 32,.agg (Z1i s b),0⟩] (cs:=[dI s,dU b]) Tryz.underlying37 Vi rfl F4 rfl rfl rfl pd (Yr rfl rfl pd W5) pZ8 (V4 pZ8) (X3 rfl) trivial),hR 7 rfl rfl (W2 1 7 43 32 (kE false) (W4 false) l [(aE.mk s b)] (l++[(aE.mk s b)]) l.length (sy:=(.own 6 (kE false).sz 0 [(aE.mk s b)].length)) (rhs:=[(6,.live (Xf 43 (kE false) [(aE.mk s b)]))]) F9 (by omega) (Wv 6 43 (kE false) [(aE.mk s b)]) Jy (by (simp [maxLen,-List.getD_eq_getElem?_getD]<;>omega)) (by (simp [maxLen,-List.getD_eq_getElem?_getD]<;>omega)) (X3 rfl) trivial)] pZ8 pZ8 pZ8 pZ8 pZ8 pZ8 ?_
 refine nT (sR [] (T.ret ?_))
 exact eX [.c 6 2 43 0 43 [dI s,dU b] (.agg (Z1i s b)),.t 7 (.one (dI 0))] ⟨⟨rfl,rfl,by kernel_rfl,by kernel_rfl,.inl ⟨2,F5,rfl,Nat.le_of_ble_eq_true rfl⟩⟩,⟨⟨rfl,by kernel_rfl⟩,trivial⟩⟩ [0,1,7] p33 ⟨⟨rfl,(by have e1:((l++[(aE.mk s b)]).length:Nat)=(Ht f u l s b).length:=pz;have hE:=congrArg (fun (q1:Nat)=>(.live (.box 135 [dB true,dI f,dI u,.own 7 (kE false).sz 0 q1]):HS)) e1;exact Eq.trans pZ8 hE)⟩,⟨⟨rfl,(by have e1:(l++[(aE.mk s b)]:List aE)=(Ht f u l s b):=pz;have hE:=congrArg (fun (q1:List aE)=>(.live (Xf 43 (kE false) q1):HS)) e1;exact Eq.trans pZ8 hE)⟩,trivial⟩⟩
theorem Xds (f:Int) (u:Int) (l:List aE) (te:Bool) (e:aE) (hf:0≤f∧f≤2) (hu:0≤u∧u≤8) (hs:-9223372036854775808≤e.X5∧e.X5≤9223372036854775807) (hl:l.length≤9223372036854775806):Holds Tryz.prog 171 ⟨[pv 0 0,.tv (.agg [dI e.X5,.d (dsl te false kU8 e.Xd)])],[.box 135 [dB true,dI f,dI u,.own 1 (kE false).sz 0 l.length],Xf 43 (kE false) l],vI (Xw f u l e),[.live (.box 135 [dB true,dI f,dI u,.own 1 (kE false).sz 0 l.length]),.live (Xf 43 (kE false) l)]⟩:=by
 refine Holds.of Tryz.func171 rfl (N:=14) Tryz.ntmps171 rfl fun w0 B0 S0 U0=>?_
 show T _ (Y2 14 2 w0 S0 U0 B0) ⟨[pv 0 0,.tv (.agg [dI e.X5,.d (dsl te false kU8 e.Xd)])],[.live (.box 135 [dB true,dI f,dI u,.own 1 (kE false).sz 0 l.length]),.live (Xf 43 (kE false) l)]⟩ _ _
 refine sR [] (T.seq (sR [hR 3 rfl rfl (rCa (X6n f u l e.X5 ‹_› ‹_› ‹_›) Tryz.func69 [0,1] [(.tmp 5,pv 0 0),(.tmp 7,vI e.X5)] 2 2)] ?_))
 by_cases hq1:Uk f u e.X5
 ·refine cF (cn (dT hq1)) (T.skip (nT (T.seq (sR [hR 2 rfl rfl (rCa (Xay f u l te e ‹_›) Tryz.func70 [0,1] [(.tmp 10,pv 0 0),(.tmp 11,.tv (.agg [dI e.X5,.d (dsl te false kU8 e.Xd)]))] 2 2)] ?_))))
  by_cases hq2:e∈l
  ·refine cF (cn (dT hq2)) (T.skip (nT (sR [] (T.ret ?_))))
   exact eRt 4 (.one (dI 0)) [0,1] (by have e1:((Xw f u l e):Int)=0:=(by (simp [Xw, *];done));have hE:=cI e1;exact hE) (ix (ix trivial))
  refine cT (cn (dF hq2)) (sR [] (T.ret (rT ?_)))
  exact eRt 4 (.one (dI 31)) [0,1] (by have e1:((Xw f u l e):Int)=31:=(by (simp [Xw, *];done));have hE:=cI e1;exact hE) (ix (ix trivial))
 refine cT (cn (dF hq1)) (sR [] (T.ret (rT ?_)))
 exact eRt 4 (.one (dI 30)) [0,1] (by have e1:((Xw f u l e):Int)=30:=(by (simp [Xw, *];done));have hE:=cI e1;exact hE) (ix (ix trivial))
theorem clip_u8 (tb:Bool) (nb:Bool) (b:List UInt8):Holds Tryz.prog 184 ⟨[slV tb nb kU8 b],[],clV tb nb kU8 b,[]⟩:=by
 refine Holds.of Tryz.func184 rfl (N:=9) Tryz.ntmps184 rfl fun w0 B0 S0 U0=>?_
 show T _ (Y2 9 0 w0 S0 U0 B0) ⟨[slV tb nb kU8 b],[]⟩ _ _
 refine sR [] (sR [hR 5 rfl rfl (q_clip tb nb kU8 b (p:=((b.length:Nat):Int)) (q:=((b.length:Nat):Int)) Tryz.underlying25 Ji rfl (by omega) (by omega) (X3 rfl) trivial)] (T.ret ?_))
 exact eRt 2 (.one (.cl tb nb kU8.sz b.length (W7 kU8 b))) [] rfl trivial
abbrev Z1m (n:Nat):AV:=dv (.int .u64 ((n:Nat):Int))
abbrev Z1n (m:Nat):AV:=vI ((m:Nat):Int)
abbrev Z1o (j:Nat):AV:=vI ((j-1:Nat):Int)
theorem X7t (tb:Bool) (nb:Bool) (b:List UInt8) (n:Nat) (m:Nat) (hb:b.length≤140737488355000) (hn:n<18446744073709551616) (hm:m≤7):Holds Tryz.prog 167 ⟨[slV tb nb kU8 b,dv (.int .u64 ((n:Nat):Int)),vI ((m+1:Nat):Int)],[],Y8 0 kU8 0 (b++(Wi n (m+1))).length,[.live (Xf 5 kU8 (b++(Wi n (m+1))))]⟩:=by
 refine Holds.of Tryz.func167 rfl (N:=22) Tryz.ntmps167 rfl fun w0 B0 S0 U0=>?_
 show T _ (Y2 22 0 w0 S0 U0 B0) ⟨[slV tb nb kU8 b,(Z1m n),vI ((m+1:Nat):Int)],[]⟩ _ _
 refine sR [] (sR [hR 1 rfl rfl (rCa (clip_u8 tb nb b ) Tryz.func184 [] [(.tmp 7,slV tb nb kU8 b)] 0 0)] (T.seq (T.block ?_)))
 refine Xo6 ?_
 refine Xj1 (T.seq (sR [] ?_))
 by_cases hq1:((m+1:Nat):Int)>0
 rotate_left
 ·exact absurd (by omega) hq1
 refine cT (dT hq1) (T.skip (nT (T.block (sR [hR 1 rfl rfl (Yd (u1:=.int .i64 ((m+1:Nat):Int)) (u2:=.int .i64 1) (v:=.int .i64 ((m:Nat):Int)) (Ug pc) (X3 rfl) ⟨rfl,trivial⟩)] ?_))))
 refine xR [hR 3 rfl rfl (Yd (u1:=.int .i64 8) (u2:=.int .i64 ((m:Nat):Int)) (v:=.int .i64 ((8*m:Nat):Int)) (X9s pc) (X3 rfl) ⟨rfl,trivial⟩),hR 4 rfl rfl (Yd (u1:=.int .u64 ((n:Nat):Int)) (u2:=.int .i64 ((8*m:Nat):Int)) (v:=.int .u64 ((n / 2 ^ (8*m):Nat):Int)) (En (n:=8*m) rfl pw) (X3 rfl) trivial),hR 5 rfl rfl (Vb (u:=.int .u64 ((n / 2 ^ (8*m):Nat):Int)) (v:=.int .u8 (((UInt8.ofNat (n / 2 ^ (8*m))).toNat:Nat):Int)) (Hm Tryz.underlying179 Tryz.underlying5) (X3 rfl) trivial),hR 6 rfl rfl (Yc 0 5 kU8 Vu [(UInt8.ofNat (n / 2 ^ (8*m)))] [⟨0,.tmp 18,.one (.d (.val (.int .u8 (((UInt8.ofNat (n / 2 ^ (8*m))).toNat:Nat):Int)))),0⟩] (cs:=[.d (.val (.int .u8 (((UInt8.ofNat (n / 2 ^ (8*m))).toNat:Nat):Int)))]) Tryz.underlying25 Ji rfl Im rfl rfl rfl pd (Yr rfl rfl pd W5) pZ8 (V4 pZ8) (X3 rfl) trivial),hR 7 rfl rfl (Xju 1 5 1 tb nb kU8 Vu b [(UInt8.ofNat (n / 2 ^ (8*m)))] (b++[(UInt8.ofNat (n / 2 ^ (8*m)))]) (sy:=(.own 0 kU8.sz 0 [(UInt8.ofNat (n / 2 ^ (8*m)))].length)) (rhs:=[(0,.live (Xf 5 kU8 [(UInt8.ofNat (n / 2 ^ (8*m)))]))]) Jb (by (simp [maxLen,-List.getD_eq_getElem?_getD]<;>omega)) (Wv 0 5 kU8 [(UInt8.ofNat (n / 2 ^ (8*m)))]) rfl (by (simp [maxLen,-List.getD_eq_getElem?_getD]<;>omega)) (by (simp [maxLen,-List.getD_eq_getElem?_getD]<;>omega)) (X3 rfl) trivial)] pZ8 pZ8 ?_
 refine nB ?_
 refine nP ?_
 refine TL.loop (ι:=Nat×(List UInt8)) (fun (x_:Nat×(List UInt8))=>⟨[Y8 0 kU8 0 x_.2.length,(Z1m n),vI ((x_.1:Nat):Int)],[.live (Xf 5 kU8 x_.2)]⟩) (fun (x_:Nat×(List UInt8))=>(x_.1≤m)∧(x_.2++Wi n x_.1=b++Wi n (m+1))) (fun (x_:Nat×(List UInt8))=>x_.1) (m,b++[UInt8.ofNat (n / 2 ^ (8*m))]) ⟨(Nat.le_refl _),(by rw [List.append_assoc];rfl)⟩ (fun _ _ hG=>Wf [1] [true,true,true] (t1:=[Y8 1 kU8 0 (b++[UInt8.ofNat (n / 2 ^ (8*m))]).length,(Z1m n),(Z1n m)]) (t2:=[Y8 1 kU8 0 (b++[(UInt8.ofNat (n / 2 ^ (8*m)))]).length,(Z1m n),(Z1n m)]) (h1:=[.live (Xf 5 kU8 (b++[UInt8.ofNat (n / 2 ^ (8*m))]))]) (h2:=[.live (Xf 5 kU8 (b++[(UInt8.ofNat (n / 2 ^ (8*m)))]))]) (congrArg (fun (q1:Nat)=>([Y8 1 kU8 0 q1,(Z1m n),(Z1n m)]:List AV)) (by rfl)) pZ20 hG) ?_
 rintro ⟨j,acc⟩ ⟨hj,he⟩
 show T _ _ ⟨[Y8 0 kU8 0 acc.length,(Z1m n),vI ((j:Nat):Int)],[.live (Xf 5 kU8 acc)]⟩ _ _
 replace hj:j≤m:=hj
 replace he:acc++Wi n j=b++Wi n (m+1):=he
 have hacc:=X7z he
 refine T.seq (sR [] ?_)
 by_cases hq2:((j:Nat):Int)>0
 ·refine cT (dT hq2) (T.skip (nT (T.block (sR [hR 1 rfl rfl (Yd (u1:=.int .i64 ((j:Nat):Int)) (u2:=.int .i64 1) (v:=.int .i64 ((j-1:Nat):Int)) (Ug pc) (X3 rfl) ⟨rfl,trivial⟩)] ?_))))
  refine xR [hR 3 rfl rfl (Yd (u1:=.int .i64 8) (u2:=.int .i64 ((j-1:Nat):Int)) (v:=.int .i64 ((8*(j-1):Nat):Int)) (X9s pc) (X3 rfl) ⟨rfl,trivial⟩),hR 4 rfl rfl (Yd (u1:=.int .u64 ((n:Nat):Int)) (u2:=.int .i64 ((8*(j-1):Nat):Int)) (v:=.int .u64 ((n / 2 ^ (8*(j-1)):Nat):Int)) (En (n:=8*(j-1)) rfl pw) (X3 rfl) trivial),hR 5 rfl rfl (Vb (u:=.int .u64 ((n / 2 ^ (8*(j-1)):Nat):Int)) (v:=.int .u8 (((UInt8.ofNat (n / 2 ^ (8*(j-1)))).toNat:Nat):Int)) (Hm Tryz.underlying179 Tryz.underlying5) (X3 rfl) trivial),hR 6 rfl rfl (Yc 1 5 kU8 Vu [(UInt8.ofNat (n / 2 ^ (8*(j-1))))] [⟨0,.tmp 18,.one (.d (.val (.int .u8 (((UInt8.ofNat (n / 2 ^ (8*(j-1)))).toNat:Nat):Int)))),0⟩] (cs:=[.d (.val (.int .u8 (((UInt8.ofNat (n / 2 ^ (8*(j-1)))).toNat:Nat):Int)))]) Tryz.underlying25 Ji rfl Im rfl rfl rfl pd (Yr rfl rfl pd W5) pZ8 (V4 pZ8) (X3 rfl) trivial),hR 7 rfl rfl (W2 0 2 5 1 kU8 Vu acc [(UInt8.ofNat (n / 2 ^ (8*(j-1))))] (acc++[(UInt8.ofNat (n / 2 ^ (8*(j-1))))]) acc.length (sy:=(.own 1 kU8.sz 0 [(UInt8.ofNat (n / 2 ^ (8*(j-1))))].length)) (rhs:=[(1,.live (Xf 5 kU8 [(UInt8.ofNat (n / 2 ^ (8*(j-1))))]))]) Jb (by omega) (Wv 1 5 kU8 [(UInt8.ofNat (n / 2 ^ (8*(j-1))))]) Jy (by (simp [maxLen,-List.getD_eq_getElem?_getD]<;>omega)) (by (simp [maxLen,-List.getD_eq_getElem?_getD]<;>omega)) (X3 rfl) trivial)] pZ8 pZ8 ?_
  refine nB ?_
  refine nL (j-1,acc++[UInt8.ofNat (n / 2 ^ (8*(j-1)))]) ⟨(show (j-1)≤m from (by omega)),(show (acc++[UInt8.ofNat (n / 2 ^ (8*(j-1)))])++Wi n (j-1)=b++Wi n (m+1) from (X7y he (by omega)))⟩ (show ((j-1):Nat)<j from (by omega)) (fun _ _ hG=>Wf [2] [true,true,true] (t1:=[Y8 2 kU8 0 (acc++[UInt8.ofNat (n / 2 ^ (8*(j-1)))]).length,(Z1m n),(Z1o j)]) (t2:=[Y8 2 kU8 0 (acc++[(UInt8.ofNat (n / 2 ^ (8*(j-1))))]).length,(Z1m n),(Z1o j)]) (h1:=[.live (Xf 5 kU8 (acc++[UInt8.ofNat (n / 2 ^ (8*(j-1)))]))]) (h2:=[.live (Xf 5 kU8 (acc++[(UInt8.ofNat (n / 2 ^ (8*(j-1))))]))]) (congrArg (fun (q1:Nat)=>([Y8 2 kU8 0 q1,(Z1m n),(Z1o j)]:List AV)) (by rfl)) pZ20 hG)
 refine cF (dF hq2) (T.exit (xT (xT (xH (nT (sR [] (T.ret ?_)))))))
 exact eRt 6 (.one (.own 0 kU8.sz 0 acc.length)) [0] (by have e1:((b++(Wi n (m+1))).length:Nat)=acc.length:=p4m;have hE:=congrArg (fun (q1:Nat)=>(Y8 0 kU8 0 q1:AV)) e1;exact hE) ⟨⟨rfl,(by have e1:(acc:List UInt8)=b++(Wi n (m+1)):=p4m;have hE:=congrArg (fun (q1:List UInt8)=>(.live (Xf 5 kU8 q1):HS)) e1;exact Eq.trans pZ8 hE)⟩,trivial⟩
theorem X66 (tb:Bool) (nb:Bool) (b:List UInt8) (n:Int) (hb:b.length≤140737488355000):Holds Tryz.prog 168 ⟨[slV tb nb kU8 b,vI n],[],Y8 0 kU8 0 (b++Yy n).length,[.live (Xf 5 kU8 (b++Yy n))]⟩:=by
 refine Holds.of Tryz.func168 rfl (N:=9) Tryz.ntmps168 rfl fun w0 B0 S0 U0=>?_
 show T _ (Y2 9 0 w0 S0 U0 B0) ⟨[slV tb nb kU8 b,vI n],[]⟩ _ _
 have hn:=Xfu n
 refine sR [] (sR [hR 2 rfl rfl (Vb (u:=.int .i64 n) (v:=.int .u64 ((u64 n:Nat):Int)) (c_u64 Tryz.underlying2 Tryz.underlying179) (X3 rfl) trivial),hR 3 rfl rfl (rCa (X7t tb nb b (u64 n) 7 ‹_› ‹_› (by omega)) Tryz.func167 [0] [(.tmp 5,slV tb nb kU8 b),(.tmp 7,dv (.int .u64 ((u64 n:Nat):Int))),(.const (.int .i64 8),vI 8)] 0 1)] (T.ret ?_))
 exact eRt 4 (.one (.own 0 kU8.sz 0 (b++(Wi (u64 n) 8)).length)) [0] p2i ⟨⟨rfl,p3b⟩,trivial⟩
theorem X2x (tb:Bool) (nb:Bool) (b:List UInt8) (n:Int) (hb:b.length≤140737488355000):Holds Tryz.prog 131 ⟨[slV tb nb kU8 b,vI n],[],Y8 0 kU8 0 (b++Ve n).length,[.live (Xf 5 kU8 (b++Ve n))]⟩:=by
 refine Holds.of Tryz.func131 rfl (N:=11) Tryz.ntmps131 rfl fun w0 B0 S0 U0=>?_
 show T _ (Y2 11 0 w0 S0 U0 B0) ⟨[slV tb nb kU8 b,vI n],[]⟩ _ _
 have hn:=Xco n
 refine sR [] (sR [hR 2 rfl rfl (X1m (k:=.i64) (a:=n) (b:=0) (X3 rfl) ⟨rfl,trivial⟩),hR 3 rfl rfl (X8w (k:=.i64) (a:=max n 0) (b:=4294967295) (X3 rfl) ⟨rfl,trivial⟩),hR 4 rfl rfl (Vb (u:=.int .i64 (min (max n 0) 4294967295)) (v:=.int .u64 ((X0p n:Nat):Int)) (H3 Tryz.underlying3 Tryz.underlying179 (by rw [IntKind.wrap_u64];unfold X0p;omega)) (X3 rfl) trivial),hR 5 rfl rfl (rCa (X7t tb nb b (X0p n) 3 ‹_› (by omega) (by omega)) Tryz.func167 [0] [(.tmp 5,slV tb nb kU8 b),(.tmp 9,dv (.int .u64 ((X0p n:Nat):Int))),(.const (.int .i64 4),vI 4)] 0 1)] (T.ret ?_))
 exact eRt 4 (.one (.own 0 kU8.sz 0 (b++(Wi (X0p n) 4)).length)) [0] p2i ⟨⟨rfl,p38⟩,trivial⟩
theorem X2y (tb:Bool) (nb:Bool) (b:List UInt8) (tx:Bool) (nx:Bool) (x:List UInt8) (hb:b.length+x.length≤140737488355000):Holds Tryz.prog 132 ⟨[slV tb nb kU8 b,slV tx nx kU8 x],[],Y8 0 kU8 0 (b++Yx x).length,[.live (Xf 5 kU8 (b++Yx x))]⟩:=by
 refine Holds.of Tryz.func132 rfl (N:=11) Tryz.ntmps132 rfl fun w0 B0 S0 U0=>?_
 show T _ (Y2 11 0 w0 S0 U0 B0) ⟨[slV tb nb kU8 b,slV tx nx kU8 x],[]⟩ _ _
 have hcl:=Jc ((x.length:Nat):Int)
 refine sR [] ?_
 refine sR [hR 3 rfl rfl (rCa (X2x tb nb b ((x.length:Nat):Int) (by omega)) Tryz.func131 [0] [(.tmp 5,slV tb nb kU8 b),(.tmp 7,vI ((x.length:Nat):Int))] 0 1),hR 5 rfl rfl (W2 0 1 5 1 kU8 Vu (b++Ve ((x.length:Nat):Int)) x (b++Ve ((x.length:Nat):Int)++x) (b++Ve ((x.length:Nat):Int)).length (sy:=(.d (dsl tx nx kU8 x))) (rhs:=[]) Jb (by omega) (Jf tx nx kU8 x) Jy (by (simp [maxLen,-List.getD_eq_getElem?_getD]<;>omega)) (by (simp [maxLen,-List.getD_eq_getElem?_getD]<;>omega)) (X3 rfl) trivial)] ?_
 refine T.ret ?_
 exact eRt 4 (.one (.own 1 kU8.sz 0 (b++Ve ((x.length:Nat):Int)++x).length)) [1] p2n ⟨⟨rfl,p2j⟩,trivial⟩
abbrev Z1p (n:Nat):AV:=dv (.int .u64 ((n:Nat):Int))
abbrev Z1q (m:Nat):AV:=vI ((m:Nat):Int)
abbrev Z1r (n:Nat) (j:Nat):SV:=.d (.val (.int .u8 (((UInt8.ofNat (n / 2 ^ (8*(((j:Nat):Int)-1)).toNat)).toNat:Nat):Int)))
theorem X8p (tb:Bool) (nb:Bool) (b:List UInt8) (n:Nat) (m:Nat) (hb:b.length≤140737488355000) (hn:n<18446744073709551616) (hm:m≤8):Holds Tryz.prog 122 ⟨[slV tb nb kU8 b,dv (.int .u64 ((n:Nat):Int)),vI ((m:Nat):Int)],[],Y8 0 kU8 0 (b++(Wi n m)).length,[.live (Xf 5 kU8 (b++(Wi n m)))]⟩:=by
 refine Holds.of Tryz.func122 rfl (N:=27) Tryz.ntmps122 rfl fun w0 B0 S0 U0=>?_
 show T _ (Y2 27 0 w0 S0 U0 B0) ⟨[slV tb nb kU8 b,(Z1p n),(Z1q m)],[]⟩ _ _
 refine sR [] ?_
 refine sR [hR 0 rfl rfl (Yc 0 5 kU8 Vu ([]:List UInt8) [] (cs:=[]) Tryz.underlying25 Ji rfl Im rfl rfl rfl pd W5 pZ8 (V4 pZ8) (X3 rfl) trivial),hR 2 rfl rfl (W2 0 1 5 1 kU8 Vu ([]:List UInt8) b b ([]:List UInt8).length (sy:=(.d (dsl tb nb kU8 b))) (rhs:=[]) Jb (by omega) (Jf tb nb kU8 b) (by simp) (by (simp [maxLen,-List.getD_eq_getElem?_getD]<;>omega)) (by (simp [maxLen,-List.getD_eq_getElem?_getD]<;>omega)) (X3 rfl) trivial)] ?_
 refine T.seq (sR [hR 1 rfl rfl (Yd (u1:=.int .i64 ((m:Nat):Int)) (u2:=.int .i64 1) (v:=.int .i64 (((m:Nat):Int)-1)) (Ug pc) (X3 rfl) ⟨rfl,trivial⟩)] (T.block ?_))
 refine T.loop (ι:=Nat×(List UInt8)) (fun (x_:Nat×(List UInt8))=>⟨[slV tb nb kU8 b,(Z1p n),(Z1q m),aa,aa,aa,dv (.slice none 0 0),Y8 1 kU8 0 x_.2.length,vI (((x_.1:Nat):Int)-1)],[.dead,.live (Xf 5 kU8 x_.2)]⟩) (fun (x_:Nat×(List UInt8))=>(x_.1≤m)∧(x_.2++Wi n x_.1=b++Wi n m)) (fun (x_:Nat×(List UInt8))=>x_.1) (m,b) ⟨(Nat.le_refl _),rfl⟩ (fun _ _ hG=>Wf [3,1] (bm 9 455) (t1:=[slV tb nb kU8 b,(Z1p n),(Z1q m),aa,aa,aa,dv (.slice none 0 0),Y8 1 kU8 0 b.length,vI (((m:Nat):Int)-1)]) (h1:=[.dead,.live (Xf 5 kU8 b)]) rfl rfl hG) ?_
 rintro ⟨j,acc⟩ ⟨hj,he⟩
 show T _ _ ⟨[slV tb nb kU8 b,(Z1p n),(Z1q m),aa,aa,aa,dv (.slice none 0 0),Y8 1 kU8 0 acc.length,vI (((j:Nat):Int)-1)],[.dead,.live (Xf 5 kU8 acc)]⟩ _ _
 replace hj:j≤m:=hj
 replace he:acc++Wi n j=b++Wi n m:=he
 have hacc:=X7z he
 refine T.seq (sR [] ?_)
 by_cases hq1:(((j:Nat):Int)-1)≥0
 ·refine cT (dT hq1) (T.skip (nT (T.seq (T.block ?_))))
  refine xR [hR 3 rfl rfl (Yd (u1:=.int .i64 8) (u2:=.int .i64 (((j:Nat):Int)-1)) (v:=.int .i64 (8*(((j:Nat):Int)-1))) (X9s pc) (X3 rfl) ⟨rfl,trivial⟩),hR 4 rfl rfl (Yd (u1:=.int .u64 ((n:Nat):Int)) (u2:=.int .i64 (8*(((j:Nat):Int)-1))) (v:=.int .u64 ((n / 2 ^ (8*(((j:Nat):Int)-1)).toNat:Nat):Int)) (En (n:=(8*(((j:Nat):Int)-1)).toNat) (by omega) pw) (X3 rfl) trivial),hR 5 rfl rfl (Vb (u:=.int .u64 ((n / 2 ^ (8*(((j:Nat):Int)-1)).toNat:Nat):Int)) (v:=.int .u8 (((UInt8.ofNat (n / 2 ^ (8*(((j:Nat):Int)-1)).toNat)).toNat:Nat):Int)) (Hm Tryz.underlying179 Tryz.underlying5) (X3 rfl) trivial),hR 6 rfl rfl (Yc 2 5 kU8 Vu [(UInt8.ofNat (n / 2 ^ (8*(((j:Nat):Int)-1)).toNat))] [⟨0,.tmp 23,.one ((Z1r n j)),0⟩] (cs:=[(Z1r n j)]) Tryz.underlying25 Ji rfl Im rfl rfl rfl pd (Yr rfl rfl pd W5) pZ8 (V4 pZ8) (X3 rfl) trivial),hR 7 rfl rfl (W2 1 3 5 1 kU8 Vu acc [(UInt8.ofNat (n / 2 ^ (8*(((j:Nat):Int)-1)).toNat))] (acc++[(UInt8.ofNat (n / 2 ^ (8*(((j:Nat):Int)-1)).toNat))]) acc.length (sy:=(.own 2 kU8.sz 0 [(UInt8.ofNat (n / 2 ^ (8*(((j:Nat):Int)-1)).toNat))].length)) (rhs:=[(2,.live (Xf 5 kU8 [(UInt8.ofNat (n / 2 ^ (8*(((j:Nat):Int)-1)).toNat))]))]) Jb (by omega) (Wv 2 5 kU8 [(UInt8.ofNat (n / 2 ^ (8*(((j:Nat):Int)-1)).toNat))]) Jy (by (simp [maxLen,-List.getD_eq_getElem?_getD]<;>omega)) (by (simp [maxLen,-List.getD_eq_getElem?_getD]<;>omega)) (X3 rfl) trivial)] pZ8 pZ8 ?_
  refine nB (nT (xK [hR 1 rfl rfl (Yd (u1:=.int .i64 (((j:Nat):Int)-1)) (u2:=.int .i64 1) (v:=.int .i64 ((((j:Nat):Int)-1)-1)) (Ug pc) (X3 rfl) ⟨rfl,trivial⟩)] ?_))
  refine nL (j-1,acc++[UInt8.ofNat (n / 2 ^ (8*(((j:Nat):Int)-1)).toNat)]) ⟨(show (j-1)≤m from (by omega)),(show (acc++[UInt8.ofNat (n / 2 ^ (8*(((j:Nat):Int)-1)).toNat)])++Wi n (j-1)=b++Wi n m from (Xdb he (by omega)))⟩ (show ((j-1):Nat)<j from (by omega)) (fun _ _ hG=>Wf [5,3] (bm 9 455) (t1:=[slV tb nb kU8 b,(Z1p n),(Z1q m),aa,aa,aa,dv (.slice none 0 0),Y8 3 kU8 0 (acc++[UInt8.ofNat (n / 2 ^ (8*(((j:Nat):Int)-1)).toNat)]).length,vI (((j-1:Nat):Int)-1)]) (t2:=[slV tb nb kU8 b,(Z1p n),(Z1q m),aa,aa,aa,dv (.slice none 0 0),Y8 3 kU8 0 (acc++[(UInt8.ofNat (n / 2 ^ (8*(((j:Nat):Int)-1)).toNat))]).length,vI ((((j:Nat):Int)-1)-1)]) (h1:=[.dead,.live (Xf 5 kU8 (acc++[UInt8.ofNat (n / 2 ^ (8*(((j:Nat):Int)-1)).toNat)]))]) (h2:=[.dead,.live (Xf 5 kU8 (acc++[(UInt8.ofNat (n / 2 ^ (8*(((j:Nat):Int)-1)).toNat))]))]) (cg2 (fun (q1:Nat) (q2:Int)=>([slV tb nb kU8 b,(Z1p n),(Z1q m),aa,aa,aa,dv (.slice none 0 0),Y8 3 kU8 0 q1,vI q2]:List AV)) (by rfl) (by omega)) (congrArg (fun (q1:List UInt8)=>([.dead,.live (Xf 5 kU8 q1)]:List HS)) (by rfl)) hG)
 refine cF (dF hq1) (T.exit (xT (xT (xH (nT (sR [] (T.ret ?_)))))))
 exact eRt 6 (.one (.own 1 kU8.sz 0 acc.length)) [1] (by have e1:((b++(Wi n m)).length:Nat)=acc.length:=p4m;have hE:=congrArg (fun (q1:Nat)=>(Y8 1 kU8 0 q1:AV)) e1;exact hE) ⟨⟨rfl,(by have e1:(acc:List UInt8)=b++(Wi n m):=p4m;have hE:=congrArg (fun (q1:List UInt8)=>(.live (Xf 5 kU8 q1):HS)) e1;exact Eq.trans pZ8 hE)⟩,trivial⟩
theorem Ud (tb:Bool) (nb:Bool) (b:List UInt8) (n:Int) (hb:b.length≤140737488355000):Holds Tryz.prog 63 ⟨[slV tb nb kU8 b,vI n],[],Y8 0 kU8 0 (b++Yy n).length,[.live (Xf 5 kU8 (b++Yy n))]⟩:=by
 refine Holds.of Tryz.func63 rfl (N:=9) Tryz.ntmps63 rfl fun w0 B0 S0 U0=>?_
 show T _ (Y2 9 0 w0 S0 U0 B0) ⟨[slV tb nb kU8 b,vI n],[]⟩ _ _
 have hn:=Xfu n
 refine sR [] (sR [hR 2 rfl rfl (Vb (u:=.int .i64 n) (v:=.int .u64 ((u64 n:Nat):Int)) (c_u64 Tryz.underlying2 Tryz.underlying179) (X3 rfl) trivial),hR 3 rfl rfl (rCa (X8p tb nb b (u64 n) 8 ‹_› ‹_› (by omega)) Tryz.func122 [0] [(.tmp 5,slV tb nb kU8 b),(.tmp 7,dv (.int .u64 ((u64 n:Nat):Int))),(.const (.int .i64 8),vI 8)] 0 1)] (T.ret ?_))
 exact eRt 4 (.one (.own 0 kU8.sz 0 (b++(Wi (u64 n) 8)).length)) [0] p2i ⟨⟨rfl,p3b⟩,trivial⟩
theorem E1 (tb:Bool) (nb:Bool) (b:List UInt8) (n:Int) (hb:b.length≤140737488355000):Holds Tryz.prog 66 ⟨[slV tb nb kU8 b,vI n],[],Y8 0 kU8 0 (b++Ve n).length,[.live (Xf 5 kU8 (b++Ve n))]⟩:=by
 refine Holds.of Tryz.func66 rfl (N:=11) Tryz.ntmps66 rfl fun w0 B0 S0 U0=>?_
 show T _ (Y2 11 0 w0 S0 U0 B0) ⟨[slV tb nb kU8 b,vI n],[]⟩ _ _
 have hn:=Xco n
 refine sR [] (sR [hR 2 rfl rfl (X8w (k:=.i64) (a:=n) (b:=4294967295) (X3 rfl) ⟨rfl,trivial⟩),hR 3 rfl rfl (X1m (k:=.i64) (a:=0) (b:=min n 4294967295) (X3 rfl) ⟨rfl,trivial⟩),hR 4 rfl rfl (Vb (u:=.int .i64 (max 0 (min n 4294967295))) (v:=.int .u64 ((X0p n:Nat):Int)) (H3 Tryz.underlying3 Tryz.underlying179 (by rw [IntKind.wrap_u64];unfold X0p;omega)) (X3 rfl) trivial),hR 5 rfl rfl (rCa (X8p tb nb b (X0p n) 4 ‹_› (by omega) (by omega)) Tryz.func122 [0] [(.tmp 5,slV tb nb kU8 b),(.tmp 9,dv (.int .u64 ((X0p n:Nat):Int))),(.const (.int .i64 4),vI 4)] 0 1)] (T.ret ?_))
 exact eRt 4 (.one (.own 0 kU8.sz 0 (b++(Wi (X0p n) 4)).length)) [0] p2i ⟨⟨rfl,p38⟩,trivial⟩
theorem Ia (tb:Bool) (nb:Bool) (b:List UInt8) (tx:Bool) (nx:Bool) (x:List UInt8) (hb:b.length+x.length≤140737488355000):Holds Tryz.prog 64 ⟨[slV tb nb kU8 b,slV tx nx kU8 x],[],Y8 0 kU8 0 (b++Yx x).length,[.live (Xf 5 kU8 (b++Yx x))]⟩:=by
 refine Holds.of Tryz.func64 rfl (N:=13) Tryz.ntmps64 rfl fun w0 B0 S0 U0=>?_
 show T _ (Y2 13 0 w0 S0 U0 B0) ⟨[slV tb nb kU8 b,slV tx nx kU8 x],[]⟩ _ _
 have hcl:=Jc ((x.length:Nat):Int)
 refine sR [] (sR [hR 3 rfl rfl (rCa (E1 tb nb b ((x.length:Nat):Int) (by omega)) Tryz.func66 [0] [(.tmp 6,slV tb nb kU8 b),(.tmp 8,vI ((x.length:Nat):Int))] 0 1)] ?_)
 refine sR [hR 2 rfl rfl (W2 0 1 5 1 kU8 Vu (b++Ve ((x.length:Nat):Int)) x (b++Ve ((x.length:Nat):Int)++x) (b++Ve ((x.length:Nat):Int)).length (sy:=(.d (dsl tx nx kU8 x))) (rhs:=[]) Jb (by omega) (Jf tx nx kU8 x) Jy (by (simp [maxLen,-List.getD_eq_getElem?_getD]<;>omega)) (by (simp [maxLen,-List.getD_eq_getElem?_getD]<;>omega)) (X3 rfl) trivial)] ?_
 refine T.ret ?_
 exact eRt 4 (.one (.own 1 kU8.sz 0 (b++Ve ((x.length:Nat):Int)++x).length)) [1] p2n ⟨⟨rfl,p2j⟩,trivial⟩
section
variable (tb:Bool) (nb:Bool) (b:List UInt8) (k:Nat)
abbrev Z1s:AV:=vI ((b.length:Nat):Int)
abbrev Z1t:St:=⟨[slV tb nb kU8 b,aa,dv (.int .u64 ((V2 (b.take k):Nat):Int)),aa,aa,slV tb nb kU8 b,(Z1s b),vI ((k:Nat):Int)],[]⟩
abbrev Z1v:AV:=vI ((k+1:Nat):Int)
end
theorem X1a (tb:Bool) (nb:Bool) (b:List UInt8) (hb:b.length≤8):Holds Tryz.prog 146 ⟨[slV tb nb kU8 b],[],dv (.int .u64 ((V2 b:Nat):Int)),[]⟩:=by
 refine Holds.of Tryz.func146 rfl (N:=18) Tryz.ntmps146 rfl fun w0 B0 S0 U0=>?_
 show T _ (Y2 18 0 w0 S0 U0 B0) ⟨[slV tb nb kU8 b],[]⟩ _ _
 refine sR [] (T.seq (sR [] (T.block ?_)))
 refine T.loop (ι:=Nat) (fun (k:Nat)=>(Z1t tb nb b k)) (fun (k:Nat)=>(k≤b.length)) (fun (k:Nat)=>b.length-k) (0) (Nat.zero_le _) (fun _ _ hG=>Yv [] (bm 8 229) (t2:=[slV tb nb kU8 b,aa,dv (.int .u64 0),aa,aa,slV tb nb kU8 b,(Z1s b),vI 0]) (congrArg (fun (q1:Int)=>([slV tb nb kU8 b,aa,dv (.int .u64 q1),aa,aa,slV tb nb kU8 b,(Z1s b),vI 0]:List AV)) (by rfl)) rfl hG) ?_
 rintro k hk
 show T _ _ (Z1t tb nb b k) _ _
 replace hk:k≤b.length:=hk
 have hk8:V2 (b.take k)<18446744073709551616:=X1q (by simp only [List.length_take];omega)
 refine sR [] (T.seq ?_)
 by_cases hq1:((k:Nat):Int)<((b.length:Nat):Int)
 ·have hk7:V2 (b.take k)<72057594037927936:=Xe5 (by simp only [List.length_take];omega);have hbt:=UInt8.toNat_lt (b.getD k 0)
  refine cT (dT hq1) (T.skip (nT (T.seq (T.block (sR [hR 0 rfl rfl (We tb nb kU8 b k (k:=.i64) (i:=((k:Nat):Int)) Tryz.underlying25 Ji rfl rfl (by omega) (X3 rfl) trivial)] ?_)))))
  refine xR [hR 1 rfl rfl (Yd (u1:=.int .u64 ((V2 (b.take k):Nat):Int)) (u2:=.int .u64 8) (v:=.int .u64 (((V2 (b.take k))*2 ^ 8:Nat):Int)) (F3 (n:=8) rfl pw p3w) (X3 rfl) ⟨rfl,trivial⟩),hR 3 rfl rfl (Vb (u:=.int .u8 (((b.getD k 0).toNat:Nat):Int)) (v:=.int .u64 (((b.getD k 0).toNat:Nat):Int)) (H3 Tryz.underlying5 Tryz.underlying179 p3w) (X3 rfl) trivial),hR 4 rfl rfl (Yd (u1:=.int .u64 (((V2 (b.take k))*2 ^ 8:Nat):Int)) (u2:=.int .u64 (((b.getD k 0).toNat:Nat):Int)) (v:=.int .u64 ((((V2 (b.take k))*2 ^ 8) ||| (b.getD k 0).toNat:Nat):Int)) (b_orU (by omega) (by omega)) (X3 rfl) trivial)] pZ8 pZ8 (nB (nT ?_))
  refine xK [hR 0 rfl rfl (Yd (u1:=.int .i64 ((k:Nat):Int)) (u2:=.int .i64 1) (v:=.int .i64 ((k+1:Nat):Int)) (Wb pc) (X3 rfl) ⟨rfl,trivial⟩)] ?_
  refine nL (k+1) (show (k+1)≤b.length from (by omega)) (show (b.length-(k+1):Nat)<b.length-k from (by omega)) (fun _ _ hG=>Yv [] (bm 8 229) (t2:=[slV tb nb kU8 b,aa,dv (.int .u64 ((((V2 (b.take k))*2 ^ 8) ||| (b.getD k 0).toNat:Nat):Int)),aa,aa,slV tb nb kU8 b,(Z1s b),(Z1v k)]) (by have e1:(((V2 (b.take (k+1)):Nat):Int):Int)=((((V2 (b.take k))*2 ^ 8) ||| (b.getD k 0).toNat:Nat):Int):=(by (rw [Xb2 (by omega)]));have hE:=congrArg (fun (q1:Int)=>([slV tb nb kU8 b,aa,dv (.int .u64 q1),aa,aa,slV tb nb kU8 b,(Z1s b),(Z1v k)]:List AV)) e1;exact hE) rfl hG)
 refine cF (dF hq1) (T.exit (xT (xT (xH (nT (sR [] (T.ret ?_)))))))
 exact eRt 2 (.one (.d (.val (.int .u64 ((V2 (b.take k):Nat):Int))))) [] (by have e1:(((V2 b:Nat):Int):Int)=((V2 (b.take k):Nat):Int):=p1w;have hE:=congrArg (fun (q1:Int)=>(dv (.int .u64 q1):AV)) e1;exact hE) trivial
theorem wire_any (tb:Bool) (nb:Bool) (b:List UInt8):Holds Tryz.prog 145 ⟨[slV tb nb kU8 b],[],vI 0,[]⟩:=by
 refine Holds.of Tryz.func145 rfl (N:=3) Tryz.ntmps145 rfl fun w0 B0 S0 U0=>?_
 show T _ (Y2 3 0 w0 S0 U0 B0) ⟨[slV tb nb kU8 b],[]⟩ _ _
 refine sR [] (sR [] (T.ret ?_))
 exact eRt 2 (.one (dI 0)) [] rfl trivial
theorem Xd3 (most:Int) (tb:Bool) (nb:Bool) (b:List UInt8) (hb:b.length≤4):Holds Tryz.prog 170 ⟨[vI most,slV tb nb kU8 b],[],vI (Yw most b),[]⟩:=by
 refine Holds.of Tryz.func170 rfl (N:=11) Tryz.ntmps170 rfl fun w0 B0 S0 U0=>?_
 show T _ (Y2 11 0 w0 S0 U0 B0) ⟨[vI most,slV tb nb kU8 b],[]⟩ _ _
 have hnb:=X4g hb
 refine sR [] (T.seq (sR [hR 1 rfl rfl (rCa (X1a tb nb b (by omega)) Tryz.func146 [] [(.tmp 5,slV tb nb kU8 b)] 0 0),hR 2 rfl rfl (Vb (u:=.int .u64 ((V2 b:Nat):Int)) (v:=.int .i64 ((V2 b:Nat):Int)) (H3 Tryz.underlying179 Tryz.underlying3 pc) (X3 rfl) trivial),hR 4 rfl rfl (X1m (k:=.i64) (a:=most) (b:=0) (X3 rfl) ⟨rfl,trivial⟩)] ?_))
 by_cases hq1:((V2 b:Nat):Int)>(max most 0)
 ·refine cT (dT hq1) (sR [] (T.ret (rT ?_)))
  exact eRt 4 (.one (dI 11)) [] (by have e1:(Yw most b:Int)=11:=(by (simp only [Yw];rw [if_pos ‹_›]));have hE:=cI e1;exact hE) trivial
 refine cF (dF hq1) (T.skip (nT (sR [] (T.ret ?_))))
 exact eRt 4 (.one (dI 0)) [] (by have e1:(Yw most b:Int)=0:=(by (simp only [Yw];rw [if_neg ‹_›]));have hE:=cI e1;exact hE) trivial
theorem Xd4 (tb:Bool) (nb:Bool) (b:List UInt8) (hb:b.length≤140737488355328):Holds Tryz.prog 104 ⟨[slV tb nb kU8 b],[],pv 0 0,[.live (.box 195 [dU b,dI 0])]⟩:=by
 refine Holds.of Tryz.func104 rfl (N:=7) Tryz.ntmps104 rfl fun w0 B0 S0 U0=>?_
 show T _ (Y2 7 0 w0 S0 U0 B0) ⟨[slV tb nb kU8 b],[]⟩ _ _
 refine sR [] (sR [hR 1 rfl rfl (rCa (Fs tb nb b ‹_›) Tryz.func51 [0] [(.tmp 3,slV tb nb kU8 b)] 0 1)] (T.ret ?_))
 refine eN ⟨[slV tb nb kU8 b,aa,pv 1 0],[.live (Xf 5 kU8 b),.live (.box 195 [.own 0 kU8.sz 0 b.length,dI 0])]⟩ ?_
 refine X7 (s':=⟨[slV tb nb kU8 b,aa,pv 1 0],[.dead,.live (.box 195 [dU b,dI 0])]⟩) (fun _ _ hG=>Gs.freeze (s:=⟨[slV tb nb kU8 b,aa,pv 1 0],[.live (Xf 5 kU8 b),.live (.box 195 [.own 0 kU8.sz 0 b.length,dI 0])]⟩) 0 (el:=W7 kU8 b) (sz:=kU8.sz) (n:=b.length) rfl ⟨.inl rfl,(kk2 trivial)⟩ ⟨(.inl ⟨rfl,rfl⟩),⟨(.inr ⟨by decide,.inr ⟨rfl,⟨pZ0,⟨.inl rfl,trivial⟩⟩⟩⟩),trivial⟩⟩ hG) ?_
 exact eRt 2 (.one (.ptr 1 0)) [1] rfl (ix trivial)
theorem Xfe:Cells Tryz.prog 25 1:=⟨_,U1,rfl⟩
theorem X69 (rest:List UInt8) (e:Int) (n:Int) (hr:rest.length≤140737488355328) (hn:0≤n) (hc:okT rest e n 0):Holds Tryz.prog 144 ⟨[pv 0 0,vI n,dv (.func (.func 145) #[] #[])],[.box 195 [dU rest,dI e]],slV false false kU8 (rest.take n.toNat),[.live (.box 195 [dU (rest.drop n.toNat),dI 0])]⟩:=by
 refine Holds.of Tryz.func144 rfl (N:=54) Tryz.ntmps144 rfl fun w0 B0 S0 U0=>?_
 show T _ (Y2 54 1 w0 S0 U0 B0) ⟨[pv 0 0,vI n,dv (.func (.func 145) #[] #[])],[.live (.box 195 [dU rest,dI e])]⟩ _ _
 have htl:(rest.take n.toNat).length≤n.toNat:=List.length_take_le _ _
 obtain ⟨hc1,hc2,hc3⟩:=hc
 have htm:(rest.take n.toNat).length=n.toNat:=by rw [List.length_take];omega
 refine sR [] (T.seq (sR (Xm hY0 [3,4,5,6,7] (hP0 8::[])) ?_))
 by_cases hq1:e≠0
 ·exact absurd hc1 hq1
 refine cF (dF hq1) (T.skip (nT (T.seq (sR [] ?_))))
 by_cases hq2:n>((rest.length:Nat):Int)
 ·exact absurd hc2 (by omega)
 refine cF (dF hq2) (T.skip (nT (sR [hR 5 rfl rfl (U7 false false kU8 rest (rest.take (n).toNat) 0 (n).toNat (lo:=none) (hi:=some (.tmp 31,n)) Tryz.underlying25 Ji rfl rfl rfl rfl (by omega) (by omega) (by omega) rfl (X3 rfl) trivial)] (T.seq (sR [hR 3 rfl rfl (X7h (fs:=#[]) (cs:=#[]) (wire_any false false (rest.take (n).toNat) ) Tryz.func145 rfl (by decide) [] [] (l:=[(.tmp 35,slV false false kU8 (rest.take (n).toNat))]) [] rfl 0 0 rfl rfl rfl rfl rfl rfl rfl rfl rfl rfl rfl ⟨.inl ⟨rfl,rfl⟩,trivial⟩ rfl p4r (.inl rfl) (X3 rfl) trivial)] (sR [] (cF (b:=false) rfl (T.skip (nT ?_)))))))))
 refine sR [hR 6 rfl rfl (U7 false false kU8 rest (rest.drop (n).toNat) (n).toNat rest.length (lo:=some (.tmp 49,n)) (hi:=none) Tryz.underlying25 Ji rfl rfl rfl (by omega) rfl (by omega) (by omega) Jy (X3 rfl) trivial)] (sR [] (T.ret ?_))
 exact eRt 6 (.one (dU (rest.take (n).toNat))) [0] p55 ⟨⟨rfl,(by have e1:((rest.drop (n).toNat):List UInt8)=(rest.drop n.toNat):=(by rfl);have hE:=congrArg (fun (q1:List UInt8)=>(.live (.box 195 [dU q1,dI 0]):HS)) e1;exact Eq.trans pZ8 hE)⟩,trivial⟩
theorem X6a (rest:List UInt8) (e:Int) (n:Int) (hr:rest.length≤140737488355328) (hn:0≤n) (hc:¬okT rest e n 0):Holds Tryz.prog 144 ⟨[pv 0 0,vI n,dv (.func (.func 145) #[] #[])],[.box 195 [dU rest,dI e]],dv (.slice none 0 0),[.live (.box 195 [dU rest,dI (rdE rest e n 0)])]⟩:=by
 refine Holds.of Tryz.func144 rfl (N:=54) Tryz.ntmps144 rfl fun w0 B0 S0 U0=>?_
 show T _ (Y2 54 1 w0 S0 U0 B0) ⟨[pv 0 0,vI n,dv (.func (.func 145) #[] #[])],[.live (.box 195 [dU rest,dI e])]⟩ _ _
 have htl:(rest.take n.toNat).length≤n.toNat:=List.length_take_le _ _
 refine sR [] (T.seq (sR (Xm hY0 [3,4,5,6,7] (hP0 8::[])) ?_))
 by_cases hq1:e≠0
 ·refine cT (dT hq1) (sR [] (T.ret (rT ?_)))
  exact eRt 6 (.one (.d (.val (.slice none 0 0)))) [0] rfl ⟨⟨rfl,(by have e1:(e:Int)=(rdE rest e n 0):=(by (simp only [rdE];rw [if_pos ‹_›]));have hE:=congrArg (fun (q1:Int)=>(.live (.box 195 [dU rest,dI q1]):HS)) e1;exact Eq.trans pZ8 hE)⟩,trivial⟩
 refine cF (dF hq1) (T.skip (nT (T.seq (sR [] ?_))))
 by_cases hq2:n>((rest.length:Nat):Int)
 ·refine cT (dT hq2) (sR [] (sR [] (T.ret (rT ?_))))
  exact eRt 6 (.one (.d (.val (.slice none 0 0)))) [0] rfl ⟨⟨rfl,(by have e1:(10:Int)=(rdE rest e n 0):=(by (simp only [rdE];(rw [if_neg ‹_›];rw [if_pos ‹_›])));have hE:=congrArg (fun (q1:Int)=>(.live (.box 195 [dU rest,dI q1]):HS)) e1;exact Eq.trans pZ8 hE)⟩,trivial⟩
 exact absurd ⟨by omega,by omega,rfl⟩ hc
theorem Xa4 (rest:List UInt8) (e:Int) (n:Int) (most:Int) (hr:rest.length≤140737488355328) (hn:n=4) (hc:okT rest e n (Yw most (rest.take n.toNat))):Holds Tryz.prog 144 ⟨[pv 0 0,vI n,dv (.func (.func 170) #[.int .i64 most] #[])],[.box 195 [dU rest,dI e]],slV false false kU8 (rest.take n.toNat),[.live (.box 195 [dU (rest.drop n.toNat),dI 0])]⟩:=by
 refine Holds.of Tryz.func144 rfl (N:=54) Tryz.ntmps144 rfl fun w0 B0 S0 U0=>?_
 show T _ (Y2 54 1 w0 S0 U0 B0) ⟨[pv 0 0,vI n,dv (.func (.func 170) #[.int .i64 most] #[])],[.live (.box 195 [dU rest,dI e])]⟩ _ _
 have htl:(rest.take n.toNat).length≤n.toNat:=List.length_take_le _ _
 obtain ⟨hc1,hc2,hc3⟩:=hc
 have htm:(rest.take n.toNat).length=n.toNat:=by rw [List.length_take];omega
 refine sR [] (T.seq (sR (Xm hY0 [3,4,5,6,7] (hP0 8::[])) ?_))
 by_cases hq1:e≠0
 ·exact absurd hc1 hq1
 refine cF (dF hq1) (T.skip (nT (T.seq (sR [] ?_))))
 by_cases hq2:n>((rest.length:Nat):Int)
 ·exact absurd hc2 (by omega)
 refine cF (dF hq2) (T.skip (nT (sR [hR 5 rfl rfl (U7 false false kU8 rest (rest.take (n).toNat) 0 (n).toNat (lo:=none) (hi:=some (.tmp 31,n)) Tryz.underlying25 Ji rfl rfl rfl rfl (by omega) (by omega) (by omega) rfl (X3 rfl) trivial)] (T.seq (sR [hR 3 rfl rfl (X7h (fs:=#[.int .i64 most]) (cs:=#[]) (Xd3 most false false (rest.take (n).toNat) (by omega)) Tryz.func170 rfl (by decide) [] [] (l:=[(.tmp 35,slV false false kU8 (rest.take (n).toNat))]) [] rfl 0 0 rfl rfl rfl rfl rfl rfl rfl rfl rfl rfl rfl ⟨.inl ⟨rfl,rfl⟩,⟨.inl ⟨rfl,rfl⟩,trivial⟩⟩ rfl p4r (.inl rfl) (X3 rfl) trivial)] (sR [] ?_))))))
 by_cases hq3:(Yw most (rest.take (n).toNat))≠0
 ·exact absurd hc3 hq3
 refine cF (dF hq3) (T.skip (nT (sR [hR 6 rfl rfl (U7 false false kU8 rest (rest.drop (n).toNat) (n).toNat rest.length (lo:=some (.tmp 49,n)) (hi:=none) Tryz.underlying25 Ji rfl rfl rfl (by omega) rfl (by omega) (by omega) Jy (X3 rfl) trivial)] (sR [] (T.ret ?_)))))
 exact eRt 6 (.one (dU (rest.take (n).toNat))) [0] p55 ⟨⟨rfl,(by have e1:((rest.drop (n).toNat):List UInt8)=(rest.drop n.toNat):=(by rfl);have e2:(Yw most (rest.take (n).toNat):Int)=0:=(by exact hc3);have hE:=congr pZ16 e2;exact Eq.trans pZ8 hE)⟩,trivial⟩
theorem Xa5 (rest:List UInt8) (e:Int) (n:Int) (most:Int) (hr:rest.length≤140737488355328) (hn:n=4) (hc:¬okT rest e n (Yw most (rest.take n.toNat))):Holds Tryz.prog 144 ⟨[pv 0 0,vI n,dv (.func (.func 170) #[.int .i64 most] #[])],[.box 195 [dU rest,dI e]],dv (.slice none 0 0),[.live (.box 195 [dU rest,dI (rdE rest e n (Yw most (rest.take n.toNat)))])]⟩:=by
 refine Holds.of Tryz.func144 rfl (N:=54) Tryz.ntmps144 rfl fun w0 B0 S0 U0=>?_
 show T _ (Y2 54 1 w0 S0 U0 B0) ⟨[pv 0 0,vI n,dv (.func (.func 170) #[.int .i64 most] #[])],[.live (.box 195 [dU rest,dI e])]⟩ _ _
 have htl:(rest.take n.toNat).length≤n.toNat:=List.length_take_le _ _
 refine sR [] (T.seq (sR (Xm hY0 [3,4,5,6,7] (hP0 8::[])) ?_))
 by_cases hq1:e≠0
 ·refine cT (dT hq1) (sR [] (T.ret (rT ?_)))
  exact eRt 6 (.one (.d (.val (.slice none 0 0)))) [0] rfl ⟨⟨rfl,(by have e1:(e:Int)=(rdE rest e n (Yw most (rest.take n.toNat))):=(by (simp only [rdE];rw [if_pos ‹_›]));have hE:=congrArg (fun (q1:Int)=>(.live (.box 195 [dU rest,dI q1]):HS)) e1;exact Eq.trans pZ8 hE)⟩,trivial⟩
 refine cF (dF hq1) (T.skip (nT (T.seq (sR [] ?_))))
 by_cases hq2:n>((rest.length:Nat):Int)
 ·refine cT (dT hq2) (sR [] (sR [] (T.ret (rT ?_))))
  exact eRt 6 (.one (.d (.val (.slice none 0 0)))) [0] rfl ⟨⟨rfl,(by have e1:(10:Int)=(rdE rest e n (Yw most (rest.take n.toNat))):=(by (simp only [rdE];(rw [if_neg ‹_›];rw [if_pos ‹_›])));have hE:=congrArg (fun (q1:Int)=>(.live (.box 195 [dU rest,dI q1]):HS)) e1;exact Eq.trans pZ8 hE)⟩,trivial⟩
 refine cF (dF hq2) (T.skip (nT (sR [hR 5 rfl rfl (U7 false false kU8 rest (rest.take (n).toNat) 0 (n).toNat (lo:=none) (hi:=some (.tmp 31,n)) Tryz.underlying25 Ji rfl rfl rfl rfl (by omega) (by omega) (by omega) rfl (X3 rfl) trivial)] (T.seq (sR [hR 3 rfl rfl (X7h (fs:=#[.int .i64 most]) (cs:=#[]) (Xd3 most false false (rest.take (n).toNat) (by omega)) Tryz.func170 rfl (by decide) [] [] (l:=[(.tmp 35,slV false false kU8 (rest.take (n).toNat))]) [] rfl 0 0 rfl rfl rfl rfl rfl rfl rfl rfl rfl rfl rfl ⟨.inl ⟨rfl,rfl⟩,⟨.inl ⟨rfl,rfl⟩,trivial⟩⟩ rfl p4r (.inl rfl) (X3 rfl) trivial)] (sR [] ?_))))))
 by_cases hq3:(Yw most (rest.take (n).toNat))≠0
 ·refine cT (dT hq3) (sR [] (T.ret (rT ?_)))
  exact eRt 6 (.one (.d (.val (.slice none 0 0)))) [0] rfl ⟨⟨rfl,(by have e1:(Yw most (rest.take (n).toNat):Int)=(rdE rest e n (Yw most (rest.take n.toNat))):=(by (simp only [rdE];(rw [if_neg ‹_›];rw [if_neg ‹_›])));have hE:=congrArg (fun (q1:Int)=>(.live (.box 195 [dU rest,dI q1]):HS)) e1;exact Eq.trans pZ8 hE)⟩,trivial⟩
 exact absurd ⟨by omega,by omega,Classical.not_not.1 hq3⟩ hc
theorem rd_Int (rest:List UInt8) (e:Int) (hr:rest.length≤140737488355328):Holds Tryz.prog 105 ⟨[pv 0 0],[.box 195 [dU rest,dI e]],vI (rdI rest e),[.live (.box 195 [dU (rdR rest e 8 0),dI (rdE rest e 8 0)])]⟩:=by
 refine Holds.of Tryz.func105 rfl (N:=11) Tryz.ntmps105 rfl fun w0 B0 S0 U0=>?_
 show T _ (Y2 11 1 w0 S0 U0 B0) ⟨[pv 0 0],[.live (.box 195 [dU rest,dI e])]⟩ _ _
 have hi8:V2 (rest.take 8)<18446744073709551616:=X1q (List.length_take_le _ _)
 refine sR [] (T.seq ?_)
 by_cases hq1:okT rest e 8 0
 ·have hk:=id hq1;simp only [okT] at hk
  refine sR [hR 1 rfl rfl (rCa (X69 rest e 8 ‹_› (by omega) ‹_›) Tryz.func144 [0] [(.tmp 4,pv 0 0),(.const (.int .i64 8),vI 8),(.func 145,dv (.func (.func 145) #[] #[]))] 1 1)] ?_
  refine sR [hR 1 rfl rfl (Xhy (s:=dU (rest.take 8)) Tryz.underlying25 (.inr (by (simp [maxLen,-List.getD_eq_getElem?_getD]<;>omega))) (X3 rfl) ⟨rfl,trivial⟩)] ?_
  refine cT (b:=true) rfl ?_
  refine sR [hR 1 rfl rfl (rCa (X1a false false (rest.take 8) (by (simp [maxLen,-List.getD_eq_getElem?_getD]<;>omega))) Tryz.func146 [] [(.tmp 8,slV false false kU8 (rest.take 8))] 0 0),hR 2 rfl rfl (Vb (u:=.int .u64 ((V2 (rest.take 8):Nat):Int)) (v:=.int .i64 (X0y (V2 (rest.take 8)))) (c_i64 ‹_› Tryz.underlying179 Tryz.underlying2) (X3 rfl) trivial)] ?_
  refine T.ret (rT ?_)
  exact eRt 2 (.one (dI (X0y (V2 (rest.take 8))))) [0] (by have e1:(rdI rest e:Int)=X0y (V2 (rest.take 8)):=(by (simp only [rdI];(rw [if_pos ‹_›];done)));have hE:=cI e1;exact hE) ⟨⟨rfl,(by have e1:((rest.drop 8):List UInt8)=(rdR rest e 8 0):=(by (rw [X5d ‹_›];rfl));have e2:(0:Int)=(rdE rest e 8 0):=(by (rw [X5e ‹_›]));have hE:=congr pZ16 e2;exact Eq.trans pZ8 hE)⟩,trivial⟩
 refine sR [hR 1 rfl rfl (rCa (X6a rest e 8 ‹_› (by omega) ‹_›) Tryz.func144 [0] [(.tmp 4,pv 0 0),(.const (.int .i64 8),vI 8),(.func 145,dv (.func (.func 145) #[] #[]))] 1 1)] (sR [hR 1 rfl rfl (Yd (u1:=.slice none 0 0) (u2:=.slice none 0 0) (v:=.bool false) (Xbi Tryz.underlying25) (X3 rfl) ⟨rfl,trivial⟩)] (cF (b:=false) rfl (T.skip (nT (sR [] (T.ret ?_))))))
 exact eRt 2 (.one (dI 0)) [0] (by have e1:(rdI rest e:Int)=0:=(by (simp only [rdI];(rw [if_neg ‹_›];done)));have hE:=cI e1;exact hE) ⟨⟨rfl,(by have e1:(rest:List UInt8)=(rdR rest e 8 0):=(by (rw [Xge ‹_›]));have hE:=congrArg (fun (q1:List UInt8)=>(.live (.box 195 [dU q1,dI (rdE rest e 8 0)]):HS)) e1;exact Eq.trans pZ8 hE)⟩,trivial⟩
theorem X8r (rest:List UInt8) (e:Int) (most:Int) (hr:rest.length≤140737488355328):Holds Tryz.prog 147 ⟨[pv 0 0,vI most],[.box 195 [dU rest,dI e]],vI ((rdC rest e most:Nat):Int),[.live (.box 195 [dU (rdR rest e 4 (Yw most (rest.take 4))),dI (rdE rest e 4 (Yw most (rest.take 4)))])]⟩:=by
 refine Holds.of Tryz.func147 rfl (N:=15) Tryz.ntmps147 rfl fun w0 B0 S0 U0=>?_
 show T _ (Y2 15 1 w0 S0 U0 B0) ⟨[pv 0 0,vI most],[.live (.box 195 [dU rest,dI e])]⟩ _ _
 have hi4:V2 (rest.take 4)<4294967296:=X4g (List.length_take_le _ _)
 refine sR [] (T.seq ?_)
 by_cases hq1:okT rest e 4 (Yw most (rest.take 4))
 ·have hk:=id hq1;simp only [okT] at hk
  refine sR [hR 2 rfl rfl (X8x (fs:=[(.tmp 7,.int .i64 most)]) (cs:=[]) rfl rfl (X3 rfl) trivial),hR 3 rfl rfl (rCa (Xa4 rest e 4 most ‹_› (by omega) ‹_›) Tryz.func144 [0] [(.tmp 6,pv 0 0),(.const (.int .i64 4),vI 4),(.tmp 8,dv (.func (.func 170) #[.int .i64 most] #[]))] 1 1)] ?_
  refine sR [hR 1 rfl rfl (Xhy (s:=dU (rest.take 4)) Tryz.underlying25 (.inr (by (simp [maxLen,-List.getD_eq_getElem?_getD]<;>omega))) (X3 rfl) ⟨rfl,trivial⟩)] ?_
  refine cT (b:=true) rfl ?_
  refine sR [hR 1 rfl rfl (rCa (X1a false false (rest.take 4) (by (simp [maxLen,-List.getD_eq_getElem?_getD]<;>omega))) Tryz.func146 [] [(.tmp 12,slV false false kU8 (rest.take 4))] 0 0),hR 2 rfl rfl (Vb (u:=.int .u64 ((V2 (rest.take 4):Nat):Int)) (v:=.int .i64 ((V2 (rest.take 4):Nat):Int)) (H3 Tryz.underlying179 Tryz.underlying3 pc) (X3 rfl) trivial)] ?_
  refine T.ret (rT ?_)
  exact eRt 4 (.one (dI ((V2 (rest.take 4):Nat):Int))) [0] (by have e1:(((rdC rest e most:Nat):Int):Int)=((V2 (rest.take 4):Nat):Int):=(by (simp only [rdC];(rw [if_pos ‹_›];done)));have hE:=cI e1;exact hE) ⟨⟨rfl,(by have e1:((rest.drop 4):List UInt8)=(rdR rest e 4 (Yw most (rest.take 4))):=(by (rw [X5d ‹_›];rfl));have e2:(0:Int)=(rdE rest e 4 (Yw most (rest.take 4))):=(by (rw [X5e ‹_›]));have hE:=congr pZ16 e2;exact Eq.trans pZ8 hE)⟩,trivial⟩
 refine sR [hR 2 rfl rfl (X8x (fs:=[(.tmp 7,.int .i64 most)]) (cs:=[]) rfl rfl (X3 rfl) trivial),hR 3 rfl rfl (rCa (Xa5 rest e 4 most ‹_› (by omega) ‹_›) Tryz.func144 [0] [(.tmp 6,pv 0 0),(.const (.int .i64 4),vI 4),(.tmp 8,dv (.func (.func 170) #[.int .i64 most] #[]))] 1 1)] (sR [hR 1 rfl rfl (Yd (u1:=.slice none 0 0) (u2:=.slice none 0 0) (v:=.bool false) (Xbi Tryz.underlying25) (X3 rfl) ⟨rfl,trivial⟩)] (cF (b:=false) rfl (T.skip (nT (sR [] (T.ret ?_))))))
 exact eRt 4 (.one (dI 0)) [0] (by have e1:(((rdC rest e most:Nat):Int):Int)=0:=(by (simp only [rdC];(rw [if_neg ‹_›];rfl)));have hE:=cI e1;exact hE) ⟨⟨rfl,(by have e1:(rest:List UInt8)=(rdR rest e 4 (Yw most (rest.take 4))):=(by (rw [Xge ‹_›]));have hE:=congrArg (fun (q1:List UInt8)=>(.live (.box 195 [dU q1,dI (rdE rest e 4 (Yw most (rest.take 4)))]):HS)) e1;exact Eq.trans pZ8 hE)⟩,trivial⟩
theorem Xgd (rest:List UInt8) (e:Int) (hr:rest.length≤140737488355328):Holds Tryz.prog 107 ⟨[pv 0 0],[.box 195 [dU rest,dI e]],.tup [],[.live (.box 195 [dU rest,dI (rdX rest e)])]⟩:=by
 refine Holds.of Tryz.func107 rfl (N:=22) Tryz.ntmps107 rfl fun w0 B0 S0 U0=>?_
 show T _ (Y2 22 1 w0 S0 U0 B0) ⟨[pv 0 0],[.live (.box 195 [dU rest,dI e])]⟩ _ _
 by_cases hq1:e=0
 ·refine sR (Xm hY1 [3,4,5,6,7] (hP1 8::(Xm (hY · (dT hq1)) [10,11,12,13,14,15] (hP 16 (dT hq1)::[])))) ?_
  by_cases hq2:((rest.length:Nat):Int)>0
  ·refine cT (dT hq2) (xK [] ?_)
   exact tE (.inr rfl) [] trivial [0] rfl rfl rfl rfl rfl rfl ⟨⟨rfl,(by have e1:(13:Int)=(rdX rest e):=(by (simp only [rdX];rw [if_pos ⟨by assumption,by assumption⟩]));have hE:=congrArg (fun (q1:Int)=>(.live (.box 195 [dU rest,dI q1]):HS)) e1;exact Eq.trans pZ8 hE)⟩,trivial⟩
  refine cF (dF hq2) (T.skip ?_)
  exact tE (.inr rfl) [] trivial [0] rfl rfl rfl rfl rfl rfl ⟨⟨rfl,(by have e1:(e:Int)=(rdX rest e):=(by (simp only [rdX];rw [if_neg (fun h=>by exact absurd h.2 ‹_›)]));have hE:=congrArg (fun (q1:Int)=>(.live (.box 195 [dU rest,dI q1]):HS)) e1;exact Eq.trans pZ8 hE)⟩,trivial⟩
 refine sR (Xm hY1 [3,4,5,6,7] (hP1 8::(Xm (hN · true (dF hq1)) [10,11,12,13,14,15] (hP 16 (dF hq1)::[])))) (cF (b:=false) rfl (T.skip ?_))
 exact tE (.inr rfl) [] trivial [0] rfl rfl rfl rfl rfl rfl ⟨⟨rfl,(by have e1:(e:Int)=(rdX rest e):=(by (simp only [rdX];rw [if_neg (fun h=>by exact absurd h.1 ‹_›)]));have hE:=congrArg (fun (q1:Int)=>(.live (.box 195 [dU rest,dI q1]):HS)) e1;exact Eq.trans pZ8 hE)⟩,trivial⟩
theorem X8q (rest:List UInt8) (e:Int):Holds Tryz.prog 108 ⟨[pv 0 0],[.box 195 [dU rest,dI e]],vI e,[.live (.box 195 [dU rest,dI e])]⟩:=by
 refine Holds.of Tryz.func108 rfl (N:=9) Tryz.ntmps108 rfl fun w0 B0 S0 U0=>?_
 show T _ (Y2 9 1 w0 S0 U0 B0) ⟨[pv 0 0],[.live (.box 195 [dU rest,dI e])]⟩ _ _
 refine sR [] (T.seq (sR [] (cF (b:=false) rfl (T.skip (nT (sR [] (T.ret ?_)))))))
 exact eRt 2 (.one (dI e)) [0] rfl (ix trivial)
abbrev Z1w (rest:List UInt8) (e:Int) (most:Int):HS:=.live (.box 195 [dU (rdR rest e 4 (Yw most (rest.take 4))),dI (rdE rest e 4 (Yw most (rest.take 4)))])
theorem X1j (rest:List UInt8) (e:Int) (most:Int) (hr:rest.length≤140737488355328):Holds Tryz.prog 106 ⟨[pv 0 0,vI most],[.box 195 [dU rest,dI e]],Y8 1 kU8 0 (rdY rest e most).length,[.live (.box 195 [dU (Vt rest e most),dI (V3 rest e most)]),.live (Xf 5 kU8 (rdY rest e most))]⟩:=by
 refine Holds.of Tryz.func106 rfl (N:=36) Tryz.ntmps106 rfl fun w0 B0 S0 U0=>?_
 show T _ (Y2 36 1 w0 S0 U0 B0) ⟨[pv 0 0,vI most],[.live (.box 195 [dU rest,dI e])]⟩ _ _
 have hrc:=rdC_lt rest e most
 have hrl:=U3 rest e 4 (Yw most (rest.take 4))
 refine sR [] (T.seq (sR [] (cF (b:=false) rfl (T.skip (nT (sR [] (sR [hR 2 rfl rfl (rCa (X8r rest e most ‹_›) Tryz.func147 [0] [(.tmp 14,pv 0 0),(.tmp 15,vI most)] 1 1)] (T.seq (sR [] ?_)))))))))
 by_cases hq1:(rdE rest e 4 (Yw most (rest.take 4)))≠0
 ·have hy:=rdY_fail hq1
  refine cT (dT hq1) (sR [] (T.ret (rT ?_)))
  refine eN ⟨[pv 0 0,vI most,aa,aa,dv (.slice none 0 0),slV false false kU8 rest,vI ((rdC rest e most:Nat):Int),aa,aa,vB false,aa,aa,aa,aa,aa,aa,aa,aa,aa,aa,aa,vB (decide ((rdE rest e 4 (Yw most (rest.take 4)))≠0))],[(Z1w rest e most)]⟩ ?_
  refine X7 (s':=⟨[pv 0 0,vI most,aa,aa,Y8 1 kU8 0 0,slV false false kU8 rest,vI ((rdC rest e most:Nat):Int),aa,aa,vB false,aa,aa,aa,aa,aa,aa,aa,aa,aa,aa,aa,vB (decide ((rdE rest e 4 (Yw most (rest.take 4)))≠0))],[(Z1w rest e most),.live (Xf 5 kU8 ([]:List UInt8))]⟩) (fun _ _ hG=>U5 1 4 5 kU8 rfl rfl hG) ?_
  exact eRt 4 (.one (.own 1 kU8.sz 0 0)) [0,1] (by have e1:((rdY rest e most).length:Nat)=0:=(by (rw [hy.1];rfl));have hE:=congrArg (fun (q1:Nat)=>(Y8 1 kU8 0 q1:AV)) e1;exact hE) ⟨⟨rfl,(by have e1:((rdR rest e 4 (Yw most (rest.take 4))):List UInt8)=(Vt rest e most):=(by (rw [hy.2.1,hy.2.2.2]));have e2:((rdE rest e 4 (Yw most (rest.take 4))):Int)=(V3 rest e most):=(by (rw [hy.2.2.1];done));have hE:=congr pZ16 e2;exact Eq.trans pZ8 hE)⟩,⟨⟨rfl,p34⟩,trivial⟩⟩
 have hz:=Classical.not_not.1 hq1
 refine cF (dF hq1) (T.skip (nT ?_))
 by_cases hq2:okT (rdR rest e 4 (Yw most (rest.take 4))) (rdE rest e 4 (Yw most (rest.take 4))) ((rdC rest e most:Nat):Int) 0
 ·have hy:=rdY_ok hz hq2
  refine sR [hR 2 rfl rfl (rCa (X69 (rdR rest e 4 (Yw most (rest.take 4))) (rdE rest e 4 (Yw most (rest.take 4))) ((rdC rest e most:Nat):Int) (by omega) (by omega) ‹_›) Tryz.func144 [0] [(.tmp 22,pv 0 0),(.tmp 23,vI ((rdC rest e most:Nat):Int)),(.func 145,dv (.func (.func 145) #[] #[]))] 1 1)] (T.seq (sR [] (cF (b:=false) rfl (T.skip (nT ?_)))))
  refine sR [hR 1 rfl rfl (rCa (Fs false false ((rdR rest e 4 (Yw most (rest.take 4))).take ((rdC rest e most:Nat):Int).toNat) (by (simp [maxLen,-List.getD_eq_getElem?_getD]<;>omega))) Tryz.func51 [1] [(.tmp 34,slV false false kU8 ((rdR rest e 4 (Yw most (rest.take 4))).take ((rdC rest e most:Nat):Int).toNat))] 0 1)] ?_
  refine T.ret ?_
  exact eRt 4 (.one (.own 1 kU8.sz 0 ((rdR rest e 4 (Yw most (rest.take 4))).take ((rdC rest e most:Nat):Int).toNat).length)) [0,1] (by have e1:((rdY rest e most).length:Nat)=((rdR rest e 4 (Yw most (rest.take 4))).take ((rdC rest e most:Nat):Int).toNat).length:=(by (rw [hy.1];done));have hE:=congrArg (fun (q1:Nat)=>(Y8 1 kU8 0 q1:AV)) e1;exact hE) ⟨⟨rfl,(by have e1:(((rdR rest e 4 (Yw most (rest.take 4))).drop ((rdC rest e most:Nat):Int).toNat):List UInt8)=(Vt rest e most):=(by (rw [hy.2.1];done));have e2:(0:Int)=(V3 rest e most):=(by (rw [hy.2.2];done));have hE:=congr pZ16 e2;exact Eq.trans pZ8 hE)⟩,⟨⟨rfl,(by have e1:(((rdR rest e 4 (Yw most (rest.take 4))).take ((rdC rest e most:Nat):Int).toNat):List UInt8)=(rdY rest e most):=(by (rw [hy.1];done));have hE:=congrArg (fun (q1:List UInt8)=>(.live (Xf 5 kU8 q1):HS)) e1;exact Eq.trans pZ8 hE)⟩,trivial⟩⟩
 have hy:=Xjm hz hq2
 refine sR [hR 2 rfl rfl (rCa (X6a (rdR rest e 4 (Yw most (rest.take 4))) (rdE rest e 4 (Yw most (rest.take 4))) ((rdC rest e most:Nat):Int) (by omega) (by omega) ‹_›) Tryz.func144 [0] [(.tmp 22,pv 0 0),(.tmp 23,vI ((rdC rest e most:Nat):Int)),(.func 145,dv (.func (.func 145) #[] #[]))] 1 1)] (T.seq (sR [] ?_))
 by_cases hq3:(rdE (rdR rest e 4 (Yw most (rest.take 4))) (rdE rest e 4 (Yw most (rest.take 4))) ((rdC rest e most:Nat):Int) 0)≠0
 ·refine cT (dT hq3) (xK [] (nT ?_))
  refine sR [hR 1 rfl rfl (rCn (Fs false false ([]:List UInt8) (by (simp [maxLen,-List.getD_eq_getElem?_getD]<;>omega))) Tryz.func51 [1] [(.tmp 34,dv (.slice none 0 0))] 0 1 ⟨.inr pZ5,trivial⟩ trivial)] ?_
  refine T.ret ?_
  exact eRt 4 (.one (.own 1 kU8.sz 0 ([]:List UInt8).length)) [0,1] (by have e1:((rdY rest e most).length:Nat)=([]:List UInt8).length:=(by (rw [hy.1];done));have hE:=congrArg (fun (q1:Nat)=>(Y8 1 kU8 0 q1:AV)) e1;exact hE) ⟨⟨rfl,(by have e1:(rest:List UInt8)=(Vt rest e most):=(by (rw [hy.2.1];done));have e2:((rdE (rdR rest e 4 (Yw most (rest.take 4))) (rdE rest e 4 (Yw most (rest.take 4))) ((rdC rest e most:Nat):Int) 0):Int)=(V3 rest e most):=(by (rw [hy.2.2];done));have hE:=congr pZ16 e2;exact Eq.trans pZ8 hE)⟩,⟨⟨rfl,p34⟩,trivial⟩⟩
 exact absurd (Xgf hq2) hq3
section
variable (B:List UInt8) (a:Nat) (m:Nat) (e:Int) (k:Nat)
abbrev Z1x:AV:=vI ((m:Nat):Int)
abbrev Z1y:List HS:=[.live (.box 156 [dU B,dI ((a:Nat):Int),dI e])]
abbrev Z1z:AV:=vB (decide (((m:Nat):Int)>(((B.length:Nat):Int)-((a:Nat):Int))))
abbrev Z20:List AV:=[pv 0 0,(Z1x m),aa,aa,dv (.int .u64 0),vB false,dv (.int .u64 ((V2 ((B.drop a).take k):Nat):Int)),vI ((k:Nat):Int),aa,aa,aa,aa,aa,aa,aa,aa,aa,aa,aa,(Z1z B a m)]
abbrev Z22:AV:=vI ((k+1:Nat):Int)
end
theorem X4b (B:List UInt8) (a:Nat) (e:Int) (m:Nat) (ha:a≤B.length) (hB:B.length≤140737488350000) (hm:m≤8):Holds Tryz.prog 136 ⟨[pv 0 0,vI ((m:Nat):Int)],[.box 156 [dU B,dI ((a:Nat):Int),dI e]],.tup [.one (.d (.val (.int .u64 ((rfN B a m:Nat):Int)))),.one (dB (decide (a+m≤B.length)))],[.live (.box 156 [dU B,dI ((a:Nat):Int),dI e])]⟩:=by
 refine Holds.of Tryz.func136 rfl (N:=42) Tryz.ntmps136 rfl fun w0 B0 S0 U0=>?_
 show T _ (Y2 42 1 w0 S0 U0 B0) ⟨[pv 0 0,(Z1x m)],(Z1y B a e)⟩ _ _
 refine sR [] (T.seq ?_)
 refine sD [[],[],[1],[1,2],[1,2,3],[1,2,3,4],[],[6],[6,7],[6,7,8],[1,2,3,4,5,6,7,8,9],[0,1,2,3,4,5,6,7,8,9,10]] [hR 10 rfl rfl (Yd (u1:=.int .i64 ((B.length:Nat):Int)) (u2:=.int .i64 ((a:Nat):Int)) (v:=.int .i64 (((B.length:Nat):Int)-((a:Nat):Int))) (Ug pc) (X3 rfl) trivial)] ?_
 by_cases hq1:((m:Nat):Int)>(((B.length:Nat):Int)-((a:Nat):Int))
 ·refine cT (dT hq1) (sR [] (T.ret (rT ?_)))
  exact eX [.t 4 (.one (.d (.val (.int .u64 0)))),.t 5 (.one (dB false))] ⟨⟨rfl,by kernel_rfl⟩,⟨⟨rfl,by kernel_rfl⟩,trivial⟩⟩ [0] (by have e1:(((rfN B a m:Nat):Int):Int)=0:=(by (simp only [rfN];rw [if_neg (by omega)];rfl));have e2:((decide (a+m≤B.length)):Bool)=false:=(by exact dF (by omega));have hE:=congr p4e e2;exact hE) (ix trivial)
 refine cF (dF hq1) (T.skip (nT (sR [] (T.seq (sR [] (T.block ?_))))))
 refine T.loop (ι:=Nat) (fun (k:Nat)=>⟨(Z20 B a m k),(Z1y B a e)⟩) (fun (k:Nat)=>(k≤m)) (fun (k:Nat)=>m-k) (0) (Nat.zero_le _) (fun _ _ hG=>Yv [0] (bm 20 524531) (t2:=[pv 0 0,(Z1x m),aa,aa,dv (.int .u64 0),vB false,dv (.int .u64 0),vI 0,aa,aa,aa,aa,aa,aa,aa,aa,aa,aa,aa,(Z1z B a m)]) (congrArg (fun (q1:Int)=>([pv 0 0,(Z1x m),aa,aa,dv (.int .u64 0),vB false,dv (.int .u64 q1),vI 0,aa,aa,aa,aa,aa,aa,aa,aa,aa,aa,aa,(Z1z B a m)]:List AV)) (by rfl)) rfl hG) ?_
 rintro k hk
 show T _ _ ⟨(Z20 B a m k),(Z1y B a e)⟩ _ _
 replace hk:k≤m:=hk
 have hk8:V2 ((B.drop a).take k)<18446744073709551616:=X1q (Nat.le_trans (List.length_take_le _ _) (by omega))
 refine T.seq (sR [] ?_)
 by_cases hq2:((k:Nat):Int)<((m:Nat):Int)
 ·have hk7:V2 ((B.drop a).take k)<72057594037927936:=Xe5 (Nat.le_trans (List.length_take_le _ _) (by omega));have hbt:=UInt8.toNat_lt (B.getD (a+k) 0)
  refine cT (dT hq2) (T.skip (nT (T.seq (T.block ?_))))
  refine xD [[],[0],[],[2],[2,3],[2,3,4],[],[6],[6,7],[6,7,8],[],[6,7,8,9,10],[2,3,4,5,6,7,8,9,10,11],[2,3,4,5,6,7,8,9,10,11,12],[2,3,4,5,6,7,8,9,10,11,12,13],[0,1,2,3,4,5,6,7,8,9,10,11,12,13,14],[0,1,2,3,4,5,6,7,8,9,10,11,12,13,14,15]] [hR 1 rfl rfl (Yd (u1:=.int .u64 ((V2 ((B.drop a).take k):Nat):Int)) (u2:=.int .u64 8) (v:=.int .u64 (((V2 ((B.drop a).take k))*2 ^ 8:Nat):Int)) (F3 (n:=8) rfl pw p3w) (X3 rfl) ⟨rfl,trivial⟩),hR 11 rfl rfl (Yd (u1:=.int .i64 ((a:Nat):Int)) (u2:=.int .i64 ((k:Nat):Int)) (v:=.int .i64 ((a+k:Nat):Int)) (Wb pc) (X3 rfl) trivial),hR 12 rfl rfl (We false false kU8 B (a+k) (k:=.i64) (i:=((a+k:Nat):Int)) Tryz.underlying25 Ji rfl rfl (by omega) (X3 rfl) trivial),hR 14 rfl rfl (Vb (u:=.int .u8 (((B.getD (a+k) 0).toNat:Nat):Int)) (v:=.int .u64 (((B.getD (a+k) 0).toNat:Nat):Int)) (H3 Tryz.underlying5 Tryz.underlying179 p3w) (X3 rfl) trivial),hR 15 rfl rfl (Yd (u1:=.int .u64 (((V2 ((B.drop a).take k))*2 ^ 8:Nat):Int)) (u2:=.int .u64 (((B.getD (a+k) 0).toNat:Nat):Int)) (v:=.int .u64 ((((V2 ((B.drop a).take k))*2 ^ 8) ||| (B.getD (a+k) 0).toNat:Nat):Int)) (b_orU (by omega) (by omega)) (X3 rfl) trivial)] pZ8 pZ8 pZ8 pZ8 pZ8 pZ8 ?_
  refine nB (nT (xK [hR 1 rfl rfl (Yd (u1:=.int .i64 ((k:Nat):Int)) (u2:=.int .i64 1) (v:=.int .i64 ((k+1:Nat):Int)) (Wb pc) (X3 rfl) ⟨rfl,trivial⟩)] ?_))
  refine nL (k+1) (show (k+1)≤m from (by omega)) (show (m-(k+1):Nat)<m-k from (by omega)) (fun _ _ hG=>Yv [0] (bm 20 524531) (t2:=[pv 0 0,(Z1x m),aa,aa,dv (.int .u64 0),vB false,dv (.int .u64 ((((V2 ((B.drop a).take k))*2 ^ 8) ||| (B.getD (a+k) 0).toNat:Nat):Int)),(Z22 k),aa,aa,aa,aa,aa,aa,aa,aa,aa,aa,aa,(Z1z B a m)]) (by have e1:(((V2 ((B.drop a).take (k+1)):Nat):Int):Int)=((((V2 ((B.drop a).take k))*2 ^ 8) ||| (B.getD (a+k) 0).toNat:Nat):Int):=(by (rw [Xgl (by omega)]));have hE:=congrArg (fun (q1:Int)=>([pv 0 0,(Z1x m),aa,aa,dv (.int .u64 0),vB false,dv (.int .u64 q1),(Z22 k),aa,aa,aa,aa,aa,aa,aa,aa,aa,aa,aa,(Z1z B a m)]:List AV)) e1;exact hE) rfl hG)
 refine cF (dF hq2) (T.exit (xT (xT (xH (nT (sR [] (T.ret ?_)))))))
 exact eX [.t 4 (.one (.d (.val (.int .u64 ((V2 ((B.drop a).take k):Nat):Int))))),.t 5 (.one (dB true))] ⟨⟨rfl,by kernel_rfl⟩,⟨⟨rfl,by kernel_rfl⟩,trivial⟩⟩ [0] (by have e1:(((rfN B a m:Nat):Int):Int)=((V2 ((B.drop a).take k):Nat):Int):=(by (have hke:k=m:=(by omega);subst hke;rw [Xbr (by omega)]));have e2:((decide (a+m≤B.length)):Bool)=true:=(by exact dT (by omega));have hE:=congr p4e e2;exact hE) (ix trivial)
theorem X8n (B:List UInt8) (a:Nat) (e:Int) (ha:a≤B.length) (hB:B.length≤140737488350000):Holds Tryz.prog 94 ⟨[pv 0 0],[.box 156 [dU B,dI ((a:Nat):Int),dI e]],vI (rdI (B.drop a) e),[.live (.box 156 [dU B,dI ((rfA B a e 8 0:Nat):Int),dI (rdE (B.drop a) e 8 0)])]⟩:=by
 refine Holds.of Tryz.func94 rfl (N:=29) Tryz.ntmps94 rfl fun w0 B0 S0 U0=>?_
 show T _ (Y2 29 1 w0 S0 U0 B0) ⟨[pv 0 0],[.live (.box 156 [dU B,dI ((a:Nat):Int),dI e])]⟩ _ _
 have hn8:=rfN_lt B a (m:=8) (by decide)
 refine sR [] (T.seq (sR [] ?_))
 by_cases hq1:e≠0
 ·have hr:=rf_e (B:=B) (a:=a) hq1 8 0
  refine cT (dT hq1) (sR [] (T.ret (rT ?_)))
  exact eRt 2 (.one (dI 0)) [0] p3x ⟨⟨rfl,(by have e1:(((a:Nat):Int):Int)=((rfA B a e 8 0:Nat):Int):=p4y;have e2:(e:Int)=(rdE (B.drop a) e 8 0):=p59;have hE:=congr p2d e2;exact Eq.trans pZ8 hE)⟩,trivial⟩
 refine cF (dF hq1) (T.skip (nT (sR [hR 1 rfl rfl (rCa (X4b B a e 8 ‹_› ‹_› (by omega)) Tryz.func136 [0] [(.tmp 11,pv 0 0),(.const (.int .i64 8),vI 8)] 1 1)] (T.seq (sR [] ?_)))))
 by_cases hq2:a+8≤B.length
 ·have hr:=rf_ok (n:=8) (k:=8) (m:=0) rfl ‹_› hq2 rfl
  refine cF (cn (dT hq2)) (T.skip (nT (sR [hR 4 rfl rfl (Yd (u1:=.int .i64 ((a:Nat):Int)) (u2:=.int .i64 8) (v:=.int .i64 ((a+8:Nat):Int)) (Wb pc) (X3 rfl) ⟨rfl,trivial⟩)] (sR [hR 1 rfl rfl (Vb (u:=.int .u64 ((rfN B a 8:Nat):Int)) (v:=.int .i64 (X0y (rfN B a 8))) (c_i64 ‹_› Tryz.underlying179 Tryz.underlying2) (X3 rfl) trivial)] (T.ret ?_)))))
  exact eRt 2 (.one (dI (X0y (rfN B a 8)))) [0] (by have e1:(rdI (B.drop a) e:Int)=X0y (rfN B a 8):=(by (simp only [rdI];(rw [if_pos hr.1,← Xbr ‹_›];done)));have hE:=cI e1;exact hE) ⟨⟨rfl,(by have e1:(((a+8:Nat):Int):Int)=((rfA B a e 8 0:Nat):Int):=(by (rw [X8b hr.1];rfl));have e2:(e:Int)=(rdE (B.drop a) e 8 0):=(by (rw [hr.2];omega));have hE:=congr p2d e2;exact Eq.trans pZ8 hE)⟩,trivial⟩
 have hr:=Xdj (n:=8) (k:=8) rfl ‹_› hq2 ha 0
 refine cT (cn (dF hq2)) (sR [] (sR [] (T.ret (rT ?_))))
 exact eRt 2 (.one (dI 0)) [0] p3x ⟨⟨rfl,(by have e1:(((a:Nat):Int):Int)=((rfA B a e 8 0:Nat):Int):=p4y;have e2:(10:Int)=(rdE (B.drop a) e 8 0):=p59;have hE:=congr p2d e2;exact Eq.trans pZ8 hE)⟩,trivial⟩
abbrev Z24 (B:List UInt8):SV:=dU B
abbrev Z25:TV:=.one (dI 0)
theorem X4a (B:List UInt8) (a:Nat) (e:Int) (most:Int) (ha:a≤B.length) (hB:B.length≤140737488350000):Holds Tryz.prog 137 ⟨[pv 0 0,vI most],[.box 156 [dU B,dI ((a:Nat):Int),dI e]],vI ((rdC (B.drop a) e most:Nat):Int),[.live (.box 156 [dU B,dI ((rfA B a e 4 (Yw most ((B.drop a).take 4)):Nat):Int),dI (rdE (B.drop a) e 4 (Yw most ((B.drop a).take 4)))])]⟩:=by
 refine Holds.of Tryz.func137 rfl (N:=39) Tryz.ntmps137 rfl fun w0 B0 S0 U0=>?_
 show T _ (Y2 39 1 w0 S0 U0 B0) ⟨[pv 0 0,vI most],[.live (.box 156 [(Z24 B),dI ((a:Nat):Int),dI e])]⟩ _ _
 have hn4:=rfN_lt4 B a
 refine sR [] (T.seq (sR [] ?_))
 by_cases hq1:e≠0
 ·have hr:=rf_e (B:=B) (a:=a) hq1 4 (Yw most ((B.drop a).take 4))
  refine cT (dT hq1) (sR [] (T.ret (rT ?_)))
  exact eRt 4 (Z25) [0] pZ28 ⟨⟨rfl,(by have e1:(((a:Nat):Int):Int)=((rfA B a e 4 (Yw most ((B.drop a).take 4)):Nat):Int):=p4y;have e2:(e:Int)=(rdE (B.drop a) e 4 (Yw most ((B.drop a).take 4))):=p59;have hE:=congr p2c e2;exact Eq.trans pZ8 hE)⟩,trivial⟩
 refine cF (dF hq1) (T.skip (nT (sR [hR 1 rfl rfl (rCa (X4b B a e 4 ‹_› ‹_› (by omega)) Tryz.func136 [0] [(.tmp 13,pv 0 0),(.const (.int .i64 4),vI 4)] 1 1)] (T.seq (sR [] ?_)))))
 by_cases hq2:a+4≤B.length
 ·refine cF (cn (dT hq2)) (T.skip (nT (T.seq (sR [hR 1 rfl rfl (Vb (u:=.int .u64 ((rfN B a 4:Nat):Int)) (v:=.int .i64 ((rfN B a 4:Nat):Int)) (H3 Tryz.underlying179 Tryz.underlying3 pc) (X3 rfl) trivial),hR 3 rfl rfl (X1m (k:=.i64) (a:=0) (b:=most) (X3 rfl) ⟨rfl,trivial⟩)] ?_))))
  by_cases hq3:((rfN B a 4:Nat):Int)>(max 0 most)
  ·have hr:=rf_m (n:=4) (k:=4) (c:=11) (m:=(Yw most ((B.drop a).take 4))) rfl ‹_› ‹_› (by rw [lim_of ‹_›,if_pos ‹_›]) (by decide)
   refine cT (dT hq3) (sR [] (sR [] (T.ret (rT ?_))))
   exact eRt 4 (Z25) [0] pZ28 ⟨⟨rfl,(by have e1:(((a:Nat):Int):Int)=((rfA B a e 4 (Yw most ((B.drop a).take 4)):Nat):Int):=p4y;have e2:(11:Int)=(rdE (B.drop a) e 4 (Yw most ((B.drop a).take 4))):=p59;have hE:=congr p2c e2;exact Eq.trans pZ8 hE)⟩,trivial⟩
  have hr:=rf_ok (n:=4) (k:=4) (m:=(Yw most ((B.drop a).take 4))) rfl ‹_› ‹_› (by rw [lim_of ‹_›,if_neg ‹_›])
  refine cF (dF hq3) (T.skip (nT (sR [hR 4 rfl rfl (Yd (u1:=.int .i64 ((a:Nat):Int)) (u2:=.int .i64 4) (v:=.int .i64 ((a+4:Nat):Int)) (Wb pc) (X3 rfl) ⟨rfl,trivial⟩)] (sR [hR 1 rfl rfl (Vb (u:=.int .u64 ((rfN B a 4:Nat):Int)) (v:=.int .i64 ((rfN B a 4:Nat):Int)) (H3 Tryz.underlying179 Tryz.underlying3 pc) (X3 rfl) trivial)] (T.ret ?_)))))
  exact eRt 4 (.one (dI ((rfN B a 4:Nat):Int))) [0] (by have e1:(((rdC (B.drop a) e most:Nat):Int):Int)=((rfN B a 4:Nat):Int):=(by (simp only [rdC];(rw [if_pos hr.1,← Xbr ‹_›];done)));have hE:=cI e1;exact hE) ⟨⟨rfl,(by have e1:(((a+4:Nat):Int):Int)=((rfA B a e 4 (Yw most ((B.drop a).take 4)):Nat):Int):=(by (rw [X8b hr.1];rfl));have e2:(e:Int)=(rdE (B.drop a) e 4 (Yw most ((B.drop a).take 4))):=(by (rw [hr.2];omega));have hE:=congr p2c e2;exact Eq.trans pZ8 hE)⟩,trivial⟩
 have hr:=Xdj (n:=4) (k:=4) rfl ‹_› hq2 ha (Yw most ((B.drop a).take 4))
 refine cT (cn (dF hq2)) (sR [] (sR [] (T.ret (rT ?_))))
 exact eRt 4 (Z25) [0] pZ28 ⟨⟨rfl,(by have e1:(((a:Nat):Int):Int)=((rfA B a e 4 (Yw most ((B.drop a).take 4)):Nat):Int):=p4y;have e2:(10:Int)=(rdE (B.drop a) e 4 (Yw most ((B.drop a).take 4))):=p59;have hE:=congr p2c e2;exact Eq.trans pZ8 hE)⟩,trivial⟩
abbrev Z26 (a:Nat):SV:=dI ((a:Nat):Int)
theorem X8o (B:List UInt8) (a:Nat) (e:Int) (ha:a≤B.length) (hB:B.length≤140737488350000):Holds Tryz.prog 96 ⟨[pv 0 0],[.box 156 [dU B,dI ((a:Nat):Int),dI e]],.tup [],[.live (.box 156 [dU B,dI ((a:Nat):Int),dI (rdX (B.drop a) e)])]⟩:=by
 refine Holds.of Tryz.func96 rfl (N:=22) Tryz.ntmps96 rfl fun w0 B0 S0 U0=>?_
 show T _ (Y2 22 1 w0 S0 U0 B0) ⟨[pv 0 0],[.live (.box 156 [dU B,(Z26 a),dI e])]⟩ _ _
 by_cases hq1:e=0
 ·refine sD [[],[0],[0,1],[0,1,2],[0,1,2,3],[0,1,2,3,4],[0,1,2,3,4,5],[0,1,2,3,4,5,6],[0,1,2,3,4,5,6,7],[0,1,2,3,4,5,6,7,8],[0,1,2,3,4,5],[0,1,2,3,4,5,10],[0,1,2,3,4,5,10,11],[0,1,2,3,4,5,10,11,12],[0,1,2,3,4,5,10,11,12,13],[0,1,2,3,4,5,6,7,8,9,10,11,12,13,14],[0,1,2,3,4,5,6,7,8,9,10,11,12,13,14,15]] (Xm (hY · (dT hq1)) [6,7,8,9,10,11,12,13,14,15] (hP 16 (dT hq1)::[])) ?_
  by_cases hq2:((a:Nat):Int)<((B.length:Nat):Int)
  ·refine cT (dT hq2) (xK [] ?_)
   exact tE (.inr rfl) [] trivial [0] rfl rfl rfl rfl rfl rfl ⟨⟨rfl,(by have e1:(13:Int)=(rdX (B.drop a) e):=(by (simp only [rdX,List.length_drop];rw [if_pos ⟨by assumption,by omega⟩]));have hE:=congrArg (fun (q1:Int)=>(.live (.box 156 [dU B,(Z26 a),dI q1]):HS)) e1;exact Eq.trans pZ8 hE)⟩,trivial⟩
  refine cF (dF hq2) (T.skip ?_)
  exact tE (.inr rfl) [] trivial [0] rfl rfl rfl rfl rfl rfl ⟨⟨rfl,(by have e1:(e:Int)=(rdX (B.drop a) e):=(by (simp only [rdX,List.length_drop];rw [if_neg (fun h=>by (have:=h.2;omega))]));have hE:=congrArg (fun (q1:Int)=>(.live (.box 156 [dU B,(Z26 a),dI q1]):HS)) e1;exact Eq.trans pZ8 hE)⟩,trivial⟩
 refine sD [[],[0],[0,1],[0,1,2],[0,1,2,3],[0,1,2,3,4],[0,1,2,3,4,5],[0,1,2,3,4,5,6],[0,1,2,3,4,5,6,7],[0,1,2,3,4,5,6,7,8],[0,1,2,3,4,5],[0,1,2,3,4,5,10],[0,1,2,3,4,5,10,11],[0,1,2,3,4,5,10,11,12],[0,1,2,3,4,5,10,11,12,13],[0,1,2,3,4,5,6,7,8,9,10,11,12,13,14],[0,1,2,3,4,5,6,7,8,9,10,11,12,13,14,15]] (Xm (hN · true (dF hq1)) [6,7,8,9,10,11,12,13,14,15] (hP 16 (dF hq1)::[])) (cF (b:=false) rfl (T.skip ?_))
 exact tE (.inr rfl) [] trivial [0] rfl rfl rfl rfl rfl rfl ⟨⟨rfl,(by have e1:(e:Int)=(rdX (B.drop a) e):=(by (simp only [rdX,List.length_drop];rw [if_neg (fun h=>by exact absurd h.1 ‹_›)]));have hE:=congrArg (fun (q1:Int)=>(.live (.box 156 [dU B,(Z26 a),dI q1]):HS)) e1;exact Eq.trans pZ8 hE)⟩,trivial⟩
section
variable (B:List UInt8) (a:Nat) (e:Int) (most:Int)
abbrev Z27:SV:=dU B
abbrev Z28:AV:=vI ((a:Nat):Int)
abbrev Z29:AV:=vI ((rdC (B.drop a) e most:Nat):Int)
abbrev Z2a:AV:=vB (decide (((rdC (B.drop a) e most:Nat):Int)>(((B.length:Nat):Int)-((rfA B a e 4 (Yw most ((B.drop a).take 4)):Nat):Int))))
abbrev Z2b:AV:=vB (decide ((rdE (B.drop a) e 4 (Yw most ((B.drop a).take 4)))≠0))
abbrev Z2c:HS:=.live (.box 156 [(Z27 B),dI ((rfA B a e 4 (Yw most ((B.drop a).take 4)):Nat):Int),dI (rdE (B.drop a) e 4 (Yw most ((B.drop a).take 4)))])
abbrev Z2d:=(rfA B a e 4 (Yw most ((B.drop a).take 4)))
end
theorem X08 (B:List UInt8) (a:Nat) (e:Int) (most:Int) (ha:a≤B.length) (hB:B.length≤140737488350000):Holds Tryz.prog 95 ⟨[pv 0 0,vI most],[.box 156 [dU B,dI ((a:Nat):Int),dI e]],Y8 1 kU8 0 (rdY (B.drop a) e most).length,[.live (.box 156 [dU B,dI ((H8 B a e most:Nat):Int),dI (V3 (B.drop a) e most)]),.live (Xf 5 kU8 (rdY (B.drop a) e most))]⟩:=by
 refine Holds.of Tryz.func95 rfl (N:=72) Tryz.ntmps95 rfl fun w0 B0 S0 U0=>?_
 show T _ (Y2 72 1 w0 S0 U0 B0) ⟨[pv 0 0,vI most],[.live (.box 156 [(Z27 B),dI ((a:Nat):Int),dI e])]⟩ _ _
 have hrc:=rdC_lt (B.drop a) e most
 have hra:=Xg1 (B:=B) (a:=a) (e:=e) (n:=4) (m:=(Yw most ((B.drop a).take 4))) ha
 refine sR [] (sR [] (sR [hR 2 rfl rfl (rCa (X4a B a e most ‹_› ‹_›) Tryz.func137 [0] [(.tmp 12,pv 0 0),(.tmp 13,vI most)] 1 1)] (T.seq ?_)))
 by_cases hq1:(rdE (B.drop a) e 4 (Yw most ((B.drop a).take 4)))=0
 ·refine sD [[],[0],[0,1],[0,1,2],[0,1,2,3],[0,1,2,3,4],[0,1,2,3,4,5],[0,1,2,3,4,5],[0,1,2,3,4,5,7],[0,1,2,3,4,5,7,8],[0,1,2,3,4,5,7,8,9],[0,1,2,3,4,5,7,8,9,10],[0,1,2,3,4,5],[0,1,2,3,4,5,12],[0,1,2,3,4,5,12,13],[0,1,2,3,4,5,12,13,14],[0,1,2,3,4,5,7,8,9,10,11,12,13,14,15],[0,1,2,3,4,5,6,7,8,9,10,11,12,13,14,15,16],[0,1,2,3,4,5,6,7,8,9,10,11,12,13,14,15,16,17]] (Xm (hY · (dT hq1)) [6,7,8,9,10,11,12,13,14,15] (hS 16 (oY rfl rfl rfl rfl (X3 rfl) (dT hq1) (Yd (u1:=.int .i64 ((B.length:Nat):Int)) (u2:=.int .i64 ((rfA B a e 4 (Yw most ((B.drop a).take 4)):Nat):Int)) (v:=.int .i64 (((B.length:Nat):Int)-((rfA B a e 4 (Yw most ((B.drop a).take 4)):Nat):Int))) (Ug pc) (X3 rfl) p1s))::(hY 17 (dT hq1)::(hP 18 (dT hq1)::[])))) ?_
  by_cases hq2:((rdC (B.drop a) e most:Nat):Int)>(((B.length:Nat):Int)-((rfA B a e 4 (Yw most ((B.drop a).take 4)):Nat):Int))
  ·have hy:=Xjh ‹_› hq2 ha
   refine cT (dT hq2) (sR [] (xK [] (nT (T.seq (sR [] (cT (b:=true) rfl (sR [] (T.ret (rT ?_)))))))))
   refine eN ⟨[pv 0 0,vI most,aa,aa,dv (.slice none 0 0),(Z28 a),(Z29 B a e most),aa,aa,aa,aa,aa,aa,aa,aa,aa,aa,aa,aa,aa,aa,aa,aa,aa,aa,aa,aa,aa,aa,aa,aa,aa,aa,(Z2a B a e most),aa,aa,aa,aa,aa,aa,aa,aa,aa,aa,aa,vB true],[.live (.box 156 [(Z27 B),dI ((a:Nat):Int),dI 10])]⟩ ?_
   refine X7 (s':=⟨[pv 0 0,vI most,aa,aa,Y8 1 kU8 0 0,(Z28 a),(Z29 B a e most),aa,aa,aa,aa,aa,aa,aa,aa,aa,aa,aa,aa,aa,aa,aa,aa,aa,aa,aa,aa,aa,aa,aa,aa,aa,aa,(Z2a B a e most),aa,aa,aa,aa,aa,aa,aa,aa,aa,aa,aa,vB true],[.live (.box 156 [(Z27 B),dI ((a:Nat):Int),dI 10]),.live (Xf 5 kU8 ([]:List UInt8))]⟩) (fun _ _ hG=>U5 1 4 5 kU8 rfl rfl hG) ?_
   exact eRt 4 (.one (.own 1 kU8.sz 0 0)) [0,1] p3k ⟨⟨rfl,(by have e1:(((a:Nat):Int):Int)=((H8 B a e most:Nat):Int):=(by omega);have e2:(10:Int)=(V3 (B.drop a) e most):=(by omega);have hE:=congr (congrArg (fun (q1:Int) (q2:Int)=>(.live (.box 156 [(Z27 B),dI q1,dI q2]):HS)) e1) e2;exact Eq.trans pZ8 hE)⟩,⟨⟨rfl,p32⟩,trivial⟩⟩
  have hy:=rfY_ok ‹_› hq2 ha
  refine cF (dF hq2) (T.skip (nT (T.seq (sR [] ?_))))
  by_cases hq3:(rdE (B.drop a) e 4 (Yw most ((B.drop a).take 4)))≠0
  ·refine cT (dT hq3) (sR [] (T.ret (rT ?_)))
   refine eN ⟨[pv 0 0,vI most,aa,aa,dv (.slice none 0 0),(Z28 a),(Z29 B a e most),aa,aa,aa,aa,aa,aa,aa,aa,aa,aa,aa,aa,aa,aa,aa,aa,aa,aa,aa,aa,aa,aa,aa,aa,aa,aa,(Z2a B a e most),aa,aa,aa,aa,aa,aa,aa,aa,aa,aa,aa,(Z2b B a e most)],[(Z2c B a e most)]⟩ ?_
   refine X7 (s':=⟨[pv 0 0,vI most,aa,aa,Y8 1 kU8 0 0,(Z28 a),(Z29 B a e most),aa,aa,aa,aa,aa,aa,aa,aa,aa,aa,aa,aa,aa,aa,aa,aa,aa,aa,aa,aa,aa,aa,aa,aa,aa,aa,(Z2a B a e most),aa,aa,aa,aa,aa,aa,aa,aa,aa,aa,aa,(Z2b B a e most)],[(Z2c B a e most),.live (Xf 5 kU8 ([]:List UInt8))]⟩) (fun _ _ hG=>U5 1 4 5 kU8 rfl rfl hG) ?_
   exact eRt 4 (.one (.own 1 kU8.sz 0 0)) [0,1] (congrArg (fun (q1:Nat)=>(Y8 1 kU8 0 q1:AV)) (show ((rdY (B.drop a) e most).length:Nat)=0 from (by omega))) ⟨⟨rfl,p1m⟩,⟨⟨rfl,(by have e1:(([]:List UInt8):List UInt8)=(rdY (B.drop a) e most):=(by omega);have hE:=congrArg (fun (q1:List UInt8)=>(.live (Xf 5 kU8 q1):HS)) e1;exact Eq.trans pZ8 hE)⟩,trivial⟩⟩
  refine cF (dF hq3) (T.skip (nT ?_))
  refine sD [[],[],[1],[1,2],[1,2,3],[],[5],[5,6],[5,6,7],[],[9],[9,10],[9,10,11],[],[9,10,11,12,13],[1,2,3,4,5,6,7,8,9,10,11,12,13,14],[0,1,2,3,4,5,6,7,8,9,10,11,12,13,14,15],[0,1,2,3,4,5,6,7,8,9,10,11,12,13,14,15,16]] [hR 0 rfl rfl (Yc 1 5 kU8 Vu ([]:List UInt8) [] (cs:=[]) Tryz.underlying25 Ji rfl Im rfl rfl rfl pd W5 pZ8 (V4 pZ8) (X3 rfl) trivial),hR 14 rfl rfl (Yd (u1:=.int .i64 ((rfA B a e 4 (Yw most ((B.drop a).take 4)):Nat):Int)) (u2:=.int .i64 ((rdC (B.drop a) e most:Nat):Int)) (v:=.int .i64 (((rfA B a e 4 (Yw most ((B.drop a).take 4)))+(rdC (B.drop a) e most):Nat):Int)) (Wb pc) (X3 rfl) trivial),hR 15 rfl rfl (U7 false false kU8 B ((B.take ((rfA B a e 4 (Yw most ((B.drop a).take 4)))+(rdC (B.drop a) e most))).drop (rfA B a e 4 (Yw most ((B.drop a).take 4)))) (rfA B a e 4 (Yw most ((B.drop a).take 4))) ((rfA B a e 4 (Yw most ((B.drop a).take 4)))+(rdC (B.drop a) e most)) (lo:=some (.tmp 54,((rfA B a e 4 (Yw most ((B.drop a).take 4)):Nat):Int))) (hi:=some (.tmp 60,(((rfA B a e 4 (Yw most ((B.drop a).take 4)))+(rdC (B.drop a) e most):Nat):Int))) Tryz.underlying25 Ji rfl rfl rfl rfl rfl (by omega) (by omega) rfl (X3 rfl) trivial),hR 16 rfl rfl (W2 1 2 5 1 kU8 Vu ([]:List UInt8) ((B.take ((rfA B a e 4 (Yw most ((B.drop a).take 4)))+(rdC (B.drop a) e most))).drop (rfA B a e 4 (Yw most ((B.drop a).take 4)))) ((B.take ((rfA B a e 4 (Yw most ((B.drop a).take 4)))+(rdC (B.drop a) e most))).drop (rfA B a e 4 (Yw most ((B.drop a).take 4)))) ([]:List UInt8).length (sy:=(dU ((B.take ((Z2d B a e most)+(rdC (B.drop a) e most))).drop (Z2d B a e most)))) (rhs:=[]) Jb (by omega) (Jf false false kU8 ((B.take ((rfA B a e 4 (Yw most ((B.drop a).take 4)))+(rdC (B.drop a) e most))).drop (rfA B a e 4 (Yw most ((B.drop a).take 4))))) (by simp) (by (simp [maxLen,-List.getD_eq_getElem?_getD]<;>omega)) (by (simp [maxLen,-List.getD_eq_getElem?_getD]<;>omega)) (X3 rfl) trivial)] ?_
  refine sR [hR 5 rfl rfl (Yd (u1:=.int .i64 ((rfA B a e 4 (Yw most ((B.drop a).take 4)):Nat):Int)) (u2:=.int .i64 ((rdC (B.drop a) e most:Nat):Int)) (v:=.int .i64 (((rfA B a e 4 (Yw most ((B.drop a).take 4)))+(rdC (B.drop a) e most):Nat):Int)) (Wb pc) (X3 rfl) trivial)] (sR [] (T.ret ?_))
  exact eRt 4 (.one (.own 2 kU8.sz 0 ((B.take ((Z2d B a e most)+(rdC (B.drop a) e most))).drop (Z2d B a e most)).length)) [0,2] (by have e1:((rdY (B.drop a) e most).length:Nat)=((B.take ((rfA B a e 4 (Yw most ((B.drop a).take 4)))+(rdC (B.drop a) e most))).drop (rfA B a e 4 (Yw most ((B.drop a).take 4)))).length:=(by (rw [hy.2.2.2.1,hy.1,hy.2.1];done));have hE:=congrArg (fun (q1:Nat)=>(Y8 2 kU8 0 q1:AV)) e1;exact hE) ⟨⟨rfl,p1i⟩,⟨⟨rfl,(by have e1:(((B.take ((rfA B a e 4 (Yw most ((B.drop a).take 4)))+(rdC (B.drop a) e most))).drop (rfA B a e 4 (Yw most ((B.drop a).take 4)))):List UInt8)=(rdY (B.drop a) e most):=(by (rw [hy.2.2.2.1,hy.1,hy.2.1];done));have hE:=congrArg (fun (q1:List UInt8)=>(.live (Xf 5 kU8 q1):HS)) e1;exact Eq.trans pZ8 hE)⟩,trivial⟩⟩
 have hy:=rfY_fail hq1
 refine sD [[],[0],[0,1],[0,1,2],[0,1,2,3],[0,1,2,3,4],[0,1,2,3,4,5],[0,1,2,3,4,5],[0,1,2,3,4,5,7],[0,1,2,3,4,5,7,8],[0,1,2,3,4,5,7,8,9],[0,1,2,3,4,5,7,8,9,10],[0,1,2,3,4,5],[0,1,2,3,4,5,12],[0,1,2,3,4,5,12,13],[0,1,2,3,4,5,12,13,14],[0,1,2,3,4,5,7,8,9,10,11,12,13,14,15],[0,1,2,3,4,5,6,7,8,9,10,11,12,13,14,15,16],[0,1,2,3,4,5,6,7,8,9,10,11,12,13,14,15,16,17]] (Xm (hN · true (dF hq1)) [6,7,8,9,10,11,12,13,14,15,16,17] (hP 18 (dF hq1)::[])) (cF (b:=false) rfl (T.skip (nT (T.seq (sR [] ?_)))))
 by_cases hq4:(rdE (B.drop a) e 4 (Yw most ((B.drop a).take 4)))≠0
 ·refine cT (dT hq4) (sR [] (T.ret (rT ?_)))
  refine eN ⟨[pv 0 0,vI most,aa,aa,dv (.slice none 0 0),(Z28 a),(Z29 B a e most),aa,aa,aa,aa,aa,aa,aa,aa,aa,aa,aa,aa,aa,aa,aa,aa,aa,aa,aa,aa,aa,aa,aa,aa,aa,aa,vB false,aa,aa,aa,aa,aa,aa,aa,aa,aa,aa,aa,(Z2b B a e most)],[(Z2c B a e most)]⟩ ?_
  refine X7 (s':=⟨[pv 0 0,vI most,aa,aa,Y8 1 kU8 0 0,(Z28 a),(Z29 B a e most),aa,aa,aa,aa,aa,aa,aa,aa,aa,aa,aa,aa,aa,aa,aa,aa,aa,aa,aa,aa,aa,aa,aa,aa,aa,aa,vB false,aa,aa,aa,aa,aa,aa,aa,aa,aa,aa,aa,(Z2b B a e most)],[(Z2c B a e most),.live (Xf 5 kU8 ([]:List UInt8))]⟩) (fun _ _ hG=>U5 1 4 5 kU8 rfl rfl hG) ?_
  exact eRt 4 (.one (.own 1 kU8.sz 0 0)) [0,1] p3k ⟨⟨rfl,p1m⟩,⟨⟨rfl,p32⟩,trivial⟩⟩
 refine cF (dF hq4) (T.skip (nT ?_))
 refine sD [[],[],[1],[1,2],[1,2,3],[],[5],[5,6],[5,6,7],[],[9],[9,10],[9,10,11],[],[9,10,11,12,13],[1,2,3,4,5,6,7,8,9,10,11,12,13,14],[0,1,2,3,4,5,6,7,8,9,10,11,12,13,14,15],[0,1,2,3,4,5,6,7,8,9,10,11,12,13,14,15,16]] [hR 0 rfl rfl (Yc 1 5 kU8 Vu ([]:List UInt8) [] (cs:=[]) Tryz.underlying25 Ji rfl Im rfl rfl rfl pd W5 pZ8 (V4 pZ8) (X3 rfl) trivial),hR 14 rfl rfl (Yd (u1:=.int .i64 ((rfA B a e 4 (Yw most ((B.drop a).take 4)):Nat):Int)) (u2:=.int .i64 ((rdC (B.drop a) e most:Nat):Int)) (v:=.int .i64 (((rfA B a e 4 (Yw most ((B.drop a).take 4)))+(rdC (B.drop a) e most):Nat):Int)) (Wb pc) (X3 rfl) trivial),hR 15 rfl rfl (U7 false false kU8 B ((B.take ((rfA B a e 4 (Yw most ((B.drop a).take 4)))+(rdC (B.drop a) e most))).drop (rfA B a e 4 (Yw most ((B.drop a).take 4)))) (rfA B a e 4 (Yw most ((B.drop a).take 4))) ((rfA B a e 4 (Yw most ((B.drop a).take 4)))+(rdC (B.drop a) e most)) (lo:=some (.tmp 54,((rfA B a e 4 (Yw most ((B.drop a).take 4)):Nat):Int))) (hi:=some (.tmp 60,(((rfA B a e 4 (Yw most ((B.drop a).take 4)))+(rdC (B.drop a) e most):Nat):Int))) Tryz.underlying25 Ji rfl rfl rfl rfl rfl (by omega) (by omega) rfl (X3 rfl) trivial),hR 16 rfl rfl (W2 1 2 5 1 kU8 Vu ([]:List UInt8) ((B.take ((rfA B a e 4 (Yw most ((B.drop a).take 4)))+(rdC (B.drop a) e most))).drop (rfA B a e 4 (Yw most ((B.drop a).take 4)))) ((B.take ((rfA B a e 4 (Yw most ((B.drop a).take 4)))+(rdC (B.drop a) e most))).drop (rfA B a e 4 (Yw most ((B.drop a).take 4)))) ([]:List UInt8).length (sy:=(dU ((B.take ((Z2d B a e most)+(rdC (B.drop a) e most))).drop (Z2d B a e most)))) (rhs:=[]) Jb (by omega) (Jf false false kU8 ((B.take ((rfA B a e 4 (Yw most ((B.drop a).take 4)))+(rdC (B.drop a) e most))).drop (rfA B a e 4 (Yw most ((B.drop a).take 4))))) (by simp) (by omega) (by omega) (X3 rfl) trivial)] ?_
 refine sR [hR 5 rfl rfl (Yd (u1:=.int .i64 ((rfA B a e 4 (Yw most ((B.drop a).take 4)):Nat):Int)) (u2:=.int .i64 ((rdC (B.drop a) e most:Nat):Int)) (v:=.int .i64 (((rfA B a e 4 (Yw most ((B.drop a).take 4)))+(rdC (B.drop a) e most):Nat):Int)) (Wb pc) (X3 rfl) trivial)] (sR [] (T.ret ?_))
 exact eRt 4 (.one (.own 2 kU8.sz 0 ((B.take ((Z2d B a e most)+(rdC (B.drop a) e most))).drop (Z2d B a e most)).length)) [0,2] (congrArg (fun (q1:Nat)=>(Y8 2 kU8 0 q1:AV)) (show ((rdY (B.drop a) e most).length:Nat)=((B.take ((rfA B a e 4 (Yw most ((B.drop a).take 4)))+(rdC (B.drop a) e most))).drop (rfA B a e 4 (Yw most ((B.drop a).take 4)))).length from (by omega))) ⟨⟨rfl,p1i⟩,⟨⟨rfl,(by have e1:(((B.take ((rfA B a e 4 (Yw most ((B.drop a).take 4)))+(rdC (B.drop a) e most))).drop (rfA B a e 4 (Yw most ((B.drop a).take 4)))):List UInt8)=(rdY (B.drop a) e most):=(by omega);have hE:=congrArg (fun (q1:List UInt8)=>(.live (Xf 5 kU8 q1):HS)) e1;exact Eq.trans pZ8 hE)⟩,trivial⟩⟩
end Go.Proofs.YtnaopgohccacmaaGreat.Q
