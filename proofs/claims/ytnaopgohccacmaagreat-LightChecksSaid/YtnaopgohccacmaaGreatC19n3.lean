import Derived.Test.YtnaopgohccacmaaGreatC19n2
import Derived.Shelf.Sort.Plain
import Derived.Shelf.Slices.In.SortNone
namespace Go.Proofs.YtnaopgohccacmaaGreat.Q
open Go Go.RowKit
set_option linter.unusedVariables false
set_option linter.unusedSimpArgs false
set_option maxRecDepth 100000
set_option maxHeartbeats 4000000
section
variable (f:Int) (u:Int) (rows:List (Yn×Bool)) (s:Int) (tb:Bool) (nb:Bool) (b:List UInt8)
abbrev Z4:HS:=.live (.box 130 [dI (3*f+1),dI u,.mref 1])
abbrev Z5:HS:=.live (mpK Y0 Yc rows)
abbrev Z6:List AV:=[pv 0 0,vI s,slV tb nb kU8 b,aa,aa,aa,pv 2 0,vI 11,vB (!(decide (Um f u s))),aa,aa,aa,aa,aa,vB (decide (((b.length:Nat):Int)>16777216))]
abbrev Z7:HS:=.live (.box 43 [dI 0,.d (.val (.slice none 0 0))])
abbrev Z8:SV:=dU ([]:List UInt8)
abbrev Z9:List SV:=[dI 0,Z8]
abbrev Za:List AV:=[pv 0 0,vI s,slV tb nb kU8 b,aa,aa,aa,pv 2 0,vI 0,vB (!(decide (Um f u s))),aa,aa,aa,aa,aa,vB (decide (((b.length:Nat):Int)>16777216))]
abbrev Zb:List AV:=[pv 0 0,vI s,slV tb nb kU8 b,aa,aa,aa,pv 2 0,vI 30,vB (!(decide (Um f u s)))]
end
theorem Xh2 (f:Int) (u:Int) (rows:List (Yn×Bool)) (s:Int) (tb:Bool) (nb:Bool) (b:List UInt8) (hf:0≤f∧f≤2) (hu:0≤u∧u≤8) (hs:-9223372036854775808≤s∧s≤9223372036854775807) (hb:b.length≤140737488355328):Holds Tryz.prog 26 ⟨[pv 0 0,vI s,slV tb nb kU8 b],[.box 130 [dI (3*f+1),dI u,.mref 1],mpK Y0 Yc rows],.tup [.agg [dI (Hh f u s b).X4,dU (Hh f u s b).Xf],.one (dI (Et f u s b))],[.live (.box 130 [dI (3*f+1),dI u,.mref 1]),.live (mpK Y0 Yc (X6m f u rows s b))]⟩:=by
 refine Holds.of Tryz.func26 rfl (N:=31) Tryz.ntmps26 rfl fun w0 B0 S0 U0=>?_
 show T _ (Y2 31 2 w0 S0 U0 B0) ⟨[pv 0 0,vI s,slV tb nb kU8 b],[(Z4 f u),(Z5 rows)]⟩ _ _
 refine sR [] ?_
 refine T.seq ?_
 refine T.block ?_
 refine sR [hR 2 rfl rfl (rCa (X75 f u rows s ‹_› ‹_› ‹_›) Tryz.func68 [0,1] [(.tmp 9,pv 0 0),(.tmp 10,vI s)] 2 2)] ?_
 by_cases hq1:Um f u s
 ·refine cF (cn (dT hq1)) ?_
  refine sR [] ?_
  by_cases hq2:((b.length:Nat):Int)>16777216
  ·refine cT (dT hq2) ?_
   refine sR [] ?_
   refine T.ret (rB (rT ?_))
   refine eN ⟨(Z6 f u s tb nb b),[(Z4 f u),(Z5 rows),Z7]⟩ ?_
   refine Xc (s':=⟨(Z6 f u s tb nb b),[(Z4 f u),(Z5 rows),.live (.box 43 Z9)]⟩) (fun _ _ hG=>Ys (s:=⟨(Z6 f u s tb nb b),[(Z4 f u),(Z5 rows),Z7]⟩) ⟨.inl rfl,(kk2 p3w)⟩ (kk2 ⟨p3v,trivial⟩) hG) ?_
   exact eX [.c 6 2 43 0 43 [dI 0,Z8] (.agg Z9),.t 7 (.one (dI 11))] ⟨⟨rfl,rfl,by kernel_rfl,by kernel_rfl,.inl ⟨2,F8,rfl,Nat.le_of_ble_eq_true rfl⟩⟩,⟨⟨rfl,by kernel_rfl⟩,trivial⟩⟩ [0,1] (by have e1:((Hh f u s b).X4:Int)=0:=p1k;have e2:((Hh f u s b).Xf:List UInt8)=([]:List UInt8):=p1k;have e3:((Et f u s b):Int)=11:=p1k;have hE:=congr pZ17 e3;exact hE) (ix ⟨⟨rfl,p39⟩,trivial⟩)
  refine cF (dF hq2) ?_
  refine T.skip ?_
  refine nB ?_
  refine nT ?_
  refine sD [[],[0],[0,1],[0,1,2],[],[],[5],[4,5,6],[0,1,2,3,4,5,6,7]] [hR 6 rfl rfl (Hr () b (ys:=(.d (dsl tb nb kU8 b))) (rhs:=[]) Tryz.underlying25 Tryz.underlying5 Tryz.underlying9 (Ji tb nb kU8 b) (X3 rfl) trivial),hR 8 rfl rfl (X6y 1 rows (Yn.mk s b) true (kd:=Yc) (ak:=.tv (.agg [dI s,dS b])) (tv:=.one (dB true)) Tryz.underlying128 X15 ⟨[.int .i64 s,Yh b],rfl,rfl⟩ rfl ⟨.inl rfl,trivial⟩ ⟨rfl,trivial⟩)] ?_
  refine sR [hR 2 rfl rfl (rCa (Fu tb nb b ‹_›) Tryz.func51 [3] [(.tmp 28,slV tb nb kU8 b)] 0 1)] ?_
  refine T.ret ?_
  refine eN ⟨(Za f u s tb nb b),[(Z4 f u),.live (mpK Y0 Yc (mput rows (Yn.mk s b) true)),.live (.box 43 [dI s,.own 3 kU8.sz 0 b.length]),.live (Xe 5 kU8 b)]⟩ ?_
  refine Xc (s':=⟨(Za f u s tb nb b),[(Z4 f u),.live (mpK Y0 Yc (mput rows (Yn.mk s b) true)),.live (.box 43 [dI s,dU b]),.dead]⟩) (fun _ _ hG=>Gs.freeze (s:=⟨(Za f u s tb nb b),[(Z4 f u),.live (mpK Y0 Yc (mput rows (Yn.mk s b) true)),.live (.box 43 [dI s,.own 3 kU8.sz 0 b.length]),.live (Xe 5 kU8 b)]⟩) 3 (el:=W6 kU8 b) (sz:=kU8.sz) (n:=b.length) rfl ⟨.inl rfl,(kk2 p3w)⟩ ⟨pc,⟨pc,⟨p36,⟨(.inl ⟨rfl,rfl⟩),trivial⟩⟩⟩⟩ hG) ?_
  exact eX [.c 6 2 43 0 43 [dI s,dU b] (.agg [dI s,dU b]),.t 7 (.one (dI 0))] ⟨⟨rfl,rfl,by kernel_rfl,by kernel_rfl,.inl ⟨2,F8,rfl,Nat.le_of_ble_eq_true rfl⟩⟩,⟨⟨rfl,by kernel_rfl⟩,trivial⟩⟩ [0,1] (by have e1:((Hh f u s b).X4:Int)=s:=p1k;have e2:((Hh f u s b).Xf:List UInt8)=b:=p1k;have e3:((Et f u s b):Int)=0:=p1k;have hE:=congr pZ17 e3;exact hE) (ix ⟨⟨rfl,(by have e1:((mput rows (Yn.mk s b) true):List (Yn×Bool))=(X6m f u rows s b):=p1k;have hE:=congrArg (fun (q1:List (Yn×Bool))=>(.live (mpK Y0 Yc q1):HS)) e1;exact Eq.trans pZ7 hE)⟩,trivial⟩)
 refine cT (cn (dF hq1)) ?_
 refine sR [] ?_
 refine T.ret (rB (rT ?_))
 refine eN ⟨(Zb f u s tb nb b),[(Z4 f u),(Z5 rows),Z7]⟩ ?_
 refine Xc (s':=⟨(Zb f u s tb nb b),[(Z4 f u),(Z5 rows),.live (.box 43 Z9)]⟩) (fun _ _ hG=>Ys (s:=⟨(Zb f u s tb nb b),[(Z4 f u),(Z5 rows),Z7]⟩) ⟨.inl rfl,(kk8 trivial)⟩ (kk2 ⟨p3v,trivial⟩) hG) ?_
 exact eX [.c 6 2 43 0 43 [dI 0,Z8] (.agg Z9),.t 7 (.one (dI 30))] ⟨⟨rfl,rfl,by kernel_rfl,by kernel_rfl,.inl ⟨2,F8,rfl,Nat.le_of_ble_eq_true rfl⟩⟩,⟨⟨rfl,by kernel_rfl⟩,trivial⟩⟩ [0,1] (by have e1:((Hh f u s b).X4:Int)=0:=p1k;have e2:((Hh f u s b).Xf:List UInt8)=([]:List UInt8):=p1k;have e3:((Et f u s b):Int)=30:=p1k;have hE:=congr pZ17 e3;exact hE) (ix ⟨⟨rfl,p39⟩,trivial⟩)
theorem Xh8:Wide Tryz.prog 25 none:=⟨_,Tryz.underlying25,(fun _ h=>by cases h),(fun _ _ h=>by cases h)⟩
theorem Fs:Tryz.prog.info? 4=some Tryz.t4:=by kernel_rfl
theorem Xh4:ZeroM Tryz.prog 4 [.bool false]:=⟨_,_,Fs,rfl,rfl,fun _=>rfl⟩
theorem Xfh (f:Int) (u:Int) (rows:List (Yn×Bool)) (te:Bool) (e:aE) (hf:0≤f∧f≤2) (hu:0≤u∧u≤8) (hs:-9223372036854775808≤e.X4∧e.X4≤9223372036854775807):Holds Tryz.prog 186 ⟨[pv 0 0,.tv (.agg [dI e.X4,.d (dsl te false kU8 e.Xf)])],[.box 130 [dI (3*f+1),dI u,.mref 1],mpK Y0 Yc rows],vI (Xz f u rows e),[.live (.box 130 [dI (3*f+1),dI u,.mref 1]),.live (mpK Y0 Yc rows)]⟩:=by
 refine Holds.of Tryz.func186 rfl (N:=28) Tryz.ntmps186 rfl fun w0 B0 S0 U0=>?_
 show T _ (Y2 28 2 w0 S0 U0 B0) ⟨[pv 0 0,.tv (.agg [dI e.X4,.d (dsl te false kU8 e.Xf)])],[.live (.box 130 [dI (3*f+1),dI u,.mref 1]),.live (mpK Y0 Yc rows)]⟩ _ _
 refine sR [] ?_
 refine T.seq ?_
 refine sR [hR 3 rfl rfl (rCa (X75 f u rows e.X4 ‹_› ‹_› ‹_›) Tryz.func68 [0,1] [(.tmp 7,pv 0 0),(.tmp 9,vI e.X4)] 2 2)] ?_
 by_cases hq1:Um f u e.X4
 ·refine cF (cn (dT hq1)) ?_
  refine T.skip (nT (T.seq ?_))
  refine sD [[],[0],[0,1],[0,1,2],[],[4],[],[6],[6,7],[4,5,6,7,8],[0,1,2,3,4,5,6,7,8,9],[0,1,2,3,4,5,6,7,8,9,10],[0,1,2,3,4,5,6,7,8,9,10,11],[0,1,2,3,4,5,6,7,8,9,10,11],[0,1,2,3,4,5,6,7,8,9,10,11,12],[0,1,2,3,4,5,6,7,8,9,10,11,12,13,14]] [hR 8 rfl rfl (Hr () e.Xf (ys:=(.d (dsl te false kU8 e.Xf))) (rhs:=[]) Tryz.underlying25 Tryz.underlying5 Tryz.underlying9 (Ji te false kU8 e.Xf) (X3 rfl) trivial),hR 10 rfl rfl (Xj5 1 rows (Yn.mk e.X4 e.Xf) (.one (dB (mget rows (Yn.mk e.X4 e.Xf) false))) (ak:=.tv (.agg [dI e.X4,dS e.Xf])) (kd:=Yc) Tryz.underlying128 X15 ⟨[.int .i64 e.X4,Yh e.Xf],rfl,rfl⟩ Xh4 ⟨.inl rfl,trivial⟩ rfl (X3 rfl) trivial)] ?_
  refine sR [] ?_
  by_cases hq2:(mhas rows (Yn.mk e.X4 e.Xf))=true
  ·refine cF (cn hq2) ?_
   refine T.skip (nT ?_)
   refine sR [] ?_
   refine T.ret ?_
   exact eRt 4 (.one (dI 0)) [0,1] (by have e1:((Xz f u rows e):Int)=0:=(by (simp [Xz, *];done));have hE:=cI e1;exact hE) (ix (ix trivial))
  replace hq2:=Bool.eq_false_iff.2 hq2
  refine cT (cn hq2) ?_
  refine sR [] ?_
  refine T.ret (rT ?_)
  exact eRt 4 (.one (dI 31)) [0,1] (by have e1:((Xz f u rows e):Int)=31:=(by (simp [Xz, *];done));have hE:=cI e1;exact hE) (ix (ix trivial))
 refine cT (cn (dF hq1)) ?_
 refine sR [] ?_
 refine T.ret (rT ?_)
 exact eRt 4 (.one (dI 30)) [0,1] (by have e1:((Xz f u rows e):Int)=30:=(by (simp [Xz, *];done));have hE:=cI e1;exact hE) (ix (ix trivial))
end Go.Proofs.YtnaopgohccacmaaGreat.Q
namespace Go.Proofs.YtnaopgohccacmaaGreat.Q
set_option linter.unusedVariables false
set_option linter.unusedSimpArgs false
set_option maxRecDepth 100000
end Go.Proofs.YtnaopgohccacmaaGreat.Q
namespace Go.Proofs.YtnaopgohccacmaaGreat.Q
open Go.Shelf
end Go.Proofs.YtnaopgohccacmaaGreat.Q
namespace Go.Proofs.YtnaopgohccacmaaGreat.Q
set_option linter.unusedVariables false
set_option linter.unusedSimpArgs false
set_option maxRecDepth 100000
section
variable {P:Program} {bs:Base}
end
end Go.Proofs.YtnaopgohccacmaaGreat.Q
namespace Go.Proofs.YtnaopgohccacmaaGreat.Q
set_option linter.unusedVariables false
set_option linter.unusedSimpArgs false
set_option maxRecDepth 100000
section
variable {f:Int} {l xs ys:List Int} {i j k p q:Nat}
end
end Go.Proofs.YtnaopgohccacmaaGreat.Q
namespace Go.Proofs.YtnaopgohccacmaaGreat.Q
open Go Go.RowKit
set_option linter.unusedVariables false
set_option linter.unusedSimpArgs false
set_option maxRecDepth 100000
set_option maxHeartbeats 4000000
theorem X5i:Zero Tryz.prog 3 [.int .i64 0]:=⟨_,_,X23,rfl,rfl⟩
section
variable (f:Int) (u:Int) (rows:List (Yn×Bool)) (tx:Bool) (nx:Bool) (x:List Int) (k:Nat)
end
end Go.Proofs.YtnaopgohccacmaaGreat.Q
