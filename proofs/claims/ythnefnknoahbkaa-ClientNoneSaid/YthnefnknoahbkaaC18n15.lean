import Derived.Test.YthnefnknoahbkaaC18n11
namespace Go.Proofs.Ythnefnknoahbkaa.Q
open Go Go.RowKit
set_option linter.unusedVariables false
set_option linter.unusedSimpArgs false
set_option maxRecDepth 100000
set_option maxHeartbeats 4000000
section
variable (tm:Bool) (m:aM) (k:Nat)
abbrev Z3y:List SV:=[dI m.X3,dI m.Xt,dI m.Xy,dI m.Xb,dI m.Xv,dS m.Xc,.d (dsl tm false kU8 m.Xk),dI m.X1.Xs,dI m.X1.Xo,.d (dsl tm false (kE tm) m.Xf),.d (dsl tm false (kE tm) m.Xr),.d (dsl tm false (kC tm) m.X7)]
abbrev Z3z:HS:=.live (.box 42 (Z3y tm m))
abbrev Z40:St:=⟨[.tv (.agg (Z3y tm m)),pv 0 0,dv (.slice none 0 0),aa,aa,aa,aa,aa,aa,vB (decide ((X20 m)≠0))],[(Z3z tm m)]⟩
abbrev Z41:List AV:=[aa,pv 0 0,aa,pv 1 0,aa,Y3 2 kU8 0 (Xq m 1).length]
abbrev Z42:HS:=.live (.box 90 [dB (Xh m.X3).Xt,dB (Xh m.X3).Xy,dB (Xh m.X3).Xb,dB (Xh m.X3).Xc,dB (Xh m.X3).Xk,dB (Xh m.X3).X1,dB (Xh m.X3).Xf,dB (Xh m.X3).Xr,dB (Xh m.X3).X7])
abbrev Z43:List HS:=[(Z3z tm m),(Z42 m),.live (Xe 5 kU8 (Xq m 1))]
abbrev Z44:List AV:=[aa,pv 0 0,aa,pv 1 0,aa,Y3 2 kU8 0 (Xq m 0).length]
abbrev Z45:List HS:=[(Z3z tm m),(Z42 m),.live (Xe 5 kU8 (Xq m 0))]
abbrev Z46:List AV:=[aa,pv 0 0,aa,pv 1 0,aa,Y3 2 kU8 0 (Xq m 2).length]
abbrev Z47:List HS:=[(Z3z tm m),(Z42 m),.live (Xe 5 kU8 (Xq m 2))]
abbrev Z48:List AV:=[aa,pv 0 0,aa,pv 1 0,aa,Y3 2 kU8 0 (Xq m 3).length]
abbrev Z49:List HS:=[(Z3z tm m),(Z42 m),.live (Xe 5 kU8 (Xq m 3))]
abbrev Z4a:AV:=Y3 4 kU8 0 ((Xq m 2)++Ym m.Xb++Ym m.Xv).length
abbrev Z4b:List AV:=[aa,pv 0 0,aa,pv 1 0,aa,Y3 2 kU8 0 (Xq m 4).length]
abbrev Z4c:List HS:=[(Z3z tm m),(Z42 m),.live (Xe 5 kU8 (Xq m 4))]
abbrev Z4d:List AV:=[aa,pv 0 0,aa,pv 1 0,aa,Y3 2 kU8 0 (Xq m 5).length]
abbrev Z4e:List HS:=[(Z3z tm m),(Z42 m),.live (Xe 5 kU8 (Xq m 5))]
abbrev Z4f:List AV:=[aa,pv 0 0,aa,pv 1 0,aa,Y3 2 kU8 0 (Xq m 6).length]
abbrev Z4g:List HS:=[(Z3z tm m),(Z42 m),.live (Xe 5 kU8 (Xq m 6))]
abbrev Z4h:AV:=Y3 4 kU8 0 ((Xq m 5)++Ym m.X1.Xs++Ym m.X1.Xo).length
abbrev Z4i:List AV:=[aa,pv 0 0,aa,pv 1 0,aa,Y3 2 kU8 0 (Xq m 7).length]
abbrev Z4j:List HS:=[(Z3z tm m),(Z42 m),.live (Xe 5 kU8 (Xq m 7))]
abbrev Z4k:List AV:=[aa,pv 0 0,aa,pv 1 0,aa,Y3 2 kU8 0 (Xq m 8).length]
abbrev Z4l:List HS:=[(Z3z tm m),(Z42 m),.live (Xe 5 kU8 (Xq m 8))]
abbrev Z4m:List AV:=[aa,pv 0 0,aa,pv 1 0,aa,Y3 2 kU8 0 (Xq m 9).length]
abbrev Z4n:List HS:=[(Z3z tm m),(Z42 m),.live (Xe 5 kU8 (Xq m 9))]
abbrev Z4o:AV:=Y3 2 kU8 0 ((Xq m 8)++W3 ((m.X7.length:Nat):Int)++Vi m.X7 k).length
abbrev Z4p:HS:=.live (Xe 5 kU8 ((Xq m 8)++W3 ((m.X7.length:Nat):Int)++Vi m.X7 k))
abbrev Z4q:St:=⟨[aa,pv 0 0,aa,pv 1 0,aa,(Z4o m k),vI ((k:Nat):Int)],[(Z3z tm m),(Z42 m),(Z4p m k)]⟩
abbrev Z4r:List HS:=[(Z3z tm m),(Z42 m),.live (Xe 5 kU8 ((Xq m 8)++W3 ((m.X7.length:Nat):Int)++Vi m.X7 0))]
abbrev Z4s:AV:=vI ((k+1:Nat):Int)
abbrev Z4t:List HS:=[(Z3z tm m),(Z42 m),.live (Xe 5 kU8 ((Xq m 8)++W3 ((m.X7.length:Nat):Int)++Vi m.X7 (k+1)))]
abbrev Z4u:List AV:=[aa,pv 0 0,Y3 2 kU8 0 (Xq m 9).length,pv 1 0,aa,Y3 2 kU8 0 (Xq m 9).length]
end
theorem H8 (tm:Bool) (m:aM) (hl:(Xq m 9).length≤1000000000) (hq:m.Xf.length≤9223372036854775807) (hr:m.Xr.length≤9223372036854775807) (hc:m.X7.length≤9223372036854775807) (hd:m.Xk.length≤9223372036854775807) (hg:m.Xc.length≤9223372036854775807):Holds Try.prog 27 ⟨[.tv (.agg [dI m.X3,dI m.Xt,dI m.Xy,dI m.Xb,dI m.Xv,dS m.Xc,.d (dsl tm false kU8 m.Xk),dI m.X1.Xs,dI m.X1.Xo,.d (dsl tm false (kE tm) m.Xf),.d (dsl tm false (kE tm) m.Xr),.d (dsl tm false (kC tm) m.X7)])],[],slV false false kU8 (Yh m),[]⟩:=by
 refine Holds.of Try.func27 rfl (N:=106) Try.ntmps27 rfl fun w0 B0 S0 U0=>?_
 show T _ (Xz 106 0 w0 S0 U0 B0) ⟨[.tv (.agg (Z3y tm m))],[]⟩ _ _
 have hi1:=Yo m.Xb
 have hi2:=Yo m.X1.Xs
 have hi0:=Yo m.X3
 refine sR [] (T.seq (sR [hR 1 rfl rfl (rCa (X45 tm m (by omega) (by omega) (by omega) (by omega) (by omega)) Try.func38 [] [(.tmp 7,.tv (.agg (Z3y tm m)))] 0 0)] ?_))
 by_cases hq1:(X20 m)≠0
 ·refine cT (dT hq1) (sR [] (T.ret (rT ?_)))
  refine eN (Z40 tm m) ?_
  refine Xm (s':=⟨[.tv (.agg (Z3y tm m)),pv 0 0,slV false false kU8 ([]:List UInt8),aa,aa,aa,aa,aa,aa,vB (decide ((X20 m)≠0))],[(Z3z tm m)]⟩) (fun _ _ hG=>W7 (s:=(Z40 tm m)) (kk2 ⟨pZ9,⟨.inl rfl,p3d⟩⟩) ⟨.inl rfl,trivial⟩ hG) ?_
  exact eRt 2 (.one (dU ([]:List UInt8))) [] p3c trivial
 have hwl:=chk0.1 (Classical.not_not.1 hq1);have hcl0:=Uh ((m.X7.length:Nat):Int)
 refine cF (dF hq1) (T.skip (nT (sR [hR 2 rfl rfl (rCa (Fp m.X3 ) Try.func35 [] [(.tmp 12,vI m.X3)] 0 0)] (sR [hR 2 rfl rfl (rCn (I8 false false ([]:List UInt8) m.X3 (by decide)) Try.func47 [2] [(.const (.slice none 0 0),dv (.slice none 0 0)),(.tmp 17,vI m.X3)] 0 1 ⟨.inr pZ9,⟨.inl ⟨rfl,rfl⟩,trivial⟩⟩ ⟨rfl,trivial⟩)] ?_))))
 refine Ve ⟨(Z41 m),(Z43 tm m)⟩ ?_ ?_
 ·refine tN ⟨[.tv (.agg (Z3y tm m)),pv 0 0,dv (.slice none 0 0),pv 1 0,aa,Y3 2 kU8 0 (([]:List UInt8)++Ym m.X3).length,aa,aa,aa,vB (decide ((X20 m)≠0))],[(Z3z tm m),(Z42 m),.live (Xe 5 kU8 (([]:List UInt8)++Ym m.X3))]⟩ ?_
  refine Vh (s':=⟨(Z44 m),(Z45 tm m)⟩) (fun _ _ hG=>Yc [0,1,2] (bm 6 42) (t2:=[aa,pv 0 0,aa,pv 1 0,aa,Y3 2 kU8 0 (([]:List UInt8)++Ym m.X3).length]) (h2:=[(Z3z tm m),(Z42 m),.live (Xe 5 kU8 (([]:List UInt8)++Ym m.X3))]) (congrArg (fun (q1:Nat)=>([aa,pv 0 0,aa,pv 1 0,aa,Y3 2 kU8 0 q1]:List AV)) (by rfl)) (congrArg (fun (q1:List UInt8)=>([(Z3z tm m),(Z42 m),.live (Xe 5 kU8 q1)]:List HS)) (by rfl)) hG) (sR [] ?_)
  by_cases hq2:(Xh m.X3).Xt=true
  ·have hbt:Vr (Xh m.X3) 0=true:=hq2;have hst:Xq m 1=Xq m 0++Ym m.Xt:=(Jp (j:=0) (i:=0) rfl hbt);have hrm:=V9 (m:=m) (j:=0) (i:=0) rfl hbt (by decide);simp only [Vw,List.length_append,Yo,Wk] at hrm
   refine cT hq2 (xK [hR 3 rfl rfl (Wm (I8 true false (Xq m 0) m.Xt (by omega)) Try.func47 rfl (by decide) [3] [2] (l:=[(.tmp 21,Y3 2 kU8 0 (Xq m 0).length),(.tmp 23,vI m.Xt)]) [(2,.live (Xe 5 kU8 (Xq m 0)))] rfl 0 1 rfl rfl rfl rfl rfl rfl rfl rfl rfl ⟨.inr (.inl ⟨rfl,Um,rfl,rfl,by simp,5,(Xq m 0).length,We kU8 (Xq m 0),List.Mem.head _,pe,fun i j=>by rw [Nat.zero_add]⟩),⟨.inl ⟨rfl,rfl⟩,trivial⟩⟩ rfl pZ3 pd (X8 rfl) trivial)] ?_)
   refine eN ⟨[aa,pv 0 0,aa,pv 1 0,aa,Y3 3 kU8 0 ((Xq m 0)++Ym m.Xt).length,aa,aa,aa,aa,aa,aa,aa,aa,aa,aa,aa,aa,aa,aa,vB (Xh m.X3).Xt],[(Z3z tm m),(Z42 m),.live (Xe 5 kU8 (Xq m 0)),.live (Xe 5 kU8 ((Xq m 0)++Ym m.Xt))]⟩ ?_
   refine Xm (s':=⟨(Z41 m),(Z43 tm m)⟩) (fun _ _ hG=>Wp [0,1,3] (bm 6 42) (t1:=[aa,pv 0 0,aa,pv 1 0,aa,Y3 3 kU8 0 (Xq m 1).length]) (t2:=[aa,pv 0 0,aa,pv 1 0,aa,Y3 3 kU8 0 ((Xq m 0)++Ym m.Xt).length]) (h1:=(Z43 tm m)) (h2:=[(Z3z tm m),(Z42 m),.live (Xe 5 kU8 ((Xq m 0)++Ym m.Xt))]) (by have e1:((Xq m 1).length:Nat)=((Xq m 0)++Ym m.Xt).length:=po;have hE:=congrArg (fun (q1:Nat)=>([aa,pv 0 0,aa,pv 1 0,aa,Y3 3 kU8 0 q1]:List AV)) e1;exact hE) (by have e1:((Xq m 1):List UInt8)=(Xq m 0)++Ym m.Xt:=po;have hE:=congrArg (fun (q1:List UInt8)=>([(Z3z tm m),(Z42 m),.live (Xe 5 kU8 q1)]:List HS)) e1;exact hE) hG) ?_
   exact nJ
  have hbt:¬Vr (Xh m.X3) 0=true:=hq2;have hst:Xq m 1=Xq m 0:=Hn (j:=0) hbt
  replace hq2:=Bool.eq_false_iff.2 hq2
  refine cF hq2 (T.skip ?_)
  refine eN ⟨[aa,pv 0 0,aa,pv 1 0,aa,Y3 2 kU8 0 (Xq m 0).length,aa,aa,aa,aa,aa,aa,aa,aa,aa,aa,aa,aa,aa,aa,vB (Xh m.X3).Xt],(Z45 tm m)⟩ ?_
  refine Xm (s':=⟨(Z41 m),(Z43 tm m)⟩) (fun _ _ hG=>Yc [0,1,2] (bm 6 42) (t2:=(Z44 m)) (h2:=(Z45 tm m)) (by have e1:((Xq m 1).length:Nat)=(Xq m 0).length:=po;have hE:=congrArg (fun (q1:Nat)=>([aa,pv 0 0,aa,pv 1 0,aa,Y3 2 kU8 0 q1]:List AV)) e1;exact hE) (by have e1:((Xq m 1):List UInt8)=(Xq m 0):=po;have hE:=congrArg (fun (q1:List UInt8)=>([(Z3z tm m),(Z42 m),.live (Xe 5 kU8 q1)]:List HS)) e1;exact hE) hG) ?_
  exact nJ
 refine Ve ⟨(Z46 m),(Z47 tm m)⟩ ?_ ?_
 ·refine sR [] ?_
  by_cases hq3:(Xh m.X3).Xy=true
  ·have hbt:Vr (Xh m.X3) 1=true:=hq3;have hst:Xq m 2=Xq m 1++Ym m.Xy:=(Jp (j:=1) (i:=1) rfl hbt);have hrm:=V9 (m:=m) (j:=1) (i:=1) rfl hbt (by decide);simp only [Vw,List.length_append,Yo,Wk] at hrm
   refine cT hq3 (xK [hR 3 rfl rfl (Wm (I8 true false (Xq m 1) m.Xy (by omega)) Try.func47 rfl (by decide) [3] [2] (l:=[(.tmp 27,Y3 2 kU8 0 (Xq m 1).length),(.tmp 29,vI m.Xy)]) [(2,.live (Xe 5 kU8 (Xq m 1)))] rfl 0 1 rfl rfl rfl rfl rfl rfl rfl rfl rfl ⟨.inr (.inl ⟨rfl,Um,rfl,rfl,by simp,5,(Xq m 1).length,We kU8 (Xq m 1),List.Mem.head _,pe,fun i j=>by rw [Nat.zero_add]⟩),⟨.inl ⟨rfl,rfl⟩,trivial⟩⟩ rfl pZ3 pd (X8 rfl) trivial)] ?_)
   refine eN ⟨[aa,pv 0 0,aa,pv 1 0,aa,Y3 3 kU8 0 ((Xq m 1)++Ym m.Xy).length,aa,aa,aa,aa,aa,aa,aa,aa,aa,aa,aa,aa,aa,aa,aa,aa,aa,aa,aa,aa,vB (Xh m.X3).Xy],[(Z3z tm m),(Z42 m),.live (Xe 5 kU8 (Xq m 1)),.live (Xe 5 kU8 ((Xq m 1)++Ym m.Xy))]⟩ ?_
   refine Xm (s':=⟨(Z46 m),(Z47 tm m)⟩) (fun _ _ hG=>Wp [0,1,3] (bm 6 42) (t1:=[aa,pv 0 0,aa,pv 1 0,aa,Y3 3 kU8 0 (Xq m 2).length]) (t2:=[aa,pv 0 0,aa,pv 1 0,aa,Y3 3 kU8 0 ((Xq m 1)++Ym m.Xy).length]) (h1:=(Z47 tm m)) (h2:=[(Z3z tm m),(Z42 m),.live (Xe 5 kU8 ((Xq m 1)++Ym m.Xy))]) (by have e1:((Xq m 2).length:Nat)=((Xq m 1)++Ym m.Xy).length:=po;have hE:=congrArg (fun (q1:Nat)=>([aa,pv 0 0,aa,pv 1 0,aa,Y3 3 kU8 0 q1]:List AV)) e1;exact hE) (by have e1:((Xq m 2):List UInt8)=(Xq m 1)++Ym m.Xy:=po;have hE:=congrArg (fun (q1:List UInt8)=>([(Z3z tm m),(Z42 m),.live (Xe 5 kU8 q1)]:List HS)) e1;exact hE) hG) ?_
   exact nJ
  have hbt:¬Vr (Xh m.X3) 1=true:=hq3;have hst:Xq m 2=Xq m 1:=Hn (j:=1) hbt
  replace hq3:=Bool.eq_false_iff.2 hq3
  refine cF hq3 (T.skip ?_)
  refine eN ⟨[aa,pv 0 0,aa,pv 1 0,aa,Y3 2 kU8 0 (Xq m 1).length,aa,aa,aa,aa,aa,aa,aa,aa,aa,aa,aa,aa,aa,aa,aa,aa,aa,aa,aa,aa,vB (Xh m.X3).Xy],(Z43 tm m)⟩ ?_
  refine Xm (s':=⟨(Z46 m),(Z47 tm m)⟩) (fun _ _ hG=>Yc [0,1,2] (bm 6 42) (t2:=(Z41 m)) (h2:=(Z43 tm m)) (by have e1:((Xq m 2).length:Nat)=(Xq m 1).length:=po;have hE:=congrArg (fun (q1:Nat)=>([aa,pv 0 0,aa,pv 1 0,aa,Y3 2 kU8 0 q1]:List AV)) e1;exact hE) (by have e1:((Xq m 2):List UInt8)=(Xq m 1):=po;have hE:=congrArg (fun (q1:List UInt8)=>([(Z3z tm m),(Z42 m),.live (Xe 5 kU8 q1)]:List HS)) e1;exact hE) hG) ?_
  exact nJ
 refine Ve ⟨(Z48 m),(Z49 tm m)⟩ ?_ ?_
 ·refine sR [] ?_
  by_cases hq4:(Xh m.X3).Xb=true
  ·have hbt:Vr (Xh m.X3) 2=true:=hq4;have hst:Xq m 3=Xq m 2++Ym m.Xb++Ym m.Xv:=(Jp (j:=2) (i:=2) rfl hbt).trans (List.append_assoc ..).symm;have hrm:=V9 (m:=m) (j:=2) (i:=2) rfl hbt (by decide);simp only [Vw,List.length_append,Yo,Wk] at hrm
   refine cT hq4 ?_
   refine xD [[],[],[1],[0,1,2],[],[4],[0,1,2,3,4,5],[0,1,2,3,4,5,6]] [hR 3 rfl rfl (Wm (I8 true false (Xq m 2) m.Xb (by omega)) Try.func47 rfl (by decide) [3] [2] (l:=[(.tmp 33,Y3 2 kU8 0 (Xq m 2).length),(.tmp 35,vI m.Xb)]) [(2,.live (Xe 5 kU8 (Xq m 2)))] rfl 0 1 rfl rfl rfl rfl rfl rfl rfl rfl rfl ⟨.inr (.inl ⟨rfl,Um,rfl,rfl,by simp,5,(Xq m 2).length,We kU8 (Xq m 2),List.Mem.head _,pe,fun i j=>by rw [Nat.zero_add]⟩),⟨.inl ⟨rfl,rfl⟩,trivial⟩⟩ rfl pZ3 pd (X8 rfl) trivial),hR 6 rfl rfl (Wm (I8 true false ((Xq m 2)++Ym m.Xb) m.Xv p1u) Try.func47 rfl (by decide) [4] [3] (l:=[(.tmp 36,Y3 3 kU8 0 ((Xq m 2)++Ym m.Xb).length),(.tmp 38,vI m.Xv)]) [(3,.live (Xe 5 kU8 ((Xq m 2)++Ym m.Xb)))] rfl 0 1 rfl rfl rfl rfl rfl rfl rfl rfl rfl ⟨.inr (.inl ⟨rfl,Um,rfl,rfl,by simp,5,((Xq m 2)++Ym m.Xb).length,We kU8 ((Xq m 2)++Ym m.Xb),List.Mem.head _,pe,fun i j=>by rw [Nat.zero_add]⟩),⟨.inl ⟨rfl,rfl⟩,trivial⟩⟩ rfl pZ3 pd (X8 rfl) trivial)] pZ4 pZ4 pZ4 pZ4 pZ4 pZ4 ?_
   refine eN ⟨[aa,pv 0 0,aa,pv 1 0,aa,(Z4a m),aa,aa,aa,aa,aa,aa,aa,aa,aa,aa,aa,aa,aa,aa,aa,aa,aa,aa,aa,aa,aa,aa,aa,aa,aa,aa,vB (Xh m.X3).Xb],[(Z3z tm m),(Z42 m),.live (Xe 5 kU8 (Xq m 2)),.live (Xe 5 kU8 ((Xq m 2)++Ym m.Xb)),.live (Xe 5 kU8 ((Xq m 2)++Ym m.Xb++Ym m.Xv))]⟩ ?_
   refine Xm (s':=⟨(Z48 m),(Z49 tm m)⟩) (fun _ _ hG=>Wp [0,1,4] (bm 6 42) (t1:=[aa,pv 0 0,aa,pv 1 0,aa,Y3 4 kU8 0 (Xq m 3).length]) (t2:=[aa,pv 0 0,aa,pv 1 0,aa,(Z4a m)]) (h1:=(Z49 tm m)) (h2:=[(Z3z tm m),(Z42 m),.live (Xe 5 kU8 ((Xq m 2)++Ym m.Xb++Ym m.Xv))]) (by have e1:((Xq m 3).length:Nat)=((Xq m 2)++Ym m.Xb++Ym m.Xv).length:=po;have hE:=congrArg (fun (q1:Nat)=>([aa,pv 0 0,aa,pv 1 0,aa,Y3 4 kU8 0 q1]:List AV)) e1;exact hE) (by have e1:((Xq m 3):List UInt8)=(Xq m 2)++Ym m.Xb++Ym m.Xv:=po;have hE:=congrArg (fun (q1:List UInt8)=>([(Z3z tm m),(Z42 m),.live (Xe 5 kU8 q1)]:List HS)) e1;exact hE) hG) ?_
   exact nJ
  have hbt:¬Vr (Xh m.X3) 2=true:=hq4;have hst:Xq m 3=Xq m 2:=Hn (j:=2) hbt
  replace hq4:=Bool.eq_false_iff.2 hq4
  refine cF hq4 (T.skip ?_)
  refine eN ⟨[aa,pv 0 0,aa,pv 1 0,aa,Y3 2 kU8 0 (Xq m 2).length,aa,aa,aa,aa,aa,aa,aa,aa,aa,aa,aa,aa,aa,aa,aa,aa,aa,aa,aa,aa,aa,aa,aa,aa,aa,aa,vB (Xh m.X3).Xb],(Z47 tm m)⟩ ?_
  refine Xm (s':=⟨(Z48 m),(Z49 tm m)⟩) (fun _ _ hG=>Yc [0,1,2] (bm 6 42) (t2:=(Z46 m)) (h2:=(Z47 tm m)) (by have e1:((Xq m 3).length:Nat)=(Xq m 2).length:=po;have hE:=congrArg (fun (q1:Nat)=>([aa,pv 0 0,aa,pv 1 0,aa,Y3 2 kU8 0 q1]:List AV)) e1;exact hE) (by have e1:((Xq m 3):List UInt8)=(Xq m 2):=po;have hE:=congrArg (fun (q1:List UInt8)=>([(Z3z tm m),(Z42 m),.live (Xe 5 kU8 q1)]:List HS)) e1;exact hE) hG) ?_
  exact nJ
 refine Ve ⟨(Z4b m),(Z4c tm m)⟩ ?_ ?_
 ·refine sR [] ?_
  by_cases hq5:(Xh m.X3).Xc=true
  ·have hbt:Vr (Xh m.X3) 3=true:=hq5;have hst:Xq m 4=Xq m 3++Wd m.Xc:=(Jp (j:=3) (i:=3) rfl hbt);have hrm:=V9 (m:=m) (j:=3) (i:=3) rfl hbt (by decide);simp only [Vw,List.length_append,Yo,Wk] at hrm
   refine cT hq5 ?_
   refine xR [hR 3 rfl rfl (X8d (l:=m.Xc) Try.underlying35 Try.underlying34 Try.underlying5 (X8 rfl) trivial),hR 4 rfl rfl (Wm (En true false (Xq m 3) false true m.Xc (by omega)) Try.func48 rfl (by decide) [3] [2] (l:=[(.tmp 42,Y3 2 kU8 0 (Xq m 3).length),(.tmp 45,slV false true kU8 m.Xc)]) [(2,.live (Xe 5 kU8 (Xq m 3)))] rfl 0 1 rfl rfl rfl rfl rfl rfl rfl rfl rfl ⟨.inr (.inl ⟨rfl,Um,rfl,rfl,by simp,5,(Xq m 3).length,We kU8 (Xq m 3),List.Mem.head _,pe,fun i j=>by rw [Nat.zero_add]⟩),⟨.inl ⟨rfl,rfl⟩,trivial⟩⟩ rfl pZ3 pd (X8 rfl) trivial)] pZ4 pZ4 ?_
   refine eN ⟨[aa,pv 0 0,aa,pv 1 0,aa,Y3 3 kU8 0 ((Xq m 3)++Wd m.Xc).length,aa,aa,aa,aa,aa,aa,aa,aa,aa,aa,aa,aa,aa,aa,aa,aa,aa,aa,aa,aa,aa,aa,aa,aa,aa,aa,aa,aa,aa,aa,aa,aa,aa,aa,aa,vB (Xh m.X3).Xc],[(Z3z tm m),(Z42 m),.live (Xe 5 kU8 (Xq m 3)),.live (Xe 5 kU8 ((Xq m 3)++Wd m.Xc))]⟩ ?_
   refine Xm (s':=⟨(Z4b m),(Z4c tm m)⟩) (fun _ _ hG=>Wp [0,1,3] (bm 6 42) (t1:=[aa,pv 0 0,aa,pv 1 0,aa,Y3 3 kU8 0 (Xq m 4).length]) (t2:=[aa,pv 0 0,aa,pv 1 0,aa,Y3 3 kU8 0 ((Xq m 3)++Wd m.Xc).length]) (h1:=(Z4c tm m)) (h2:=[(Z3z tm m),(Z42 m),.live (Xe 5 kU8 ((Xq m 3)++Wd m.Xc))]) (by have e1:((Xq m 4).length:Nat)=((Xq m 3)++Wd m.Xc).length:=po;have hE:=congrArg (fun (q1:Nat)=>([aa,pv 0 0,aa,pv 1 0,aa,Y3 3 kU8 0 q1]:List AV)) e1;exact hE) (by have e1:((Xq m 4):List UInt8)=(Xq m 3)++Wd m.Xc:=po;have hE:=congrArg (fun (q1:List UInt8)=>([(Z3z tm m),(Z42 m),.live (Xe 5 kU8 q1)]:List HS)) e1;exact hE) hG) ?_
   exact nJ
  have hbt:¬Vr (Xh m.X3) 3=true:=hq5;have hst:Xq m 4=Xq m 3:=Hn (j:=3) hbt
  replace hq5:=Bool.eq_false_iff.2 hq5
  refine cF hq5 (T.skip ?_)
  refine eN ⟨[aa,pv 0 0,aa,pv 1 0,aa,Y3 2 kU8 0 (Xq m 3).length,aa,aa,aa,aa,aa,aa,aa,aa,aa,aa,aa,aa,aa,aa,aa,aa,aa,aa,aa,aa,aa,aa,aa,aa,aa,aa,aa,aa,aa,aa,aa,aa,aa,aa,aa,vB (Xh m.X3).Xc],(Z49 tm m)⟩ ?_
  refine Xm (s':=⟨(Z4b m),(Z4c tm m)⟩) (fun _ _ hG=>Yc [0,1,2] (bm 6 42) (t2:=(Z48 m)) (h2:=(Z49 tm m)) (by have e1:((Xq m 4).length:Nat)=(Xq m 3).length:=po;have hE:=congrArg (fun (q1:Nat)=>([aa,pv 0 0,aa,pv 1 0,aa,Y3 2 kU8 0 q1]:List AV)) e1;exact hE) (by have e1:((Xq m 4):List UInt8)=(Xq m 3):=po;have hE:=congrArg (fun (q1:List UInt8)=>([(Z3z tm m),(Z42 m),.live (Xe 5 kU8 q1)]:List HS)) e1;exact hE) hG) ?_
  exact nJ
 refine Ve ⟨(Z4d m),(Z4e tm m)⟩ ?_ ?_
 ·refine sR [] ?_
  by_cases hq6:(Xh m.X3).Xk=true
  ·have hbt:Vr (Xh m.X3) 4=true:=hq6;have hst:Xq m 5=Xq m 4++Wd m.Xk:=(Jp (j:=4) (i:=4) rfl hbt);have hrm:=V9 (m:=m) (j:=4) (i:=4) rfl hbt (by decide);simp only [Vw,List.length_append,Yo,Wk] at hrm
   refine cT hq6 (xK [hR 3 rfl rfl (Wm (En true false (Xq m 4) tm false m.Xk (by omega)) Try.func48 rfl (by decide) [3] [2] (l:=[(.tmp 49,Y3 2 kU8 0 (Xq m 4).length),(.tmp 51,slV tm false kU8 m.Xk)]) [(2,.live (Xe 5 kU8 (Xq m 4)))] rfl 0 1 rfl rfl rfl rfl rfl rfl rfl rfl rfl ⟨.inr (.inl ⟨rfl,Um,rfl,rfl,by simp,5,(Xq m 4).length,We kU8 (Xq m 4),List.Mem.head _,pe,fun i j=>by rw [Nat.zero_add]⟩),⟨.inl ⟨rfl,rfl⟩,trivial⟩⟩ rfl pZ3 pd (X8 rfl) trivial)] ?_)
   refine eN ⟨[aa,pv 0 0,aa,pv 1 0,aa,Y3 3 kU8 0 ((Xq m 4)++Wd m.Xk).length,aa,aa,aa,aa,aa,aa,aa,aa,aa,aa,aa,aa,aa,aa,aa,aa,aa,aa,aa,aa,aa,aa,aa,aa,aa,aa,aa,aa,aa,aa,aa,aa,aa,aa,aa,aa,aa,aa,aa,aa,aa,aa,vB (Xh m.X3).Xk],[(Z3z tm m),(Z42 m),.live (Xe 5 kU8 (Xq m 4)),.live (Xe 5 kU8 ((Xq m 4)++Wd m.Xk))]⟩ ?_
   refine Xm (s':=⟨(Z4d m),(Z4e tm m)⟩) (fun _ _ hG=>Wp [0,1,3] (bm 6 42) (t1:=[aa,pv 0 0,aa,pv 1 0,aa,Y3 3 kU8 0 (Xq m 5).length]) (t2:=[aa,pv 0 0,aa,pv 1 0,aa,Y3 3 kU8 0 ((Xq m 4)++Wd m.Xk).length]) (h1:=(Z4e tm m)) (h2:=[(Z3z tm m),(Z42 m),.live (Xe 5 kU8 ((Xq m 4)++Wd m.Xk))]) (by have e1:((Xq m 5).length:Nat)=((Xq m 4)++Wd m.Xk).length:=po;have hE:=congrArg (fun (q1:Nat)=>([aa,pv 0 0,aa,pv 1 0,aa,Y3 3 kU8 0 q1]:List AV)) e1;exact hE) (by have e1:((Xq m 5):List UInt8)=(Xq m 4)++Wd m.Xk:=po;have hE:=congrArg (fun (q1:List UInt8)=>([(Z3z tm m),(Z42 m),.live (Xe 5 kU8 q1)]:List HS)) e1;exact hE) hG) ?_
   exact nJ
  have hbt:¬Vr (Xh m.X3) 4=true:=hq6;have hst:Xq m 5=Xq m 4:=Hn (j:=4) hbt
  replace hq6:=Bool.eq_false_iff.2 hq6
  refine cF hq6 (T.skip ?_)
  refine eN ⟨[aa,pv 0 0,aa,pv 1 0,aa,Y3 2 kU8 0 (Xq m 4).length,aa,aa,aa,aa,aa,aa,aa,aa,aa,aa,aa,aa,aa,aa,aa,aa,aa,aa,aa,aa,aa,aa,aa,aa,aa,aa,aa,aa,aa,aa,aa,aa,aa,aa,aa,aa,aa,aa,aa,aa,aa,aa,vB (Xh m.X3).Xk],(Z4c tm m)⟩ ?_
  refine Xm (s':=⟨(Z4d m),(Z4e tm m)⟩) (fun _ _ hG=>Yc [0,1,2] (bm 6 42) (t2:=(Z4b m)) (h2:=(Z4c tm m)) (by have e1:((Xq m 5).length:Nat)=(Xq m 4).length:=po;have hE:=congrArg (fun (q1:Nat)=>([aa,pv 0 0,aa,pv 1 0,aa,Y3 2 kU8 0 q1]:List AV)) e1;exact hE) (by have e1:((Xq m 5):List UInt8)=(Xq m 4):=po;have hE:=congrArg (fun (q1:List UInt8)=>([(Z3z tm m),(Z42 m),.live (Xe 5 kU8 q1)]:List HS)) e1;exact hE) hG) ?_
  exact nJ
 refine Ve ⟨(Z4f m),(Z4g tm m)⟩ ?_ ?_
 ·refine sR [] ?_
  by_cases hq7:(Xh m.X3).X1=true
  ·have hbt:Vr (Xh m.X3) 5=true:=hq7;have hst:Xq m 6=Xq m 5++Ym m.X1.Xs++Ym m.X1.Xo:=(Jp (j:=5) (i:=5) rfl hbt).trans (List.append_assoc ..).symm;have hrm:=V9 (m:=m) (j:=5) (i:=5) rfl hbt (by decide);simp only [Vw,List.length_append,Yo,Wk] at hrm
   refine cT hq7 ?_
   refine xD [[],[],[1],[1,2],[0,1,2,3],[],[5],[5,6],[0,1,2,3,4,5,6,7],[0,1,2,3,4,5,6,7,8]] [hR 4 rfl rfl (Wm (I8 true false (Xq m 5) m.X1.Xs (by omega)) Try.func47 rfl (by decide) [3] [2] (l:=[(.tmp 55,Y3 2 kU8 0 (Xq m 5).length),(.tmp 58,vI m.X1.Xs)]) [(2,.live (Xe 5 kU8 (Xq m 5)))] rfl 0 1 rfl rfl rfl rfl rfl rfl rfl rfl rfl ⟨.inr (.inl ⟨rfl,Um,rfl,rfl,by simp,5,(Xq m 5).length,We kU8 (Xq m 5),List.Mem.head _,pe,fun i j=>by rw [Nat.zero_add]⟩),⟨.inl ⟨rfl,rfl⟩,trivial⟩⟩ rfl pZ3 pd (X8 rfl) trivial),hR 8 rfl rfl (Wm (I8 true false ((Xq m 5)++Ym m.X1.Xs) m.X1.Xo p1u) Try.func47 rfl (by decide) [4] [3] (l:=[(.tmp 59,Y3 3 kU8 0 ((Xq m 5)++Ym m.X1.Xs).length),(.tmp 62,vI m.X1.Xo)]) [(3,.live (Xe 5 kU8 ((Xq m 5)++Ym m.X1.Xs)))] rfl 0 1 rfl rfl rfl rfl rfl rfl rfl rfl rfl ⟨.inr (.inl ⟨rfl,Um,rfl,rfl,by simp,5,((Xq m 5)++Ym m.X1.Xs).length,We kU8 ((Xq m 5)++Ym m.X1.Xs),List.Mem.head _,pe,fun i j=>by rw [Nat.zero_add]⟩),⟨.inl ⟨rfl,rfl⟩,trivial⟩⟩ rfl pZ3 pd (X8 rfl) trivial)] pZ4 pZ4 pZ4 pZ4 pZ4 pZ4 ?_
   refine eN ⟨[aa,pv 0 0,aa,pv 1 0,aa,(Z4h m),aa,aa,aa,aa,aa,aa,aa,aa,aa,aa,aa,aa,aa,aa,aa,aa,aa,aa,aa,aa,aa,aa,aa,aa,aa,aa,aa,aa,aa,aa,aa,aa,aa,aa,aa,aa,aa,aa,aa,aa,aa,aa,aa,aa,aa,aa,aa,aa,vB (Xh m.X3).X1],[(Z3z tm m),(Z42 m),.live (Xe 5 kU8 (Xq m 5)),.live (Xe 5 kU8 ((Xq m 5)++Ym m.X1.Xs)),.live (Xe 5 kU8 ((Xq m 5)++Ym m.X1.Xs++Ym m.X1.Xo))]⟩ ?_
   refine Xm (s':=⟨(Z4f m),(Z4g tm m)⟩) (fun _ _ hG=>Wp [0,1,4] (bm 6 42) (t1:=[aa,pv 0 0,aa,pv 1 0,aa,Y3 4 kU8 0 (Xq m 6).length]) (t2:=[aa,pv 0 0,aa,pv 1 0,aa,(Z4h m)]) (h1:=(Z4g tm m)) (h2:=[(Z3z tm m),(Z42 m),.live (Xe 5 kU8 ((Xq m 5)++Ym m.X1.Xs++Ym m.X1.Xo))]) (by have e1:((Xq m 6).length:Nat)=((Xq m 5)++Ym m.X1.Xs++Ym m.X1.Xo).length:=po;have hE:=congrArg (fun (q1:Nat)=>([aa,pv 0 0,aa,pv 1 0,aa,Y3 4 kU8 0 q1]:List AV)) e1;exact hE) (by have e1:((Xq m 6):List UInt8)=(Xq m 5)++Ym m.X1.Xs++Ym m.X1.Xo:=po;have hE:=congrArg (fun (q1:List UInt8)=>([(Z3z tm m),(Z42 m),.live (Xe 5 kU8 q1)]:List HS)) e1;exact hE) hG) ?_
   exact nJ
  have hbt:¬Vr (Xh m.X3) 5=true:=hq7;have hst:Xq m 6=Xq m 5:=Hn (j:=5) hbt
  replace hq7:=Bool.eq_false_iff.2 hq7
  refine cF hq7 (T.skip ?_)
  refine eN ⟨[aa,pv 0 0,aa,pv 1 0,aa,Y3 2 kU8 0 (Xq m 5).length,aa,aa,aa,aa,aa,aa,aa,aa,aa,aa,aa,aa,aa,aa,aa,aa,aa,aa,aa,aa,aa,aa,aa,aa,aa,aa,aa,aa,aa,aa,aa,aa,aa,aa,aa,aa,aa,aa,aa,aa,aa,aa,aa,aa,aa,aa,aa,aa,vB (Xh m.X3).X1],(Z4e tm m)⟩ ?_
  refine Xm (s':=⟨(Z4f m),(Z4g tm m)⟩) (fun _ _ hG=>Yc [0,1,2] (bm 6 42) (t2:=(Z4d m)) (h2:=(Z4e tm m)) (by have e1:((Xq m 6).length:Nat)=(Xq m 5).length:=po;have hE:=congrArg (fun (q1:Nat)=>([aa,pv 0 0,aa,pv 1 0,aa,Y3 2 kU8 0 q1]:List AV)) e1;exact hE) (by have e1:((Xq m 6):List UInt8)=(Xq m 5):=po;have hE:=congrArg (fun (q1:List UInt8)=>([(Z3z tm m),(Z42 m),.live (Xe 5 kU8 q1)]:List HS)) e1;exact hE) hG) ?_
  exact nJ
 refine Ve ⟨(Z4i m),(Z4j tm m)⟩ ?_ ?_
 ·refine sR [] ?_
  by_cases hq8:(Xh m.X3).Xf=true
  ·have hbt:Vr (Xh m.X3) 6=true:=hq8;have hst:Xq m 7=Xq m 6++W5 m.Xf:=(Jp (j:=6) (i:=6) rfl hbt);have hrm:=V9 (m:=m) (j:=6) (i:=6) rfl hbt (by decide);simp only [Vw,List.length_append,Yo,Wk] at hrm
   refine cT hq8 (xK [hR 3 rfl rfl (Wm (X1l true false (Xq m 6) tm false tm m.Xf (by omega) (by omega)) Try.func49 rfl (by decide) [3] [2] (l:=[(.tmp 66,Y3 2 kU8 0 (Xq m 6).length),(.tmp 68,slV tm false (kE tm) m.Xf)]) [(2,.live (Xe 5 kU8 (Xq m 6)))] rfl 0 1 rfl rfl rfl rfl rfl rfl rfl rfl rfl ⟨.inr (.inl ⟨rfl,Um,rfl,rfl,by simp,5,(Xq m 6).length,We kU8 (Xq m 6),List.Mem.head _,pe,fun i j=>by rw [Nat.zero_add]⟩),⟨.inl ⟨rfl,rfl⟩,trivial⟩⟩ rfl pZ3 pd (X8 rfl) trivial)] ?_)
   refine eN ⟨[aa,pv 0 0,aa,pv 1 0,aa,Y3 3 kU8 0 ((Xq m 6)++W5 m.Xf).length,aa,aa,aa,aa,aa,aa,aa,aa,aa,aa,aa,aa,aa,aa,aa,aa,aa,aa,aa,aa,aa,aa,aa,aa,aa,aa,aa,aa,aa,aa,aa,aa,aa,aa,aa,aa,aa,aa,aa,aa,aa,aa,aa,aa,aa,aa,aa,aa,aa,aa,aa,aa,aa,aa,aa,aa,aa,aa,aa,vB (Xh m.X3).Xf],[(Z3z tm m),(Z42 m),.live (Xe 5 kU8 (Xq m 6)),.live (Xe 5 kU8 ((Xq m 6)++W5 m.Xf))]⟩ ?_
   refine Xm (s':=⟨(Z4i m),(Z4j tm m)⟩) (fun _ _ hG=>Wp [0,1,3] (bm 6 42) (t1:=[aa,pv 0 0,aa,pv 1 0,aa,Y3 3 kU8 0 (Xq m 7).length]) (t2:=[aa,pv 0 0,aa,pv 1 0,aa,Y3 3 kU8 0 ((Xq m 6)++W5 m.Xf).length]) (h1:=(Z4j tm m)) (h2:=[(Z3z tm m),(Z42 m),.live (Xe 5 kU8 ((Xq m 6)++W5 m.Xf))]) (by have e1:((Xq m 7).length:Nat)=((Xq m 6)++W5 m.Xf).length:=po;have hE:=congrArg (fun (q1:Nat)=>([aa,pv 0 0,aa,pv 1 0,aa,Y3 3 kU8 0 q1]:List AV)) e1;exact hE) (by have e1:((Xq m 7):List UInt8)=(Xq m 6)++W5 m.Xf:=po;have hE:=congrArg (fun (q1:List UInt8)=>([(Z3z tm m),(Z42 m),.live (Xe 5 kU8 q1)]:List HS)) e1;exact hE) hG) ?_
   exact nJ
  have hbt:¬Vr (Xh m.X3) 6=true:=hq8;have hst:Xq m 7=Xq m 6:=Hn (j:=6) hbt
  replace hq8:=Bool.eq_false_iff.2 hq8
  refine cF hq8 (T.skip ?_)
  refine eN ⟨[aa,pv 0 0,aa,pv 1 0,aa,Y3 2 kU8 0 (Xq m 6).length,aa,aa,aa,aa,aa,aa,aa,aa,aa,aa,aa,aa,aa,aa,aa,aa,aa,aa,aa,aa,aa,aa,aa,aa,aa,aa,aa,aa,aa,aa,aa,aa,aa,aa,aa,aa,aa,aa,aa,aa,aa,aa,aa,aa,aa,aa,aa,aa,aa,aa,aa,aa,aa,aa,aa,aa,aa,aa,aa,vB (Xh m.X3).Xf],(Z4g tm m)⟩ ?_
  refine Xm (s':=⟨(Z4i m),(Z4j tm m)⟩) (fun _ _ hG=>Yc [0,1,2] (bm 6 42) (t2:=(Z4f m)) (h2:=(Z4g tm m)) (by have e1:((Xq m 7).length:Nat)=(Xq m 6).length:=po;have hE:=congrArg (fun (q1:Nat)=>([aa,pv 0 0,aa,pv 1 0,aa,Y3 2 kU8 0 q1]:List AV)) e1;exact hE) (by have e1:((Xq m 7):List UInt8)=(Xq m 6):=po;have hE:=congrArg (fun (q1:List UInt8)=>([(Z3z tm m),(Z42 m),.live (Xe 5 kU8 q1)]:List HS)) e1;exact hE) hG) ?_
  exact nJ
 refine Ve ⟨(Z4k m),(Z4l tm m)⟩ ?_ ?_
 ·refine sR [] ?_
  by_cases hq9:(Xh m.X3).Xr=true
  ·have hbt:Vr (Xh m.X3) 7=true:=hq9;have hst:Xq m 8=Xq m 7++W5 m.Xr:=(Jp (j:=7) (i:=7) rfl hbt);have hrm:=V9 (m:=m) (j:=7) (i:=7) rfl hbt (by decide);simp only [Vw,List.length_append,Yo,Wk] at hrm
   refine cT hq9 (xK [hR 3 rfl rfl (Wm (X1l true false (Xq m 7) tm false tm m.Xr (by omega) (by omega)) Try.func49 rfl (by decide) [3] [2] (l:=[(.tmp 72,Y3 2 kU8 0 (Xq m 7).length),(.tmp 74,slV tm false (kE tm) m.Xr)]) [(2,.live (Xe 5 kU8 (Xq m 7)))] rfl 0 1 rfl rfl rfl rfl rfl rfl rfl rfl rfl ⟨.inr (.inl ⟨rfl,Um,rfl,rfl,by simp,5,(Xq m 7).length,We kU8 (Xq m 7),List.Mem.head _,pe,fun i j=>by rw [Nat.zero_add]⟩),⟨.inl ⟨rfl,rfl⟩,trivial⟩⟩ rfl pZ3 pd (X8 rfl) trivial)] ?_)
   refine eN ⟨[aa,pv 0 0,aa,pv 1 0,aa,Y3 3 kU8 0 ((Xq m 7)++W5 m.Xr).length,aa,aa,aa,aa,aa,aa,aa,aa,aa,aa,aa,aa,aa,aa,aa,aa,aa,aa,aa,aa,aa,aa,aa,aa,aa,aa,aa,aa,aa,aa,aa,aa,aa,aa,aa,aa,aa,aa,aa,aa,aa,aa,aa,aa,aa,aa,aa,aa,aa,aa,aa,aa,aa,aa,aa,aa,aa,aa,aa,aa,aa,aa,aa,aa,aa,vB (Xh m.X3).Xr],[(Z3z tm m),(Z42 m),.live (Xe 5 kU8 (Xq m 7)),.live (Xe 5 kU8 ((Xq m 7)++W5 m.Xr))]⟩ ?_
   refine Xm (s':=⟨(Z4k m),(Z4l tm m)⟩) (fun _ _ hG=>Wp [0,1,3] (bm 6 42) (t1:=[aa,pv 0 0,aa,pv 1 0,aa,Y3 3 kU8 0 (Xq m 8).length]) (t2:=[aa,pv 0 0,aa,pv 1 0,aa,Y3 3 kU8 0 ((Xq m 7)++W5 m.Xr).length]) (h1:=(Z4l tm m)) (h2:=[(Z3z tm m),(Z42 m),.live (Xe 5 kU8 ((Xq m 7)++W5 m.Xr))]) (by have e1:((Xq m 8).length:Nat)=((Xq m 7)++W5 m.Xr).length:=po;have hE:=congrArg (fun (q1:Nat)=>([aa,pv 0 0,aa,pv 1 0,aa,Y3 3 kU8 0 q1]:List AV)) e1;exact hE) (by have e1:((Xq m 8):List UInt8)=(Xq m 7)++W5 m.Xr:=po;have hE:=congrArg (fun (q1:List UInt8)=>([(Z3z tm m),(Z42 m),.live (Xe 5 kU8 q1)]:List HS)) e1;exact hE) hG) ?_
   exact nJ
  have hbt:¬Vr (Xh m.X3) 7=true:=hq9;have hst:Xq m 8=Xq m 7:=Hn (j:=7) hbt
  replace hq9:=Bool.eq_false_iff.2 hq9
  refine cF hq9 (T.skip ?_)
  refine eN ⟨[aa,pv 0 0,aa,pv 1 0,aa,Y3 2 kU8 0 (Xq m 7).length,aa,aa,aa,aa,aa,aa,aa,aa,aa,aa,aa,aa,aa,aa,aa,aa,aa,aa,aa,aa,aa,aa,aa,aa,aa,aa,aa,aa,aa,aa,aa,aa,aa,aa,aa,aa,aa,aa,aa,aa,aa,aa,aa,aa,aa,aa,aa,aa,aa,aa,aa,aa,aa,aa,aa,aa,aa,aa,aa,aa,aa,aa,aa,aa,aa,vB (Xh m.X3).Xr],(Z4j tm m)⟩ ?_
  refine Xm (s':=⟨(Z4k m),(Z4l tm m)⟩) (fun _ _ hG=>Yc [0,1,2] (bm 6 42) (t2:=(Z4i m)) (h2:=(Z4j tm m)) (by have e1:((Xq m 8).length:Nat)=(Xq m 7).length:=po;have hE:=congrArg (fun (q1:Nat)=>([aa,pv 0 0,aa,pv 1 0,aa,Y3 2 kU8 0 q1]:List AV)) e1;exact hE) (by have e1:((Xq m 8):List UInt8)=(Xq m 7):=po;have hE:=congrArg (fun (q1:List UInt8)=>([(Z3z tm m),(Z42 m),.live (Xe 5 kU8 q1)]:List HS)) e1;exact hE) hG) ?_
  exact nJ
 refine Ve ⟨(Z4m m),(Z4n tm m)⟩ ?_ ?_
 ·refine sR [] ?_
  by_cases hq10:(Xh m.X3).X7=true
  rotate_left
  ·have hbt:¬Vr (Xh m.X3) 8=true:=hq10;have hst:Xq m 9=Xq m 8:=Hn (j:=8) hbt
   replace hq10:=Bool.eq_false_iff.2 hq10
   refine cF hq10 (T.skip ?_)
   refine eN ⟨[aa,pv 0 0,aa,pv 1 0,aa,Y3 2 kU8 0 (Xq m 8).length,aa,aa,aa,aa,aa,aa,aa,aa,aa,aa,aa,aa,aa,aa,aa,aa,aa,aa,aa,aa,aa,aa,aa,aa,aa,aa,aa,aa,aa,aa,aa,aa,aa,aa,aa,aa,aa,aa,aa,aa,aa,aa,aa,aa,aa,aa,aa,aa,aa,aa,aa,aa,aa,aa,aa,aa,aa,aa,aa,aa,aa,aa,aa,aa,aa,aa,aa,aa,aa,aa,aa,vB (Xh m.X3).X7],(Z4l tm m)⟩ ?_
   refine Xm (s':=⟨(Z4m m),(Z4n tm m)⟩) (fun _ _ hG=>Yc [0,1,2] (bm 6 42) (t2:=(Z4k m)) (h2:=(Z4l tm m)) (by have e1:((Xq m 9).length:Nat)=(Xq m 8).length:=po;have hE:=congrArg (fun (q1:Nat)=>([aa,pv 0 0,aa,pv 1 0,aa,Y3 2 kU8 0 q1]:List AV)) e1;exact hE) (by have e1:((Xq m 9):List UInt8)=(Xq m 8):=po;have hE:=congrArg (fun (q1:List UInt8)=>([(Z3z tm m),(Z42 m),.live (Xe 5 kU8 q1)]:List HS)) e1;exact hE) hG) ?_
   exact nJ
  have hbt:Vr (Xh m.X3) 8=true:=hq10;have hst:Xq m 9=Xq m 8++Jl m.X7:=(Jp (j:=8) (i:=8) rfl hbt);have hrm:=V9 (m:=m) (j:=8) (i:=8) rfl hbt (by decide);simp only [Vw,List.length_append,Yo,Wk] at hrm
  refine cT hq10 (sR [hR 4 rfl rfl (Wm (Em true false (Xq m 8) ((m.X7.length:Nat):Int) (by omega)) Try.func50 rfl (by decide) [3] [2] (l:=[(.tmp 78,Y3 2 kU8 0 (Xq m 8).length),(.tmp 81,vI ((m.X7.length:Nat):Int))]) [(2,.live (Xe 5 kU8 (Xq m 8)))] rfl 0 1 rfl rfl rfl rfl rfl rfl rfl rfl rfl ⟨.inr (.inl ⟨rfl,Um,rfl,rfl,by simp,5,(Xq m 8).length,We kU8 (Xq m 8),List.Mem.head _,pe,fun i j=>by rw [Nat.zero_add]⟩),⟨.inl ⟨rfl,rfl⟩,trivial⟩⟩ rfl pZ3 pd (X8 rfl) trivial)] (sR [] (T.block ?_)))
  refine T.loop (ι:=Nat) (fun (k:Nat)=>(Z4q tm m k)) (fun (k:Nat)=>(k≤m.X7.length)) (fun (k:Nat)=>m.X7.length-k) (0) (Nat.zero_le _) (fun _ _ hG=>Wp [0,1,3] (bm 7 106) (t1:=[aa,pv 0 0,aa,pv 1 0,aa,Y3 3 kU8 0 ((Xq m 8)++W3 ((m.X7.length:Nat):Int)++Vi m.X7 0).length,vI 0]) (t2:=[aa,pv 0 0,aa,pv 1 0,aa,Y3 3 kU8 0 ((Xq m 8)++W3 ((m.X7.length:Nat):Int)).length,vI 0]) (h1:=(Z4r tm m)) (h2:=[(Z3z tm m),(Z42 m),.live (Xe 5 kU8 ((Xq m 8)++W3 ((m.X7.length:Nat):Int)))]) (by have e1:(((Xq m 8)++W3 ((m.X7.length:Nat):Int)++Vi m.X7 0).length:Nat)=((Xq m 8)++W3 ((m.X7.length:Nat):Int)).length:=p3m;have hE:=congrArg (fun (q1:Nat)=>([aa,pv 0 0,aa,pv 1 0,aa,Y3 3 kU8 0 q1,vI 0]:List AV)) e1;exact hE) (by have e1:(((Xq m 8)++W3 ((m.X7.length:Nat):Int)++Vi m.X7 0):List UInt8)=(Xq m 8)++W3 ((m.X7.length:Nat):Int):=p3m;have hE:=congrArg (fun (q1:List UInt8)=>([(Z3z tm m),(Z42 m),.live (Xe 5 kU8 q1)]:List HS)) e1;exact hE) hG) ?_
  rintro k hk
  show T _ _ (Z4q tm m k) _ _
  replace hk:k≤m.X7.length:=hk
  have hcle:=crt_le m.X7 k
  refine T.seq (sR [] ?_)
  by_cases hq11:((k:Nat):Int)<((m.X7.length:Nat):Int)
  ·have hcr:=Xbo (l:=m.X7) (k:=k) (by omega);have hvc:=Xb6 (m.X7.getD k zC).Yg;have hcl:=Uh ((m.X7.length:Nat):Int)
   refine cT (dT hq11) (T.skip (nT (T.seq (T.block ?_))))
   refine xD [[],[],[1],[],[1,2,3],[1,2,3,4],[1,2,3,4,5],[0,1,2,3,4,5,6],[],[8],[],[8,9,10],[8,9,10,11],[8,9,10,11,12],[0,1,2,3,4,5,6,7,8,9,10,11,12,13],[0,1,2,3,4,5,6,7,8,9,10,11,12,13,14]] [hR 4 rfl rfl (Wc tm false (kC tm) m.X7 k (k:=.i64) (i:=((k:Nat):Int)) Try.underlying40 I3 rfl rfl (by omega) (X8 rfl) trivial),hR 7 rfl rfl (Wm (El true false ((Xq m 8)++W3 ((m.X7.length:Nat):Int)++Vi m.X7 k) tm (m.X7.getD k zC).V4 p1u) Try.func51 rfl (by decide) [3] [2] (l:=[(.tmp 90,(Z4o m k)),(.tmp 96,.tv (.agg [dI (m.X7.getD k zC).V4.X4,.d (dsl tm false kU8 (m.X7.getD k zC).V4.X9)]))]) [(2,(Z4p m k))] rfl 0 1 rfl rfl rfl rfl rfl rfl rfl rfl rfl ⟨.inr (.inl ⟨rfl,Um,rfl,rfl,by simp,5,((Xq m 8)++W3 ((m.X7.length:Nat):Int)++Vi m.X7 k).length,We kU8 ((Xq m 8)++W3 ((m.X7.length:Nat):Int)++Vi m.X7 k),List.Mem.head _,pe,fun i j=>by rw [Nat.zero_add]⟩),⟨⟨.inl ⟨rfl,rfl⟩,⟨.inl ⟨rfl,rfl⟩,trivial⟩⟩,trivial⟩⟩ rfl pZ3 pd (X8 rfl) trivial),hR 11 rfl rfl (Wc tm false (kC tm) m.X7 k (k:=.i64) (i:=((k:Nat):Int)) Try.underlying40 I3 rfl rfl (by omega) (X8 rfl) trivial),hR 14 rfl rfl (Wm (X1l true false (((Xq m 8)++W3 ((m.X7.length:Nat):Int)++Vi m.X7 k)++Vk (m.X7.getD k zC).V4) tm false tm (m.X7.getD k zC).Yg p1u (by omega)) Try.func49 rfl (by decide) [4] [3] (l:=[(.tmp 97,Y3 3 kU8 0 (((Xq m 8)++W3 ((m.X7.length:Nat):Int)++Vi m.X7 k)++Vk (m.X7.getD k zC).V4).length),(.tmp 103,slV tm false (kE tm) (m.X7.getD k zC).Yg)]) [(3,.live (Xe 5 kU8 (((Xq m 8)++W3 ((m.X7.length:Nat):Int)++Vi m.X7 k)++Vk (m.X7.getD k zC).V4)))] rfl 0 1 rfl rfl rfl rfl rfl rfl rfl rfl rfl ⟨.inr (.inl ⟨rfl,Um,rfl,rfl,by simp,5,(((Xq m 8)++W3 ((m.X7.length:Nat):Int)++Vi m.X7 k)++Vk (m.X7.getD k zC).V4).length,We kU8 (((Xq m 8)++W3 ((m.X7.length:Nat):Int)++Vi m.X7 k)++Vk (m.X7.getD k zC).V4),List.Mem.head _,pe,fun i j=>by rw [Nat.zero_add]⟩),⟨.inl ⟨rfl,rfl⟩,trivial⟩⟩ rfl pZ3 pd (X8 rfl) trivial)] pZ4 pZ4 pZ4 pZ4 pZ4 pZ4 ?_
   refine nB (nT (xK [hR 1 rfl rfl (Y9 (u1:=.int .i64 ((k:Nat):Int)) (u2:=.int .i64 1) (v:=.int .i64 ((k+1:Nat):Int)) (W6 pZ5) (X8 rfl) ⟨rfl,trivial⟩)] ?_))
   refine nL (k+1) (show (k+1)≤m.X7.length from (by omega)) (show (m.X7.length-(k+1):Nat)<m.X7.length-k from (by omega)) (fun _ _ hG=>Wp [0,1,4] (bm 7 106) (t1:=[aa,pv 0 0,aa,pv 1 0,aa,Y3 4 kU8 0 ((Xq m 8)++W3 ((m.X7.length:Nat):Int)++Vi m.X7 (k+1)).length,(Z4s k)]) (t2:=[aa,pv 0 0,aa,pv 1 0,aa,Y3 4 kU8 0 (((Xq m 8)++W3 ((m.X7.length:Nat):Int)++Vi m.X7 k)++Vk (m.X7.getD k zC).V4++W5 (m.X7.getD k zC).Yg).length,(Z4s k)]) (h1:=(Z4t tm m k)) (h2:=[(Z3z tm m),(Z42 m),.live (Xe 5 kU8 (((Xq m 8)++W3 ((m.X7.length:Nat):Int)++Vi m.X7 k)++Vk (m.X7.getD k zC).V4++W5 (m.X7.getD k zC).Yg))]) (by have e1:(((Xq m 8)++W3 ((m.X7.length:Nat):Int)++Vi m.X7 (k+1)).length:Nat)=(((Xq m 8)++W3 ((m.X7.length:Nat):Int)++Vi m.X7 k)++Vk (m.X7.getD k zC).V4++W5 (m.X7.getD k zC).Yg).length:=p2w;have hE:=congrArg (fun (q1:Nat)=>([aa,pv 0 0,aa,pv 1 0,aa,Y3 4 kU8 0 q1,(Z4s k)]:List AV)) e1;exact hE) (by have e1:(((Xq m 8)++W3 ((m.X7.length:Nat):Int)++Vi m.X7 (k+1)):List UInt8)=((Xq m 8)++W3 ((m.X7.length:Nat):Int)++Vi m.X7 k)++Vk (m.X7.getD k zC).V4++W5 (m.X7.getD k zC).Yg:=p2w;have hE:=congrArg (fun (q1:List UInt8)=>([(Z3z tm m),(Z42 m),.live (Xe 5 kU8 q1)]:List HS)) e1;exact hE) hG)
  refine cF (dF hq11) (T.exit (xT (xT (xH ?_))))
  refine eN ⟨[aa,pv 0 0,aa,pv 1 0,aa,(Z4o m k),vI ((k:Nat):Int),aa,aa,aa,aa,aa,aa,aa,aa,aa,aa,aa,aa,aa,aa,aa,aa,aa,aa,aa,aa,aa,aa,aa,aa,aa,aa,aa,aa,aa,aa,aa,aa,aa,aa,aa,aa,aa,aa,aa,aa,aa,aa,aa,aa,aa,aa,aa,aa,aa,aa,aa,aa,aa,aa,aa,aa,aa,aa,aa,aa,aa,aa,aa,aa,aa,aa,aa,aa,aa,aa,aa,aa,aa,aa,aa,aa,aa,aa,aa,aa,vB (decide (((k:Nat):Int)<((m.X7.length:Nat):Int)))],[(Z3z tm m),(Z42 m),(Z4p m k)]⟩ ?_
  refine Xm (s':=⟨(Z4m m),(Z4n tm m)⟩) (fun _ _ hG=>Yc [0,1,2] (bm 6 42) (t2:=[aa,pv 0 0,aa,pv 1 0,aa,(Z4o m k)]) (h2:=[(Z3z tm m),(Z42 m),(Z4p m k)]) (by have e1:((Xq m 9).length:Nat)=((Xq m 8)++W3 ((m.X7.length:Nat):Int)++Vi m.X7 k).length:=p4b;have hE:=congrArg (fun (q1:Nat)=>([aa,pv 0 0,aa,pv 1 0,aa,Y3 2 kU8 0 q1]:List AV)) e1;exact hE) (by have e1:((Xq m 9):List UInt8)=((Xq m 8)++W3 ((m.X7.length:Nat):Int)++Vi m.X7 k):=p4b;have hE:=congrArg (fun (q1:List UInt8)=>([(Z3z tm m),(Z42 m),.live (Xe 5 kU8 q1)]:List HS)) e1;exact hE) hG) ?_
  exact nJ
 refine sR [] (T.ret ?_)
 refine eN ⟨(Z4u m),(Z4n tm m)⟩ ?_
 refine Xm (s':=⟨[aa,pv 0 0,slV false false kU8 (Xq m 9),pv 1 0,aa,slV false false kU8 (Xq m 9)],[(Z3z tm m),(Z42 m),.dead]⟩) (fun _ _ hG=>Gs.freeze (s:=⟨(Z4u m),(Z4n tm m)⟩) 2 (el:=We kU8 (Xq m 9)) (sz:=kU8.sz) (n:=(Xq m 9).length) rfl (kk2 ⟨(.inr pZ6),(kk2 ⟨(.inr pZ6),trivial⟩)⟩) ⟨pc,⟨pc,⟨(.inl ⟨rfl,rfl⟩),trivial⟩⟩⟩ hG) ?_
 exact eRt 2 (.one (dU (Xq m 9))) [] (congrArg (fun (q1:List UInt8)=>(slV false false kU8 q1:AV)) (by exact (if_pos hwl))) trivial
end Go.Proofs.Ythnefnknoahbkaa.Q
namespace Go.Proofs.Ythnefnknoahbkaa.Q
set_option linter.unusedVariables false
set_option linter.unusedSimpArgs false
theorem Jq {n:Int} (hn:Un n) (r:List UInt8):rdI (Ym n++r) 0=n∧rdR (Ym n++r) 0 8 0=r∧rdE (Ym n++r) 0 8 0=0:=by
  have hk:okT (Ym n++r) 0 8 0:=X9f (Yo n)
  refine ⟨?_,?_,X1o hk⟩
  · rw [rdI,if_pos hk,X5e (Yo n),Ym,X8g (Nat.lt_of_lt_of_le (Xc1 n) (by decide)),Xet hn]
  · rw [X1n hk];exact X2t (Yo n)
theorem rdX_ok {r:List UInt8} {e:Int} (h:rdX r e=0):e=0∧r=[]:=by
  unfold rdX at h
  split at h
  · cases h
  · rename_i h1
    refine ⟨h,?_⟩
    cases r with
    | nil=>rfl
    | cons a r=>exact absurd ⟨h,by simp<;>omega⟩ h1
end Go.Proofs.Ythnefnknoahbkaa.Q
namespace Go.Proofs.Ythnefnknoahbkaa.Q
set_option linter.unusedVariables false
set_option linter.unusedSimpArgs false
theorem lim_big {rest:List UInt8} {M:Int} (hM:((rest.length:Nat):Int)≤M) (h:Wo (rest.take 4)≤(rest.drop 4).length):Yb M (rest.take 4)=0:=by
  unfold Yb
  rw [List.length_drop] at h
  rw [if_neg (by omega)]
theorem okY_any {rest:List UInt8} {e M M':Int} (hM:((rest.length:Nat):Int)≤M) (hM':((rest.length:Nat):Int)≤M') (h:okY rest e M):okY rest e M':=by
  obtain ⟨h1,h2⟩:=h
  exact ⟨⟨h1.1,h1.2.1,lim_big hM' h2⟩,h2⟩
theorem X9a {rest:List UInt8} {e M:Int}:J4 rest e M=0↔okY rest e M:=by
  unfold J4 okY
  constructor
  · intro h
    split at h
    · rename_i h1
      split at h
      · rename_i h2;exact ⟨h1,h2⟩
      · cases h
    · rename_i h1;exact absurd h (Xcg h1)
  · rintro ⟨h1,h2⟩
    rw [if_pos h1,if_pos h2]
theorem X99 {rest:List UInt8} {e M M':Int} (hM:((rest.length:Nat):Int)≤M) (hM':((rest.length:Nat):Int)≤M') (h:J4 rest e M=0):J4 rest e M'=0∧rdY rest e M'=rdY rest e M∧Ju rest e M'=Ju rest e M:=by
  have h1:=X9a.1 h
  have h2:=okY_any hM hM' h1
  exact ⟨X9a.2 h2,by rw [rdY,rdY,if_pos h1,if_pos h2],by rw [Ju,Ju,if_pos h1,if_pos h2]⟩
end Go.Proofs.Ythnefnknoahbkaa.Q
namespace Go.Proofs.Ythnefnknoahbkaa.Q
set_option linter.unusedVariables false
set_option linter.unusedSimpArgs false
def Ww (B r:List UInt8):Nat:=B.length-r.length
theorem X3a (B r:List UInt8):Ww B r≤B.length:=Nat.sub_le _ _
section
variable {B r:List UInt8}
theorem Fl (h:r <:+ B):B.drop (Ww B r)=r:=(List.suffix_iff_eq_drop.1 h).symm
theorem pos_0:Ww B B=0:=Nat.sub_self _
theorem rdR_suf (r:List UInt8) (e n m:Int):rdR r e n m <:+ r:=by unfold rdR;split<;>first|exact List.drop_suffix _ _|exact List.suffix_refl _
theorem rdYR_suf (r:List UInt8) (e m:Int):Ju r e m <:+ r:=by unfold Ju;split<;>first|exact (List.drop_suffix _ _).trans (List.drop_suffix _ _)|exact List.suffix_refl _
theorem sufR {e n m:Int} (h:r <:+ B):rdR r e n m <:+ B:=(rdR_suf _ _ _ _).trans h
theorem sufY {e m:Int} (h:r <:+ B):Ju r e m <:+ B:=(rdYR_suf _ _ _).trans h
theorem pos_of {a:Nat} (ha:a≤B.length) (h:B.drop a=r):a=Ww B r:=by
  subst h
  unfold Ww
  rw [List.length_drop]
  omega
theorem pos_R {e n m:Int} (h:r <:+ B):rfA B (Ww B r) e n m=Ww B (rdR r e n m):=pos_of (rfA_le (X3a _ _)) (by rw [rfA_drop,Fl h])
theorem pos_Y {e m:Int} (h:r <:+ B):X4h B (Ww B r) e m=Ww B (Ju r e m):=pos_of (rfYA_le (X3a _ _)) (by rw [Xf4,Fl h])
end
end Go.Proofs.Ythnefnknoahbkaa.Q
namespace Go.Proofs.Ythnefnknoahbkaa.Q
open Go Go.RowKit
set_option linter.unusedVariables false
set_option linter.unusedSimpArgs false
set_option maxRecDepth 100000
set_option maxHeartbeats 4000000
theorem Jh (B:List UInt8) (r:List UInt8) (e:Int) (hs:r <:+ B) (hB:B.length≤140737488350000):Holds Try.prog 34 ⟨[pv 0 0],[.box 87 [dU B,dI ((Ww B r:Nat):Int),dI e]],vI (rdI r e),[.live (.box 87 [dU B,dI ((Ww B (rdR r e 8 0):Nat):Int),dI (rdE r e 8 0)])]⟩:=by
  have h:=Xcd B (Ww B r) e (X3a B r) hB
  simp only [Fl hs,pos_R hs,pos_Y hs] at h
  exact h
theorem X2g (B:List UInt8) (r:List UInt8) (e:Int) (most:Int) (hs:r <:+ B) (hB:B.length≤140737488350000):Holds Try.prog 60 ⟨[pv 0 0,vI most],[.box 87 [dU B,dI ((Ww B r:Nat):Int),dI e]],vI ((rdC r e most:Nat):Int),[.live (.box 87 [dU B,dI ((Ww B (rdR r e 4 (Yb most (r.take 4))):Nat):Int),dI (rdE r e 4 (Yb most (r.take 4)))])]⟩:=by
  have h:=X2h B (Ww B r) e most (X3a B r) hB
  simp only [Fl hs,pos_R hs,pos_Y hs] at h
  exact h
theorem Xcc (B:List UInt8) (r:List UInt8) (e:Int) (hs:r <:+ B) (hB:B.length≤140737488350000):Holds Try.prog 37 ⟨[pv 0 0],[.box 87 [dU B,dI ((Ww B r:Nat):Int),dI e]],.tup [],[.live (.box 87 [dU B,dI ((Ww B r:Nat):Int),dI (rdX r e)])]⟩:=by
  have h:=Xce B (Ww B r) e (X3a B r) hB
  simp only [Fl hs,pos_R hs,pos_Y hs] at h
  exact h
theorem Fr (B:List UInt8) (r:List UInt8) (e:Int) (most:Int) (hs:r <:+ B) (hB:B.length≤140737488350000):Holds Try.prog 58 ⟨[pv 0 0,vI most],[.box 87 [dU B,dI ((Ww B r:Nat):Int),dI e]],Y3 1 kU8 0 (rdY r e most).length,[.live (.box 87 [dU B,dI ((Ww B (Ju r e most):Nat):Int),dI (J4 r e most)]),.live (Xe 5 kU8 (rdY r e most))]⟩:=by
  have h:=X97 B (Ww B r) e most (X3a B r) hB
  simp only [Fl hs,pos_R hs,pos_Y hs] at h
  exact h
end Go.Proofs.Ythnefnknoahbkaa.Q
namespace Go.Proofs.Ythnefnknoahbkaa.Q
set_option linter.unusedVariables false
set_option linter.unusedSimpArgs false
set_option maxRecDepth 100000
structure RdL where
  rest:List UInt8
  e:Int
  l:List aE
structure RdC where
  rest:List UInt8
  e:Int
  l:List aC
structure RdM where
  rest:List UInt8
  e:Int
  m:aM
section
variable (M N:Int) (r:List UInt8) (e:Int)
def evR:List UInt8:=Ju (rdR r e 8 0) (rdE r e 8 0) M
def evE:Int:=J4 (rdR r e 8 0) (rdE r e 8 0) M
def evV:aE:=⟨rdI r e,rdY (rdR r e 8 0) (rdE r e 8 0) M⟩
def Xad (s:RdL):RdL:=⟨evR M s.rest s.e,evE M s.rest s.e,s.l++[evV M s.rest s.e]⟩
def V8:Nat→RdL
  | 0=>⟨rdR r e 4 (Yb 15 (r.take 4)),rdE r e 4 (Yb 15 (r.take 4)),[]⟩
  | k+1=>Xad M (V8 k)
def Vx:RdL:=V8 M r e (rdC r e 15)
def Xae (s:RdC):RdC:=⟨(Vx M (evR M s.rest s.e) (evE M s.rest s.e)).rest,(Vx M (evR M s.rest s.e) (evE M s.rest s.e)).e,s.l++[⟨evV M s.rest s.e,(Vx M (evR M s.rest s.e) (evE M s.rest s.e)).l⟩]⟩
def Yk:Nat→RdC
  | 0=>⟨rdR r e 4 (Yb 8 (r.take 4)),rdE r e 4 (Yb 8 (r.take 4)),[]⟩
  | k+1=>Xae M (Yk k)
def Hq:RdC:=Yk M r e (rdC r e 8)
def mk0 (k:Int):aM:=⟨k,0,0,0,0,[],[],⟨0,0⟩,[],[],[]⟩
def Wf (s:RdM):Nat→RdM
  | 0=>⟨rdR s.rest s.e 8 0,rdE s.rest s.e 8 0,⟨s.m.X3,rdI s.rest s.e,s.m.Xy,s.m.Xb,s.m.Xv,s.m.Xc,s.m.Xk,s.m.X1,s.m.Xf,s.m.Xr,s.m.X7⟩⟩
  | 1=>⟨rdR s.rest s.e 8 0,rdE s.rest s.e 8 0,⟨s.m.X3,s.m.Xt,rdI s.rest s.e,s.m.Xb,s.m.Xv,s.m.Xc,s.m.Xk,s.m.X1,s.m.Xf,s.m.Xr,s.m.X7⟩⟩
  | 2=>⟨rdR (rdR s.rest s.e 8 0) (rdE s.rest s.e 8 0) 8 0,rdE (rdR s.rest s.e 8 0) (rdE s.rest s.e 8 0) 8 0,⟨s.m.X3,s.m.Xt,s.m.Xy,rdI s.rest s.e,rdI (rdR s.rest s.e 8 0) (rdE s.rest s.e 8 0),s.m.Xc,s.m.Xk,s.m.X1,s.m.Xf,s.m.Xr,s.m.X7⟩⟩
  | 3=>⟨Ju s.rest s.e M,J4 s.rest s.e M,⟨s.m.X3,s.m.Xt,s.m.Xy,s.m.Xb,s.m.Xv,rdY s.rest s.e M,s.m.Xk,s.m.X1,s.m.Xf,s.m.Xr,s.m.X7⟩⟩
  | 4=>⟨Ju s.rest s.e M,J4 s.rest s.e M,⟨s.m.X3,s.m.Xt,s.m.Xy,s.m.Xb,s.m.Xv,s.m.Xc,rdY s.rest s.e M,s.m.X1,s.m.Xf,s.m.Xr,s.m.X7⟩⟩
  | 5=>⟨rdR (rdR s.rest s.e 8 0) (rdE s.rest s.e 8 0) 8 0,rdE (rdR s.rest s.e 8 0) (rdE s.rest s.e 8 0) 8 0,⟨s.m.X3,s.m.Xt,s.m.Xy,s.m.Xb,s.m.Xv,s.m.Xc,s.m.Xk,⟨rdI s.rest s.e,rdI (rdR s.rest s.e 8 0) (rdE s.rest s.e 8 0)⟩,s.m.Xf,s.m.Xr,s.m.X7⟩⟩
  | 6=>⟨(Vx N s.rest s.e).rest,(Vx N s.rest s.e).e,⟨s.m.X3,s.m.Xt,s.m.Xy,s.m.Xb,s.m.Xv,s.m.Xc,s.m.Xk,s.m.X1,(Vx N s.rest s.e).l,s.m.Xr,s.m.X7⟩⟩
  | 7=>⟨(Vx N s.rest s.e).rest,(Vx N s.rest s.e).e,⟨s.m.X3,s.m.Xt,s.m.Xy,s.m.Xb,s.m.Xv,s.m.Xc,s.m.Xk,s.m.X1,s.m.Xf,(Vx N s.rest s.e).l,s.m.X7⟩⟩
  | 8=>⟨(Hq N s.rest s.e).rest,(Hq N s.rest s.e).e,⟨s.m.X3,s.m.Xt,s.m.Xy,s.m.Xb,s.m.Xv,s.m.Xc,s.m.Xk,s.m.X1,s.m.Xf,s.m.Xr,(Hq N s.rest s.e).l⟩⟩
  | _=>s
def Xu (k:Int):Nat→RdM
  | 0=>⟨r,e,mk0 k⟩
  | j+1=>if Vr (Xh k) j=true then Wf M N (Xu k j) j else Xu k j
end
def X1w (M N:Int) (b:List UInt8):RdM:=Xu M N (rdR b 0 8 0) (rdE b 0 8 0) (rdI b 0) 9
def okD (M N:Int) (b:List UInt8):Prop:=b.length≤16777216∧okK (rdI b 0)∧rdX (X1w M N b).rest (X1w M N b).e=0∧Hd (X1w M N b).m
instance (M N:Int) (b:List UInt8):Decidable (okD M N b):=by unfold okD;infer_instance
def decW (M N:Int) (b:List UInt8):aM:=if okD M N b then (X1w M N b).m else zM
def decX (M N:Int) (b:List UInt8):Int:=if b.length>16777216 then 11 else if okD M N b then 0 else 12
def Y6 (b:List UInt8):aM:=decW ((b.length:Nat):Int) 16777216 b
def E0 (b:List UInt8):Int:=decX ((b.length:Nat):Int) 16777216 b
section
variable {M N:Int} {r B:List UInt8} {e:Int}
theorem X51 (M:Int) (r:List UInt8) (e:Int):(evR M r e).length≤r.length:=Nat.le_trans (X6a _ _ _) (U7 _ _ _ _)
theorem Ff (M:Int) (r:List UInt8) (e:Int):∀ k,(V8 M r e k).rest.length≤r.length∧(V8 M r e k).l.length=k
  | 0=>⟨U7 _ _ _ _,rfl⟩
  | k+1=>by
    obtain ⟨h1,h2⟩:=Ff M r e k
    refine ⟨Nat.le_trans (X51 _ _ _) h1,?_⟩
    show ((V8 M r e k).l++[_]).length=_
    rw [List.length_append,List.length_singleton,h2]
theorem X0n (r:List UInt8) (e:Int) (n:Nat):rdC r e ((n:Nat):Int)≤n:=by
  unfold rdC
  split
  · rename_i h
    have h3:=h.2.2
    unfold Yb at h3
    split at h3
    · cases h3
    · omega
  · exact Nat.zero_le _
theorem X01 (M:Int) (r:List UInt8) (e:Int):(Vx M r e).rest.length≤r.length∧(Vx M r e).l.length≤15:=⟨(Ff _ _ _ _).1,by rw [Vx,(Ff _ _ _ _).2];exact X0n r e 15⟩
theorem Iy (M:Int) (r:List UInt8) (e:Int):∀ k,(Yk M r e k).rest.length≤r.length∧(Yk M r e k).l.length=k
  | 0=>⟨U7 _ _ _ _,rfl⟩
  | k+1=>by
    obtain ⟨h1,h2⟩:=Iy M r e k
    refine ⟨Nat.le_trans (X01 _ _ _).1 (Nat.le_trans (X51 _ _ _) h1),?_⟩
    show ((Yk M r e k).l++[_]).length=_
    rw [List.length_append,List.length_singleton,h2]
theorem Xbe (M:Int) (r:List UInt8) (e:Int):(Hq M r e).rest.length≤r.length∧(Hq M r e).l.length≤8:=⟨(Iy _ _ _ _).1,by rw [Hq,(Iy _ _ _ _).2];exact X0n r e 8⟩
theorem sufE (h:r <:+ B):evR M r e <:+ B:=sufY (sufR h)
theorem sufL (h:r <:+ B):∀ k,(V8 M r e k).rest <:+ B
  | 0=>sufR h
  | k+1=>sufE (sufL h k)
theorem sufF (h:r <:+ B):(Vx M r e).rest <:+ B:=sufL h _
theorem sufC (h:r <:+ B):∀ k,(Yk M r e k).rest <:+ B
  | 0=>sufR h
  | k+1=>sufF (sufE (sufC h k))
theorem sufG (h:r <:+ B):(Hq M r e).rest <:+ B:=sufC h _
theorem Vv {k:Int} {j i:Nat} (h:j=i) (hb:Vr (Xh k) j=true):Xu M N r e k (j+1)=Wf M N (Xu M N r e k j) i:=by subst h;rw [Xu,if_pos hb]
theorem He {k:Int} {j:Nat} (hb:¬Vr (Xh k) j=true):Xu M N r e k (j+1)=Xu M N r e k j:=by rw [Xu,if_neg hb]
theorem Xew (s:RdM) (j:Nat):(Wf M N s j).rest.length≤s.rest.length:=by
  rcases (by omega:j=0∨j=1∨j=2∨j=3∨j=4∨j=5∨j=6∨j=7∨j=8∨9≤j) with h|h|h|h|h|h|h|h|h|h
  · subst h;exact U7 _ _ _ _
  · subst h;exact U7 _ _ _ _
  · subst h;exact Nat.le_trans (U7 _ _ _ _) (U7 _ _ _ _)
  · subst h;exact X6a _ _ _
  · subst h;exact X6a _ _ _
  · subst h;exact Nat.le_trans (U7 _ _ _ _) (U7 _ _ _ _)
  · subst h;exact (X01 _ _ _).1
  · subst h;exact (X01 _ _ _).1
  · subst h;exact (Xbe _ _ _).1
  · obtain ⟨i,rfl⟩:∃ i,j=i+9:=⟨j-9,by omega⟩
    exact Nat.le_refl _
theorem Ej (M N:Int) (r:List UInt8) (e k:Int):∀ j,(Xu M N r e k j).rest.length≤r.length
  | 0=>Nat.le_refl _
  | j+1=>by
    rw [Xu]
    split
    · exact Nat.le_trans (Xew _ _) (Ej M N r e k j)
    · exact Ej M N r e k j
theorem Xev {s:RdM} (h:s.rest <:+ B) (j:Nat):(Wf M N s j).rest <:+ B:=by
  rcases (by omega:j=0∨j=1∨j=2∨j=3∨j=4∨j=5∨j=6∨j=7∨j=8∨9≤j) with q|q|q|q|q|q|q|q|q|q
  · subst q;exact sufR h
  · subst q;exact sufR h
  · subst q;exact sufR (sufR h)
  · subst q;exact sufY h
  · subst q;exact sufY h
  · subst q;exact sufR (sufR h)
  · subst q;exact sufF h
  · subst q;exact sufF h
  · subst q;exact sufG h
  · obtain ⟨i,rfl⟩:∃ i,j=i+9:=⟨j-9,by omega⟩
    exact h
theorem sufM (M N:Int) (e k:Int) (h:r <:+ B):∀ j,(Xu M N r e k j).rest <:+ B
  | 0=>h
  | j+1=>by
    rw [Xu]
    split
    · exact Xev (sufM M N e k h j) j
    · exact sufM M N e k h j
def fitM (n:Nat) (m:aM):Prop:=m.Xf.length≤15∧m.Xr.length≤15∧m.X7.length≤8∧m.Xk.length≤n∧m.Xc.length≤n
theorem Xex {n:Nat} {s:RdM} (h:fitM n s.m) (hl:s.rest.length≤n) (j:Nat):fitM n (Wf M N s j).m:=by
  obtain ⟨h1,h2,h3,h4,h5⟩:=h
  rcases (by omega:j=0∨j=1∨j=2∨j=3∨j=4∨j=5∨j=6∨j=7∨j=8∨9≤j) with h|h|h|h|h|h|h|h|h|h
  · subst h;exact ⟨h1,h2,h3,h4,h5⟩
  · subst h;exact ⟨h1,h2,h3,h4,h5⟩
  · subst h;exact ⟨h1,h2,h3,h4,h5⟩
  · subst h;exact ⟨h1,h2,h3,h4,Nat.le_trans (X4v _ _ _) hl⟩
  · subst h;exact ⟨h1,h2,h3,Nat.le_trans (X4v _ _ _) hl,h5⟩
  · subst h;exact ⟨h1,h2,h3,h4,h5⟩
  · subst h;exact ⟨(X01 _ _ _).2,h2,h3,h4,h5⟩
  · subst h;exact ⟨h1,(X01 _ _ _).2,h3,h4,h5⟩
  · subst h;exact ⟨h1,h2,(Xbe _ _ _).2,h4,h5⟩
  · obtain ⟨i,rfl⟩:∃ i,j=i+9:=⟨j-9,by omega⟩
    exact ⟨h1,h2,h3,h4,h5⟩
theorem X2b (M N:Int) (r:List UInt8) (e k:Int):∀ j,fitM r.length (Xu M N r e k j).m
  | 0=>⟨Nat.zero_le _,Nat.zero_le _,Nat.zero_le _,Nat.zero_le _,Nat.zero_le _⟩
  | j+1=>by
    rw [Xu]
    split
    · exact Xex (X2b M N r e k j) (Ej _ _ _ _ _ _) j
    · exact X2b M N r e k j
end
theorem X3r {M N:Int} {b:List UInt8} (h:¬okD M N b) (hl:¬b.length>16777216):decW M N b=zM∧decX M N b=12:=⟨if_neg h,by rw [decX,if_neg hl,if_neg h]⟩
theorem Xa1 {M N:Int} {b:List UInt8} (h:okD M N b):decW M N b=(X1w M N b).m∧decX M N b=0:=⟨if_pos h,by rw [decX,if_neg (by have:=h.1;omega),if_pos h]⟩
theorem Xbm {M N:Int} {b:List UInt8} (h:b.length>16777216):decW M N b=zM∧decX M N b=11:=⟨if_neg (fun q=>by have:=q.1;omega),if_pos h⟩
end Go.Proofs.Ythnefnknoahbkaa.Q
namespace Go.Proofs.Ythnefnknoahbkaa.Q
set_option linter.unusedVariables false
set_option linter.unusedSimpArgs false
set_option maxRecDepth 100000
section
variable {M M':Int} {r:List UInt8} {e:Int}
theorem J0 {n m:Int} (h:rdE r e n m=0):e=0:=(X3d h).1
theorem Ep (h:J4 r e M=0):e=0:=(X9a.1 h).1.1
theorem ev_any (hM:((r.length:Nat):Int)≤M) (hM':((r.length:Nat):Int)≤M') (h:evE M r e=0):e=0∧evE M' r e=0∧evR M' r e=evR M r e∧evV M' r e=evV M r e:=by
  have hl:=U7 r e 8 0
  obtain ⟨a1,a2,a3⟩:=X99 (M':=M') (show (((rdR r e 8 0).length:Nat):Int)≤M by omega) (by omega) h
  exact ⟨J0 (Ep h),a1,a3,by unfold evV;rw [a2]⟩
theorem Xam (hM:((r.length:Nat):Int)≤M) (hM':((r.length:Nat):Int)≤M'):∀ k,(V8 M r e k).e=0→e=0∧V8 M' r e k=V8 M r e k
  | 0,h=>⟨J0 h,rfl⟩
  | k+1,h=>by
    have hl:=(Ff M r e k).1
    obtain ⟨a1,a2,a3,a4⟩:=ev_any (M':=M') (show (((V8 M r e k).rest.length:Nat):Int)≤M by omega) (by omega) h
    obtain ⟨b1,b2⟩:=Xam hM hM' k a1
    refine ⟨b1,?_⟩
    show Xad M' (V8 M' r e k)=Xad M (V8 M r e k)
    rw [b2]
    unfold Xad
    rw [a2,a3,a4,show evE M (V8 M r e k).rest (V8 M r e k).e=0 from h]
theorem X6s (hM:((r.length:Nat):Int)≤M) (hM':((r.length:Nat):Int)≤M') (h:(Vx M r e).e=0):e=0∧Vx M' r e=Vx M r e:=Xam hM hM' _ h
theorem Xan (hM:((r.length:Nat):Int)≤M) (hM':((r.length:Nat):Int)≤M'):∀ k,(Yk M r e k).e=0→e=0∧Yk M' r e k=Yk M r e k
  | 0,h=>⟨J0 h,rfl⟩
  | k+1,h=>by
    have hl:=(Iy M r e k).1
    have hl2:=X51 M (Yk M r e k).rest (Yk M r e k).e
    obtain ⟨c1,c2⟩:=X6s (M':=M') (show (((evR M (Yk M r e k).rest (Yk M r e k).e).length:Nat):Int)≤M by omega) (by omega) h
    obtain ⟨a1,a2,a3,a4⟩:=ev_any (M':=M') (show (((Yk M r e k).rest.length:Nat):Int)≤M by omega) (by omega) c1
    obtain ⟨b1,b2⟩:=Xan hM hM' k a1
    refine ⟨b1,?_⟩
    show Xae M' (Yk M' r e k)=Xae M (Yk M r e k)
    rw [b2]
    unfold Xae
    rw [a2,a3,a4,← c1,c2]
theorem finC_any (hM:((r.length:Nat):Int)≤M) (hM':((r.length:Nat):Int)≤M') (h:(Hq M r e).e=0):e=0∧Hq M' r e=Hq M r e:=Xan hM hM' _ h
theorem Xey {N N':Int} {s:RdM} (hM:((s.rest.length:Nat):Int)≤M) (hM':((s.rest.length:Nat):Int)≤M') (hN:((s.rest.length:Nat):Int)≤N) (hN':((s.rest.length:Nat):Int)≤N') (j:Nat) (h:(Wf M N s j).e=0):s.e=0∧Wf M' N' s j=Wf M N s j:=by
  rcases (by omega:j=0∨j=1∨j=2∨j=3∨j=4∨j=5∨j=6∨j=7∨j=8∨9≤j) with q|q|q|q|q|q|q|q|q|q
  · subst q;exact ⟨J0 h,rfl⟩
  · subst q;exact ⟨J0 h,rfl⟩
  · subst q;exact ⟨J0 (J0 h),rfl⟩
  · subst q
    obtain ⟨a1,a2,a3⟩:=X99 (M':=M') hM hM' h
    refine ⟨Ep h,?_⟩
    simp only [Wf]
    rw [a1,a2,a3,show J4 s.rest s.e M=0 from h]
  · subst q
    obtain ⟨a1,a2,a3⟩:=X99 (M':=M') hM hM' h
    refine ⟨Ep h,?_⟩
    simp only [Wf]
    rw [a1,a2,a3,show J4 s.rest s.e M=0 from h]
  · subst q;exact ⟨J0 (J0 h),rfl⟩
  · subst q
    obtain ⟨a1,a2⟩:=X6s hN hN' h
    exact ⟨a1,by simp only [Wf];rw [a2]⟩
  · subst q
    obtain ⟨a1,a2⟩:=X6s hN hN' h
    exact ⟨a1,by simp only [Wf];rw [a2]⟩
  · subst q
    obtain ⟨a1,a2⟩:=finC_any hN hN' h
    exact ⟨a1,by simp only [Wf];rw [a2]⟩
  · obtain ⟨i,rfl⟩:∃ i,j=i+9:=⟨j-9,by omega⟩
    exact ⟨h,rfl⟩
theorem X5u {N N':Int} {k:Int} (hM:((r.length:Nat):Int)≤M) (hM':((r.length:Nat):Int)≤M') (hN:((r.length:Nat):Int)≤N) (hN':((r.length:Nat):Int)≤N'):∀ j,(Xu M N r e k j).e=0→Xu M' N' r e k j=Xu M N r e k j
  | 0,_=>rfl
  | j+1,h=>by
    have hl:=Ej M N r e k j
    rw [Xu] at h ⊢
    rw [Xu]
    split
    · rename_i hb
      rw [if_pos hb] at h
      obtain ⟨a1,a2⟩:=Xey (M':=M') (N':=N') (by omega) (by omega) (by omega) (by omega) j h
      rw [X5u hM hM' hN hN' j a1,a2]
    · rename_i hb
      rw [if_neg hb] at h
      exact X5u hM hM' hN hN' j h
end
theorem Xdt {M N M' N':Int} {b:List UInt8} (hM:((b.length:Nat):Int)≤M) (hM':((b.length:Nat):Int)≤M') (hN:((b.length:Nat):Int)≤N) (hN':((b.length:Nat):Int)≤N') (h:okD M N b):X1w M' N' b=X1w M N b∧okD M' N' b:=by
  have hl:=U7 b 0 8 0
  have e:=X5u (r:=rdR b 0 8 0) (e:=rdE b 0 8 0) (k:=rdI b 0) (M:=M) (M':=M') (N:=N) (N':=N') (by omega) (by omega) (by omega) (by omega) 9 (rdX_ok h.2.2.1).1
  have e':X1w M' N' b=X1w M N b:=e
  exact ⟨e',h.1,h.2.1,by rw [e'];exact h.2.2.1,by rw [e'];exact h.2.2.2⟩
theorem Xbn {b:List UInt8} (h:okD 1099511627776 1099511627776 b):Y6 b=(X1w 1099511627776 1099511627776 b).m∧E0 b=0:=by
  have hl:=h.1
  obtain ⟨e,h2⟩:=Xdt (M':=((b.length:Nat):Int)) (N':=16777216) (by omega) (by omega) (by omega) (by omega) h
  rw [← e]
  exact Xa1 h2
theorem X6x {b:List UInt8} (h:¬okD 1099511627776 1099511627776 b) (hb:¬b.length>16777216):Y6 b=zM∧E0 b=12 :=
  X3r (fun q=>h (Xdt (by omega) (by omega) (by omega) (by omega) q).2) hb
end Go.Proofs.Ythnefnknoahbkaa.Q
namespace Go.Proofs.Ythnefnknoahbkaa.Q
set_option linter.unusedVariables false
theorem X5q {M N:Int} {r:List UInt8} {e k:Int}:∀ j,j≤8→(Xu M N r e k j).m.X7=[]
  | 0,_=>rfl
  | j+1,hj=>by
    have ih:=X5q (M:=M) (N:=N) (r:=r) (e:=e) (k:=k) j (by omega)
    rw [Xu]
    split
    · rcases (by omega:j=0∨j=1∨j=2∨j=3∨j=4∨j=5∨j=6∨j=7) with q|q|q|q|q|q|q|q<;>subst q<;>exact ih
    · exact ih
end Go.Proofs.Ythnefnknoahbkaa.Q
namespace Go.Proofs.Ythnefnknoahbkaa.Q
open Go Go.RowKit
set_option linter.unusedVariables false
set_option linter.unusedSimpArgs false
set_option maxRecDepth 100000
set_option maxHeartbeats 4000000
theorem Jf (rest:List UInt8) (e:Int) (hr:rest.length≤100000000):Holds Try.prog 75 ⟨[.tv (.agg [.ptr 0 0])],[.box 144 [dU rest,dI e]],vI (rdI rest e),[.live (.box 144 [dU (rdR rest e 8 0),dI (rdE rest e 8 0)])]⟩:=by
 refine Holds.of Try.func75 rfl (N:=6) Try.ntmps75 rfl fun w0 B0 S0 U0=>?_
 show T _ (Xz 6 1 w0 S0 U0 B0) ⟨[.tv (.agg [.ptr 0 0])],[.live (.box 144 [dU rest,dI e])]⟩ _ _
 refine sR [] (sR [hR 2 rfl rfl (rCa (rd_Int rest e (by omega)) Try.func88 [0] [(.tmp 4,pv 0 0)] 1 1)] (T.ret ?_))
 exact eRt 2 (.one (dI (rdI rest e))) [0] rfl (ix trivial)
section
variable (rest:List UInt8) (e:Int)
abbrev Z4v:List AV:=[.tv (.agg [.ptr 0 0]),pv 1 0,pv 2 0,pv 3 0]
abbrev Z4w:HS:=.live (.box 144 [dU (Ju (rdR rest e 8 0) (rdE rest e 8 0) 16777216),dI (J4 (rdR rest e 8 0) (rdE rest e 8 0) 16777216)])
abbrev Z4x:St:=⟨Z4v,[(Z4w rest e),.live (.box 135 [.ptr 0 0]),.live (.box 48 [dI 0,.d (.val (.slice none 0 0))]),.live (.box 48 [dI (rdI rest e),.own 4 kU8.sz 0 (rdY (rdR rest e 8 0) (rdE rest e 8 0) 16777216).length]),.live (Xe 5 kU8 (rdY (rdR rest e 8 0) (rdE rest e 8 0) 16777216))]⟩
abbrev Z4y:SV:=dU (rdY (rdR rest e 8 0) (rdE rest e 8 0) 16777216)
end
theorem X26 (rest:List UInt8) (e:Int) (hr:rest.length≤100000000):Holds Try.prog 92 ⟨[.tv (.agg [.ptr 0 0])],[.box 144 [dU rest,dI e]],.tv (.agg [dI (evV 16777216 rest e).X4,dU (evV 16777216 rest e).X9]),[.live (.box 144 [dU (evR 16777216 rest e),dI (evE 16777216 rest e)])]⟩:=by
 refine Holds.of Try.func92 rfl (N:=12) Try.ntmps92 rfl fun w0 B0 S0 U0=>?_
 show T _ (Xz 12 1 w0 S0 U0 B0) ⟨[.tv (.agg [.ptr 0 0])],[.live (.box 144 [dU rest,dI e])]⟩ _ _
 have hr1:=U7 rest e 8 0
 have hr2:=X4v (rdR rest e 8 0) (rdE rest e 8 0) 16777216
 refine sR [] (sR [hR 1 rfl rfl (rCa (Jf rest e ‹_›) Try.func75 [0] [(.tmp 4,.tv (.agg [.ptr 0 0]))] 1 1)] (sR [hR 2 rfl rfl (rCa (X68 (rdR rest e 8 0) (rdE rest e 8 0) 16777216 (by omega)) Try.func76 [0,4] [(.tmp 8,pv 0 0),(.const (.int .i64 16777216),vI 16777216)] 1 2)] ?_))
 refine tN (Z4x rest e) ?_
 refine Vh (s':=⟨Z4v,[(Z4w rest e),.live (.box 135 [.ptr 0 0]),.live (.box 48 [dI 0,.d (.val (.slice none 0 0))]),.live (.box 48 [dI (rdI rest e),(Z4y rest e)]),.dead]⟩) (fun _ _ hG=>Gs.freeze (s:=(Z4x rest e)) 4 (el:=We kU8 (rdY (rdR rest e 8 0) (rdE rest e 8 0) 16777216)) (sz:=kU8.sz) (n:=(rdY (rdR rest e 8 0) (rdE rest e 8 0) 16777216).length) rfl (kk4 trivial) ⟨pc,⟨pc,⟨pc,⟨pZ23,⟨(.inl ⟨rfl,rfl⟩),trivial⟩⟩⟩⟩⟩ hG) (sR [] (T.ret ?_))
 exact eX [.c 2 2 48 0 48 [dI (rdI rest e),(Z4y rest e)] (.agg [dI (rdI rest e),(Z4y rest e)])] ⟨⟨rfl,rfl,by kernel_rfl,by kernel_rfl,.inl ⟨2,I1,rfl,Nat.le_of_ble_eq_true rfl⟩⟩,trivial⟩ [0] (cg2 (fun (q1:Int) (q2:List UInt8)=>(.tv (.agg [dI q1,dU q2]):AV)) (by rfl) (by rfl)) ⟨⟨rfl,(by have e1:((Ju (rdR rest e 8 0) (rdE rest e 8 0) 16777216):List UInt8)=(evR 16777216 rest e):=(by rfl);have e2:((J4 (rdR rest e 8 0) (rdE rest e 8 0) 16777216):Int)=(evE 16777216 rest e):=(by rfl);have hE:=congr pZr e2;exact Eq.trans pZ4 hE)⟩,trivial⟩
section
variable (rest:List UInt8) (e:Int) (k:Nat)
abbrev Z4z:AV:=vI ((rdC rest e 15:Nat):Int)
abbrev Z50:HS:=.live (.box 144 [dU (rdR rest e 4 (Yb 15 (rest.take 4))),dI (rdE rest e 4 (Yb 15 (rest.take 4)))])
abbrev Z51:HS:=.live (.box 135 [.ptr 0 0])
abbrev Z52:=(V8 16777216 rest e k)
abbrev Z53:List HS:=[.live (.box 144 [dU (Z52 rest e k).rest,dI (Z52 rest e k).e]),Z51,.live (Xe 48 (kE false) (Z52 rest e k).l)]
abbrev Z54:St:=⟨[aa,pv 1 0,Y3 2 (kE false) 0 (Z52 rest e k).l.length,aa,aa,(Z4z rest e),vI ((k:Nat):Int)],(Z53 rest e k)⟩
abbrev Z57:=(evV 16777216 (Z52 rest e k).rest (Z52 rest e k).e)
abbrev Z58:AV:=vI ((k+1:Nat):Int)
abbrev Z59:List HS:=[.live (.box 144 [dU (V8 16777216 rest e (k+1)).rest,dI (V8 16777216 rest e (k+1)).e]),Z51,.live (Xe 48 (kE false) (V8 16777216 rest e (k+1)).l)]
abbrev Z5a:St:=⟨[aa,pv 1 0,Y3 2 (kE false) 0 (Z52 rest e k).l.length,aa,aa,(Z4z rest e),vI ((k:Nat):Int),vB (decide (((k:Nat):Int)<((rdC rest e 15:Nat):Int)))],(Z53 rest e k)⟩
end
theorem X5i (rest:List UInt8) (e:Int) (hr:rest.length≤100000000):Holds Try.prog 77 ⟨[.tv (.agg [.ptr 0 0])],[.box 144 [dU rest,dI e]],slV false false (kE false) (Vx 16777216 rest e).l,[.live (.box 144 [dU (Vx 16777216 rest e).rest,dI (Vx 16777216 rest e).e])]⟩:=by
 refine Holds.of Try.func77 rfl (N:=15) Try.ntmps77 rfl fun w0 B0 S0 U0=>?_
 show T _ (Xz 15 1 w0 S0 U0 B0) ⟨[.tv (.agg [.ptr 0 0])],[.live (.box 144 [dU rest,dI e])]⟩ _ _
 have hr1:=U7 rest e 4 (Yb 15 (rest.take 4))
 refine sR [] (T.seq (sR [hR 2 rfl rfl (rCa (X67 rest e 15 (by omega)) Try.func89 [0] [(.tmp 4,pv 0 0),(.const (.int .i64 15),vI 15)] 1 1)] (T.block ?_)))
 refine tN ⟨[.tv (.agg [.ptr 0 0]),pv 1 0,dv (.slice none 0 0),aa,aa,(Z4z rest e),vI 0],[(Z50 rest e),Z51]⟩ ?_
 refine Vh (s':=⟨[.tv (.agg [.ptr 0 0]),pv 1 0,Y3 2 (kE false) 0 0,aa,aa,(Z4z rest e),vI 0],[(Z50 rest e),Z51,.live (Xe 48 (kE false) ([]:List aE))]⟩) (fun _ _ hG=>J9 2 2 48 (kE false) rfl rfl hG) ?_
 refine T.loop (ι:=Nat) (fun (k:Nat)=>(Z54 rest e k)) (fun (k:Nat)=>(k≤rdC rest e 15)) (fun (k:Nat)=>rdC rest e 15-k) (0) (Nat.zero_le _) (fun _ _ hG=>Yc [0,1,2] (bm 7 102) (t2:=[aa,pv 1 0,Y3 2 (kE false) 0 0,aa,aa,(Z4z rest e),vI 0]) (h2:=[(Z50 rest e),Z51,.live (Xe 48 (kE false) ([]:List aE))]) (congrArg (fun (q1:Nat)=>([aa,pv 1 0,Y3 2 (kE false) 0 q1,aa,aa,(Z4z rest e),vI 0]:List AV)) (by rfl)) (cg3 (fun (q1:List UInt8) (q2:Int) (q3:List aE)=>([.live (.box 144 [dU q1,dI q2]),Z51,.live (Xe 48 (kE false) q3)]:List HS)) (by rfl) (by rfl) (by rfl)) hG) ?_
 rintro k hk
 show T _ _ (Z54 rest e k) _ _
 replace hk:k≤rdC rest e 15:=hk
 have hg:=Ff 16777216 rest e k
 have hg1:=hg.1
 have hg2:=hg.2
 have hcm:rdC rest e 15≤15:=X0n rest e 15
 refine sR [] (T.seq ?_)
 by_cases hq1:((k:Nat):Int)<((rdC rest e 15:Nat):Int)
 ·refine cT (dT hq1) (T.skip (nT (T.seq (T.block ?_))))
  refine xR [hR 2 rfl rfl (rCa (X26 (V8 16777216 rest e k).rest (V8 16777216 rest e k).e (by omega)) Try.func92 [0] [(.tmp 9,.tv (.agg [.ptr 0 0]))] 1 1),hR 3 rfl rfl (Yd 3 48 (kE false) (Vs false) [(evV 16777216 (V8 16777216 rest e k).rest (V8 16777216 rest e k).e)] [⟨0,.tmp 10,.agg [dI (Z57 rest e k).X4,dU (Z57 rest e k).X9],0⟩] (cs:=[dI (Z57 rest e k).X4,dU (Z57 rest e k).X9]) Try.underlying39 Hm rfl X90 rfl rfl rfl pf (Ws rfl rfl pf Wn) pZ4 (Vz pZ4) (X8 rfl) trivial),hR 4 rfl rfl (W4 2 4 48 32 (kE false) (Vs false) (V8 16777216 rest e k).l [(evV 16777216 (V8 16777216 rest e k).rest (V8 16777216 rest e k).e)] ((V8 16777216 rest e k).l++[(evV 16777216 (V8 16777216 rest e k).rest (V8 16777216 rest e k).e)]) (V8 16777216 rest e k).l.length (sy:=(.own 3 (kE false).sz 0 [(Z57 rest e k)].length)) (rhs:=[(3,.live (Xe 48 (kE false) [(Z57 rest e k)]))]) Xa0 (by omega) (Up 3 48 (kE false) [(evV 16777216 (V8 16777216 rest e k).rest (V8 16777216 rest e k).e)]) p1p (by (simp [maxLen,-List.getD_eq_getElem?_getD]<;>omega)) (by (simp [maxLen,-List.getD_eq_getElem?_getD]<;>omega)) (X8 rfl) trivial)] pZ4 pZ4 ?_
  refine nB (nT (xK [hR 0 rfl rfl (Y9 (u1:=.int .i64 ((k:Nat):Int)) (u2:=.int .i64 1) (v:=.int .i64 ((k+1:Nat):Int)) (W6 pZ5) (X8 rfl) ⟨rfl,trivial⟩)] ?_))
  refine nL (k+1) (show (k+1)≤rdC rest e 15 from (by omega)) (show (rdC rest e 15-(k+1):Nat)<rdC rest e 15-k from (by omega)) (fun _ _ hG=>Wp [0,1,4] (bm 7 102) (t1:=[aa,pv 1 0,Y3 4 (kE false) 0 (V8 16777216 rest e (k+1)).l.length,aa,aa,(Z4z rest e),(Z58 k)]) (t2:=[aa,pv 1 0,Y3 4 (kE false) 0 ((Z52 rest e k).l++[(Z57 rest e k)]).length,aa,aa,(Z4z rest e),(Z58 k)]) (h1:=(Z59 rest e k)) (h2:=[.live (.box 144 [dU (evR 16777216 (Z52 rest e k).rest (Z52 rest e k).e),dI (evE 16777216 (Z52 rest e k).rest (Z52 rest e k).e)]),Z51,.live (Xe 48 (kE false) ((Z52 rest e k).l++[(Z57 rest e k)]))]) (congrArg (fun (q1:Nat)=>([aa,pv 1 0,Y3 4 (kE false) 0 q1,aa,aa,(Z4z rest e),(Z58 k)]:List AV)) (by rfl)) (cg3 (fun (q1:List UInt8) (q2:Int) (q3:List aE)=>([.live (.box 144 [dU q1,dI q2]),Z51,.live (Xe 48 (kE false) q3)]:List HS)) (by rfl) (by rfl) (by rfl)) hG)
 refine cF (dF hq1) (T.exit (xT (xT (xH (nT (sR [] (T.ret ?_)))))))
 refine eN (Z5a rest e k) ?_
 refine Xm (s':=⟨[aa,pv 1 0,slV false false (kE false) (Z52 rest e k).l,aa,aa,(Z4z rest e),vI ((k:Nat):Int),vB (decide (((k:Nat):Int)<((rdC rest e 15:Nat):Int)))],[.live (.box 144 [dU (Z52 rest e k).rest,dI (Z52 rest e k).e]),Z51,.dead]⟩) (fun _ _ hG=>Gs.freeze (s:=(Z5a rest e k)) 2 (el:=We (kE false) (V8 16777216 rest e k).l) (sz:=(kE false).sz) (n:=(V8 16777216 rest e k).l.length) rfl (kk2 ⟨(.inr pZ6),⟨.inl rfl,(kk4 trivial)⟩⟩) ⟨pc,⟨pc,⟨(.inl ⟨rfl,rfl⟩),trivial⟩⟩⟩ hG) ?_
 exact eRt 2 (.one (.d (dsl false false (kE false) (Z52 rest e k).l))) [0] (by have e1:((Vx 16777216 rest e).l:List aE)=(V8 16777216 rest e k).l:=p3s;have hE:=congrArg (fun (q1:List aE)=>(slV false false (kE false) q1:AV)) e1;exact hE) ⟨⟨rfl,(by have e1:((V8 16777216 rest e k).rest:List UInt8)=(Vx 16777216 rest e).rest:=p3s;have e2:((V8 16777216 rest e k).e:Int)=(Vx 16777216 rest e).e:=p3s;have hE:=congr pZr e2;exact Eq.trans pZ4 hE)⟩,trivial⟩
theorem Xe8:Elem Try.prog 40 113 3 56:=⟨Try.underlying40,_,_,I3,rfl,rfl,rfl,rfl,by decide⟩
section
variable (rest:List UInt8) (e:Int) (k:Nat)
abbrev Z5b:AV:=vI ((rdC rest e 8:Nat):Int)
abbrev Z5c:HS:=.live (.box 144 [dU (rdR rest e 4 (Yb 8 (rest.take 4))),dI (rdE rest e 4 (Yb 8 (rest.take 4)))])
abbrev Z5d:HS:=.live (.box 135 [.ptr 0 0])
abbrev Z5e:=(Yk 16777216 rest e k)
abbrev Z5f:List HS:=[.live (.box 144 [dU (Z5e rest e k).rest,dI (Z5e rest e k).e]),Z5d,.live (Xe 113 (kC false) (Z5e rest e k).l)]
abbrev Z5g:St:=⟨[aa,pv 1 0,Y3 2 (kC false) 0 (Z5e rest e k).l.length,aa,aa,aa,(Z5b rest e),vI ((k:Nat):Int)],(Z5f rest e k)⟩
abbrev Z5j:=(evV 16777216 (Z5e rest e k).rest (Z5e rest e k).e)
abbrev Z5k:=(Vx 16777216 (evR 16777216 (Z5e rest e k).rest (Z5e rest e k).e) (evE 16777216 (Z5e rest e k).rest (Z5e rest e k).e))
abbrev Z5l:=(aC.mk (Z5j rest e k) (Z5k rest e k).l)
abbrev Z5m:AV:=vI ((k+1:Nat):Int)
abbrev Z5n:List HS:=[.live (.box 144 [dU (Yk 16777216 rest e (k+1)).rest,dI (Yk 16777216 rest e (k+1)).e]),Z5d,.live (Xe 113 (kC false) (Yk 16777216 rest e (k+1)).l)]
abbrev Z5o:List AV:=[aa,pv 1 0,Y3 2 (kC false) 0 (Z5e rest e k).l.length,aa,aa,aa,(Z5b rest e),vI ((k:Nat):Int),vB (decide (((k:Nat):Int)<((rdC rest e 8:Nat):Int)))]
end
theorem Xez (rest:List UInt8) (e:Int) (hr:rest.length≤100000000):Holds Try.prog 78 ⟨[.tv (.agg [.ptr 0 0])],[.box 144 [dU rest,dI e]],slV false false (kC false) (Hq 16777216 rest e).l,[.live (.box 144 [dU (Hq 16777216 rest e).rest,dI (Hq 16777216 rest e).e])]⟩:=by
 refine Holds.of Try.func78 rfl (N:=21) Try.ntmps78 rfl fun w0 B0 S0 U0=>?_
 show T _ (Xz 21 1 w0 S0 U0 B0) ⟨[.tv (.agg [.ptr 0 0])],[.live (.box 144 [dU rest,dI e])]⟩ _ _
 have hr1:=U7 rest e 4 (Yb 8 (rest.take 4))
 refine sR [] (T.seq (sR [hR 2 rfl rfl (rCa (X67 rest e 8 (by omega)) Try.func89 [0] [(.tmp 5,pv 0 0),(.const (.int .i64 8),vI 8)] 1 1)] (T.block ?_)))
 refine tN ⟨[.tv (.agg [.ptr 0 0]),pv 1 0,dv (.slice none 0 0),aa,aa,aa,(Z5b rest e),vI 0],[(Z5c rest e),Z5d]⟩ ?_
 refine Vh (s':=⟨[.tv (.agg [.ptr 0 0]),pv 1 0,Y3 2 (kC false) 0 0,aa,aa,aa,(Z5b rest e),vI 0],[(Z5c rest e),Z5d,.live (Xe 113 (kC false) ([]:List aC))]⟩) (fun _ _ hG=>J9 2 2 113 (kC false) rfl rfl hG) ?_
 refine T.loop (ι:=Nat) (fun (k:Nat)=>(Z5g rest e k)) (fun (k:Nat)=>(k≤rdC rest e 8)) (fun (k:Nat)=>rdC rest e 8-k) (0) (Nat.zero_le _) (fun _ _ hG=>Yc [0,1,2] (bm 8 198) (t2:=[aa,pv 1 0,Y3 2 (kC false) 0 0,aa,aa,aa,(Z5b rest e),vI 0]) (h2:=[(Z5c rest e),Z5d,.live (Xe 113 (kC false) ([]:List aC))]) (congrArg (fun (q1:Nat)=>([aa,pv 1 0,Y3 2 (kC false) 0 q1,aa,aa,aa,(Z5b rest e),vI 0]:List AV)) (by rfl)) (cg3 (fun (q1:List UInt8) (q2:Int) (q3:List aC)=>([.live (.box 144 [dU q1,dI q2]),Z5d,.live (Xe 113 (kC false) q3)]:List HS)) (by rfl) (by rfl) (by rfl)) hG) ?_
 rintro k hk
 show T _ _ (Z5g rest e k) _ _
 replace hk:k≤rdC rest e 8:=hk
 have hg:=Iy 16777216 rest e k
 have hg1:=hg.1
 have hg2:=hg.2
 have hcm:rdC rest e 8≤8:=X0n rest e 8
 have hve:=X51 16777216 (Yk 16777216 rest e k).rest (Yk 16777216 rest e k).e
 refine sR [] (T.seq ?_)
 by_cases hq1:((k:Nat):Int)<((rdC rest e 8:Nat):Int)
 ·refine cT (dT hq1) (T.skip (nT (T.seq (T.block (sR [hR 1 rfl rfl (rCa (X26 (Yk 16777216 rest e k).rest (Yk 16777216 rest e k).e (by omega)) Try.func92 [0] [(.tmp 9,.tv (.agg [.ptr 0 0]))] 1 1)] (sR [hR 1 rfl rfl (rCa (X5i (evR 16777216 (Yk 16777216 rest e k).rest (Yk 16777216 rest e k).e) (evE 16777216 (Yk 16777216 rest e k).rest (Yk 16777216 rest e k).e) (by omega)) Try.func77 [0] [(.tmp 12,.tv (.agg [.ptr 0 0]))] 1 1)] ?_))))))
  refine xR [hR 2 rfl rfl (Yd 4 113 (kC false) (Iw false) [(aC.mk (evV 16777216 (Yk 16777216 rest e k).rest (Yk 16777216 rest e k).e) (Vx 16777216 (evR 16777216 (Yk 16777216 rest e k).rest (Yk 16777216 rest e k).e) (evE 16777216 (Yk 16777216 rest e k).rest (Yk 16777216 rest e k).e)).l)] [⟨0,.tmp 16,.agg [dI (Z5j rest e k).X4,dU (Z5j rest e k).X9,.d (dsl false false (kE false) (Z5k rest e k).l)],0⟩] (cs:=[dI (Z5j rest e k).X4,dU (Z5j rest e k).X9,.d (dsl false false (kE false) (Z5k rest e k).l)]) Try.underlying40 I3 rfl Xa5 rfl rfl rfl pf (Ws rfl rfl pf Wn) pZ4 (Vz pZ4) (X8 rfl) trivial),hR 3 rfl rfl (W4 2 5 113 56 (kC false) (Iw false) (Yk 16777216 rest e k).l [(aC.mk (evV 16777216 (Yk 16777216 rest e k).rest (Yk 16777216 rest e k).e) (Vx 16777216 (evR 16777216 (Yk 16777216 rest e k).rest (Yk 16777216 rest e k).e) (evE 16777216 (Yk 16777216 rest e k).rest (Yk 16777216 rest e k).e)).l)] ((Yk 16777216 rest e k).l++[(aC.mk (evV 16777216 (Yk 16777216 rest e k).rest (Yk 16777216 rest e k).e) (Vx 16777216 (evR 16777216 (Yk 16777216 rest e k).rest (Yk 16777216 rest e k).e) (evE 16777216 (Yk 16777216 rest e k).rest (Yk 16777216 rest e k).e)).l)]) (Yk 16777216 rest e k).l.length (sy:=(.own 4 (kC false).sz 0 [(Z5l rest e k)].length)) (rhs:=[(4,.live (Xe 113 (kC false) [(Z5l rest e k)]))]) Xe8 (by omega) (Up 4 113 (kC false) [(aC.mk (evV 16777216 (Yk 16777216 rest e k).rest (Yk 16777216 rest e k).e) (Vx 16777216 (evR 16777216 (Yk 16777216 rest e k).rest (Yk 16777216 rest e k).e) (evE 16777216 (Yk 16777216 rest e k).rest (Yk 16777216 rest e k).e)).l)]) p1p (by (simp [maxLen,-List.getD_eq_getElem?_getD]<;>omega)) (by (simp [maxLen,-List.getD_eq_getElem?_getD]<;>omega)) (X8 rfl) trivial)] pZ4 pZ4 ?_
  refine nB (nT (xK [hR 0 rfl rfl (Y9 (u1:=.int .i64 ((k:Nat):Int)) (u2:=.int .i64 1) (v:=.int .i64 ((k+1:Nat):Int)) (W6 pZ5) (X8 rfl) ⟨rfl,trivial⟩)] ?_))
  refine nL (k+1) (show (k+1)≤rdC rest e 8 from (by omega)) (show (rdC rest e 8-(k+1):Nat)<rdC rest e 8-k from (by omega)) (fun _ _ hG=>Wp [0,1,5] (bm 8 198) (t1:=[aa,pv 1 0,Y3 5 (kC false) 0 (Yk 16777216 rest e (k+1)).l.length,aa,aa,aa,(Z5b rest e),(Z5m k)]) (t2:=[aa,pv 1 0,Y3 5 (kC false) 0 ((Z5e rest e k).l++[(Z5l rest e k)]).length,aa,aa,aa,(Z5b rest e),(Z5m k)]) (h1:=(Z5n rest e k)) (h2:=[.live (.box 144 [dU (Z5k rest e k).rest,dI (Z5k rest e k).e]),Z5d,.live (Xe 113 (kC false) ((Z5e rest e k).l++[(Z5l rest e k)]))]) (congrArg (fun (q1:Nat)=>([aa,pv 1 0,Y3 5 (kC false) 0 q1,aa,aa,aa,(Z5b rest e),(Z5m k)]:List AV)) (by rfl)) (cg3 (fun (q1:List UInt8) (q2:Int) (q3:List aC)=>([.live (.box 144 [dU q1,dI q2]),Z5d,.live (Xe 113 (kC false) q3)]:List HS)) (by rfl) (by rfl) (by rfl)) hG)
 refine cF (dF hq1) (T.exit (xT (xT (xH (nT (sR [] (T.ret ?_)))))))
 refine eN ⟨(Z5o rest e k),(Z5f rest e k)⟩ ?_
 refine Xm (s':=⟨[aa,pv 1 0,slV false false (kC false) (Z5e rest e k).l,aa,aa,aa,(Z5b rest e),vI ((k:Nat):Int),vB (decide (((k:Nat):Int)<((rdC rest e 8:Nat):Int)))],[.live (.box 144 [dU (Z5e rest e k).rest,dI (Z5e rest e k).e]),Z5d,.dead]⟩) (fun _ _ hG=>Gs.freeze (s:=⟨(Z5o rest e k),(Z5f rest e k)⟩) 2 (el:=We (kC false) (Yk 16777216 rest e k).l) (sz:=(kC false).sz) (n:=(Yk 16777216 rest e k).l.length) rfl (kk2 ⟨(.inr pZ6),p3d⟩) ⟨pc,⟨pc,⟨(.inl ⟨rfl,rfl⟩),trivial⟩⟩⟩ hG) ?_
 exact eRt 2 (.one (.d (dsl false false (kC false) (Z5e rest e k).l))) [0] (by have e1:((Hq 16777216 rest e).l:List aC)=(Yk 16777216 rest e k).l:=p3v;have hE:=congrArg (fun (q1:List aC)=>(slV false false (kC false) q1:AV)) e1;exact hE) ⟨⟨rfl,(by have e1:((Yk 16777216 rest e k).rest:List UInt8)=(Hq 16777216 rest e).rest:=p3v;have e2:((Yk 16777216 rest e k).e:Int)=(Hq 16777216 rest e).e:=p3v;have hE:=congr pZr e2;exact Eq.trans pZ4 hE)⟩,trivial⟩
section
variable (tb:Bool) (nb:Bool) (b:List UInt8) (j:Nat)
abbrev Z5p:List AV:=[slV tb nb kU8 b,aa,pv 0 0,vI 11,aa,aa,aa,aa,aa,aa,aa,vB (decide (((b.length:Nat):Int)>16777216))]
abbrev Z5q:SV:=.d (.val (.slice none 0 0))
abbrev Z5r:HS:=.live (.box 42 [dI 0,dI 0,dI 0,dI 0,dI 0,dS [],Z5q,dI 0,dI 0,Z5q,Z5q,Z5q])
abbrev Z5s:SV:=dU ([]:List UInt8)
abbrev Z5t:SV:=.d (dsl false false (kE false) ([]:List aE))
abbrev Z5u:SV:=.d (dsl false false (kC false) ([]:List aC))
abbrev Z5v:List SV:=[dI 0,dI 0,dI 0,dI 0,dI 0,dS [],Z5s,dI 0,dI 0,Z5t,Z5t,Z5u]
abbrev Z5w:AV:=vB (decide (okK (rdI b 0)))
abbrev Z5x:List AV:=[slV tb nb kU8 b,aa,pv 0 0,vI 0,pv 2 0,pv 3 0,pv 4 0,(Z5w b),vI 1,aa,aa,vB (decide (((b.length:Nat):Int)>16777216))]
abbrev Z5y:HS:=.live (.box 144 [dU (rdR b 0 8 0),dI (rdE b 0 8 0)])
abbrev Z5z:HS:=.live (.box 135 [.ptr 1 0])
abbrev Z60:HS:=.live (.box 128 [dI (Y4 (rdI b 0)).V3,dI (Y4 (rdI b 0)).Wa,dI (Y4 (rdI b 0)).Wq,dI (Y4 (rdI b 0)).V6])
abbrev Z61:List HS:=[Z5r,(Z5y b),Z5z,.live (.box 42 [dI (rdI b 0),dI 0,dI 0,dI 0,dI 0,dS [],Z5q,dI 0,dI 0,Z5q,Z5q,Z5q]),(Z60 b)]
abbrev Z62:HS:=.live (.box 42 [dI (rdI b 0),dI 0,dI 0,dI 0,dI 0,dS [],Z5s,dI 0,dI 0,Z5t,Z5t,Z5u])
abbrev Z63:AV:=vI ((2 ^ j:Nat):Int)
abbrev Z64:HS:=.live (.box 135 [.ptr 2 0])
abbrev Z65:=(Xu ((b.length:Nat):Int) 16777216 (rdR b 0 8 0) (rdE b 0 8 0) (rdI b 0) j)
abbrev Z66:SV:=dI (Z65 b j).m.X3
abbrev Z67:SV:=dI (Z65 b j).m.Xt
abbrev Z68:SV:=dI (Z65 b j).m.Xy
abbrev Z69:SV:=dI (Z65 b j).m.Xb
abbrev Z6a:SV:=dI (Z65 b j).m.Xv
abbrev Z6b:SV:=dS (Z65 b j).m.Xc
abbrev Z6c:SV:=dU (Z65 b j).m.Xk
abbrev Z6d:SV:=dI (Z65 b j).m.X1.Xs
abbrev Z6e:SV:=dI (Z65 b j).m.X1.Xo
abbrev Z6f:SV:=.d (dsl false false (kE false) (Z65 b j).m.Xf)
abbrev Z6g:SV:=.d (dsl false false (kE false) (Z65 b j).m.Xr)
abbrev Z6h:SV:=.d (dsl false false (kC false) (Z65 b j).m.X7)
abbrev Z6i:List SV:=[(Z66 b j),(Z67 b j),(Z68 b j),(Z69 b j),(Z6a b j),(Z6b b j),(Z6c b j),(Z6d b j),(Z6e b j),(Z6f b j),(Z6g b j),(Z6h b j)]
abbrev Z6j:List HS:=[Z5r,Z64,.live (.box 144 [dU (Z65 b j).rest,dI (Z65 b j).e]),.live (.box 42 (Z6i b j)),(Z60 b)]
abbrev Z6k:=(Xu ((b.length:Nat):Int) 16777216 (rdR b 0 8 0) (rdE b 0 8 0) (rdI b 0) 0)
abbrev Z6l:HS:=.live (.box 144 [dU (Z6k b).rest,dI (Z6k b).e])
abbrev Z6m:HS:=.live (.box 42 [dI (Z6k b).m.X3,dI (Z6k b).m.Xt,dI (Z6k b).m.Xy,dI (Z6k b).m.Xb,dI (Z6k b).m.Xv,dS (Z6k b).m.Xc,dU (Z6k b).m.Xk,dI (Z6k b).m.X1.Xs,dI (Z6k b).m.X1.Xo,.d (dsl false false (kE false) (Z6k b).m.Xf),.d (dsl false false (kE false) (Z6k b).m.Xr),.d (dsl false false (kC false) (Z6k b).m.X7)])
abbrev Z6r:List AV:=[slV tb nb kU8 b,aa,pv 0 0,aa,pv 1 0,pv 3 0,pv 4 0,(Z5w b),vI (((2 ^ j)*2 ^ 1:Nat):Int)]
abbrev Z6s:=(rdR (Z65 b j).rest (Z65 b j).e 8 0)
abbrev Z6t:=(rdE (Z65 b j).rest (Z65 b j).e 8 0)
abbrev Z6u:SV:=dI (rdI (Z65 b j).rest (Z65 b j).e)
abbrev Z6v:HS:=.live (.box 144 [dU (rdR (Z6s b j) (Z6t b j) 8 0),dI (rdE (Z6s b j) (Z6t b j) 8 0)])
abbrev Z6w:=(rdY (Z65 b j).rest (Z65 b j).e ((b.length:Nat):Int))
abbrev Z6x:List AV:=[slV tb nb kU8 b,aa,pv 0 0,aa,pv 1 0,pv 3 0,pv 4 0,(Z5w b),(Z63 j),aa,aa,aa,aa,aa,aa,aa,aa,aa,aa,aa,aa,aa,aa,aa,aa,aa,aa,aa,aa,(Z5w b),aa,aa,aa,aa,aa,aa,vB (decide ((J2 (Y4 (rdI b 0)).V3 ((2 ^ j:Nat):Int))=0)),(Z63 j),vB (decide (((2 ^ j:Nat):Int)=1)),aa,aa,aa,aa,vB (decide (((2 ^ j:Nat):Int)=2)),aa,aa,aa,aa,vB (decide (((2 ^ j:Nat):Int)=4)),aa,aa,aa,aa,aa,aa,aa,vB (decide (((2 ^ j:Nat):Int)=8))]
abbrev Z6y:HS:=.live (.box 144 [dU (Ju (Z65 b j).rest (Z65 b j).e ((b.length:Nat):Int)),dI (J4 (Z65 b j).rest (Z65 b j).e ((b.length:Nat):Int))])
abbrev Z6z:HS:=.live (.box 42 [(Z66 b j),(Z67 b j),(Z68 b j),(Z69 b j),(Z6a b j),dS (Z6w b j),(Z6c b j),(Z6d b j),(Z6e b j),(Z6f b j),(Z6g b j),(Z6h b j)])
abbrev Z70:List AV:=[slV tb nb kU8 b,aa,pv 0 0,aa,pv 1 0,pv 3 0,pv 4 0,(Z5w b),(Z63 j),aa,aa,aa,aa,aa,aa,aa,aa,aa,aa,aa,aa,aa,aa,aa,aa,aa,aa,aa,aa,(Z5w b),aa,aa,aa,aa,aa,aa,vB (decide ((J2 (Y4 (rdI b 0)).V3 ((2 ^ j:Nat):Int))=0)),(Z63 j),vB (decide (((2 ^ j:Nat):Int)=1)),aa,aa,aa,aa,vB (decide (((2 ^ j:Nat):Int)=2)),aa,aa,aa,aa,vB (decide (((2 ^ j:Nat):Int)=4)),aa,aa,aa,aa,aa,aa,aa,vB (decide (((2 ^ j:Nat):Int)=8)),aa,aa,aa,aa,aa,aa,aa,aa,vB (decide (((2 ^ j:Nat):Int)=16))]
abbrev Z71:List HS:=[Z5r,Z64,(Z6y b j),.live (.box 42 [(Z66 b j),(Z67 b j),(Z68 b j),(Z69 b j),(Z6a b j),(Z6b b j),.own 5 kU8.sz 0 (Z6w b j).length,(Z6d b j),(Z6e b j),(Z6f b j),(Z6g b j),(Z6h b j)]),(Z60 b),.live (Xe 5 kU8 (Z6w b j))]
abbrev Z72:HS:=.live (.box 42 [(Z66 b j),(Z67 b j),(Z68 b j),(Z69 b j),(Z6a b j),(Z6b b j),dU (Z6w b j),(Z6d b j),(Z6e b j),(Z6f b j),(Z6g b j),(Z6h b j)])
abbrev Z73:=(Vx 16777216 (Z65 b j).rest (Z65 b j).e)
abbrev Z74:=(Hq 16777216 (Z65 b j).rest (Z65 b j).e)
abbrev Z75:List AV:=[slV tb nb kU8 b,aa,pv 0 0,vI 12,pv 1 0,pv 3 0,pv 4 0,(Z5w b),(Z63 j),aa,aa,aa,aa,aa,aa,aa,aa,aa,aa,aa,aa,aa,aa,aa,aa,aa,aa,aa,aa,(Z5w b),aa,aa,aa,aa,aa,aa,aa,aa,aa,aa,aa,aa,aa,aa,aa,aa,aa,aa,aa,aa,aa,aa,aa,aa,aa,aa,aa,aa,aa,aa,aa,aa,aa,aa,aa,aa,aa,aa,aa,aa,aa,aa,aa,aa,aa,aa,aa,aa,aa,aa,aa,aa,aa,aa,aa,aa,aa,aa,aa,aa,aa,aa,aa,aa,aa,aa,aa,aa,aa,aa,aa,aa,aa,aa,aa,aa,aa,aa,aa,aa,aa,aa,aa,vB true]
abbrev Z76:HS:=.live (.box 144 [dU (Z65 b j).rest,dI (rdX (Z65 b j).rest (Z65 b j).e)])
abbrev Z77:List HS:=[Z5r,Z64,(Z76 b j),.live (.box 42 (Z6i b j)),(Z60 b)]
abbrev Z78:List HS:=[.live (.box 42 Z5v),Z64,(Z76 b j),.live (.box 42 (Z6i b j)),(Z60 b)]
abbrev Z79:TV:=.one (dI 12)
abbrev Z7a:List AV:=[slV tb nb kU8 b,aa,pv 0 0,vI 12,pv 1 0,pv 3 0,pv 4 0,(Z5w b),(Z63 j),aa,aa,aa,aa,aa,aa,aa,aa,aa,aa,aa,aa,aa,aa,aa,aa,aa,aa,aa,aa,vB false,aa,aa,aa,aa,aa,aa,aa,aa,aa,aa,aa,aa,aa,aa,aa,aa,aa,aa,aa,aa,aa,aa,aa,aa,aa,aa,aa,aa,aa,aa,aa,aa,aa,aa,aa,aa,aa,aa,aa,aa,aa,aa,aa,aa,aa,aa,aa,aa,aa,aa,aa,aa,aa,aa,aa,aa,aa,aa,aa,aa,aa,aa,aa,aa,aa,aa,aa,aa,aa,aa,aa,aa,aa,aa,aa,aa,aa,aa,aa,aa,aa,aa,aa,vB true]
abbrev Z7b:List AV:=[slV tb nb kU8 b,aa,pv 0 0,vI 12,pv 1 0,pv 3 0,pv 4 0,(Z5w b),(Z63 j),aa,aa,aa,aa,aa,aa,aa,aa,aa,aa,aa,aa,aa,aa,aa,aa,aa,aa,aa,aa,vB false,aa,aa,aa,aa,aa,aa,aa,aa,aa,aa,aa,aa,aa,aa,aa,aa,aa,aa,aa,aa,aa,aa,aa,aa,aa,aa,aa,aa,aa,aa,aa,aa,aa,aa,aa,aa,aa,aa,aa,aa,aa,aa,aa,aa,aa,aa,aa,aa,aa,aa,aa,aa,aa,aa,aa,aa,aa,aa,aa,aa,aa,aa,aa,aa,aa,aa,aa,aa,aa,aa,aa,aa,aa,aa,aa,aa,aa,aa,aa,aa,aa,aa,aa,vB (decide ((X20 (Z65 b j).m)≠0))]
end
theorem X6j (tb:Bool) (nb:Bool) (b:List UInt8) (hb:b.length≤140737488355328):Holds Try.prog 44 ⟨[slV tb nb kU8 b],[],.tup [.agg [dI (Y6 b).X3,dI (Y6 b).Xt,dI (Y6 b).Xy,dI (Y6 b).Xb,dI (Y6 b).Xv,dS (Y6 b).Xc,dU (Y6 b).Xk,dI (Y6 b).X1.Xs,dI (Y6 b).X1.Xo,.d (dsl false false (kE false) (Y6 b).Xf),.d (dsl false false (kE false) (Y6 b).Xr),.d (dsl false false (kC false) (Y6 b).X7)],.one (dI (E0 b))],[]⟩:=by
 refine Holds.of Try.func44 rfl (N:=116) Try.ntmps44 rfl fun w0 B0 S0 U0=>?_
 show T _ (Xz 116 0 w0 S0 U0 B0) ⟨[slV tb nb kU8 b],[]⟩ _ _
 have hr1:=U7 b 0 8 0
 refine sR [] (T.seq (sR [] ?_))
 by_cases hq1:((b.length:Nat):Int)>16777216
 ·have hd9:=Xbm (M:=((b.length:Nat):Int)) (N:=16777216) (b:=b) (by omega)
  refine cT (dT hq1) (sR [] (T.ret (rT ?_)))
  refine eN ⟨(Z5p tb nb b),[Z5r]⟩ ?_
  refine Xm (s':=⟨(Z5p tb nb b),[.live (.box 42 Z5v)]⟩) (fun _ _ hG=>W7 (s:=⟨(Z5p tb nb b),[Z5r]⟩) p2z ⟨X3b,trivial⟩ hG) ?_
  exact eX [.c 2 0 42 0 42 [dI 0,dI 0,dI 0,dI 0,dI 0,dS [],Z5s,dI 0,dI 0,Z5t,Z5t,Z5u] (.agg Z5v),.t 3 (.one (dI 11))] ⟨⟨rfl,rfl,by kernel_rfl,by kernel_rfl,.inl ⟨12,I2,rfl,Nat.le_of_ble_eq_true rfl⟩⟩,⟨⟨rfl,by kernel_rfl⟩,trivial⟩⟩ [] pZ8 trivial
 have hbl:¬b.length>16777216:=(by omega)
 refine cF (dF hq1) (T.skip (nT (sR [hR 1 rfl rfl (rCa (wire_New tb nb b ‹_›) Try.func74 [1] [(.tmp 13,slV tb nb kU8 b)] 0 1)] (sR [hR 1 rfl rfl (rCa (Jf b 0 (by omega)) Try.func75 [1] [(.tmp 16,.tv (.agg [.ptr 1 0]))] 1 1)] (sR [hR 2 rfl rfl (rCa (Eu (rdI b 0) ) Try.func67 [] [(.tmp 21,vI (rdI b 0))] 0 0)] (T.seq (sR [] (T.block ?_))))))))
 refine tN ⟨(Z5x tb nb b),(Z61 b)⟩ ?_
 refine Vh (s':=⟨(Z5x tb nb b),[Z5r,(Z5y b),Z5z,(Z62 b),(Z60 b)]⟩) (fun _ _ hG=>W7 (s:=⟨(Z5x tb nb b),(Z61 b)⟩) p2z ⟨.inl rfl,(kk2 ⟨X3b,⟨.inl rfl,trivial⟩⟩)⟩ hG) ?_
 refine T.loop (ι:=Nat) (fun (j:Nat)=>⟨[slV tb nb kU8 b,aa,pv 0 0,aa,pv 1 0,pv 3 0,pv 4 0,(Z5w b),(Z63 j)],(Z6j b j)⟩) (fun (j:Nat)=>(j≤9)) (fun (j:Nat)=>9-j) (0) (by omega) (fun _ _ hG=>Wp [0,2,1,3,4] (bm 9 501) (t1:=[slV tb nb kU8 b,aa,pv 0 0,aa,pv 2 0,pv 3 0,pv 4 0,(Z5w b),vI ((2 ^ 0:Nat):Int)]) (t2:=[slV tb nb kU8 b,aa,pv 0 0,aa,pv 2 0,pv 3 0,pv 4 0,(Z5w b),vI 1]) (h1:=[Z5r,Z5z,(Z6l b),(Z6m b),(Z60 b)]) (h2:=[Z5r,Z5z,(Z5y b),(Z62 b),(Z60 b)]) (congrArg (fun (q1:Int)=>([slV tb nb kU8 b,aa,pv 0 0,aa,pv 2 0,pv 3 0,pv 4 0,(Z5w b),vI q1]:List AV)) (by rfl)) (cg14 (fun (q1:List UInt8) (q2:Int) (q3:Int) (q4:Int) (q5:Int) (q6:Int) (q7:Int) (q8:List UInt8) (q9:List UInt8) (q10:Int) (q11:Int) (q12:List aE) (q13:List aE) (q14:List aC)=>([Z5r,Z5z,.live (.box 144 [dU q1,dI q2]),.live (.box 42 [dI q3,dI q4,dI q5,dI q6,dI q7,dS q8,dU q9,dI q10,dI q11,.d (dsl false false (kE false) q12),.d (dsl false false (kE false) q13),.d (dsl false false (kC false) q14)]),(Z60 b)]:List HS)) (by rfl) (by rfl) (by rfl) (by rfl) (by rfl) (by rfl) (by rfl) (by rfl) (by rfl) (by rfl) (by rfl) (by rfl) (by rfl) (by rfl)) hG) ?_
 rintro j hj
 show T _ _ ⟨[slV tb nb kU8 b,aa,pv 0 0,aa,pv 1 0,pv 3 0,pv 4 0,(Z5w b),(Z63 j)],(Z6j b j)⟩ _ _
 replace hj:j≤9:=hj
 have hp9:=Xdo hj
 have hrl:=Ej ((b.length:Nat):Int) 16777216 (rdR b 0 8 0) (rdE b 0 8 0) (rdI b 0) j
 have hr2:=U7 (Xu ((b.length:Nat):Int) 16777216 (rdR b 0 8 0) (rdE b 0 8 0) (rdI b 0) j).rest (Xu ((b.length:Nat):Int) 16777216 (rdR b 0 8 0) (rdE b 0 8 0) (rdI b 0) j).e 8 0
 have hr3:=X4v (Xu ((b.length:Nat):Int) 16777216 (rdR b 0 8 0) (rdE b 0 8 0) (rdI b 0) j).rest (Xu ((b.length:Nat):Int) 16777216 (rdR b 0 8 0) (rdE b 0 8 0) (rdI b 0) j).e ((b.length:Nat):Int)
 obtain ⟨hf1,hf2,hf3,hf4,hf5⟩:=X2b ((b.length:Nat):Int) 16777216 (rdR b 0 8 0) (rdE b 0 8 0) (rdI b 0) j
 refine T.seq ?_
 by_cases hq2:((2 ^ j:Nat):Int)≤256
 rotate_left
 ·have hj9:j=9:=(by have h9:¬j≤8:=fun q=>hq2 ((X9c hj).2 q);omega)
  refine sR [hN 3 true (dF hq2),hP 4 (dF hq2)] (cF (b:=false) rfl (T.exit (xT (xT (xH (nT (T.seq (sR [hR 2 rfl rfl (rCa (rd_End (Xu ((b.length:Nat):Int) 16777216 (rdR b 0 8 0) (rdE b 0 8 0) (rdI b 0) j).rest (Xu ((b.length:Nat):Int) 16777216 (rdR b 0 8 0) (rdE b 0 8 0) (rdI b 0) j).e (by omega)) Try.func79 [2] [(.tmp 99,pv 2 0)] 1 1)] ?_))))))))
  by_cases hq14:okK (rdI b 0)
  rotate_left
  ·have hd9:=X3r (M:=((b.length:Nat):Int)) (N:=16777216) (fun q=>hq14 q.2.1) hbl
   refine sR (Xl (hN · false (cn (dF hq14))) [3,4,5,6] (hP 7 (cn (dF hq14))::(Xl hN0 [9,10,11] (hP1 12::[])))) (cT (b:=true) rfl (sR [] (T.ret (rT ?_))))
   refine eN ⟨(Z7a tb nb b j),(Z77 b j)⟩ ?_
   refine Xm (s':=⟨(Z7a tb nb b j),(Z78 b j)⟩) (fun _ _ hG=>W7 (s:=⟨(Z7a tb nb b j),(Z77 b j)⟩) (kk2 (X6p (X6o p2u))) ⟨X3b,(kk4 trivial)⟩ hG) ?_
   exact eX [.c 2 0 42 0 42 [dI 0,dI 0,dI 0,dI 0,dI 0,dS [],Z5s,dI 0,dI 0,Z5t,Z5t,Z5u] (.agg Z5v),.t 3 (Z79)] ⟨⟨rfl,rfl,by kernel_rfl,by kernel_rfl,.inl ⟨12,I2,rfl,Nat.le_of_ble_eq_true rfl⟩⟩,⟨⟨rfl,by kernel_rfl⟩,trivial⟩⟩ [] pZ8 trivial
  by_cases hq15:(rdX (Xu ((b.length:Nat):Int) 16777216 (rdR b 0 8 0) (rdE b 0 8 0) (rdI b 0) j).rest (Xu ((b.length:Nat):Int) 16777216 (rdR b 0 8 0) (rdE b 0 8 0) (rdI b 0) j).e)≠0
  ·have hF:(Xu ((b.length:Nat):Int) 16777216 (rdR b 0 8 0) (rdE b 0 8 0) (rdI b 0) j)=X1w ((b.length:Nat):Int) 16777216 b:=(by rw [hj9];rfl);have hd9:=X3r (M:=((b.length:Nat):Int)) (N:=16777216) (fun q=>hq15 (by rw [hF];exact q.2.2.1)) hbl
   refine sR (hY 3 (cn (dT hq14))::(hY 4 (cn (dT hq14))::(hS 5 (oY rfl rfl rfl rfl (X8 rfl) (cn (dT hq14)) (rCa (rd_Err (Xu ((b.length:Nat):Int) 16777216 (rdR b 0 8 0) (rdE b 0 8 0) (rdI b 0) j).rest (rdX (Xu ((b.length:Nat):Int) 16777216 (rdR b 0 8 0) (rdE b 0 8 0) (rdI b 0) j).rest (Xu ((b.length:Nat):Int) 16777216 (rdR b 0 8 0) (rdE b 0 8 0) (rdI b 0) j).e) ) Try.func80 [2] [(.tmp 105,pv 2 0)] 1 1))::(hY 6 (cn (dT hq14))::(hP 7 (cn (dT hq14))::(Xl (hN · false (dT hq15)) [9,10,11] (hP 12 (dT hq15)::[]))))))) (cT (b:=true) rfl (sR [] (T.ret (rT ?_))))
   refine eN ⟨(Z7a tb nb b j),(Z77 b j)⟩ ?_
   refine Xm (s':=⟨(Z7a tb nb b j),(Z78 b j)⟩) (fun _ _ hG=>W7 (s:=⟨(Z7a tb nb b j),(Z77 b j)⟩) (kk2 (X6p (X6o p2u))) ⟨X3b,(kk4 trivial)⟩ hG) ?_
   exact eX [.c 2 0 42 0 42 [dI 0,dI 0,dI 0,dI 0,dI 0,dS [],Z5s,dI 0,dI 0,Z5t,Z5t,Z5u] (.agg Z5v),.t 3 (Z79)] ⟨⟨rfl,rfl,by kernel_rfl,by kernel_rfl,.inl ⟨12,I2,rfl,Nat.le_of_ble_eq_true rfl⟩⟩,⟨⟨rfl,by kernel_rfl⟩,trivial⟩⟩ [] pZ8 trivial
  refine sR [hY 3 (cn (dT hq14)),hY 4 (cn (dT hq14)),hS 5 (oY rfl rfl rfl rfl (X8 rfl) (cn (dT hq14)) (rCa (rd_Err (Xu ((b.length:Nat):Int) 16777216 (rdR b 0 8 0) (rdE b 0 8 0) (rdI b 0) j).rest (rdX (Xu ((b.length:Nat):Int) 16777216 (rdR b 0 8 0) (rdE b 0 8 0) (rdI b 0) j).rest (Xu ((b.length:Nat):Int) 16777216 (rdR b 0 8 0) (rdE b 0 8 0) (rdI b 0) j).e) ) Try.func80 [2] [(.tmp 105,pv 2 0)] 1 1)),hY 6 (cn (dT hq14)),hP 7 (cn (dT hq14)),hY 9 (dF hq15),hS 10 (oY rfl rfl rfl rfl (X8 rfl) (dF hq15) (rCa (X8i false (Xu ((b.length:Nat):Int) 16777216 (rdR b 0 8 0) (rdE b 0 8 0) (rdI b 0) j).m (by omega) (by omega) (by omega) (by omega) (by omega)) Try.func66 [] [(.tmp 110,.tv (.agg (Z6i b j)))] 0 0)),hY 11 (dF hq15),hP 12 (dF hq15)] ?_
  by_cases hq16:(X20 (Xu ((b.length:Nat):Int) 16777216 (rdR b 0 8 0) (rdE b 0 8 0) (rdI b 0) j).m)≠0
  ·have hF:(Xu ((b.length:Nat):Int) 16777216 (rdR b 0 8 0) (rdE b 0 8 0) (rdI b 0) j)=X1w ((b.length:Nat):Int) 16777216 b:=(by rw [hj9];rfl);have hd9:=X3r (M:=((b.length:Nat):Int)) (N:=16777216) (fun q=>hq16 (by rw [hF];exact chk0.2 q.2.2.2)) hbl
   refine cT (dT hq16) (sR [] (T.ret (rT ?_)))
   refine eN ⟨(Z7b tb nb b j),(Z77 b j)⟩ ?_
   refine Xm (s':=⟨(Z7b tb nb b j),(Z78 b j)⟩) (fun _ _ hG=>W7 (s:=⟨(Z7b tb nb b j),(Z77 b j)⟩) (kk2 (X6p (X6o p2u))) ⟨X3b,(kk4 trivial)⟩ hG) ?_
   exact eX [.c 2 0 42 0 42 [dI 0,dI 0,dI 0,dI 0,dI 0,dS [],Z5s,dI 0,dI 0,Z5t,Z5t,Z5u] (.agg Z5v),.t 3 (Z79)] ⟨⟨rfl,rfl,by kernel_rfl,by kernel_rfl,.inl ⟨12,I2,rfl,Nat.le_of_ble_eq_true rfl⟩⟩,⟨⟨rfl,by kernel_rfl⟩,trivial⟩⟩ [] pZ8 trivial
  have hF:(Xu ((b.length:Nat):Int) 16777216 (rdR b 0 8 0) (rdE b 0 8 0) (rdI b 0) j)=X1w ((b.length:Nat):Int) 16777216 b:=(by rw [hj9];rfl);have hd9:=Xa1 (M:=((b.length:Nat):Int)) (N:=16777216) (b:=b) ⟨by omega,by assumption,by rw [← hF];exact Classical.not_not.1 ‹_›,chk0.1 (by rw [← hF];exact Classical.not_not.1 hq16)⟩;rw [← hF] at hd9
  refine cF (dF hq16) (T.skip (nT (sR [] (T.ret ?_))))
  exact eX [.c 2 0 42 0 42 [(Z66 b j),(Z67 b j),(Z68 b j),(Z69 b j),(Z6a b j),(Z6b b j),(Z6c b j),(Z6d b j),(Z6e b j),(Z6f b j),(Z6g b j),(Z6h b j)] (.agg (Z6i b j)),.t 3 (.one (dI 0))] ⟨⟨rfl,rfl,by kernel_rfl,by kernel_rfl,.inl ⟨12,I2,rfl,Nat.le_of_ble_eq_true rfl⟩⟩,⟨⟨rfl,by kernel_rfl⟩,trivial⟩⟩ [] pZ8 trivial
 have hj8:j≤8:=(X9c hj).1 hq2
 refine sR [hY 3 (dT hq2),hP 4 (dT hq2)] ?_
 by_cases hq3:okK (rdI b 0)
 rotate_left
 ·have hd9:=X3r (M:=((b.length:Nat):Int)) (N:=16777216) (fun q=>hq3 q.2.1) hbl
  refine cF (dF hq3) (T.exit (xT (xT (xH (nT (T.seq (sR [hR 2 rfl rfl (rCa (rd_End (Xu ((b.length:Nat):Int) 16777216 (rdR b 0 8 0) (rdE b 0 8 0) (rdI b 0) j).rest (Xu ((b.length:Nat):Int) 16777216 (rdR b 0 8 0) (rdE b 0 8 0) (rdI b 0) j).e (by omega)) Try.func79 [2] [(.tmp 99,pv 2 0)] 1 1)] (sR (Xl (hN · false (cn (dF hq3))) [3,4,5,6] (hP 7 (cn (dF hq3))::(Xl hN0 [9,10,11] (hP1 12::[])))) (cT (b:=true) rfl (sR [] (T.ret (rT ?_))))))))))))
  refine eN ⟨(Z75 tb nb b j),(Z77 b j)⟩ ?_
  refine Xm (s':=⟨(Z75 tb nb b j),(Z78 b j)⟩) (fun _ _ hG=>W7 (s:=⟨(Z75 tb nb b j),(Z77 b j)⟩) (kk2 (X6p (X6o p2u))) ⟨X3b,(kk4 trivial)⟩ hG) ?_
  exact eX [.c 2 0 42 0 42 [dI 0,dI 0,dI 0,dI 0,dI 0,dS [],Z5s,dI 0,dI 0,Z5t,Z5t,Z5u] (.agg Z5v),.t 3 (Z79)] ⟨⟨rfl,rfl,by kernel_rfl,by kernel_rfl,.inl ⟨12,I2,rfl,Nat.le_of_ble_eq_true rfl⟩⟩,⟨⟨rfl,by kernel_rfl⟩,trivial⟩⟩ [] pZ8 trivial
 refine cT (dT hq3) (T.skip (nT (T.seq (T.block (T.seq (sR [hR 3 rfl rfl (Y9 (u1:=.int .i64 (Y4 (rdI b 0)).V3) (u2:=.int .i64 ((2 ^ j:Nat):Int)) (v:=.int .i64 (J2 (Y4 (rdI b 0)).V3 ((2 ^ j:Nat):Int))) (X75 rfl) (X8 rfl) trivial)] ?_))))))
 by_cases hq4:(J2 (Y4 (rdI b 0)).V3 ((2 ^ j:Nat):Int))=0
 ·have hbt:=(X54 hj8).1 hq4;have hst:(Xu ((b.length:Nat):Int) 16777216 (rdR b 0 8 0) (rdE b 0 8 0) (rdI b 0) (j+1))=(Xu ((b.length:Nat):Int) 16777216 (rdR b 0 8 0) (rdE b 0 8 0) (rdI b 0) j):=He hbt
  refine cT (dT hq4) (T.exit (xT (xH (nT (xK [hR 1 rfl rfl (Y9 (u1:=.int .i64 ((2 ^ j:Nat):Int)) (u2:=.int .u64 1) (v:=.int .i64 (((2 ^ j)*2 ^ 1:Nat):Int)) (Ud (n:=1) rfl pj pZ5) (X8 rfl) ⟨rfl,trivial⟩)] ?_)))))
  refine nL (j+1) (show (j+1)≤9 from (by omega)) (show (9-(j+1):Nat)<9-j from (by omega)) (fun _ _ hG=>Yc [0,1,2,3,4] (bm 9 501) (t2:=(Z6r tb nb b j)) (h2:=(Z6j b j)) ph pZ2 hG)
 have hbt:Vr (Xh (rdI b 0)) j=true:=Classical.byContradiction fun q=>hq4 ((X54 hj8).2 q)
 refine cF (dF hq4) (T.skip (nT (sR [] (T.block (sR [] ?_)))))
 by_cases hq5:((2 ^ j:Nat):Int)=1
 ·have hji:j=0:=Jc (i:=0) hj hq5;have hst:(Xu ((b.length:Nat):Int) 16777216 (rdR b 0 8 0) (rdE b 0 8 0) (rdI b 0) (j+1))=Wf ((b.length:Nat):Int) 16777216 (Xu ((b.length:Nat):Int) 16777216 (rdR b 0 8 0) (rdE b 0 8 0) (rdI b 0) j) 0:=Vv hji hbt;simp only [Wf] at hst
  refine cT (dT hq5) (xK [hR 1 rfl rfl (rCa (Jf (Xu ((b.length:Nat):Int) 16777216 (rdR b 0 8 0) (rdE b 0 8 0) (rdI b 0) j).rest (Xu ((b.length:Nat):Int) 16777216 (rdR b 0 8 0) (rdE b 0 8 0) (rdI b 0) j).e (by omega)) Try.func75 [2] [(.tmp 40,.tv (.agg [.ptr 2 0]))] 1 1)] (nB (nB (nT (xK [hR 1 rfl rfl (Y9 (u1:=.int .i64 ((2 ^ j:Nat):Int)) (u2:=.int .u64 1) (v:=.int .i64 (((2 ^ j)*2 ^ 1:Nat):Int)) (Ud (n:=1) rfl pj pZ5) (X8 rfl) ⟨rfl,trivial⟩)] ?_)))))
  refine nL (j+1) (show (j+1)≤9 from (by omega)) (show (9-(j+1):Nat)<9-j from (by omega)) (fun _ _ hG=>Yc [0,1,2,3,4] (bm 9 501) (t2:=(Z6r tb nb b j)) (h2:=[Z5r,Z64,.live (.box 144 [dU (Z6s b j),dI (Z6t b j)]),.live (.box 42 [(Z66 b j),(Z6u b j),(Z68 b j),(Z69 b j),(Z6a b j),(Z6b b j),(Z6c b j),(Z6d b j),(Z6e b j),(Z6f b j),(Z6g b j),(Z6h b j)]),(Z60 b)]) ph pZ2 hG)
 have hn0:j≠0:=(fun q=>hq5 p2l)
 refine cF (dF hq5) (sR [] ?_)
 by_cases hq6:((2 ^ j:Nat):Int)=2
 ·have hji:j=1:=Jc (i:=1) hj hq6;have hst:(Xu ((b.length:Nat):Int) 16777216 (rdR b 0 8 0) (rdE b 0 8 0) (rdI b 0) (j+1))=Wf ((b.length:Nat):Int) 16777216 (Xu ((b.length:Nat):Int) 16777216 (rdR b 0 8 0) (rdE b 0 8 0) (rdI b 0) j) 1:=Vv hji hbt;simp only [Wf] at hst
  refine cT (dT hq6) (xK [hR 1 rfl rfl (rCa (Jf (Xu ((b.length:Nat):Int) 16777216 (rdR b 0 8 0) (rdE b 0 8 0) (rdI b 0) j).rest (Xu ((b.length:Nat):Int) 16777216 (rdR b 0 8 0) (rdE b 0 8 0) (rdI b 0) j).e (by omega)) Try.func75 [2] [(.tmp 45,.tv (.agg [.ptr 2 0]))] 1 1)] (nB (nB (nT (xK [hR 1 rfl rfl (Y9 (u1:=.int .i64 ((2 ^ j:Nat):Int)) (u2:=.int .u64 1) (v:=.int .i64 (((2 ^ j)*2 ^ 1:Nat):Int)) (Ud (n:=1) rfl pj pZ5) (X8 rfl) ⟨rfl,trivial⟩)] ?_)))))
  refine nL (j+1) (show (j+1)≤9 from (by omega)) (show (9-(j+1):Nat)<9-j from (by omega)) (fun _ _ hG=>Yc [0,1,2,3,4] (bm 9 501) (t2:=(Z6r tb nb b j)) (h2:=[Z5r,Z64,.live (.box 144 [dU (Z6s b j),dI (Z6t b j)]),.live (.box 42 [(Z66 b j),(Z67 b j),(Z6u b j),(Z69 b j),(Z6a b j),(Z6b b j),(Z6c b j),(Z6d b j),(Z6e b j),(Z6f b j),(Z6g b j),(Z6h b j)]),(Z60 b)]) ph pZ2 hG)
 have hn1:j≠1:=(fun q=>hq6 p2l)
 refine cF (dF hq6) (sR [] ?_)
 by_cases hq7:((2 ^ j:Nat):Int)=4
 ·have hji:j=2:=Jc (i:=2) hj hq7;have hst:(Xu ((b.length:Nat):Int) 16777216 (rdR b 0 8 0) (rdE b 0 8 0) (rdI b 0) (j+1))=Wf ((b.length:Nat):Int) 16777216 (Xu ((b.length:Nat):Int) 16777216 (rdR b 0 8 0) (rdE b 0 8 0) (rdI b 0) j) 2:=Vv hji hbt;simp only [Wf] at hst
  refine cT (dT hq7) (sR [hR 1 rfl rfl (rCa (Jf (Xu ((b.length:Nat):Int) 16777216 (rdR b 0 8 0) (rdE b 0 8 0) (rdI b 0) j).rest (Xu ((b.length:Nat):Int) 16777216 (rdR b 0 8 0) (rdE b 0 8 0) (rdI b 0) j).e (by omega)) Try.func75 [2] [(.tmp 50,.tv (.agg [.ptr 2 0]))] 1 1)] (xK [hR 1 rfl rfl (rCa (Jf (rdR (Xu ((b.length:Nat):Int) 16777216 (rdR b 0 8 0) (rdE b 0 8 0) (rdI b 0) j).rest (Xu ((b.length:Nat):Int) 16777216 (rdR b 0 8 0) (rdE b 0 8 0) (rdI b 0) j).e 8 0) (rdE (Xu ((b.length:Nat):Int) 16777216 (rdR b 0 8 0) (rdE b 0 8 0) (rdI b 0) j).rest (Xu ((b.length:Nat):Int) 16777216 (rdR b 0 8 0) (rdE b 0 8 0) (rdI b 0) j).e 8 0) (by omega)) Try.func75 [2] [(.tmp 53,.tv (.agg [.ptr 2 0]))] 1 1)] (nB (nB (nT ?_)))))
  refine xK [hR 1 rfl rfl (Y9 (u1:=.int .i64 ((2 ^ j:Nat):Int)) (u2:=.int .u64 1) (v:=.int .i64 (((2 ^ j)*2 ^ 1:Nat):Int)) (Ud (n:=1) rfl pj pZ5) (X8 rfl) ⟨rfl,trivial⟩)] ?_
  refine nL (j+1) (show (j+1)≤9 from (by omega)) (show (9-(j+1):Nat)<9-j from (by omega)) (fun _ _ hG=>Yc [0,1,2,3,4] (bm 9 501) (t2:=(Z6r tb nb b j)) (h2:=[Z5r,Z64,(Z6v b j),.live (.box 42 [(Z66 b j),(Z67 b j),(Z68 b j),(Z6u b j),dI (rdI (Z6s b j) (Z6t b j)),(Z6b b j),(Z6c b j),(Z6d b j),(Z6e b j),(Z6f b j),(Z6g b j),(Z6h b j)]),(Z60 b)]) ph pZ2 hG)
 have hn2:j≠2:=(fun q=>hq7 p2l)
 refine cF (dF hq7) (sR [] ?_)
 by_cases hq8:((2 ^ j:Nat):Int)=8
 ·have hji:j=3:=Jc (i:=3) hj hq8;have hst:(Xu ((b.length:Nat):Int) 16777216 (rdR b 0 8 0) (rdE b 0 8 0) (rdI b 0) (j+1))=Wf ((b.length:Nat):Int) 16777216 (Xu ((b.length:Nat):Int) 16777216 (rdR b 0 8 0) (rdE b 0 8 0) (rdI b 0) j) 3:=Vv hji hbt;simp only [Wf] at hst
  refine cT (dT hq8) ?_
  refine xR [hR 4 rfl rfl (rCa (X68 (Xu ((b.length:Nat):Int) 16777216 (rdR b 0 8 0) (rdE b 0 8 0) (rdI b 0) j).rest (Xu ((b.length:Nat):Int) 16777216 (rdR b 0 8 0) (rdE b 0 8 0) (rdI b 0) j).e ((b.length:Nat):Int) (by omega)) Try.func76 [2,5] [(.tmp 59,pv 2 0),(.tmp 61,vI ((b.length:Nat):Int))] 1 2),hR 5 rfl rfl (X0o () (rdY (Xu ((b.length:Nat):Int) 16777216 (rdR b 0 8 0) (rdE b 0 8 0) (rdI b 0) j).rest (Xu ((b.length:Nat):Int) 16777216 (rdR b 0 8 0) (rdE b 0 8 0) (rdI b 0) j).e ((b.length:Nat):Int)) (ys:=(.own 5 kU8.sz 0 (Z6w b j).length)) (rhs:=[(5,.live (Xe 5 kU8 (Z6w b j)))]) Try.underlying34 Try.underlying5 Try.underlying35 (Up 5 5 kU8 (rdY (Xu ((b.length:Nat):Int) 16777216 (rdR b 0 8 0) (rdE b 0 8 0) (rdI b 0) j).rest (Xu ((b.length:Nat):Int) 16777216 (rdR b 0 8 0) (rdE b 0 8 0) (rdI b 0) j).e ((b.length:Nat):Int))) (X8 rfl) trivial)] pZ4 pZ4 ?_
  refine nB (nB (nT ?_))
  refine tN ⟨(Z6x tb nb b j),[Z5r,Z64,(Z6y b j),(Z6z b j),(Z60 b),.live (Xe 5 kU8 (Z6w b j))]⟩ ?_
  refine Vh (s':=⟨(Z6x tb nb b j),[Z5r,Z64,(Z6y b j),(Z6z b j),(Z60 b),.dead]⟩) (fun _ _ hG=>Gs.freeze (s:=⟨(Z6x tb nb b j),[Z5r,Z64,(Z6y b j),(Z6z b j),(Z60 b),.live (Xe 5 kU8 (Z6w b j))]⟩) 5 (el:=We kU8 (rdY (Xu ((b.length:Nat):Int) 16777216 (rdR b 0 8 0) (rdE b 0 8 0) (rdI b 0) j).rest (Xu ((b.length:Nat):Int) 16777216 (rdR b 0 8 0) (rdE b 0 8 0) (rdI b 0) j).e ((b.length:Nat):Int))) (sz:=kU8.sz) (n:=(rdY (Xu ((b.length:Nat):Int) 16777216 (rdR b 0 8 0) (rdE b 0 8 0) (rdI b 0) j).rest (Xu ((b.length:Nat):Int) 16777216 (rdR b 0 8 0) (rdE b 0 8 0) (rdI b 0) j).e ((b.length:Nat):Int)).length) rfl ⟨.inl rfl,(kk8 p3b)⟩ ⟨pc,⟨pc,⟨pc,⟨pc,⟨pc,⟨(.inl ⟨rfl,rfl⟩),trivial⟩⟩⟩⟩⟩⟩ hG) ?_
  refine xK [hR 1 rfl rfl (Y9 (u1:=.int .i64 ((2 ^ j:Nat):Int)) (u2:=.int .u64 1) (v:=.int .i64 (((2 ^ j)*2 ^ 1:Nat):Int)) (Ud (n:=1) rfl pj pZ5) (X8 rfl) ⟨rfl,trivial⟩)] ?_
  refine nL (j+1) (show (j+1)≤9 from (by omega)) (show (9-(j+1):Nat)<9-j from (by omega)) (fun _ _ hG=>Yc [0,1,2,3,4] (bm 9 501) (t2:=(Z6r tb nb b j)) (h2:=[Z5r,Z64,(Z6y b j),(Z6z b j),(Z60 b)]) ph pZ2 hG)
 have hn3:j≠3:=(fun q=>hq8 p2l)
 refine cF (dF hq8) (sR [] ?_)
 by_cases hq9:((2 ^ j:Nat):Int)=16
 ·have hji:j=4:=Jc (i:=4) hj hq9;have hst:(Xu ((b.length:Nat):Int) 16777216 (rdR b 0 8 0) (rdE b 0 8 0) (rdI b 0) (j+1))=Wf ((b.length:Nat):Int) 16777216 (Xu ((b.length:Nat):Int) 16777216 (rdR b 0 8 0) (rdE b 0 8 0) (rdI b 0) j) 4:=Vv hji hbt;simp only [Wf] at hst
  refine cT (dT hq9) (xK [hR 4 rfl rfl (rCa (X68 (Xu ((b.length:Nat):Int) 16777216 (rdR b 0 8 0) (rdE b 0 8 0) (rdI b 0) j).rest (Xu ((b.length:Nat):Int) 16777216 (rdR b 0 8 0) (rdE b 0 8 0) (rdI b 0) j).e ((b.length:Nat):Int) (by omega)) Try.func76 [2,5] [(.tmp 68,pv 2 0),(.tmp 70,vI ((b.length:Nat):Int))] 1 2)] (nB (nB (nT ?_))))
  refine tN ⟨(Z70 tb nb b j),(Z71 b j)⟩ ?_
  refine Vh (s':=⟨(Z70 tb nb b j),[Z5r,Z64,(Z6y b j),(Z72 b j),(Z60 b),.dead]⟩) (fun _ _ hG=>Gs.freeze (s:=⟨(Z70 tb nb b j),(Z71 b j)⟩) 5 (el:=We kU8 (rdY (Xu ((b.length:Nat):Int) 16777216 (rdR b 0 8 0) (rdE b 0 8 0) (rdI b 0) j).rest (Xu ((b.length:Nat):Int) 16777216 (rdR b 0 8 0) (rdE b 0 8 0) (rdI b 0) j).e ((b.length:Nat):Int))) (sz:=kU8.sz) (n:=(rdY (Xu ((b.length:Nat):Int) 16777216 (rdR b 0 8 0) (rdE b 0 8 0) (rdI b 0) j).rest (Xu ((b.length:Nat):Int) 16777216 (rdR b 0 8 0) (rdE b 0 8 0) (rdI b 0) j).e ((b.length:Nat):Int)).length) rfl (kk2 p2u) ⟨pc,⟨pc,⟨pc,⟨p44,⟨pc,⟨(.inl ⟨rfl,rfl⟩),trivial⟩⟩⟩⟩⟩⟩ hG) ?_
  refine xK [hR 1 rfl rfl (Y9 (u1:=.int .i64 ((2 ^ j:Nat):Int)) (u2:=.int .u64 1) (v:=.int .i64 (((2 ^ j)*2 ^ 1:Nat):Int)) (Ud (n:=1) rfl pj pZ5) (X8 rfl) ⟨rfl,trivial⟩)] ?_
  refine nL (j+1) (show (j+1)≤9 from (by omega)) (show (9-(j+1):Nat)<9-j from (by omega)) (fun _ _ hG=>Yc [0,1,2,3,4] (bm 9 501) (t2:=(Z6r tb nb b j)) (h2:=[Z5r,Z64,(Z6y b j),(Z72 b j),(Z60 b)]) ph pZ2 hG)
 have hn4:j≠4:=(fun q=>hq9 p2l)
 refine cF (dF hq9) (sR [] ?_)
 by_cases hq10:((2 ^ j:Nat):Int)=32
 ·have hji:j=5:=Jc (i:=5) hj hq10;have hst:(Xu ((b.length:Nat):Int) 16777216 (rdR b 0 8 0) (rdE b 0 8 0) (rdI b 0) (j+1))=Wf ((b.length:Nat):Int) 16777216 (Xu ((b.length:Nat):Int) 16777216 (rdR b 0 8 0) (rdE b 0 8 0) (rdI b 0) j) 5:=Vv hji hbt;simp only [Wf] at hst
  refine cT (dT hq10) (sR [hR 1 rfl rfl (rCa (Jf (Xu ((b.length:Nat):Int) 16777216 (rdR b 0 8 0) (rdE b 0 8 0) (rdI b 0) j).rest (Xu ((b.length:Nat):Int) 16777216 (rdR b 0 8 0) (rdE b 0 8 0) (rdI b 0) j).e (by omega)) Try.func75 [2] [(.tmp 75,.tv (.agg [.ptr 2 0]))] 1 1)] (xK [hR 1 rfl rfl (rCa (Jf (rdR (Xu ((b.length:Nat):Int) 16777216 (rdR b 0 8 0) (rdE b 0 8 0) (rdI b 0) j).rest (Xu ((b.length:Nat):Int) 16777216 (rdR b 0 8 0) (rdE b 0 8 0) (rdI b 0) j).e 8 0) (rdE (Xu ((b.length:Nat):Int) 16777216 (rdR b 0 8 0) (rdE b 0 8 0) (rdI b 0) j).rest (Xu ((b.length:Nat):Int) 16777216 (rdR b 0 8 0) (rdE b 0 8 0) (rdI b 0) j).e 8 0) (by omega)) Try.func75 [2] [(.tmp 79,.tv (.agg [.ptr 2 0]))] 1 1)] (nB (nB (nT ?_)))))
  refine xK [hR 1 rfl rfl (Y9 (u1:=.int .i64 ((2 ^ j:Nat):Int)) (u2:=.int .u64 1) (v:=.int .i64 (((2 ^ j)*2 ^ 1:Nat):Int)) (Ud (n:=1) rfl pj pZ5) (X8 rfl) ⟨rfl,trivial⟩)] ?_
  refine nL (j+1) (show (j+1)≤9 from (by omega)) (show (9-(j+1):Nat)<9-j from (by omega)) (fun _ _ hG=>Yc [0,1,2,3,4] (bm 9 501) (t2:=(Z6r tb nb b j)) (h2:=[Z5r,Z64,(Z6v b j),.live (.box 42 [(Z66 b j),(Z67 b j),(Z68 b j),(Z69 b j),(Z6a b j),(Z6b b j),(Z6c b j),(Z6u b j),dI (rdI (Z6s b j) (Z6t b j)),(Z6f b j),(Z6g b j),(Z6h b j)]),(Z60 b)]) ph pZ2 hG)
 have hn5:j≠5:=(fun q=>hq10 p2l)
 refine cF (dF hq10) (sR [] ?_)
 by_cases hq11:((2 ^ j:Nat):Int)=64
 ·have hji:j=6:=Jc (i:=6) hj hq11;have hst:(Xu ((b.length:Nat):Int) 16777216 (rdR b 0 8 0) (rdE b 0 8 0) (rdI b 0) (j+1))=Wf ((b.length:Nat):Int) 16777216 (Xu ((b.length:Nat):Int) 16777216 (rdR b 0 8 0) (rdE b 0 8 0) (rdI b 0) j) 6:=Vv hji hbt;simp only [Wf] at hst
  refine cT (dT hq11) (xK [hR 1 rfl rfl (rCa (X5i (Xu ((b.length:Nat):Int) 16777216 (rdR b 0 8 0) (rdE b 0 8 0) (rdI b 0) j).rest (Xu ((b.length:Nat):Int) 16777216 (rdR b 0 8 0) (rdE b 0 8 0) (rdI b 0) j).e (by omega)) Try.func77 [2] [(.tmp 85,.tv (.agg [.ptr 2 0]))] 1 1)] (nB (nB (nT (xK [hR 1 rfl rfl (Y9 (u1:=.int .i64 ((2 ^ j:Nat):Int)) (u2:=.int .u64 1) (v:=.int .i64 (((2 ^ j)*2 ^ 1:Nat):Int)) (Ud (n:=1) rfl pj pZ5) (X8 rfl) ⟨rfl,trivial⟩)] ?_)))))
  refine nL (j+1) (show (j+1)≤9 from (by omega)) (show (9-(j+1):Nat)<9-j from (by omega)) (fun _ _ hG=>Yc [0,1,2,3,4] (bm 9 501) (t2:=(Z6r tb nb b j)) (h2:=[Z5r,Z64,.live (.box 144 [dU (Z73 b j).rest,dI (Z73 b j).e]),.live (.box 42 [(Z66 b j),(Z67 b j),(Z68 b j),(Z69 b j),(Z6a b j),(Z6b b j),(Z6c b j),(Z6d b j),(Z6e b j),.d (dsl false false (kE false) (Z73 b j).l),(Z6g b j),(Z6h b j)]),(Z60 b)]) ph pZ2 hG)
 have hn6:j≠6:=(fun q=>hq11 p2l)
 refine cF (dF hq11) (sR [] ?_)
 by_cases hq12:((2 ^ j:Nat):Int)=128
 ·have hji:j=7:=Jc (i:=7) hj hq12;have hst:(Xu ((b.length:Nat):Int) 16777216 (rdR b 0 8 0) (rdE b 0 8 0) (rdI b 0) (j+1))=Wf ((b.length:Nat):Int) 16777216 (Xu ((b.length:Nat):Int) 16777216 (rdR b 0 8 0) (rdE b 0 8 0) (rdI b 0) j) 7:=Vv hji hbt;simp only [Wf] at hst
  refine cT (dT hq12) (xK [hR 1 rfl rfl (rCa (X5i (Xu ((b.length:Nat):Int) 16777216 (rdR b 0 8 0) (rdE b 0 8 0) (rdI b 0) j).rest (Xu ((b.length:Nat):Int) 16777216 (rdR b 0 8 0) (rdE b 0 8 0) (rdI b 0) j).e (by omega)) Try.func77 [2] [(.tmp 90,.tv (.agg [.ptr 2 0]))] 1 1)] (nB (nB (nT (xK [hR 1 rfl rfl (Y9 (u1:=.int .i64 ((2 ^ j:Nat):Int)) (u2:=.int .u64 1) (v:=.int .i64 (((2 ^ j)*2 ^ 1:Nat):Int)) (Ud (n:=1) rfl pj pZ5) (X8 rfl) ⟨rfl,trivial⟩)] ?_)))))
  refine nL (j+1) (show (j+1)≤9 from (by omega)) (show (9-(j+1):Nat)<9-j from (by omega)) (fun _ _ hG=>Yc [0,1,2,3,4] (bm 9 501) (t2:=(Z6r tb nb b j)) (h2:=[Z5r,Z64,.live (.box 144 [dU (Z73 b j).rest,dI (Z73 b j).e]),.live (.box 42 [(Z66 b j),(Z67 b j),(Z68 b j),(Z69 b j),(Z6a b j),(Z6b b j),(Z6c b j),(Z6d b j),(Z6e b j),(Z6f b j),.d (dsl false false (kE false) (Z73 b j).l),(Z6h b j)]),(Z60 b)]) ph pZ2 hG)
 have hn7:j≠7:=(fun q=>hq12 p2l)
 refine cF (dF hq12) (sR [] ?_)
 by_cases hq13:((2 ^ j:Nat):Int)=256
 ·have hji:j=8:=Jc (i:=8) hj hq13;have hst:(Xu ((b.length:Nat):Int) 16777216 (rdR b 0 8 0) (rdE b 0 8 0) (rdI b 0) (j+1))=Wf ((b.length:Nat):Int) 16777216 (Xu ((b.length:Nat):Int) 16777216 (rdR b 0 8 0) (rdE b 0 8 0) (rdI b 0) j) 8:=Vv hji hbt;simp only [Wf] at hst
  refine cT (dT hq13) (xK [hR 1 rfl rfl (rCa (Xez (Xu ((b.length:Nat):Int) 16777216 (rdR b 0 8 0) (rdE b 0 8 0) (rdI b 0) j).rest (Xu ((b.length:Nat):Int) 16777216 (rdR b 0 8 0) (rdE b 0 8 0) (rdI b 0) j).e (by omega)) Try.func78 [2] [(.tmp 95,.tv (.agg [.ptr 2 0]))] 1 1)] (nB (nB (nT (xK [hR 1 rfl rfl (Y9 (u1:=.int .i64 ((2 ^ j:Nat):Int)) (u2:=.int .u64 1) (v:=.int .i64 (((2 ^ j)*2 ^ 1:Nat):Int)) (Ud (n:=1) rfl pj pZ5) (X8 rfl) ⟨rfl,trivial⟩)] ?_)))))
  refine nL (j+1) (show (j+1)≤9 from (by omega)) (show (9-(j+1):Nat)<9-j from (by omega)) (fun _ _ hG=>Yc [0,1,2,3,4] (bm 9 501) (t2:=(Z6r tb nb b j)) (h2:=[Z5r,Z64,.live (.box 144 [dU (Z74 b j).rest,dI (Z74 b j).e]),.live (.box 42 [(Z66 b j),(Z67 b j),(Z68 b j),(Z69 b j),(Z6a b j),(Z6b b j),(Z6c b j),(Z6d b j),(Z6e b j),(Z6f b j),(Z6g b j),.d (dsl false false (kC false) (Z74 b j).l)]),(Z60 b)]) ph pZ2 hG)
 exact absurd (show j=8 by omega) (fun q=>hq13 p2l)
end Go.Proofs.Ythnefnknoahbkaa.Q
