import Derived.Test.YtnaopgohccacmaaGreatC19n20
namespace Go.Proofs.YtnaopgohccacmaaGreat.Q
open Go Go.RowKit
set_option linter.unusedVariables false
set_option linter.unusedSimpArgs false
set_option maxRecDepth 100000
set_option maxHeartbeats 4000000
section
variable (tm:Bool) (m:aM) (k:Nat)
abbrev Z8m:List SV:=[dI m.X0,dI m.Y9,dI m.Xu,dI m.Xr,dI m.W0,dS m.Xe,.d (dsl tm false kU8 m.Xd),dI m.X3.Y0,dI m.X3.Xq,.d (dsl tm false (kE tm) m.Xt),.d (dsl tm false (kE tm) m.Y8),.d (dsl tm false (kC tm) m.X5)]
abbrev Z8n:HS:=.live (.box 78 (Z8m tm m))
abbrev Z8o:St:=⟨[.tv (.agg (Z8m tm m)),pv 0 0,dv (.slice none 0 0),aa,aa,aa,aa,aa,aa,vB (decide ((chkM m)≠0))],[(Z8n tm m)]⟩
abbrev Z8p:List AV:=[aa,pv 0 0,aa,pv 1 0,aa,Xx 2 kU8 0 (Y4 m 1).length]
abbrev Z8q:HS:=.live (.box 119 [dB (Xk m.X0).Y9,dB (Xk m.X0).Xu,dB (Xk m.X0).Xr,dB (Xk m.X0).Xe,dB (Xk m.X0).Xd,dB (Xk m.X0).X3,dB (Xk m.X0).Xt,dB (Xk m.X0).Y8,dB (Xk m.X0).X5])
abbrev Z8r:List HS:=[(Z8n tm m),(Z8q m),.live (Xc 5 kU8 (Y4 m 1))]
abbrev Z8s:List AV:=[aa,pv 0 0,aa,pv 1 0,aa,Xx 2 kU8 0 (Y4 m 0).length]
abbrev Z8t:List HS:=[(Z8n tm m),(Z8q m),.live (Xc 5 kU8 (Y4 m 0))]
abbrev Z8u:List AV:=[aa,pv 0 0,aa,pv 1 0,aa,Xx 2 kU8 0 (Y4 m 2).length]
abbrev Z8v:List HS:=[(Z8n tm m),(Z8q m),.live (Xc 5 kU8 (Y4 m 2))]
abbrev Z8w:List AV:=[aa,pv 0 0,aa,pv 1 0,aa,Xx 2 kU8 0 (Y4 m 3).length]
abbrev Z8x:List HS:=[(Z8n tm m),(Z8q m),.live (Xc 5 kU8 (Y4 m 3))]
abbrev Z8y:AV:=Xx 4 kU8 0 ((Y4 m 2)++Yp m.Xr++Yp m.W0).length
abbrev Z8z:List AV:=[aa,pv 0 0,aa,pv 1 0,aa,Xx 2 kU8 0 (Y4 m 4).length]
abbrev Z90:List HS:=[(Z8n tm m),(Z8q m),.live (Xc 5 kU8 (Y4 m 4))]
abbrev Z91:List AV:=[aa,pv 0 0,aa,pv 1 0,aa,Xx 2 kU8 0 (Y4 m 5).length]
abbrev Z92:List HS:=[(Z8n tm m),(Z8q m),.live (Xc 5 kU8 (Y4 m 5))]
abbrev Z93:List AV:=[aa,pv 0 0,aa,pv 1 0,aa,Xx 2 kU8 0 (Y4 m 6).length]
abbrev Z94:List HS:=[(Z8n tm m),(Z8q m),.live (Xc 5 kU8 (Y4 m 6))]
abbrev Z95:AV:=Xx 4 kU8 0 ((Y4 m 5)++Yp m.X3.Y0++Yp m.X3.Xq).length
abbrev Z96:List AV:=[aa,pv 0 0,aa,pv 1 0,aa,Xx 2 kU8 0 (Y4 m 7).length]
abbrev Z97:List HS:=[(Z8n tm m),(Z8q m),.live (Xc 5 kU8 (Y4 m 7))]
abbrev Z98:List AV:=[aa,pv 0 0,aa,pv 1 0,aa,Xx 2 kU8 0 (Y4 m 8).length]
abbrev Z99:List HS:=[(Z8n tm m),(Z8q m),.live (Xc 5 kU8 (Y4 m 8))]
abbrev Z9a:List AV:=[aa,pv 0 0,aa,pv 1 0,aa,Xx 2 kU8 0 (Y4 m 9).length]
abbrev Z9b:List HS:=[(Z8n tm m),(Z8q m),.live (Xc 5 kU8 (Y4 m 9))]
abbrev Z9c:AV:=Xx 2 kU8 0 ((Y4 m 8)++V3 ((m.X5.length:Nat):Int)++Ip m.X5 k).length
abbrev Z9d:HS:=.live (Xc 5 kU8 ((Y4 m 8)++V3 ((m.X5.length:Nat):Int)++Ip m.X5 k))
abbrev Z9e:St:=⟨[aa,pv 0 0,aa,pv 1 0,aa,(Z9c m k),vI ((k:Nat):Int)],[(Z8n tm m),(Z8q m),(Z9d m k)]⟩
abbrev Z9f:List HS:=[(Z8n tm m),(Z8q m),.live (Xc 5 kU8 ((Y4 m 8)++V3 ((m.X5.length:Nat):Int)++Ip m.X5 0))]
abbrev Z9g:AV:=vI ((k+1:Nat):Int)
abbrev Z9h:List HS:=[(Z8n tm m),(Z8q m),.live (Xc 5 kU8 ((Y4 m 8)++V3 ((m.X5.length:Nat):Int)++Ip m.X5 (k+1)))]
abbrev Z9i:List AV:=[aa,pv 0 0,Xx 2 kU8 0 (Y4 m 9).length,pv 1 0,aa,Xx 2 kU8 0 (Y4 m 9).length]
end
theorem Xci (tm:Bool) (m:aM) (hl:(Y4 m 9).length≤1000000000) (hq:m.Xt.length≤9223372036854775807) (hr:m.Y8.length≤9223372036854775807) (hc:m.X5.length≤9223372036854775807) (hd:m.Xd.length≤9223372036854775807) (hg:m.Xe.length≤9223372036854775807):Holds Tryz.prog 25 ⟨[.tv (.agg [dI m.X0,dI m.Y9,dI m.Xu,dI m.Xr,dI m.W0,dS m.Xe,.d (dsl tm false kU8 m.Xd),dI m.X3.Y0,dI m.X3.Xq,.d (dsl tm false (kE tm) m.Xt),.d (dsl tm false (kE tm) m.Y8),.d (dsl tm false (kC tm) m.X5)])],[],slV false false kU8 (Jm m),[]⟩:=by
 refine Holds.of Tryz.func25 rfl (N:=106) Tryz.ntmps25 rfl fun w0 B0 S0 U0=>?_
 show T _ (Y2 106 0 w0 S0 U0 B0) ⟨[.tv (.agg (Z8m tm m))],[]⟩ _ _
 have hi1:=Wd m.Xr
 have hi2:=Wd m.X3.Y0
 have hi0:=Wd m.X0
 refine sR [] (T.seq (sR [hR 1 rfl rfl (rCa (Xei tm m (by omega) (by omega) (by omega) (by omega) (by omega)) Tryz.func61 [] [(.tmp 7,.tv (.agg (Z8m tm m)))] 0 0)] ?_))
 by_cases hq1:(chkM m)≠0
 ·refine cT (dT hq1) (sR [] (T.ret (rT ?_)))
  refine eN (Z8o tm m) ?_
  refine Xa (s':=⟨[.tv (.agg (Z8m tm m)),pv 0 0,slV false false kU8 ([]:List UInt8),aa,aa,aa,aa,aa,aa,vB (decide ((chkM m)≠0))],[(Z8n tm m)]⟩) (fun _ _ hG=>W1 (s:=(Z8o tm m)) (kk2 ⟨pZ8,⟨.inl rfl,(kk2 (kk4 trivial))⟩⟩) ⟨.inl rfl,trivial⟩ hG) ?_
  exact eRt 2 (.one (dU ([]:List UInt8))) [] (congrArg (fun (q1:List UInt8)=>(slV false false kU8 q1:AV)) (by exact (if_neg (fun h9=>by have h8:=chk0.2 h9;contradiction)))) trivial
 have hwl:=chk0.1 (Classical.not_not.1 hq1);have hcl0:=U9 ((m.X5.length:Nat):Int)
 refine cF (dF hq1) (T.skip (nT (sR [hR 2 rfl rfl (rCa (X4m m.X0 ) Tryz.func62 [] [(.tmp 12,vI m.X0)] 0 0)] (sR [hR 2 rfl rfl (rCn (U7 false false ([]:List UInt8) m.X0 (by decide)) Tryz.func63 [2] [(.const (.slice none 0 0),dv (.slice none 0 0)),(.tmp 17,vI m.X0)] 0 1 ⟨.inr pZ8,⟨.inl ⟨rfl,rfl⟩,trivial⟩⟩ ⟨rfl,trivial⟩)] ?_))))
 refine H5 ⟨(Z8p m),(Z8r tm m)⟩ ?_ ?_
 ·refine tN ⟨[.tv (.agg (Z8m tm m)),pv 0 0,dv (.slice none 0 0),pv 1 0,aa,Xx 2 kU8 0 (([]:List UInt8)++Yp m.X0).length,aa,aa,aa,vB (decide ((chkM m)≠0))],[(Z8n tm m),(Z8q m),.live (Xc 5 kU8 (([]:List UInt8)++Yp m.X0))]⟩ ?_
  refine Wy (s':=⟨(Z8s m),(Z8t tm m)⟩) (fun _ _ hG=>Yu [0,1,2] (bm 6 42) (t2:=[aa,pv 0 0,aa,pv 1 0,aa,Xx 2 kU8 0 (([]:List UInt8)++Yp m.X0).length]) (h2:=[(Z8n tm m),(Z8q m),.live (Xc 5 kU8 (([]:List UInt8)++Yp m.X0))]) (congrArg (fun (q1:Nat)=>([aa,pv 0 0,aa,pv 1 0,aa,Xx 2 kU8 0 q1]:List AV)) (by rfl)) (congrArg (fun (q1:List UInt8)=>([(Z8n tm m),(Z8q m),.live (Xc 5 kU8 q1)]:List HS)) (by rfl)) hG) (sR [] ?_)
  by_cases hq2:(Xk m.X0).Y9=true
  ·have hbt:Ix (Xk m.X0) 0=true:=hq2;have hst:Y4 m 1=Y4 m 0++Yp m.Y9:=(Fa (j:=0) (i:=0) rfl hbt);have hrm:=Il (m:=m) (j:=0) (i:=0) rfl hbt (by decide);simp only [Jv,List.length_append,Wd,V7] at hrm
   refine cT hq2 (xK [hR 3 rfl rfl (Wt (U7 true false (Y4 m 0) m.Y9 (by omega)) Tryz.func63 rfl (by decide) [3] [2] (l:=[(.tmp 21,Xx 2 kU8 0 (Y4 m 0).length),(.tmp 23,vI m.Y9)]) [(2,.live (Xc 5 kU8 (Y4 m 0)))] rfl 0 1 rfl rfl rfl rfl rfl rfl rfl rfl rfl ⟨.inr (.inl ⟨rfl,pZs,rfl,rfl,by simp,5,(Y4 m 0).length,W5 kU8 (Y4 m 0),List.Mem.head _,pf,fun i j=>by rw [Nat.zero_add]⟩),⟨.inl ⟨rfl,rfl⟩,trivial⟩⟩ rfl pZ3 ph (X2 rfl) trivial)] ?_)
   refine eN ⟨[aa,pv 0 0,aa,pv 1 0,aa,Xx 3 kU8 0 ((Y4 m 0)++Yp m.Y9).length,aa,aa,aa,aa,aa,aa,aa,aa,aa,aa,aa,aa,aa,aa,vB (Xk m.X0).Y9],[(Z8n tm m),(Z8q m),.live (Xc 5 kU8 (Y4 m 0)),.live (Xc 5 kU8 ((Y4 m 0)++Yp m.Y9))]⟩ ?_
   refine Xa (s':=⟨(Z8p m),(Z8r tm m)⟩) (fun _ _ hG=>Wf [0,1,3] (bm 6 42) (t1:=[aa,pv 0 0,aa,pv 1 0,aa,Xx 3 kU8 0 (Y4 m 1).length]) (t2:=[aa,pv 0 0,aa,pv 1 0,aa,Xx 3 kU8 0 ((Y4 m 0)++Yp m.Y9).length]) (h1:=(Z8r tm m)) (h2:=[(Z8n tm m),(Z8q m),.live (Xc 5 kU8 ((Y4 m 0)++Yp m.Y9))]) (by have e1:((Y4 m 1).length:Nat)=((Y4 m 0)++Yp m.Y9).length:=Io;have hE:=congrArg (fun (q1:Nat)=>([aa,pv 0 0,aa,pv 1 0,aa,Xx 3 kU8 0 q1]:List AV)) e1;exact hE) (by have e1:((Y4 m 1):List UInt8)=(Y4 m 0)++Yp m.Y9:=Io;have hE:=congrArg (fun (q1:List UInt8)=>([(Z8n tm m),(Z8q m),.live (Xc 5 kU8 q1)]:List HS)) e1;exact hE) hG) ?_
   exact nJ
  have hbt:¬Ix (Xk m.X0) 0=true:=hq2;have hst:Y4 m 1=Y4 m 0:=X0r (j:=0) hbt
  replace hq2:=Bool.eq_false_iff.2 hq2
  refine cF hq2 (T.skip ?_)
  refine eN ⟨[aa,pv 0 0,aa,pv 1 0,aa,Xx 2 kU8 0 (Y4 m 0).length,aa,aa,aa,aa,aa,aa,aa,aa,aa,aa,aa,aa,aa,aa,vB (Xk m.X0).Y9],(Z8t tm m)⟩ ?_
  refine Xa (s':=⟨(Z8p m),(Z8r tm m)⟩) (fun _ _ hG=>Yu [0,1,2] (bm 6 42) (t2:=(Z8s m)) (h2:=(Z8t tm m)) (by have e1:((Y4 m 1).length:Nat)=(Y4 m 0).length:=Io;have hE:=congrArg (fun (q1:Nat)=>([aa,pv 0 0,aa,pv 1 0,aa,Xx 2 kU8 0 q1]:List AV)) e1;exact hE) (by have e1:((Y4 m 1):List UInt8)=(Y4 m 0):=Io;have hE:=congrArg (fun (q1:List UInt8)=>([(Z8n tm m),(Z8q m),.live (Xc 5 kU8 q1)]:List HS)) e1;exact hE) hG) ?_
  exact nJ
 refine H5 ⟨(Z8u m),(Z8v tm m)⟩ ?_ ?_
 ·refine sR [] ?_
  by_cases hq3:(Xk m.X0).Xu=true
  ·have hbt:Ix (Xk m.X0) 1=true:=hq3;have hst:Y4 m 2=Y4 m 1++Yp m.Xu:=(Fa (j:=1) (i:=1) rfl hbt);have hrm:=Il (m:=m) (j:=1) (i:=1) rfl hbt (by decide);simp only [Jv,List.length_append,Wd,V7] at hrm
   refine cT hq3 (xK [hR 3 rfl rfl (Wt (U7 true false (Y4 m 1) m.Xu (by omega)) Tryz.func63 rfl (by decide) [3] [2] (l:=[(.tmp 27,Xx 2 kU8 0 (Y4 m 1).length),(.tmp 29,vI m.Xu)]) [(2,.live (Xc 5 kU8 (Y4 m 1)))] rfl 0 1 rfl rfl rfl rfl rfl rfl rfl rfl rfl ⟨.inr (.inl ⟨rfl,pZs,rfl,rfl,by simp,5,(Y4 m 1).length,W5 kU8 (Y4 m 1),List.Mem.head _,pf,fun i j=>by rw [Nat.zero_add]⟩),⟨.inl ⟨rfl,rfl⟩,trivial⟩⟩ rfl pZ3 ph (X2 rfl) trivial)] ?_)
   refine eN ⟨[aa,pv 0 0,aa,pv 1 0,aa,Xx 3 kU8 0 ((Y4 m 1)++Yp m.Xu).length,aa,aa,aa,aa,aa,aa,aa,aa,aa,aa,aa,aa,aa,aa,aa,aa,aa,aa,aa,aa,vB (Xk m.X0).Xu],[(Z8n tm m),(Z8q m),.live (Xc 5 kU8 (Y4 m 1)),.live (Xc 5 kU8 ((Y4 m 1)++Yp m.Xu))]⟩ ?_
   refine Xa (s':=⟨(Z8u m),(Z8v tm m)⟩) (fun _ _ hG=>Wf [0,1,3] (bm 6 42) (t1:=[aa,pv 0 0,aa,pv 1 0,aa,Xx 3 kU8 0 (Y4 m 2).length]) (t2:=[aa,pv 0 0,aa,pv 1 0,aa,Xx 3 kU8 0 ((Y4 m 1)++Yp m.Xu).length]) (h1:=(Z8v tm m)) (h2:=[(Z8n tm m),(Z8q m),.live (Xc 5 kU8 ((Y4 m 1)++Yp m.Xu))]) (by have e1:((Y4 m 2).length:Nat)=((Y4 m 1)++Yp m.Xu).length:=Io;have hE:=congrArg (fun (q1:Nat)=>([aa,pv 0 0,aa,pv 1 0,aa,Xx 3 kU8 0 q1]:List AV)) e1;exact hE) (by have e1:((Y4 m 2):List UInt8)=(Y4 m 1)++Yp m.Xu:=Io;have hE:=congrArg (fun (q1:List UInt8)=>([(Z8n tm m),(Z8q m),.live (Xc 5 kU8 q1)]:List HS)) e1;exact hE) hG) ?_
   exact nJ
  have hbt:¬Ix (Xk m.X0) 1=true:=hq3;have hst:Y4 m 2=Y4 m 1:=X0r (j:=1) hbt
  replace hq3:=Bool.eq_false_iff.2 hq3
  refine cF hq3 (T.skip ?_)
  refine eN ⟨[aa,pv 0 0,aa,pv 1 0,aa,Xx 2 kU8 0 (Y4 m 1).length,aa,aa,aa,aa,aa,aa,aa,aa,aa,aa,aa,aa,aa,aa,aa,aa,aa,aa,aa,aa,vB (Xk m.X0).Xu],(Z8r tm m)⟩ ?_
  refine Xa (s':=⟨(Z8u m),(Z8v tm m)⟩) (fun _ _ hG=>Yu [0,1,2] (bm 6 42) (t2:=(Z8p m)) (h2:=(Z8r tm m)) (by have e1:((Y4 m 2).length:Nat)=(Y4 m 1).length:=Io;have hE:=congrArg (fun (q1:Nat)=>([aa,pv 0 0,aa,pv 1 0,aa,Xx 2 kU8 0 q1]:List AV)) e1;exact hE) (by have e1:((Y4 m 2):List UInt8)=(Y4 m 1):=Io;have hE:=congrArg (fun (q1:List UInt8)=>([(Z8n tm m),(Z8q m),.live (Xc 5 kU8 q1)]:List HS)) e1;exact hE) hG) ?_
  exact nJ
 refine H5 ⟨(Z8w m),(Z8x tm m)⟩ ?_ ?_
 ·refine sR [] ?_
  by_cases hq4:(Xk m.X0).Xr=true
  ·have hbt:Ix (Xk m.X0) 2=true:=hq4;have hst:Y4 m 3=Y4 m 2++Yp m.Xr++Yp m.W0:=(Fa (j:=2) (i:=2) rfl hbt).trans (List.append_assoc ..).symm;have hrm:=Il (m:=m) (j:=2) (i:=2) rfl hbt (by decide);simp only [Jv,List.length_append,Wd,V7] at hrm
   refine cT hq4 ?_
   refine xD [[],[],[1],[0,1,2],[],[4],[0,1,2,3,4,5],[0,1,2,3,4,5,6]] [hR 3 rfl rfl (Wt (U7 true false (Y4 m 2) m.Xr (by omega)) Tryz.func63 rfl (by decide) [3] [2] (l:=[(.tmp 33,Xx 2 kU8 0 (Y4 m 2).length),(.tmp 35,vI m.Xr)]) [(2,.live (Xc 5 kU8 (Y4 m 2)))] rfl 0 1 rfl rfl rfl rfl rfl rfl rfl rfl rfl ⟨.inr (.inl ⟨rfl,pZs,rfl,rfl,by simp,5,(Y4 m 2).length,W5 kU8 (Y4 m 2),List.Mem.head _,pf,fun i j=>by rw [Nat.zero_add]⟩),⟨.inl ⟨rfl,rfl⟩,trivial⟩⟩ rfl pZ3 ph (X2 rfl) trivial),hR 6 rfl rfl (Wt (U7 true false ((Y4 m 2)++Yp m.Xr) m.W0 pZ12) Tryz.func63 rfl (by decide) [4] [3] (l:=[(.tmp 36,Xx 3 kU8 0 ((Y4 m 2)++Yp m.Xr).length),(.tmp 38,vI m.W0)]) [(3,.live (Xc 5 kU8 ((Y4 m 2)++Yp m.Xr)))] rfl 0 1 rfl rfl rfl rfl rfl rfl rfl rfl rfl ⟨.inr (.inl ⟨rfl,pZs,rfl,rfl,by simp,5,((Y4 m 2)++Yp m.Xr).length,W5 kU8 ((Y4 m 2)++Yp m.Xr),List.Mem.head _,pf,fun i j=>by rw [Nat.zero_add]⟩),⟨.inl ⟨rfl,rfl⟩,trivial⟩⟩ rfl pZ3 ph (X2 rfl) trivial)] pZ4 pZ4 pZ4 pZ4 pZ4 pZ4 ?_
   refine eN ⟨[aa,pv 0 0,aa,pv 1 0,aa,(Z8y m),aa,aa,aa,aa,aa,aa,aa,aa,aa,aa,aa,aa,aa,aa,aa,aa,aa,aa,aa,aa,aa,aa,aa,aa,aa,aa,vB (Xk m.X0).Xr],[(Z8n tm m),(Z8q m),.live (Xc 5 kU8 (Y4 m 2)),.live (Xc 5 kU8 ((Y4 m 2)++Yp m.Xr)),.live (Xc 5 kU8 ((Y4 m 2)++Yp m.Xr++Yp m.W0))]⟩ ?_
   refine Xa (s':=⟨(Z8w m),(Z8x tm m)⟩) (fun _ _ hG=>Wf [0,1,4] (bm 6 42) (t1:=[aa,pv 0 0,aa,pv 1 0,aa,Xx 4 kU8 0 (Y4 m 3).length]) (t2:=[aa,pv 0 0,aa,pv 1 0,aa,(Z8y m)]) (h1:=(Z8x tm m)) (h2:=[(Z8n tm m),(Z8q m),.live (Xc 5 kU8 ((Y4 m 2)++Yp m.Xr++Yp m.W0))]) (by have e1:((Y4 m 3).length:Nat)=((Y4 m 2)++Yp m.Xr++Yp m.W0).length:=Io;have hE:=congrArg (fun (q1:Nat)=>([aa,pv 0 0,aa,pv 1 0,aa,Xx 4 kU8 0 q1]:List AV)) e1;exact hE) (by have e1:((Y4 m 3):List UInt8)=(Y4 m 2)++Yp m.Xr++Yp m.W0:=Io;have hE:=congrArg (fun (q1:List UInt8)=>([(Z8n tm m),(Z8q m),.live (Xc 5 kU8 q1)]:List HS)) e1;exact hE) hG) ?_
   exact nJ
  have hbt:¬Ix (Xk m.X0) 2=true:=hq4;have hst:Y4 m 3=Y4 m 2:=X0r (j:=2) hbt
  replace hq4:=Bool.eq_false_iff.2 hq4
  refine cF hq4 (T.skip ?_)
  refine eN ⟨[aa,pv 0 0,aa,pv 1 0,aa,Xx 2 kU8 0 (Y4 m 2).length,aa,aa,aa,aa,aa,aa,aa,aa,aa,aa,aa,aa,aa,aa,aa,aa,aa,aa,aa,aa,aa,aa,aa,aa,aa,aa,vB (Xk m.X0).Xr],(Z8v tm m)⟩ ?_
  refine Xa (s':=⟨(Z8w m),(Z8x tm m)⟩) (fun _ _ hG=>Yu [0,1,2] (bm 6 42) (t2:=(Z8u m)) (h2:=(Z8v tm m)) (by have e1:((Y4 m 3).length:Nat)=(Y4 m 2).length:=Io;have hE:=congrArg (fun (q1:Nat)=>([aa,pv 0 0,aa,pv 1 0,aa,Xx 2 kU8 0 q1]:List AV)) e1;exact hE) (by have e1:((Y4 m 3):List UInt8)=(Y4 m 2):=Io;have hE:=congrArg (fun (q1:List UInt8)=>([(Z8n tm m),(Z8q m),.live (Xc 5 kU8 q1)]:List HS)) e1;exact hE) hG) ?_
  exact nJ
 refine H5 ⟨(Z8z m),(Z90 tm m)⟩ ?_ ?_
 ·refine sR [] ?_
  by_cases hq5:(Xk m.X0).Xe=true
  ·have hbt:Ix (Xk m.X0) 3=true:=hq5;have hst:Y4 m 4=Y4 m 3++Yo m.Xe:=(Fa (j:=3) (i:=3) rfl hbt);have hrm:=Il (m:=m) (j:=3) (i:=3) rfl hbt (by decide);simp only [Jv,List.length_append,Wd,V7] at hrm
   refine cT hq5 ?_
   refine xR [hR 3 rfl rfl (I4 (l:=m.Xe) Tryz.underlying60 Tryz.underlying25 Tryz.underlying5 (X2 rfl) trivial),hR 4 rfl rfl (Wt (Ie true false (Y4 m 3) false true m.Xe (by omega)) Tryz.func64 rfl (by decide) [3] [2] (l:=[(.tmp 42,Xx 2 kU8 0 (Y4 m 3).length),(.tmp 45,slV false true kU8 m.Xe)]) [(2,.live (Xc 5 kU8 (Y4 m 3)))] rfl 0 1 rfl rfl rfl rfl rfl rfl rfl rfl rfl ⟨.inr (.inl ⟨rfl,pZs,rfl,rfl,by simp,5,(Y4 m 3).length,W5 kU8 (Y4 m 3),List.Mem.head _,pf,fun i j=>by rw [Nat.zero_add]⟩),⟨.inl ⟨rfl,rfl⟩,trivial⟩⟩ rfl pZ3 ph (X2 rfl) trivial)] pZ4 pZ4 ?_
   refine eN ⟨[aa,pv 0 0,aa,pv 1 0,aa,Xx 3 kU8 0 ((Y4 m 3)++Yo m.Xe).length,aa,aa,aa,aa,aa,aa,aa,aa,aa,aa,aa,aa,aa,aa,aa,aa,aa,aa,aa,aa,aa,aa,aa,aa,aa,aa,aa,aa,aa,aa,aa,aa,aa,aa,aa,vB (Xk m.X0).Xe],[(Z8n tm m),(Z8q m),.live (Xc 5 kU8 (Y4 m 3)),.live (Xc 5 kU8 ((Y4 m 3)++Yo m.Xe))]⟩ ?_
   refine Xa (s':=⟨(Z8z m),(Z90 tm m)⟩) (fun _ _ hG=>Wf [0,1,3] (bm 6 42) (t1:=[aa,pv 0 0,aa,pv 1 0,aa,Xx 3 kU8 0 (Y4 m 4).length]) (t2:=[aa,pv 0 0,aa,pv 1 0,aa,Xx 3 kU8 0 ((Y4 m 3)++Yo m.Xe).length]) (h1:=(Z90 tm m)) (h2:=[(Z8n tm m),(Z8q m),.live (Xc 5 kU8 ((Y4 m 3)++Yo m.Xe))]) (by have e1:((Y4 m 4).length:Nat)=((Y4 m 3)++Yo m.Xe).length:=Io;have hE:=congrArg (fun (q1:Nat)=>([aa,pv 0 0,aa,pv 1 0,aa,Xx 3 kU8 0 q1]:List AV)) e1;exact hE) (by have e1:((Y4 m 4):List UInt8)=(Y4 m 3)++Yo m.Xe:=Io;have hE:=congrArg (fun (q1:List UInt8)=>([(Z8n tm m),(Z8q m),.live (Xc 5 kU8 q1)]:List HS)) e1;exact hE) hG) ?_
   exact nJ
  have hbt:¬Ix (Xk m.X0) 3=true:=hq5;have hst:Y4 m 4=Y4 m 3:=X0r (j:=3) hbt
  replace hq5:=Bool.eq_false_iff.2 hq5
  refine cF hq5 (T.skip ?_)
  refine eN ⟨[aa,pv 0 0,aa,pv 1 0,aa,Xx 2 kU8 0 (Y4 m 3).length,aa,aa,aa,aa,aa,aa,aa,aa,aa,aa,aa,aa,aa,aa,aa,aa,aa,aa,aa,aa,aa,aa,aa,aa,aa,aa,aa,aa,aa,aa,aa,aa,aa,aa,aa,vB (Xk m.X0).Xe],(Z8x tm m)⟩ ?_
  refine Xa (s':=⟨(Z8z m),(Z90 tm m)⟩) (fun _ _ hG=>Yu [0,1,2] (bm 6 42) (t2:=(Z8w m)) (h2:=(Z8x tm m)) (by have e1:((Y4 m 4).length:Nat)=(Y4 m 3).length:=Io;have hE:=congrArg (fun (q1:Nat)=>([aa,pv 0 0,aa,pv 1 0,aa,Xx 2 kU8 0 q1]:List AV)) e1;exact hE) (by have e1:((Y4 m 4):List UInt8)=(Y4 m 3):=Io;have hE:=congrArg (fun (q1:List UInt8)=>([(Z8n tm m),(Z8q m),.live (Xc 5 kU8 q1)]:List HS)) e1;exact hE) hG) ?_
  exact nJ
 refine H5 ⟨(Z91 m),(Z92 tm m)⟩ ?_ ?_
 ·refine sR [] ?_
  by_cases hq6:(Xk m.X0).Xd=true
  ·have hbt:Ix (Xk m.X0) 4=true:=hq6;have hst:Y4 m 5=Y4 m 4++Yo m.Xd:=(Fa (j:=4) (i:=4) rfl hbt);have hrm:=Il (m:=m) (j:=4) (i:=4) rfl hbt (by decide);simp only [Jv,List.length_append,Wd,V7] at hrm
   refine cT hq6 (xK [hR 3 rfl rfl (Wt (Ie true false (Y4 m 4) tm false m.Xd (by omega)) Tryz.func64 rfl (by decide) [3] [2] (l:=[(.tmp 49,Xx 2 kU8 0 (Y4 m 4).length),(.tmp 51,slV tm false kU8 m.Xd)]) [(2,.live (Xc 5 kU8 (Y4 m 4)))] rfl 0 1 rfl rfl rfl rfl rfl rfl rfl rfl rfl ⟨.inr (.inl ⟨rfl,pZs,rfl,rfl,by simp,5,(Y4 m 4).length,W5 kU8 (Y4 m 4),List.Mem.head _,pf,fun i j=>by rw [Nat.zero_add]⟩),⟨.inl ⟨rfl,rfl⟩,trivial⟩⟩ rfl pZ3 ph (X2 rfl) trivial)] ?_)
   refine eN ⟨[aa,pv 0 0,aa,pv 1 0,aa,Xx 3 kU8 0 ((Y4 m 4)++Yo m.Xd).length,aa,aa,aa,aa,aa,aa,aa,aa,aa,aa,aa,aa,aa,aa,aa,aa,aa,aa,aa,aa,aa,aa,aa,aa,aa,aa,aa,aa,aa,aa,aa,aa,aa,aa,aa,aa,aa,aa,aa,aa,aa,aa,vB (Xk m.X0).Xd],[(Z8n tm m),(Z8q m),.live (Xc 5 kU8 (Y4 m 4)),.live (Xc 5 kU8 ((Y4 m 4)++Yo m.Xd))]⟩ ?_
   refine Xa (s':=⟨(Z91 m),(Z92 tm m)⟩) (fun _ _ hG=>Wf [0,1,3] (bm 6 42) (t1:=[aa,pv 0 0,aa,pv 1 0,aa,Xx 3 kU8 0 (Y4 m 5).length]) (t2:=[aa,pv 0 0,aa,pv 1 0,aa,Xx 3 kU8 0 ((Y4 m 4)++Yo m.Xd).length]) (h1:=(Z92 tm m)) (h2:=[(Z8n tm m),(Z8q m),.live (Xc 5 kU8 ((Y4 m 4)++Yo m.Xd))]) (by have e1:((Y4 m 5).length:Nat)=((Y4 m 4)++Yo m.Xd).length:=Io;have hE:=congrArg (fun (q1:Nat)=>([aa,pv 0 0,aa,pv 1 0,aa,Xx 3 kU8 0 q1]:List AV)) e1;exact hE) (by have e1:((Y4 m 5):List UInt8)=(Y4 m 4)++Yo m.Xd:=Io;have hE:=congrArg (fun (q1:List UInt8)=>([(Z8n tm m),(Z8q m),.live (Xc 5 kU8 q1)]:List HS)) e1;exact hE) hG) ?_
   exact nJ
  have hbt:¬Ix (Xk m.X0) 4=true:=hq6;have hst:Y4 m 5=Y4 m 4:=X0r (j:=4) hbt
  replace hq6:=Bool.eq_false_iff.2 hq6
  refine cF hq6 (T.skip ?_)
  refine eN ⟨[aa,pv 0 0,aa,pv 1 0,aa,Xx 2 kU8 0 (Y4 m 4).length,aa,aa,aa,aa,aa,aa,aa,aa,aa,aa,aa,aa,aa,aa,aa,aa,aa,aa,aa,aa,aa,aa,aa,aa,aa,aa,aa,aa,aa,aa,aa,aa,aa,aa,aa,aa,aa,aa,aa,aa,aa,aa,vB (Xk m.X0).Xd],(Z90 tm m)⟩ ?_
  refine Xa (s':=⟨(Z91 m),(Z92 tm m)⟩) (fun _ _ hG=>Yu [0,1,2] (bm 6 42) (t2:=(Z8z m)) (h2:=(Z90 tm m)) (by have e1:((Y4 m 5).length:Nat)=(Y4 m 4).length:=Io;have hE:=congrArg (fun (q1:Nat)=>([aa,pv 0 0,aa,pv 1 0,aa,Xx 2 kU8 0 q1]:List AV)) e1;exact hE) (by have e1:((Y4 m 5):List UInt8)=(Y4 m 4):=Io;have hE:=congrArg (fun (q1:List UInt8)=>([(Z8n tm m),(Z8q m),.live (Xc 5 kU8 q1)]:List HS)) e1;exact hE) hG) ?_
  exact nJ
 refine H5 ⟨(Z93 m),(Z94 tm m)⟩ ?_ ?_
 ·refine sR [] ?_
  by_cases hq7:(Xk m.X0).X3=true
  ·have hbt:Ix (Xk m.X0) 5=true:=hq7;have hst:Y4 m 6=Y4 m 5++Yp m.X3.Y0++Yp m.X3.Xq:=(Fa (j:=5) (i:=5) rfl hbt).trans (List.append_assoc ..).symm;have hrm:=Il (m:=m) (j:=5) (i:=5) rfl hbt (by decide);simp only [Jv,List.length_append,Wd,V7] at hrm
   refine cT hq7 ?_
   refine xD [[],[],[1],[1,2],[0,1,2,3],[],[5],[5,6],[0,1,2,3,4,5,6,7],[0,1,2,3,4,5,6,7,8]] [hR 4 rfl rfl (Wt (U7 true false (Y4 m 5) m.X3.Y0 (by omega)) Tryz.func63 rfl (by decide) [3] [2] (l:=[(.tmp 55,Xx 2 kU8 0 (Y4 m 5).length),(.tmp 58,vI m.X3.Y0)]) [(2,.live (Xc 5 kU8 (Y4 m 5)))] rfl 0 1 rfl rfl rfl rfl rfl rfl rfl rfl rfl ⟨.inr (.inl ⟨rfl,pZs,rfl,rfl,by simp,5,(Y4 m 5).length,W5 kU8 (Y4 m 5),List.Mem.head _,pf,fun i j=>by rw [Nat.zero_add]⟩),⟨.inl ⟨rfl,rfl⟩,trivial⟩⟩ rfl pZ3 ph (X2 rfl) trivial),hR 8 rfl rfl (Wt (U7 true false ((Y4 m 5)++Yp m.X3.Y0) m.X3.Xq pZ12) Tryz.func63 rfl (by decide) [4] [3] (l:=[(.tmp 59,Xx 3 kU8 0 ((Y4 m 5)++Yp m.X3.Y0).length),(.tmp 62,vI m.X3.Xq)]) [(3,.live (Xc 5 kU8 ((Y4 m 5)++Yp m.X3.Y0)))] rfl 0 1 rfl rfl rfl rfl rfl rfl rfl rfl rfl ⟨.inr (.inl ⟨rfl,pZs,rfl,rfl,by simp,5,((Y4 m 5)++Yp m.X3.Y0).length,W5 kU8 ((Y4 m 5)++Yp m.X3.Y0),List.Mem.head _,pf,fun i j=>by rw [Nat.zero_add]⟩),⟨.inl ⟨rfl,rfl⟩,trivial⟩⟩ rfl pZ3 ph (X2 rfl) trivial)] pZ4 pZ4 pZ4 pZ4 pZ4 pZ4 ?_
   refine eN ⟨[aa,pv 0 0,aa,pv 1 0,aa,(Z95 m),aa,aa,aa,aa,aa,aa,aa,aa,aa,aa,aa,aa,aa,aa,aa,aa,aa,aa,aa,aa,aa,aa,aa,aa,aa,aa,aa,aa,aa,aa,aa,aa,aa,aa,aa,aa,aa,aa,aa,aa,aa,aa,aa,aa,aa,aa,aa,aa,vB (Xk m.X0).X3],[(Z8n tm m),(Z8q m),.live (Xc 5 kU8 (Y4 m 5)),.live (Xc 5 kU8 ((Y4 m 5)++Yp m.X3.Y0)),.live (Xc 5 kU8 ((Y4 m 5)++Yp m.X3.Y0++Yp m.X3.Xq))]⟩ ?_
   refine Xa (s':=⟨(Z93 m),(Z94 tm m)⟩) (fun _ _ hG=>Wf [0,1,4] (bm 6 42) (t1:=[aa,pv 0 0,aa,pv 1 0,aa,Xx 4 kU8 0 (Y4 m 6).length]) (t2:=[aa,pv 0 0,aa,pv 1 0,aa,(Z95 m)]) (h1:=(Z94 tm m)) (h2:=[(Z8n tm m),(Z8q m),.live (Xc 5 kU8 ((Y4 m 5)++Yp m.X3.Y0++Yp m.X3.Xq))]) (by have e1:((Y4 m 6).length:Nat)=((Y4 m 5)++Yp m.X3.Y0++Yp m.X3.Xq).length:=Io;have hE:=congrArg (fun (q1:Nat)=>([aa,pv 0 0,aa,pv 1 0,aa,Xx 4 kU8 0 q1]:List AV)) e1;exact hE) (by have e1:((Y4 m 6):List UInt8)=(Y4 m 5)++Yp m.X3.Y0++Yp m.X3.Xq:=Io;have hE:=congrArg (fun (q1:List UInt8)=>([(Z8n tm m),(Z8q m),.live (Xc 5 kU8 q1)]:List HS)) e1;exact hE) hG) ?_
   exact nJ
  have hbt:¬Ix (Xk m.X0) 5=true:=hq7;have hst:Y4 m 6=Y4 m 5:=X0r (j:=5) hbt
  replace hq7:=Bool.eq_false_iff.2 hq7
  refine cF hq7 (T.skip ?_)
  refine eN ⟨[aa,pv 0 0,aa,pv 1 0,aa,Xx 2 kU8 0 (Y4 m 5).length,aa,aa,aa,aa,aa,aa,aa,aa,aa,aa,aa,aa,aa,aa,aa,aa,aa,aa,aa,aa,aa,aa,aa,aa,aa,aa,aa,aa,aa,aa,aa,aa,aa,aa,aa,aa,aa,aa,aa,aa,aa,aa,aa,aa,aa,aa,aa,aa,vB (Xk m.X0).X3],(Z92 tm m)⟩ ?_
  refine Xa (s':=⟨(Z93 m),(Z94 tm m)⟩) (fun _ _ hG=>Yu [0,1,2] (bm 6 42) (t2:=(Z91 m)) (h2:=(Z92 tm m)) (by have e1:((Y4 m 6).length:Nat)=(Y4 m 5).length:=Io;have hE:=congrArg (fun (q1:Nat)=>([aa,pv 0 0,aa,pv 1 0,aa,Xx 2 kU8 0 q1]:List AV)) e1;exact hE) (by have e1:((Y4 m 6):List UInt8)=(Y4 m 5):=Io;have hE:=congrArg (fun (q1:List UInt8)=>([(Z8n tm m),(Z8q m),.live (Xc 5 kU8 q1)]:List HS)) e1;exact hE) hG) ?_
  exact nJ
 refine H5 ⟨(Z96 m),(Z97 tm m)⟩ ?_ ?_
 ·refine sR [] ?_
  by_cases hq8:(Xk m.X0).Xt=true
  ·have hbt:Ix (Xk m.X0) 6=true:=hq8;have hst:Y4 m 7=Y4 m 6++V5 m.Xt:=(Fa (j:=6) (i:=6) rfl hbt);have hrm:=Il (m:=m) (j:=6) (i:=6) rfl hbt (by decide);simp only [Jv,List.length_append,Wd,V7] at hrm
   refine cT hq8 (xK [hR 3 rfl rfl (Wt (X3t true false (Y4 m 6) tm false tm m.Xt (by omega) (by omega)) Tryz.func65 rfl (by decide) [3] [2] (l:=[(.tmp 66,Xx 2 kU8 0 (Y4 m 6).length),(.tmp 68,slV tm false (kE tm) m.Xt)]) [(2,.live (Xc 5 kU8 (Y4 m 6)))] rfl 0 1 rfl rfl rfl rfl rfl rfl rfl rfl rfl ⟨.inr (.inl ⟨rfl,pZs,rfl,rfl,by simp,5,(Y4 m 6).length,W5 kU8 (Y4 m 6),List.Mem.head _,pf,fun i j=>by rw [Nat.zero_add]⟩),⟨.inl ⟨rfl,rfl⟩,trivial⟩⟩ rfl pZ3 ph (X2 rfl) trivial)] ?_)
   refine eN ⟨[aa,pv 0 0,aa,pv 1 0,aa,Xx 3 kU8 0 ((Y4 m 6)++V5 m.Xt).length,aa,aa,aa,aa,aa,aa,aa,aa,aa,aa,aa,aa,aa,aa,aa,aa,aa,aa,aa,aa,aa,aa,aa,aa,aa,aa,aa,aa,aa,aa,aa,aa,aa,aa,aa,aa,aa,aa,aa,aa,aa,aa,aa,aa,aa,aa,aa,aa,aa,aa,aa,aa,aa,aa,aa,aa,aa,aa,aa,vB (Xk m.X0).Xt],[(Z8n tm m),(Z8q m),.live (Xc 5 kU8 (Y4 m 6)),.live (Xc 5 kU8 ((Y4 m 6)++V5 m.Xt))]⟩ ?_
   refine Xa (s':=⟨(Z96 m),(Z97 tm m)⟩) (fun _ _ hG=>Wf [0,1,3] (bm 6 42) (t1:=[aa,pv 0 0,aa,pv 1 0,aa,Xx 3 kU8 0 (Y4 m 7).length]) (t2:=[aa,pv 0 0,aa,pv 1 0,aa,Xx 3 kU8 0 ((Y4 m 6)++V5 m.Xt).length]) (h1:=(Z97 tm m)) (h2:=[(Z8n tm m),(Z8q m),.live (Xc 5 kU8 ((Y4 m 6)++V5 m.Xt))]) (by have e1:((Y4 m 7).length:Nat)=((Y4 m 6)++V5 m.Xt).length:=Io;have hE:=congrArg (fun (q1:Nat)=>([aa,pv 0 0,aa,pv 1 0,aa,Xx 3 kU8 0 q1]:List AV)) e1;exact hE) (by have e1:((Y4 m 7):List UInt8)=(Y4 m 6)++V5 m.Xt:=Io;have hE:=congrArg (fun (q1:List UInt8)=>([(Z8n tm m),(Z8q m),.live (Xc 5 kU8 q1)]:List HS)) e1;exact hE) hG) ?_
   exact nJ
  have hbt:¬Ix (Xk m.X0) 6=true:=hq8;have hst:Y4 m 7=Y4 m 6:=X0r (j:=6) hbt
  replace hq8:=Bool.eq_false_iff.2 hq8
  refine cF hq8 (T.skip ?_)
  refine eN ⟨[aa,pv 0 0,aa,pv 1 0,aa,Xx 2 kU8 0 (Y4 m 6).length,aa,aa,aa,aa,aa,aa,aa,aa,aa,aa,aa,aa,aa,aa,aa,aa,aa,aa,aa,aa,aa,aa,aa,aa,aa,aa,aa,aa,aa,aa,aa,aa,aa,aa,aa,aa,aa,aa,aa,aa,aa,aa,aa,aa,aa,aa,aa,aa,aa,aa,aa,aa,aa,aa,aa,aa,aa,aa,aa,vB (Xk m.X0).Xt],(Z94 tm m)⟩ ?_
  refine Xa (s':=⟨(Z96 m),(Z97 tm m)⟩) (fun _ _ hG=>Yu [0,1,2] (bm 6 42) (t2:=(Z93 m)) (h2:=(Z94 tm m)) (by have e1:((Y4 m 7).length:Nat)=(Y4 m 6).length:=Io;have hE:=congrArg (fun (q1:Nat)=>([aa,pv 0 0,aa,pv 1 0,aa,Xx 2 kU8 0 q1]:List AV)) e1;exact hE) (by have e1:((Y4 m 7):List UInt8)=(Y4 m 6):=Io;have hE:=congrArg (fun (q1:List UInt8)=>([(Z8n tm m),(Z8q m),.live (Xc 5 kU8 q1)]:List HS)) e1;exact hE) hG) ?_
  exact nJ
 refine H5 ⟨(Z98 m),(Z99 tm m)⟩ ?_ ?_
 ·refine sR [] ?_
  by_cases hq9:(Xk m.X0).Y8=true
  ·have hbt:Ix (Xk m.X0) 7=true:=hq9;have hst:Y4 m 8=Y4 m 7++V5 m.Y8:=(Fa (j:=7) (i:=7) rfl hbt);have hrm:=Il (m:=m) (j:=7) (i:=7) rfl hbt (by decide);simp only [Jv,List.length_append,Wd,V7] at hrm
   refine cT hq9 (xK [hR 3 rfl rfl (Wt (X3t true false (Y4 m 7) tm false tm m.Y8 (by omega) (by omega)) Tryz.func65 rfl (by decide) [3] [2] (l:=[(.tmp 72,Xx 2 kU8 0 (Y4 m 7).length),(.tmp 74,slV tm false (kE tm) m.Y8)]) [(2,.live (Xc 5 kU8 (Y4 m 7)))] rfl 0 1 rfl rfl rfl rfl rfl rfl rfl rfl rfl ⟨.inr (.inl ⟨rfl,pZs,rfl,rfl,by simp,5,(Y4 m 7).length,W5 kU8 (Y4 m 7),List.Mem.head _,pf,fun i j=>by rw [Nat.zero_add]⟩),⟨.inl ⟨rfl,rfl⟩,trivial⟩⟩ rfl pZ3 ph (X2 rfl) trivial)] ?_)
   refine eN ⟨[aa,pv 0 0,aa,pv 1 0,aa,Xx 3 kU8 0 ((Y4 m 7)++V5 m.Y8).length,aa,aa,aa,aa,aa,aa,aa,aa,aa,aa,aa,aa,aa,aa,aa,aa,aa,aa,aa,aa,aa,aa,aa,aa,aa,aa,aa,aa,aa,aa,aa,aa,aa,aa,aa,aa,aa,aa,aa,aa,aa,aa,aa,aa,aa,aa,aa,aa,aa,aa,aa,aa,aa,aa,aa,aa,aa,aa,aa,aa,aa,aa,aa,aa,aa,vB (Xk m.X0).Y8],[(Z8n tm m),(Z8q m),.live (Xc 5 kU8 (Y4 m 7)),.live (Xc 5 kU8 ((Y4 m 7)++V5 m.Y8))]⟩ ?_
   refine Xa (s':=⟨(Z98 m),(Z99 tm m)⟩) (fun _ _ hG=>Wf [0,1,3] (bm 6 42) (t1:=[aa,pv 0 0,aa,pv 1 0,aa,Xx 3 kU8 0 (Y4 m 8).length]) (t2:=[aa,pv 0 0,aa,pv 1 0,aa,Xx 3 kU8 0 ((Y4 m 7)++V5 m.Y8).length]) (h1:=(Z99 tm m)) (h2:=[(Z8n tm m),(Z8q m),.live (Xc 5 kU8 ((Y4 m 7)++V5 m.Y8))]) (by have e1:((Y4 m 8).length:Nat)=((Y4 m 7)++V5 m.Y8).length:=Io;have hE:=congrArg (fun (q1:Nat)=>([aa,pv 0 0,aa,pv 1 0,aa,Xx 3 kU8 0 q1]:List AV)) e1;exact hE) (by have e1:((Y4 m 8):List UInt8)=(Y4 m 7)++V5 m.Y8:=Io;have hE:=congrArg (fun (q1:List UInt8)=>([(Z8n tm m),(Z8q m),.live (Xc 5 kU8 q1)]:List HS)) e1;exact hE) hG) ?_
   exact nJ
  have hbt:¬Ix (Xk m.X0) 7=true:=hq9;have hst:Y4 m 8=Y4 m 7:=X0r (j:=7) hbt
  replace hq9:=Bool.eq_false_iff.2 hq9
  refine cF hq9 (T.skip ?_)
  refine eN ⟨[aa,pv 0 0,aa,pv 1 0,aa,Xx 2 kU8 0 (Y4 m 7).length,aa,aa,aa,aa,aa,aa,aa,aa,aa,aa,aa,aa,aa,aa,aa,aa,aa,aa,aa,aa,aa,aa,aa,aa,aa,aa,aa,aa,aa,aa,aa,aa,aa,aa,aa,aa,aa,aa,aa,aa,aa,aa,aa,aa,aa,aa,aa,aa,aa,aa,aa,aa,aa,aa,aa,aa,aa,aa,aa,aa,aa,aa,aa,aa,aa,vB (Xk m.X0).Y8],(Z97 tm m)⟩ ?_
  refine Xa (s':=⟨(Z98 m),(Z99 tm m)⟩) (fun _ _ hG=>Yu [0,1,2] (bm 6 42) (t2:=(Z96 m)) (h2:=(Z97 tm m)) (by have e1:((Y4 m 8).length:Nat)=(Y4 m 7).length:=Io;have hE:=congrArg (fun (q1:Nat)=>([aa,pv 0 0,aa,pv 1 0,aa,Xx 2 kU8 0 q1]:List AV)) e1;exact hE) (by have e1:((Y4 m 8):List UInt8)=(Y4 m 7):=Io;have hE:=congrArg (fun (q1:List UInt8)=>([(Z8n tm m),(Z8q m),.live (Xc 5 kU8 q1)]:List HS)) e1;exact hE) hG) ?_
  exact nJ
 refine H5 ⟨(Z9a m),(Z9b tm m)⟩ ?_ ?_
 ·refine sR [] ?_
  by_cases hq10:(Xk m.X0).X5=true
  rotate_left
  ·have hbt:¬Ix (Xk m.X0) 8=true:=hq10;have hst:Y4 m 9=Y4 m 8:=X0r (j:=8) hbt
   replace hq10:=Bool.eq_false_iff.2 hq10
   refine cF hq10 (T.skip ?_)
   refine eN ⟨[aa,pv 0 0,aa,pv 1 0,aa,Xx 2 kU8 0 (Y4 m 8).length,aa,aa,aa,aa,aa,aa,aa,aa,aa,aa,aa,aa,aa,aa,aa,aa,aa,aa,aa,aa,aa,aa,aa,aa,aa,aa,aa,aa,aa,aa,aa,aa,aa,aa,aa,aa,aa,aa,aa,aa,aa,aa,aa,aa,aa,aa,aa,aa,aa,aa,aa,aa,aa,aa,aa,aa,aa,aa,aa,aa,aa,aa,aa,aa,aa,aa,aa,aa,aa,aa,aa,vB (Xk m.X0).X5],(Z99 tm m)⟩ ?_
   refine Xa (s':=⟨(Z9a m),(Z9b tm m)⟩) (fun _ _ hG=>Yu [0,1,2] (bm 6 42) (t2:=(Z98 m)) (h2:=(Z99 tm m)) (by have e1:((Y4 m 9).length:Nat)=(Y4 m 8).length:=Io;have hE:=congrArg (fun (q1:Nat)=>([aa,pv 0 0,aa,pv 1 0,aa,Xx 2 kU8 0 q1]:List AV)) e1;exact hE) (by have e1:((Y4 m 9):List UInt8)=(Y4 m 8):=Io;have hE:=congrArg (fun (q1:List UInt8)=>([(Z8n tm m),(Z8q m),.live (Xc 5 kU8 q1)]:List HS)) e1;exact hE) hG) ?_
   exact nJ
  have hbt:Ix (Xk m.X0) 8=true:=hq10;have hst:Y4 m 9=Y4 m 8++H4 m.X5:=(Fa (j:=8) (i:=8) rfl hbt);have hrm:=Il (m:=m) (j:=8) (i:=8) rfl hbt (by decide);simp only [Jv,List.length_append,Wd,V7] at hrm
  refine cT hq10 (sR [hR 4 rfl rfl (Wt (Ee true false (Y4 m 8) ((m.X5.length:Nat):Int) (by omega)) Tryz.func66 rfl (by decide) [3] [2] (l:=[(.tmp 78,Xx 2 kU8 0 (Y4 m 8).length),(.tmp 81,vI ((m.X5.length:Nat):Int))]) [(2,.live (Xc 5 kU8 (Y4 m 8)))] rfl 0 1 rfl rfl rfl rfl rfl rfl rfl rfl rfl ⟨.inr (.inl ⟨rfl,pZs,rfl,rfl,by simp,5,(Y4 m 8).length,W5 kU8 (Y4 m 8),List.Mem.head _,pf,fun i j=>by rw [Nat.zero_add]⟩),⟨.inl ⟨rfl,rfl⟩,trivial⟩⟩ rfl pZ3 ph (X2 rfl) trivial)] (sR [] (T.block ?_)))
  refine T.loop (ι:=Nat) (fun (k:Nat)=>(Z9e tm m k)) (fun (k:Nat)=>(k≤m.X5.length)) (fun (k:Nat)=>m.X5.length-k) (0) (Nat.zero_le _) (fun _ _ hG=>Wf [0,1,3] (bm 7 106) (t1:=[aa,pv 0 0,aa,pv 1 0,aa,Xx 3 kU8 0 ((Y4 m 8)++V3 ((m.X5.length:Nat):Int)++Ip m.X5 0).length,vI 0]) (t2:=[aa,pv 0 0,aa,pv 1 0,aa,Xx 3 kU8 0 ((Y4 m 8)++V3 ((m.X5.length:Nat):Int)).length,vI 0]) (h1:=(Z9f tm m)) (h2:=[(Z8n tm m),(Z8q m),.live (Xc 5 kU8 ((Y4 m 8)++V3 ((m.X5.length:Nat):Int)))]) (by have e1:(((Y4 m 8)++V3 ((m.X5.length:Nat):Int)++Ip m.X5 0).length:Nat)=((Y4 m 8)++V3 ((m.X5.length:Nat):Int)).length:=(by (rw [crt_0,List.append_nil];done));have hE:=congrArg (fun (q1:Nat)=>([aa,pv 0 0,aa,pv 1 0,aa,Xx 3 kU8 0 q1,vI 0]:List AV)) e1;exact hE) (by have e1:(((Y4 m 8)++V3 ((m.X5.length:Nat):Int)++Ip m.X5 0):List UInt8)=(Y4 m 8)++V3 ((m.X5.length:Nat):Int):=(by (rw [crt_0,List.append_nil];done));have hE:=congrArg (fun (q1:List UInt8)=>([(Z8n tm m),(Z8q m),.live (Xc 5 kU8 q1)]:List HS)) e1;exact hE) hG) ?_
  rintro k hk
  show T _ _ (Z9e tm m k) _ _
  replace hk:k≤m.X5.length:=hk
  have hcle:=crt_le m.X5 k
  refine T.seq (sR [] ?_)
  by_cases hq11:((k:Nat):Int)<((m.X5.length:Nat):Int)
  ·have hcr:=crt_room (l:=m.X5) (k:=k) (by omega);have hvc:=list_cnt (m.X5.getD k zC).Xi;have hcl:=U9 ((m.X5.length:Nat):Int)
   refine cT (dT hq11) (T.skip (nT (T.seq (T.block ?_))))
   refine xD [[],[],[1],[],[1,2,3],[1,2,3,4],[1,2,3,4,5],[0,1,2,3,4,5,6],[],[8],[],[8,9,10],[8,9,10,11],[8,9,10,11,12],[0,1,2,3,4,5,6,7,8,9,10,11,12,13],[0,1,2,3,4,5,6,7,8,9,10,11,12,13,14]] [hR 4 rfl rfl (Wi tm false (kC tm) m.X5 k (k:=.i64) (i:=((k:Nat):Int)) Tryz.underlying76 Eu rfl rfl (by omega) (X2 rfl) trivial),hR 7 rfl rfl (Wt (X1h true false ((Y4 m 8)++V3 ((m.X5.length:Nat):Int)++Ip m.X5 k) tm (m.X5.getD k zC).Uu pZ12) Tryz.func67 rfl (by decide) [3] [2] (l:=[(.tmp 90,(Z9c m k)),(.tmp 96,.tv (.agg [dI (m.X5.getD k zC).Uu.f_Signer,.d (dsl tm false kU8 (m.X5.getD k zC).Uu.Xh)]))]) [(2,(Z9d m k))] rfl 0 1 rfl rfl rfl rfl rfl rfl rfl rfl rfl ⟨.inr (.inl ⟨rfl,pZs,rfl,rfl,by simp,5,((Y4 m 8)++V3 ((m.X5.length:Nat):Int)++Ip m.X5 k).length,W5 kU8 ((Y4 m 8)++V3 ((m.X5.length:Nat):Int)++Ip m.X5 k),List.Mem.head _,pf,fun i j=>by rw [Nat.zero_add]⟩),⟨⟨.inl ⟨rfl,rfl⟩,⟨.inl ⟨rfl,rfl⟩,trivial⟩⟩,trivial⟩⟩ rfl pZ3 ph (X2 rfl) trivial),hR 11 rfl rfl (Wi tm false (kC tm) m.X5 k (k:=.i64) (i:=((k:Nat):Int)) Tryz.underlying76 Eu rfl rfl (by omega) (X2 rfl) trivial),hR 14 rfl rfl (Wt (X3t true false (((Y4 m 8)++V3 ((m.X5.length:Nat):Int)++Ip m.X5 k)++Ja (m.X5.getD k zC).Uu) tm false tm (m.X5.getD k zC).Xi pZ12 (by omega)) Tryz.func65 rfl (by decide) [4] [3] (l:=[(.tmp 97,Xx 3 kU8 0 (((Y4 m 8)++V3 ((m.X5.length:Nat):Int)++Ip m.X5 k)++Ja (m.X5.getD k zC).Uu).length),(.tmp 103,slV tm false (kE tm) (m.X5.getD k zC).Xi)]) [(3,.live (Xc 5 kU8 (((Y4 m 8)++V3 ((m.X5.length:Nat):Int)++Ip m.X5 k)++Ja (m.X5.getD k zC).Uu)))] rfl 0 1 rfl rfl rfl rfl rfl rfl rfl rfl rfl ⟨.inr (.inl ⟨rfl,pZs,rfl,rfl,by simp,5,(((Y4 m 8)++V3 ((m.X5.length:Nat):Int)++Ip m.X5 k)++Ja (m.X5.getD k zC).Uu).length,W5 kU8 (((Y4 m 8)++V3 ((m.X5.length:Nat):Int)++Ip m.X5 k)++Ja (m.X5.getD k zC).Uu),List.Mem.head _,pf,fun i j=>by rw [Nat.zero_add]⟩),⟨.inl ⟨rfl,rfl⟩,trivial⟩⟩ rfl pZ3 ph (X2 rfl) trivial)] pZ4 pZ4 pZ4 pZ4 pZ4 pZ4 ?_
   refine nB (nT (xK [hR 1 rfl rfl (Yb (u1:=.int .i64 ((k:Nat):Int)) (u2:=.int .i64 1) (v:=.int .i64 ((k+1:Nat):Int)) (Wb pZ9) (X2 rfl) ⟨rfl,trivial⟩)] ?_))
   refine nL (k+1) (show (k+1)≤m.X5.length from (by omega)) (show (m.X5.length-(k+1):Nat)<m.X5.length-k from (by omega)) (fun _ _ hG=>Wf [0,1,4] (bm 7 106) (t1:=[aa,pv 0 0,aa,pv 1 0,aa,Xx 4 kU8 0 ((Y4 m 8)++V3 ((m.X5.length:Nat):Int)++Ip m.X5 (k+1)).length,(Z9g k)]) (t2:=[aa,pv 0 0,aa,pv 1 0,aa,Xx 4 kU8 0 (((Y4 m 8)++V3 ((m.X5.length:Nat):Int)++Ip m.X5 k)++Ja (m.X5.getD k zC).Uu++V5 (m.X5.getD k zC).Xi).length,(Z9g k)]) (h1:=(Z9h tm m k)) (h2:=[(Z8n tm m),(Z8q m),.live (Xc 5 kU8 (((Y4 m 8)++V3 ((m.X5.length:Nat):Int)++Ip m.X5 k)++Ja (m.X5.getD k zC).Uu++V5 (m.X5.getD k zC).Xi))]) (by have e1:(((Y4 m 8)++V3 ((m.X5.length:Nat):Int)++Ip m.X5 (k+1)).length:Nat)=(((Y4 m 8)++V3 ((m.X5.length:Nat):Int)++Ip m.X5 k)++Ja (m.X5.getD k zC).Uu++V5 (m.X5.getD k zC).Xi).length:=(by (rw [Xg5 (by omega)];simp only [List.append_assoc];done));have hE:=congrArg (fun (q1:Nat)=>([aa,pv 0 0,aa,pv 1 0,aa,Xx 4 kU8 0 q1,(Z9g k)]:List AV)) e1;exact hE) (by have e1:(((Y4 m 8)++V3 ((m.X5.length:Nat):Int)++Ip m.X5 (k+1)):List UInt8)=((Y4 m 8)++V3 ((m.X5.length:Nat):Int)++Ip m.X5 k)++Ja (m.X5.getD k zC).Uu++V5 (m.X5.getD k zC).Xi:=(by (rw [Xg5 (by omega)];simp only [List.append_assoc];done));have hE:=congrArg (fun (q1:List UInt8)=>([(Z8n tm m),(Z8q m),.live (Xc 5 kU8 q1)]:List HS)) e1;exact hE) hG)
  refine cF (dF hq11) (T.exit (xT (xT (xH ?_))))
  refine eN ⟨[aa,pv 0 0,aa,pv 1 0,aa,(Z9c m k),vI ((k:Nat):Int),aa,aa,aa,aa,aa,aa,aa,aa,aa,aa,aa,aa,aa,aa,aa,aa,aa,aa,aa,aa,aa,aa,aa,aa,aa,aa,aa,aa,aa,aa,aa,aa,aa,aa,aa,aa,aa,aa,aa,aa,aa,aa,aa,aa,aa,aa,aa,aa,aa,aa,aa,aa,aa,aa,aa,aa,aa,aa,aa,aa,aa,aa,aa,aa,aa,aa,aa,aa,aa,aa,aa,aa,aa,aa,aa,aa,aa,aa,aa,aa,vB (decide (((k:Nat):Int)<((m.X5.length:Nat):Int)))],[(Z8n tm m),(Z8q m),(Z9d m k)]⟩ ?_
  refine Xa (s':=⟨(Z9a m),(Z9b tm m)⟩) (fun _ _ hG=>Yu [0,1,2] (bm 6 42) (t2:=[aa,pv 0 0,aa,pv 1 0,aa,(Z9c m k)]) (h2:=[(Z8n tm m),(Z8q m),(Z9d m k)]) (by have e1:((Y4 m 9).length:Nat)=((Y4 m 8)++V3 ((m.X5.length:Nat):Int)++Ip m.X5 k).length:=p4o;have hE:=congrArg (fun (q1:Nat)=>([aa,pv 0 0,aa,pv 1 0,aa,Xx 2 kU8 0 q1]:List AV)) e1;exact hE) (by have e1:((Y4 m 9):List UInt8)=((Y4 m 8)++V3 ((m.X5.length:Nat):Int)++Ip m.X5 k):=p4o;have hE:=congrArg (fun (q1:List UInt8)=>([(Z8n tm m),(Z8q m),.live (Xc 5 kU8 q1)]:List HS)) e1;exact hE) hG) ?_
  exact nJ
 refine sR [] (T.ret ?_)
 refine eN ⟨(Z9i m),(Z9b tm m)⟩ ?_
 refine Xa (s':=⟨[aa,pv 0 0,slV false false kU8 (Y4 m 9),pv 1 0,aa,slV false false kU8 (Y4 m 9)],[(Z8n tm m),(Z8q m),.dead]⟩) (fun _ _ hG=>Gs.freeze (s:=⟨(Z9i m),(Z9b tm m)⟩) 2 (el:=W5 kU8 (Y4 m 9)) (sz:=kU8.sz) (n:=(Y4 m 9).length) rfl (kk2 ⟨(.inr pZ0),(kk2 ⟨(.inr pZ0),trivial⟩)⟩) ⟨pZ7,⟨pZ7,⟨(.inl ⟨rfl,rfl⟩),trivial⟩⟩⟩ hG) ?_
 exact eRt 2 (.one (dU (Y4 m 9))) [] (congrArg (fun (q1:List UInt8)=>(slV false false kU8 q1:AV)) (by exact (if_pos hwl))) trivial
end Go.Proofs.YtnaopgohccacmaaGreat.Q
namespace Go.Proofs.YtnaopgohccacmaaGreat.Q
set_option linter.unusedVariables false
set_option linter.unusedSimpArgs false
theorem I5 {n:Int} (hn:Wm n) (r:List UInt8):rdI (Yp n++r) 0=n∧rdR (Yp n++r) 0 8 0=r∧rdE (Yp n++r) 0 8 0=0:=by
  have hk:okT (Yp n++r) 0 8 0:=Xcx (Wd n)
  refine ⟨?_,?_,X3x hk⟩
  · rw [rdI,if_pos hk,X8b (Wd n),Yp,X2s (Nat.lt_of_lt_of_le (X8a n) (by decide)),Xk4 hn]
  · rw [X3w hk];exact X58 (Wd n)
theorem Xkm (r:List UInt8) (e:Int):Wm (rdI r e):=by
  unfold rdI Wm
  split
  · have:=X1u (l:=r.take 8) (List.length_take_le _ _)
    unfold X0x
    split<;>omega
  · omega
theorem rdX_ok {r:List UInt8} {e:Int} (h:rdX r e=0):e=0∧r=[]:=by
  unfold rdX at h
  split at h
  · cases h
  · rename_i h1
    refine ⟨h,?_⟩
    cases r with
    | nil=>rfl
    | cons a r=>exact absurd ⟨h,by simp<;>omega⟩ h1
end Go.Proofs.YtnaopgohccacmaaGreat.Q
namespace Go.Proofs.YtnaopgohccacmaaGreat.Q
set_option linter.unusedVariables false
set_option linter.unusedSimpArgs false
theorem lim_big {rest:List UInt8} {M:Int} (hM:((rest.length:Nat):Int)≤M) (h:V1 (rest.take 4)≤(rest.drop 4).length):Yq M (rest.take 4)=0:=by
  unfold Yq
  rw [List.length_drop] at h
  rw [if_neg (by omega)]
theorem okY_any {rest:List UInt8} {e M M':Int} (hM:((rest.length:Nat):Int)≤M) (hM':((rest.length:Nat):Int)≤M') (h:okY rest e M):okY rest e M':=by
  obtain ⟨h1,h2⟩:=h
  exact ⟨⟨h1.1,h1.2.1,lim_big hM' h2⟩,h2⟩
theorem Xco {rest:List UInt8} {e M:Int}:Va rest e M=0↔okY rest e M:=by
  unfold Va okY
  constructor
  · intro h
    split at h
    · rename_i h1
      split at h
      · rename_i h2;exact ⟨h1,h2⟩
      · cases h
    · rename_i h1;exact absurd h (Xhe h1)
  · rintro ⟨h1,h2⟩
    rw [if_pos h1,if_pos h2]
theorem Xix {rest:List UInt8} {e M M':Int} (hM:((rest.length:Nat):Int)≤M) (hM':((rest.length:Nat):Int)≤M') (h:Va rest e M=0):Va rest e M'=0∧rdY rest e M'=rdY rest e M∧U4 rest e M'=U4 rest e M:=by
  have h1:=Xco.1 h
  have h2:=okY_any hM hM' h1
  exact ⟨Xco.2 h2,by rw [rdY,rdY,if_pos h1,if_pos h2],by rw [U4,U4,if_pos h1,if_pos h2]⟩
end Go.Proofs.YtnaopgohccacmaaGreat.Q
namespace Go.Proofs.YtnaopgohccacmaaGreat.Q
set_option linter.unusedVariables false
set_option linter.unusedSimpArgs false
section
variable {B r:List UInt8}
end
end Go.Proofs.YtnaopgohccacmaaGreat.Q
namespace Go.Proofs.YtnaopgohccacmaaGreat.Q
set_option linter.unusedVariables false
set_option linter.unusedSimpArgs false
set_option maxRecDepth 100000
def Jf (h:Int) (d s:List UInt8):List UInt8:=Yp h++Yo d++Yo s
def uD (M:Int) (b:List UInt8):List UInt8:=rdY (rdR b 0 8 0) (rdE b 0 8 0) M
def uR2 (M:Int) (b:List UInt8):List UInt8:=U4 (rdR b 0 8 0) (rdE b 0 8 0) M
def uE2 (M:Int) (b:List UInt8):Int:=Va (rdR b 0 8 0) (rdE b 0 8 0) M
def uS (M:Int) (b:List UInt8):List UInt8:=rdY (uR2 M b) (uE2 M b) M
def uR3 (M:Int) (b:List UInt8):List UInt8:=U4 (uR2 M b) (uE2 M b) M
def uE3 (M:Int) (b:List UInt8):Int:=Va (uR2 M b) (uE2 M b) M
def okU (M:Int) (b:List UInt8):Prop:=rdX (uR3 M b) (uE3 M b)=0∧0≤rdI b 0∧rdI b 0≤1099511627776
instance (M:Int) (b:List UInt8):Decidable (okU M b):=inferInstanceAs (Decidable (_∧_∧_))
def unH (M:Int) (b:List UInt8):Int:=if okU M b then rdI b 0 else 0
def unD (M:Int) (b:List UInt8):List UInt8:=if okU M b then uD M b else []
def unS (M:Int) (b:List UInt8):List UInt8:=if okU M b then uS M b else []
def unE (M:Int) (b:List UInt8):Int:=if okU M b then 0 else 12
theorem Xet (h:Int) (d s:List UInt8):(Jf h d s).length=16+d.length+s.length:=by
  simp only [Jf,List.length_append,Wd,V7];omega
theorem Xgs (M:Int) (b:List UInt8):(rdR b 0 8 0).length≤b.length∧(uR2 M b).length≤b.length∧(uR3 M b).length≤b.length∧(uD M b).length≤b.length∧(uS M b).length≤b.length:=by
  have h1:=Uh b 0 8 0
  have h2:(uR2 M b).length≤b.length:=Nat.le_trans (X1m _ _ _) h1
  exact ⟨h1,h2,Nat.le_trans (X1m _ _ _) h2,Nat.le_trans (X0i _ _ _) h1,Nat.le_trans (X0i _ _ _) h2⟩
theorem Xj4 {b:List UInt8} {M M':Int} (hM:((b.length:Nat):Int)≤M) (hM':((b.length:Nat):Int)≤M') (h:okU M b):okU M' b∧uD M' b=uD M b∧uS M' b=uS M b:=by
  obtain ⟨h1,h2⟩:=h
  obtain ⟨x1,x2⟩:=rdX_ok h1
  have l1:=Uh b 0 8 0
  have l2:=(Xgs M b).2.1
  have e2:uE2 M b=0:=(Xco.1 x1).1.1
  obtain ⟨a1,a2,a3⟩:=Xix (M':=M') (show (((rdR b 0 8 0).length:Nat):Int)≤M by omega) (by omega) e2
  have a1':uE2 M' b=uE2 M b:=a1.trans e2.symm
  have a3':uR2 M' b=uR2 M b:=a3
  obtain ⟨b1,b2,b3⟩:=Xix (M':=M') (show (((uR2 M b).length:Nat):Int)≤M by omega) (by omega) x1
  refine ⟨⟨?_,h2⟩,a2,by unfold uS;rw [a1',a3'];exact b2⟩
  unfold uR3 uE3
  rw [a1',a3',b3]
  show rdX (uR3 M b) (Va (uR2 M b) (uE2 M b) M')=0
  rw [b1,← show uE3 M b=0 from x1]
  exact h1.trans x1.symm
theorem un_any {b:List UInt8} {M M':Int} (hM:((b.length:Nat):Int)≤M) (hM':((b.length:Nat):Int)≤M'):unH M b=unH M' b∧unD M b=unD M' b∧unS M b=unS M' b∧unE M b=unE M' b:=by
  unfold unH unD unS unE
  by_cases h:okU M b
  · obtain ⟨h1,h2,h3⟩:=Xj4 hM hM' h
    rw [if_pos h,if_pos h,if_pos h,if_pos h,if_pos h1,if_pos h1,if_pos h1,if_pos h1,h2,h3]
    exact ⟨rfl,rfl,rfl,rfl⟩
  · have h1:¬okU M' b:=fun h'=>h (Xj4 hM' hM h').1
    rw [if_neg h,if_neg h,if_neg h,if_neg h,if_neg h1,if_neg h1,if_neg h1,if_neg h1]
    exact ⟨rfl,rfl,rfl,rfl⟩
theorem un_pack {h:Int} {d s:List UInt8} {M:Int} (hh:Wm h) (hd:d.length≤1000000) (hs:s.length≤1000000) (hM:(((Jf h d s).length:Nat):Int)≤M) :
    rdI (Jf h d s) 0=h∧uD M (Jf h d s)=d∧uS M (Jf h d s)=s∧uR3 M (Jf h d s)=[]∧uE3 M (Jf h d s)=0:=by
  have hl:=Xet h d s
  have hx:Jf h d s=Yp h++(Yo d++(Yo s++[])):=by simp [Jf,List.append_assoc]
  generalize Jf h d s=x at hx hl hM ⊢
  obtain ⟨a1,a2,a3⟩:=I5 hh (Yo d++(Yo s++[]))
  obtain ⟨b1,b2,b3⟩:=Hb (most:=M) (x:=d) (by omega) (Yo s++[]) (by omega)
  obtain ⟨c1,c2,c3⟩:=Hb (most:=M) (x:=s) (by omega) [] (by omega)
  have e1:uR2 M x=Yo s++[]:=by unfold uR2;rw [hx,a2,a3];exact b2
  have e2:uE2 M x=0:=by unfold uE2;rw [hx,a2,a3];exact b3
  refine ⟨by rw [hx];exact a1,by unfold uD;rw [hx,a2,a3];exact b1,by unfold uS;rw [e1,e2];exact c1,by unfold uR3;rw [e1,e2];exact c2,by unfold uE3;rw [e1,e2];exact c3⟩
theorem un_ok {h:Int} {d s:List UInt8} {M:Int} (hh:Wm h) (hd:d.length≤1000000) (hs:s.length≤1000000) (hM:(((Jf h d s).length:Nat):Int)≤M) :
    (unE M (Jf h d s)=0↔0≤h∧h≤1099511627776)∧(unE M (Jf h d s)=0→unH M (Jf h d s)=h∧unD M (Jf h d s)=d∧unS M (Jf h d s)=s):=by
  obtain ⟨a1,a2,a3,a4,a5⟩:=un_pack hh hd hs hM
  have hk:okU M (Jf h d s)↔0≤h∧h≤1099511627776:=by
    unfold okU
    rw [a1,a4,a5]
    exact ⟨fun h=>h.2,fun h=>⟨rfl,h⟩⟩
  unfold unE unH unD unS
  by_cases h1:okU M (Jf h d s)
  · rw [if_pos h1,if_pos h1,if_pos h1,if_pos h1,a1,a2,a3]
    exact ⟨⟨fun _=>hk.1 h1,fun _=>rfl⟩,fun _=>⟨rfl,rfl,rfl⟩⟩
  · rw [if_neg h1]
    exact ⟨⟨fun h=>(by cases h),fun h=>absurd (hk.2 h) h1⟩,fun h=>(by cases h)⟩
end Go.Proofs.YtnaopgohccacmaaGreat.Q
namespace Go.Proofs.YtnaopgohccacmaaGreat.Q
open Go Go.RowKit
set_option linter.unusedVariables false
set_option linter.unusedSimpArgs false
set_option maxRecDepth 100000
set_option maxHeartbeats 4000000
theorem Xff (tb:Bool) (nb:Bool) (b:List UInt8) (hb:b.length≤1000000000):Holds Tryz.prog 60 ⟨[slV tb nb kU8 b],[],dv (Yn (ofB 7 [b])),[]⟩:=by
 refine Holds.of Tryz.func60 rfl (N:=5) Tryz.ntmps60 rfl fun w0 B0 S0 U0=>?_
 show T _ (Y2 5 0 w0 S0 U0 B0) ⟨[slV tb nb kU8 b],[]⟩ _ _
 refine sR [] (sR [hR 1 rfl rfl (rCa (X5q (7:UInt8) tb nb b (by omega)) Tryz.func118 [] [(.const (.int .u8 7),dv (.int .u8 7)),(.tmp 3,slV tb nb kU8 b)] 0 0)] (T.ret ?_))
 exact eRt 2 (.one (dS (ofB (7:UInt8) [b]))) [] pZ28 trivial
theorem Xh2 (h:Int) (d:List UInt8) (ts:Bool) (ns:Bool) (s:List UInt8) (hd:d.length≤100000000) (hs:s.length≤100000000):Holds Tryz.prog 41 ⟨[vI h,dv (Yn d),slV ts ns kU8 s],[],Xx 0 kU8 0 (Jf h d s).length,[.live (Xc 5 kU8 (Jf h d s))]⟩:=by
 refine Holds.of Tryz.func41 rfl (N:=14) Tryz.ntmps41 rfl fun w0 B0 S0 U0=>?_
 show T _ (Y2 14 0 w0 S0 U0 B0) ⟨[vI h,dv (Yn d),slV ts ns kU8 s],[]⟩ _ _
 have hi:=Wd h
 have hb:=V7 d
 refine sR [] ?_
 refine sR [hR 1 rfl rfl (rCn (U7 false false ([]:List UInt8) h (by (simp [maxLen,-List.getD_eq_getElem?_getD]<;>omega))) Tryz.func63 [0] [(.const (.slice none 0 0),dv (.slice none 0 0)),(.tmp 7,vI h)] 0 1 ⟨.inr pZ8,⟨.inl ⟨rfl,rfl⟩,trivial⟩⟩ ⟨rfl,trivial⟩),hR 3 rfl rfl (I4 (l:=d) Tryz.underlying60 Tryz.underlying25 Tryz.underlying5 (X2 rfl) trivial),hR 4 rfl rfl (Wt (Ie true false (([]:List UInt8)++Yp h) false true d (by (simp [maxLen,-List.getD_eq_getElem?_getD]<;>omega))) Tryz.func64 rfl (by decide) [1] [0] (l:=[(.tmp 8,Xx 0 kU8 0 (([]:List UInt8)++Yp h).length),(.tmp 10,slV false true kU8 d)]) [(0,.live (Xc 5 kU8 (([]:List UInt8)++Yp h)))] rfl 0 1 rfl rfl rfl rfl rfl rfl rfl rfl rfl ⟨.inr (.inl ⟨rfl,pZs,rfl,rfl,by simp,5,(([]:List UInt8)++Yp h).length,W5 kU8 (([]:List UInt8)++Yp h),List.Mem.head _,pf,fun i j=>by rw [Nat.zero_add]⟩),⟨.inl ⟨rfl,rfl⟩,trivial⟩⟩ rfl pZ3 ph (X2 rfl) trivial),hR 6 rfl rfl (Wt (Ie true false (([]:List UInt8)++Yp h++Yo d) ts ns s (by (simp [maxLen,-List.getD_eq_getElem?_getD]<;>omega))) Tryz.func64 rfl (by decide) [2] [1] (l:=[(.tmp 11,Xx 1 kU8 0 (([]:List UInt8)++Yp h++Yo d).length),(.tmp 12,slV ts ns kU8 s)]) [(1,.live (Xc 5 kU8 (([]:List UInt8)++Yp h++Yo d)))] rfl 0 1 rfl rfl rfl rfl rfl rfl rfl rfl rfl ⟨.inr (.inl ⟨rfl,pZs,rfl,rfl,by simp,5,(([]:List UInt8)++Yp h++Yo d).length,W5 kU8 (([]:List UInt8)++Yp h++Yo d),List.Mem.head _,pf,fun i j=>by rw [Nat.zero_add]⟩),⟨.inl ⟨rfl,rfl⟩,trivial⟩⟩ rfl pZ3 ph (X2 rfl) trivial)] ?_
 refine T.ret ?_
 exact eRt 6 (.one (.own 2 kU8.sz 0 (([]:List UInt8)++Yp h++Yo d++Yo s).length)) [2] (congrArg (fun (q1:Nat)=>(Xx 2 kU8 0 q1:AV)) (by rfl)) ⟨⟨rfl,(by have e1:(([]:List UInt8)++Yp h++Yo d++Yo s:List UInt8)=Jf h d s:=(by rfl);have hE:=congrArg (fun (q1:List UInt8)=>(.live (Xc 5 kU8 q1):HS)) e1;exact Eq.trans pZ4 hE)⟩,trivial⟩
theorem Xh1 (tb:Bool) (nb:Bool) (b:List UInt8) (hb:b.length≤1000000000):Holds Tryz.prog 42 ⟨[slV tb nb kU8 b],[],dv (Yn (ofB 7 [b])),[]⟩:=by
 refine Holds.of Tryz.func42 rfl (N:=5) Tryz.ntmps42 rfl fun w0 B0 S0 U0=>?_
 show T _ (Y2 5 0 w0 S0 U0 B0) ⟨[slV tb nb kU8 b],[]⟩ _ _
 refine sR [] (sR [hR 1 rfl rfl (rCa (X91 (7:UInt8) tb nb b (by omega)) Tryz.func93 [] [(.const (.int .u8 7),dv (.int .u8 7)),(.tmp 3,slV tb nb kU8 b)] 0 0)] (T.ret ?_))
 exact eRt 2 (.one (dS (ofB (7:UInt8) [b]))) [] pZ28 trivial
section
variable (tb:Bool) (nb:Bool) (b:List UInt8)
abbrev Z9j:=(rdY (rdR b 0 8 0) (rdE b 0 8 0) ((b.length:Nat):Int))
abbrev Z9k:AV:=vI (rdI b 0)
abbrev Z9l:AV:=dv (Yn (Z9j b))
abbrev Z9m:=(U4 (rdR b 0 8 0) (rdE b 0 8 0) ((b.length:Nat):Int))
abbrev Z9n:=(Va (rdR b 0 8 0) (rdE b 0 8 0) ((b.length:Nat):Int))
abbrev Z9o:=(rdY (Z9m b) (Z9n b) ((b.length:Nat):Int))
abbrev Z9p:AV:=Xx 2 kU8 0 (Z9o b).length
abbrev Z9q:HS:=.live (.box 195 [dU (U4 (Z9m b) (Z9n b) ((b.length:Nat):Int)),dI (rdX (U4 (Z9m b) (Z9n b) ((b.length:Nat):Int)) (Va (Z9m b) (Z9n b) ((b.length:Nat):Int)))])
abbrev Z9r:List HS:=[(Z9q b),.live (Xc 5 kU8 (Z9j b)),.live (Xc 5 kU8 (Z9o b))]
abbrev Z9s:St:=⟨[slV tb nb kU8 b,aa,vI 0,dv (Yn []),dv (.slice none 0 0),vI 12,pv 0 0,(Z9k b),(Z9l b),(Z9p b),aa,aa,aa,aa,aa,aa,aa,aa,aa,aa,aa,aa,aa,aa,aa,aa,aa,aa,aa,aa,aa,aa,aa,aa,aa,vB true],(Z9r b)⟩
abbrev Z9t:St:=⟨[slV tb nb kU8 b,aa,vI 0,dv (Yn []),slV false false kU8 ([]:List UInt8),vI 12,pv 0 0,(Z9k b),(Z9l b),(Z9p b),aa,aa,aa,aa,aa,aa,aa,aa,aa,aa,aa,aa,aa,aa,aa,aa,aa,aa,aa,aa,aa,aa,aa,aa,aa,vB true],(Z9r b)⟩
abbrev Z9u:TV:=.one (dI 0)
abbrev Z9v:TV:=.one (dS [])
abbrev Z9w:TV:=.one (dU ([]:List UInt8))
abbrev Z9x:AV:=vB (decide ((rdI b 0)>1099511627776))
abbrev Z9y:St:=⟨[slV tb nb kU8 b,aa,vI 0,dv (Yn []),dv (.slice none 0 0),vI 12,pv 0 0,(Z9k b),(Z9l b),(Z9p b),aa,aa,aa,aa,aa,aa,aa,aa,aa,aa,aa,aa,aa,aa,aa,aa,aa,aa,aa,aa,aa,aa,aa,aa,aa,(Z9x b)],(Z9r b)⟩
abbrev Z9z:St:=⟨[slV tb nb kU8 b,aa,(Z9k b),(Z9l b),(Z9p b),vI 0,pv 0 0,(Z9k b),(Z9l b),(Z9p b),aa,aa,aa,aa,aa,aa,aa,aa,aa,aa,aa,aa,aa,aa,aa,aa,aa,aa,aa,aa,aa,aa,aa,aa,aa,(Z9x b)],(Z9r b)⟩
end
theorem X3j (tb:Bool) (nb:Bool) (b:List UInt8) (hb:b.length≤100000000):Holds Tryz.prog 50 ⟨[slV tb nb kU8 b],[],.tup [.one (dI (unH ((b.length:Nat):Int) b)),.one (dS (unD ((b.length:Nat):Int) b)),.one (dU (unS ((b.length:Nat):Int) b)),.one (dI (unE ((b.length:Nat):Int) b))],[]⟩:=by
 refine Holds.of Tryz.func50 rfl (N:=39) Tryz.ntmps50 rfl fun w0 B0 S0 U0=>?_
 show T _ (Y2 39 0 w0 S0 U0 B0) ⟨[slV tb nb kU8 b],[]⟩ _ _
 have hu:=Xgs ((b.length:Nat):Int) b
 have hu1:=hu.1
 have hu2:=hu.2.1
 have hu3:=hu.2.2.1
 have hu4:=hu.2.2.2.1
 have hu5:=hu.2.2.2.2
 simp only [uR2,uR3,uE2,uD,uS] at hu2 hu3 hu4 hu5
 refine sR [] (sR [hR 1 rfl rfl (rCa (Xe0 tb nb b (by omega)) Tryz.func104 [0] [(.tmp 10,slV tb nb kU8 b)] 0 1)] ?_)
 refine sD [[],[0],[],[],[3],[0,1,2,3,4],[0,1,2,3,4,5],[],[],[8],[0,1,2,3,4,5,7,8,9],[0,1,2,3,4,5,7,8,9,10],[0,1,2,3,4,5,6,7,8,9,10,11],[0,1,2,3,4,5,6,7,8,9,10,11,12]] [hR 1 rfl rfl (rCa (rd_Int b 0 (by omega)) Tryz.func105 [0] [(.tmp 12,pv 0 0)] 1 1),hR 5 rfl rfl (rCa (X1l (rdR b 0 8 0) (rdE b 0 8 0) ((b.length:Nat):Int) (by omega)) Tryz.func106 [0,1] [(.tmp 14,pv 0 0),(.tmp 16,vI ((b.length:Nat):Int))] 1 2),hR 6 rfl rfl (Fj () (rdY (rdR b 0 8 0) (rdE b 0 8 0) ((b.length:Nat):Int)) (ys:=(.own 1 kU8.sz 0 (Z9j b).length)) (rhs:=[(1,.live (Xc 5 kU8 (Z9j b)))]) Tryz.underlying25 Tryz.underlying5 Tryz.underlying60 (V0 1 5 kU8 (rdY (rdR b 0 8 0) (rdE b 0 8 0) ((b.length:Nat):Int))) (X2 rfl) trivial),hR 10 rfl rfl (rCa (X1l (U4 (rdR b 0 8 0) (rdE b 0 8 0) ((b.length:Nat):Int)) (Va (rdR b 0 8 0) (rdE b 0 8 0) ((b.length:Nat):Int)) ((b.length:Nat):Int) (by omega)) Tryz.func106 [0,2] [(.tmp 19,pv 0 0),(.tmp 21,vI ((b.length:Nat):Int))] 1 2)] ?_
 refine T.seq (sR [hR 1 rfl rfl (rCa (Xhc (U4 (U4 (rdR b 0 8 0) (rdE b 0 8 0) ((b.length:Nat):Int)) (Va (rdR b 0 8 0) (rdE b 0 8 0) ((b.length:Nat):Int)) ((b.length:Nat):Int)) (Va (U4 (rdR b 0 8 0) (rdE b 0 8 0) ((b.length:Nat):Int)) (Va (rdR b 0 8 0) (rdE b 0 8 0) ((b.length:Nat):Int)) ((b.length:Nat):Int)) (by omega)) Tryz.func107 [0] [(.tmp 23,pv 0 0)] 1 1)] ?_)
 by_cases hq1:(rdX (U4 (U4 (rdR b 0 8 0) (rdE b 0 8 0) ((b.length:Nat):Int)) (Va (rdR b 0 8 0) (rdE b 0 8 0) ((b.length:Nat):Int)) ((b.length:Nat):Int)) (Va (U4 (rdR b 0 8 0) (rdE b 0 8 0) ((b.length:Nat):Int)) (Va (rdR b 0 8 0) (rdE b 0 8 0) ((b.length:Nat):Int)) ((b.length:Nat):Int)))≠0
 ·have hno:¬okU ((b.length:Nat):Int) b:=fun h9=>hq1 h9.1
  refine sR [hR 1 rfl rfl (rCa (X94 (U4 (U4 (rdR b 0 8 0) (rdE b 0 8 0) ((b.length:Nat):Int)) (Va (rdR b 0 8 0) (rdE b 0 8 0) ((b.length:Nat):Int)) ((b.length:Nat):Int)) (rdX (U4 (U4 (rdR b 0 8 0) (rdE b 0 8 0) ((b.length:Nat):Int)) (Va (rdR b 0 8 0) (rdE b 0 8 0) ((b.length:Nat):Int)) ((b.length:Nat):Int)) (Va (U4 (rdR b 0 8 0) (rdE b 0 8 0) ((b.length:Nat):Int)) (Va (rdR b 0 8 0) (rdE b 0 8 0) ((b.length:Nat):Int)) ((b.length:Nat):Int))) ) Tryz.func108 [0] [(.tmp 25,pv 0 0)] 1 1),hN 4 false (dT hq1),hN 5 false (dT hq1),hP 6 (dT hq1),hN0 8,hN0 9,hP1 10] (cT (b:=true) rfl (sR [] (T.ret (rT ?_))))
  refine eN (Z9s tb nb b) ?_
  refine Xa (s':=(Z9t tb nb b)) (fun _ _ hG=>W1 (s:=(Z9s tb nb b)) p4i ⟨.inl rfl,(kk2 trivial)⟩ hG) ?_
  exact eX [.t 2 (Z9u),.t 3 (Z9v),.t 4 (Z9w),.t 5 (.one (dI 12))] ⟨⟨rfl,by kernel_rfl⟩,⟨⟨rfl,by kernel_rfl⟩,⟨⟨rfl,by kernel_rfl⟩,⟨⟨rfl,by kernel_rfl⟩,trivial⟩⟩⟩⟩ [] (cg4 (fun (q1:Int) (q2:List UInt8) (q3:List UInt8) (q4:Int)=>(.tup [.one (dI q1),.one (dS q2),.one (dU q3),.one (dI q4)]:AV)) p1b p1b p1b p1b) trivial
 by_cases hq2:(rdI b 0)<0
 ·have hno:¬okU ((b.length:Nat):Int) b:=(fun h9=>by have h8:=h9.2.1;omega)
  refine sR [hR 1 rfl rfl (rCa (X94 (U4 (U4 (rdR b 0 8 0) (rdE b 0 8 0) ((b.length:Nat):Int)) (Va (rdR b 0 8 0) (rdE b 0 8 0) ((b.length:Nat):Int)) ((b.length:Nat):Int)) (rdX (U4 (U4 (rdR b 0 8 0) (rdE b 0 8 0) ((b.length:Nat):Int)) (Va (rdR b 0 8 0) (rdE b 0 8 0) ((b.length:Nat):Int)) ((b.length:Nat):Int)) (Va (U4 (rdR b 0 8 0) (rdE b 0 8 0) ((b.length:Nat):Int)) (Va (rdR b 0 8 0) (rdE b 0 8 0) ((b.length:Nat):Int)) ((b.length:Nat):Int))) ) Tryz.func108 [0] [(.tmp 25,pv 0 0)] 1 1),hY 4 (dF hq1),hY 5 (dF hq1),hP 6 (dF hq1),hN 8 false (dT hq2),hN 9 false (dT hq2),hP 10 (dT hq2)] (cT (b:=true) rfl (sR [] (T.ret (rT ?_))))
  refine eN (Z9s tb nb b) ?_
  refine Xa (s':=(Z9t tb nb b)) (fun _ _ hG=>W1 (s:=(Z9s tb nb b)) p4i ⟨.inl rfl,(kk2 trivial)⟩ hG) ?_
  exact eX [.t 2 (Z9u),.t 3 (Z9v),.t 4 (Z9w),.t 5 (.one (dI 12))] ⟨⟨rfl,by kernel_rfl⟩,⟨⟨rfl,by kernel_rfl⟩,⟨⟨rfl,by kernel_rfl⟩,⟨⟨rfl,by kernel_rfl⟩,trivial⟩⟩⟩⟩ [] (cg4 (fun (q1:Int) (q2:List UInt8) (q3:List UInt8) (q4:Int)=>(.tup [.one (dI q1),.one (dS q2),.one (dU q3),.one (dI q4)]:AV)) p1b p1b p1b p1b) trivial
 refine sR [hR 1 rfl rfl (rCa (X94 (U4 (U4 (rdR b 0 8 0) (rdE b 0 8 0) ((b.length:Nat):Int)) (Va (rdR b 0 8 0) (rdE b 0 8 0) ((b.length:Nat):Int)) ((b.length:Nat):Int)) (rdX (U4 (U4 (rdR b 0 8 0) (rdE b 0 8 0) ((b.length:Nat):Int)) (Va (rdR b 0 8 0) (rdE b 0 8 0) ((b.length:Nat):Int)) ((b.length:Nat):Int)) (Va (U4 (rdR b 0 8 0) (rdE b 0 8 0) ((b.length:Nat):Int)) (Va (rdR b 0 8 0) (rdE b 0 8 0) ((b.length:Nat):Int)) ((b.length:Nat):Int))) ) Tryz.func108 [0] [(.tmp 25,pv 0 0)] 1 1),hY 4 (dF hq1),hY 5 (dF hq1),hP 6 (dF hq1),hY 8 (dF hq2),hY 9 (dF hq2),hP 10 (dF hq2)] ?_
 by_cases hq3:(rdI b 0)>1099511627776
 ·have hno:¬okU ((b.length:Nat):Int) b:=(fun h9=>by have h8:=h9.2.2;omega)
  refine cT (dT hq3) (sR [] (T.ret (rT ?_)))
  refine eN (Z9y tb nb b) ?_
  refine Xa (s':=⟨[slV tb nb kU8 b,aa,vI 0,dv (Yn []),slV false false kU8 ([]:List UInt8),vI 12,pv 0 0,(Z9k b),(Z9l b),(Z9p b),aa,aa,aa,aa,aa,aa,aa,aa,aa,aa,aa,aa,aa,aa,aa,aa,aa,aa,aa,aa,aa,aa,aa,aa,aa,(Z9x b)],(Z9r b)⟩) (fun _ _ hG=>W1 (s:=(Z9y tb nb b)) p4i ⟨.inl rfl,(kk2 trivial)⟩ hG) ?_
  exact eX [.t 2 (Z9u),.t 3 (Z9v),.t 4 (Z9w),.t 5 (.one (dI 12))] ⟨⟨rfl,by kernel_rfl⟩,⟨⟨rfl,by kernel_rfl⟩,⟨⟨rfl,by kernel_rfl⟩,⟨⟨rfl,by kernel_rfl⟩,trivial⟩⟩⟩⟩ [] (cg4 (fun (q1:Int) (q2:List UInt8) (q3:List UInt8) (q4:Int)=>(.tup [.one (dI q1),.one (dS q2),.one (dU q3),.one (dI q4)]:AV)) p1b p1b p1b p1b) trivial
 have hok:okU ((b.length:Nat):Int) b:=⟨Classical.not_not.1 ‹_›,by omega,by omega⟩
 refine cF (dF hq3) (T.skip (nT (sR [] (T.ret ?_))))
 refine eN (Z9z tb nb b) ?_
 refine Xa (s':=⟨[slV tb nb kU8 b,aa,(Z9k b),(Z9l b),slV false false kU8 (Z9o b),vI 0,pv 0 0,(Z9k b),(Z9l b),slV false false kU8 (Z9o b),aa,aa,aa,aa,aa,aa,aa,aa,aa,aa,aa,aa,aa,aa,aa,aa,aa,aa,aa,aa,aa,aa,aa,aa,aa,(Z9x b)],[(Z9q b),.live (Xc 5 kU8 (Z9j b)),.dead]⟩) (fun _ _ hG=>Gs.freeze (s:=(Z9z tb nb b)) 2 (el:=W5 kU8 (rdY (U4 (rdR b 0 8 0) (rdE b 0 8 0) ((b.length:Nat):Int)) (Va (rdR b 0 8 0) (rdE b 0 8 0) ((b.length:Nat):Int)) ((b.length:Nat):Int))) (sz:=kU8.sz) (n:=(rdY (U4 (rdR b 0 8 0) (rdE b 0 8 0) ((b.length:Nat):Int)) (Va (rdR b 0 8 0) (rdE b 0 8 0) ((b.length:Nat):Int)) ((b.length:Nat):Int)).length) rfl (kk4 ⟨(.inr pZ0),(kk4 ⟨(.inr pZ0),(kk2 p2r)⟩)⟩) ⟨pZ7,⟨pZ7,⟨(.inl ⟨rfl,rfl⟩),trivial⟩⟩⟩ hG) ?_
 exact eX [.t 2 (.one (dI (rdI b 0))),.t 3 (.one (dS (Z9j b))),.t 4 (.one (dU (Z9o b))),.t 5 (Z9u)] ⟨⟨rfl,by kernel_rfl⟩,⟨⟨rfl,by kernel_rfl⟩,⟨⟨rfl,by kernel_rfl⟩,⟨⟨rfl,by kernel_rfl⟩,trivial⟩⟩⟩⟩ [] (cg4 (fun (q1:Int) (q2:List UInt8) (q3:List UInt8) (q4:Int)=>(.tup [.one (dI q1),.one (dS q2),.one (dU q3),.one (dI q4)]:AV)) p3f p3f p3f p3f) trivial
section
variable (b:List UInt8)
abbrev Za0:=(rdY (b.drop (rfA b 0 0 8 0)) (rdE (b.drop 0) 0 8 0) 1099511627776)
abbrev Za1:HS:=.live (Xc 5 kU8 (Za0 b))
abbrev Za2:=(Ht b (rfA b 0 0 8 0) (rdE (b.drop 0) 0 8 0) 1099511627776)
abbrev Za3:=(Va (b.drop (rfA b 0 0 8 0)) (rdE (b.drop 0) 0 8 0) 1099511627776)
abbrev Za4:List AV:=[slV false false kU8 b,aa,vI 0,dv (Yn []),dv (.slice none 0 0),vI 0,pv 0 0,vI (rdI (b.drop 0) 0),dv (Yn (Za0 b)),Xx 2 kU8 0 (rdY (b.drop (Za2 b)) (Za3 b) 1099511627776).length]
abbrev Za5:SV:=dI ((Ht b (Za2 b) (Za3 b) 1099511627776:Nat):Int)
abbrev Za6:List HS:=[.live (.box 156 [dU b,(Za5 b),dI (Va (b.drop (Za2 b)) (Za3 b) 1099511627776)]),(Za1 b),.live (Xc 5 kU8 (rdY (b.drop (Za2 b)) (Za3 b) 1099511627776))]
abbrev Za7:AV:=vI (rdI b 0)
abbrev Za8:AV:=dv (Yn (uD 1099511627776 b))
abbrev Za9:AV:=Xx 2 kU8 0 (uS 1099511627776 b).length
abbrev Zaa:List AV:=[slV false false kU8 b,aa,vI 0,dv (Yn []),dv (.slice none 0 0),vI 0,pv 0 0,(Za7 b),(Za8 b),(Za9 b)]
abbrev Zab:List HS:=[.live (.box 156 [dU b,(Za5 b),dI (uE3 1099511627776 b)]),(Za1 b),.live (Xc 5 kU8 (uS 1099511627776 b))]
abbrev Zac:HS:=.live (.box 156 [dU b,(Za5 b),dI (rdX (b.drop (Ht b (Za2 b) (Za3 b) 1099511627776)) (uE3 1099511627776 b))])
abbrev Zad:List HS:=[(Zac b),(Za1 b),.live (Xc 5 kU8 (uS 1099511627776 b))]
abbrev Zae:St:=⟨[slV false false kU8 b,aa,vI 0,dv (Yn []),dv (.slice none 0 0),vI 12,pv 0 0,(Za7 b),(Za8 b),(Za9 b),aa,aa,aa,aa,aa,aa,aa,aa,aa,aa,aa,aa,aa,aa,aa,aa,aa,aa,aa,aa,aa,aa,aa,aa,vB true],(Zad b)⟩
abbrev Zaf:St:=⟨[slV false false kU8 b,aa,vI 0,dv (Yn []),slV false false kU8 ([]:List UInt8),vI 12,pv 0 0,(Za7 b),(Za8 b),(Za9 b),aa,aa,aa,aa,aa,aa,aa,aa,aa,aa,aa,aa,aa,aa,aa,aa,aa,aa,aa,aa,aa,aa,aa,aa,vB true],(Zad b)⟩
abbrev Zag:TV:=.one (dI 0)
abbrev Zah:TV:=.one (dS [])
abbrev Zai:TV:=.one (dU ([]:List UInt8))
abbrev Zaj:AV:=vB (decide ((rdI b 0)>1099511627776))
abbrev Zak:St:=⟨[slV false false kU8 b,aa,vI 0,dv (Yn []),dv (.slice none 0 0),vI 12,pv 0 0,(Za7 b),(Za8 b),(Za9 b),aa,aa,aa,aa,aa,aa,aa,aa,aa,aa,aa,aa,aa,aa,aa,aa,aa,aa,aa,aa,aa,aa,aa,aa,(Zaj b)],(Zad b)⟩
abbrev Zal:St:=⟨[slV false false kU8 b,aa,(Za7 b),(Za8 b),(Za9 b),vI 0,pv 0 0,(Za7 b),(Za8 b),(Za9 b),aa,aa,aa,aa,aa,aa,aa,aa,aa,aa,aa,aa,aa,aa,aa,aa,aa,aa,aa,aa,aa,aa,aa,aa,(Zaj b)],(Zad b)⟩
end
theorem Xcj (b:List UInt8) (hb:b.length≤100000000):Holds Tryz.prog 43 ⟨[slV false false kU8 b],[],.tup [.one (dI (unH 1099511627776 b)),.one (dS (unD 1099511627776 b)),.one (dU (unS 1099511627776 b)),.one (dI (unE 1099511627776 b))],[]⟩:=by
 refine Holds.of Tryz.func43 rfl (N:=38) Tryz.ntmps43 rfl fun w0 B0 S0 U0=>?_
 show T _ (Y2 38 0 w0 S0 U0 B0) ⟨[slV false false kU8 b],[]⟩ _ _
 have hu:=Xgs 1099511627776 b
 have hu1:=hu.1
 have hu2:=hu.2.1
 have hu3:=hu.2.2.1
 have hu4:=hu.2.2.2.1
 have hu5:=hu.2.2.2.2
 simp only [uR2,uR3,uE2,uD,uS] at hu2 hu3 hu4 hu5
 have hd1:b.drop (rfA b 0 0 8 0)=rdR b 0 8 0:=rfA_drop b 0 0 8 0
 have hd2:b.drop (Ht b (rfA b 0 0 8 0) (rdE (b.drop 0) 0 8 0) 1099511627776)=uR2 1099511627776 b:=by rw [Xbg,hd1];rfl
 have he2:(Va (b.drop (rfA b 0 0 8 0)) (rdE (b.drop 0) 0 8 0) 1099511627776)=uE2 1099511627776 b:=by rw [hd1];rfl
 have hd3:b.drop (Ht b (Ht b (rfA b 0 0 8 0) (rdE (b.drop 0) 0 8 0) 1099511627776) (Va (b.drop (rfA b 0 0 8 0)) (rdE (b.drop 0) 0 8 0) 1099511627776) 1099511627776)=uR3 1099511627776 b:=by rw [Xbg,hd2,he2];rfl
 have he3:(Va (b.drop (Ht b (rfA b 0 0 8 0) (rdE (b.drop 0) 0 8 0) 1099511627776)) (Va (b.drop (rfA b 0 0 8 0)) (rdE (b.drop 0) 0 8 0) 1099511627776) 1099511627776)=uE3 1099511627776 b:=by rw [hd2,he2];rfl
 have hv1:rdY (b.drop (rfA b 0 0 8 0)) (rdE (b.drop 0) 0 8 0) 1099511627776=uD 1099511627776 b:=by rw [hd1];rfl
 have hv2:rdY (b.drop (Ht b (rfA b 0 0 8 0) (rdE (b.drop 0) 0 8 0) 1099511627776)) (Va (b.drop (rfA b 0 0 8 0)) (rdE (b.drop 0) 0 8 0) 1099511627776) 1099511627776=uS 1099511627776 b:=by rw [hd2,he2];rfl
 have hA1:(rfA b 0 0 8 0)≤b.length:=rfA_le (Nat.zero_le _)
 have hA2:(Ht b (rfA b 0 0 8 0) (rdE (b.drop 0) 0 8 0) 1099511627776)≤b.length:=Xit hA1
 have hA3:(Ht b (Ht b (rfA b 0 0 8 0) (rdE (b.drop 0) 0 8 0) 1099511627776) (Va (b.drop (rfA b 0 0 8 0)) (rdE (b.drop 0) 0 8 0) 1099511627776) 1099511627776)≤b.length:=Xit hA2
 refine sR [] (sR [] (sR [hR 1 rfl rfl (rCa (Xha b 0 0 (by omega) (by omega)) Tryz.func94 [0] [(.tmp 13,pv 0 0)] 1 1)] (sR [hR 1 rfl rfl (rCa (X4p b (rfA b 0 0 8 0) (rdE (b.drop 0) 0 8 0) 1099511627776 ‹_› (by omega)) Tryz.func95 [0,1] [(.tmp 15,pv 0 0),(.const (.int .i64 1099511627776),vI 1099511627776)] 1 2),hR 2 rfl rfl (Fj () (rdY (b.drop (rfA b 0 0 8 0)) (rdE (b.drop 0) 0 8 0) 1099511627776) (ys:=(.own 1 kU8.sz 0 (Za0 b).length)) (rhs:=[(1,(Za1 b))]) Tryz.underlying25 Tryz.underlying5 Tryz.underlying60 (V0 1 5 kU8 (rdY (b.drop (rfA b 0 0 8 0)) (rdE (b.drop 0) 0 8 0) 1099511627776)) (X2 rfl) trivial)] ?_)))
 refine sR [hR 1 rfl rfl (rCa (X4p b (Ht b (rfA b 0 0 8 0) (rdE (b.drop 0) 0 8 0) 1099511627776) (Va (b.drop (rfA b 0 0 8 0)) (rdE (b.drop 0) 0 8 0) 1099511627776) 1099511627776 ‹_› (by omega)) Tryz.func95 [0,2] [(.tmp 18,pv 0 0),(.const (.int .i64 1099511627776),vI 1099511627776)] 1 2)] ?_
 refine tN ⟨(Za4 b),(Za6 b)⟩ ?_
 refine Wy (s':=⟨(Zaa b),(Zab b)⟩) (fun _ _ hG=>Yu [0,1,2] (bm 10 1021) (t2:=(Za4 b)) (h2:=(Za6 b)) (by have e1:(rdI b 0:Int)=rdI (b.drop 0) 0:=(by rfl);have e2:((uD 1099511627776 b):List UInt8)=(rdY (b.drop (rfA b 0 0 8 0)) (rdE (b.drop 0) 0 8 0) 1099511627776):=(by exact hv1.symm);have e3:((uS 1099511627776 b).length:Nat)=(rdY (b.drop (Ht b (rfA b 0 0 8 0) (rdE (b.drop 0) 0 8 0) 1099511627776)) (Va (b.drop (rfA b 0 0 8 0)) (rdE (b.drop 0) 0 8 0) 1099511627776) 1099511627776).length:=(by (rw [hv2]));have hE:=congr (congr (congrArg (fun (q1:Int) (q2:List UInt8) (q3:Nat)=>([slV false false kU8 b,aa,vI 0,dv (Yn []),dv (.slice none 0 0),vI 0,pv 0 0,vI q1,dv (Yn q2),Xx 2 kU8 0 q3]:List AV)) e1) e2) e3;exact hE) (cg2 (fun (q1:Int) (q2:List UInt8)=>([.live (.box 156 [dU b,(Za5 b),dI q1]),(Za1 b),.live (Xc 5 kU8 q2)]:List HS)) (by exact he3.symm) (by exact hv2.symm)) hG) ?_
 refine sR [hR 1 rfl rfl (rCa (Xhb b (Ht b (Ht b (rfA b 0 0 8 0) (rdE (b.drop 0) 0 8 0) 1099511627776) (Va (b.drop (rfA b 0 0 8 0)) (rdE (b.drop 0) 0 8 0) 1099511627776) 1099511627776) (uE3 1099511627776 b) ‹_› (by omega)) Tryz.func96 [0] [(.tmp 20,pv 0 0)] 1 1)] (T.seq ?_)
 by_cases hq1:(rdX (b.drop (Ht b (Ht b (rfA b 0 0 8 0) (rdE (b.drop 0) 0 8 0) 1099511627776) (Va (b.drop (rfA b 0 0 8 0)) (rdE (b.drop 0) 0 8 0) 1099511627776) 1099511627776)) (uE3 1099511627776 b))≠0
 ·have hno:¬okU 1099511627776 b:=fun h9=>hq1 (by rw [hd3];exact h9.1)
  refine sR [hN 6 false (dT hq1),hN 7 false (dT hq1),hP 8 (dT hq1),hN0 10,hN0 11,hP1 12] (cT (b:=true) rfl (sR [] (T.ret (rT ?_))))
  refine eN (Zae b) ?_
  refine Xa (s':=(Zaf b)) (fun _ _ hG=>W1 (s:=(Zae b)) (kk4 ⟨pZ8,(kk2 (kk4 p2r))⟩) ⟨.inl rfl,(kk2 trivial)⟩ hG) ?_
  exact eX [.t 2 (Zag),.t 3 (Zah),.t 4 (Zai),.t 5 (.one (dI 12))] ⟨⟨rfl,by kernel_rfl⟩,⟨⟨rfl,by kernel_rfl⟩,⟨⟨rfl,by kernel_rfl⟩,⟨⟨rfl,by kernel_rfl⟩,trivial⟩⟩⟩⟩ [] (cg4 (fun (q1:Int) (q2:List UInt8) (q3:List UInt8) (q4:Int)=>(.tup [.one (dI q1),.one (dS q2),.one (dU q3),.one (dI q4)]:AV)) p1b p1b p1b p1b) trivial
 by_cases hq2:(rdI b 0)<0
 ·have hno:¬okU 1099511627776 b:=(fun h9=>by have h8:=h9.2.1;omega)
  refine sR [hY 6 (dF hq1),hY 7 (dF hq1),hP 8 (dF hq1),hN 10 false (dT hq2),hN 11 false (dT hq2),hP 12 (dT hq2)] (cT (b:=true) rfl (sR [] (T.ret (rT ?_))))
  refine eN (Zae b) ?_
  refine Xa (s':=(Zaf b)) (fun _ _ hG=>W1 (s:=(Zae b)) (kk4 ⟨pZ8,(kk2 (kk4 p2r))⟩) ⟨.inl rfl,(kk2 trivial)⟩ hG) ?_
  exact eX [.t 2 (Zag),.t 3 (Zah),.t 4 (Zai),.t 5 (.one (dI 12))] ⟨⟨rfl,by kernel_rfl⟩,⟨⟨rfl,by kernel_rfl⟩,⟨⟨rfl,by kernel_rfl⟩,⟨⟨rfl,by kernel_rfl⟩,trivial⟩⟩⟩⟩ [] (cg4 (fun (q1:Int) (q2:List UInt8) (q3:List UInt8) (q4:Int)=>(.tup [.one (dI q1),.one (dS q2),.one (dU q3),.one (dI q4)]:AV)) p1b p1b p1b p1b) trivial
 refine sR [hY 6 (dF hq1),hY 7 (dF hq1),hP 8 (dF hq1),hY 10 (dF hq2),hY 11 (dF hq2),hP 12 (dF hq2)] ?_
 by_cases hq3:(rdI b 0)>1099511627776
 ·have hno:¬okU 1099511627776 b:=(fun h9=>by have h8:=h9.2.2;omega)
  refine cT (dT hq3) (sR [] (T.ret (rT ?_)))
  refine eN (Zak b) ?_
  refine Xa (s':=⟨[slV false false kU8 b,aa,vI 0,dv (Yn []),slV false false kU8 ([]:List UInt8),vI 12,pv 0 0,(Za7 b),(Za8 b),(Za9 b),aa,aa,aa,aa,aa,aa,aa,aa,aa,aa,aa,aa,aa,aa,aa,aa,aa,aa,aa,aa,aa,aa,aa,aa,(Zaj b)],(Zad b)⟩) (fun _ _ hG=>W1 (s:=(Zak b)) (kk4 ⟨pZ8,(kk2 (kk4 p2r))⟩) ⟨.inl rfl,(kk2 trivial)⟩ hG) ?_
  exact eX [.t 2 (Zag),.t 3 (Zah),.t 4 (Zai),.t 5 (.one (dI 12))] ⟨⟨rfl,by kernel_rfl⟩,⟨⟨rfl,by kernel_rfl⟩,⟨⟨rfl,by kernel_rfl⟩,⟨⟨rfl,by kernel_rfl⟩,trivial⟩⟩⟩⟩ [] (cg4 (fun (q1:Int) (q2:List UInt8) (q3:List UInt8) (q4:Int)=>(.tup [.one (dI q1),.one (dS q2),.one (dU q3),.one (dI q4)]:AV)) p1b p1b p1b p1b) trivial
 have hok:okU 1099511627776 b:=⟨by rw [← hd3];exact Classical.not_not.1 ‹_›,by omega,by omega⟩
 refine cF (dF hq3) (T.skip (nT (sR [] (T.ret ?_))))
 refine eN (Zal b) ?_
 refine Xa (s':=⟨[slV false false kU8 b,aa,(Za7 b),(Za8 b),slV false false kU8 (uS 1099511627776 b),vI 0,pv 0 0,(Za7 b),(Za8 b),slV false false kU8 (uS 1099511627776 b),aa,aa,aa,aa,aa,aa,aa,aa,aa,aa,aa,aa,aa,aa,aa,aa,aa,aa,aa,aa,aa,aa,aa,aa,(Zaj b)],[(Zac b),(Za1 b),.dead]⟩) (fun _ _ hG=>Gs.freeze (s:=(Zal b)) 2 (el:=W5 kU8 (uS 1099511627776 b)) (sz:=kU8.sz) (n:=(uS 1099511627776 b).length) rfl (kk4 ⟨(.inr pZ0),(kk4 ⟨(.inr pZ0),⟨.inl rfl,p2r⟩⟩)⟩) ⟨pZ7,⟨pZ7,⟨(.inl ⟨rfl,rfl⟩),trivial⟩⟩⟩ hG) ?_
 exact eX [.t 2 (.one (dI (rdI b 0))),.t 3 (.one (dS (uD 1099511627776 b))),.t 4 (.one (dU (uS 1099511627776 b))),.t 5 (Zag)] ⟨⟨rfl,by kernel_rfl⟩,⟨⟨rfl,by kernel_rfl⟩,⟨⟨rfl,by kernel_rfl⟩,⟨⟨rfl,by kernel_rfl⟩,trivial⟩⟩⟩⟩ [] (cg4 (fun (q1:Int) (q2:List UInt8) (q3:List UInt8) (q4:Int)=>(.tup [.one (dI q1),.one (dS q2),.one (dU q3),.one (dI q4)]:AV)) p3f p3f p3f p3f) trivial
end Go.Proofs.YtnaopgohccacmaaGreat.Q
namespace Go.Proofs.YtnaopgohccacmaaGreat.Q
set_option linter.unusedVariables false
set_option linter.unusedSimpArgs false
set_option maxRecDepth 100000
structure RdL where
  rest:List UInt8
  e:Int
  l:List aE
structure RdC where
  rest:List UInt8
  e:Int
  l:List aC
structure RdM where
  rest:List UInt8
  e:Int
  m:aM
section
variable (M N:Int) (r:List UInt8) (e:Int)
def evR:List UInt8:=U4 (rdR r e 8 0) (rdE r e 8 0) M
def evE:Int:=Va (rdR r e 8 0) (rdE r e 8 0) M
def evV:aE:=⟨rdI r e,rdY (rdR r e 8 0) (rdE r e 8 0) M⟩
def stepL (s:RdL):RdL:=⟨evR M s.rest s.e,evE M s.rest s.e,s.l++[evV M s.rest s.e]⟩
def Id:Nat→RdL
  | 0=>⟨rdR r e 4 (Yq 15 (r.take 4)),rdE r e 4 (Yq 15 (r.take 4)),[]⟩
  | k+1=>stepL M (Id k)
def Hu:RdL:=Id M r e (rdC r e 15)
def stepC (s:RdC):RdC:=⟨(Hu M (evR M s.rest s.e) (evE M s.rest s.e)).rest,(Hu M (evR M s.rest s.e) (evE M s.rest s.e)).e,s.l++[⟨evV M s.rest s.e,(Hu M (evR M s.rest s.e) (evE M s.rest s.e)).l⟩]⟩
def U3:Nat→RdC
  | 0=>⟨rdR r e 4 (Yq 8 (r.take 4)),rdE r e 4 (Yq 8 (r.take 4)),[]⟩
  | k+1=>stepC M (U3 k)
def X36:RdC:=U3 M r e (rdC r e 8)
def mk0 (k:Int):aM:=⟨k,0,0,0,0,[],[],⟨0,0⟩,[],[],[]⟩
def Ud (s:RdM):Nat→RdM
  | 0=>⟨rdR s.rest s.e 8 0,rdE s.rest s.e 8 0,⟨s.m.X0,rdI s.rest s.e,s.m.Xu,s.m.Xr,s.m.W0,s.m.Xe,s.m.Xd,s.m.X3,s.m.Xt,s.m.Y8,s.m.X5⟩⟩
  | 1=>⟨rdR s.rest s.e 8 0,rdE s.rest s.e 8 0,⟨s.m.X0,s.m.Y9,rdI s.rest s.e,s.m.Xr,s.m.W0,s.m.Xe,s.m.Xd,s.m.X3,s.m.Xt,s.m.Y8,s.m.X5⟩⟩
  | 2=>⟨rdR (rdR s.rest s.e 8 0) (rdE s.rest s.e 8 0) 8 0,rdE (rdR s.rest s.e 8 0) (rdE s.rest s.e 8 0) 8 0,⟨s.m.X0,s.m.Y9,s.m.Xu,rdI s.rest s.e,rdI (rdR s.rest s.e 8 0) (rdE s.rest s.e 8 0),s.m.Xe,s.m.Xd,s.m.X3,s.m.Xt,s.m.Y8,s.m.X5⟩⟩
  | 3=>⟨U4 s.rest s.e M,Va s.rest s.e M,⟨s.m.X0,s.m.Y9,s.m.Xu,s.m.Xr,s.m.W0,rdY s.rest s.e M,s.m.Xd,s.m.X3,s.m.Xt,s.m.Y8,s.m.X5⟩⟩
  | 4=>⟨U4 s.rest s.e M,Va s.rest s.e M,⟨s.m.X0,s.m.Y9,s.m.Xu,s.m.Xr,s.m.W0,s.m.Xe,rdY s.rest s.e M,s.m.X3,s.m.Xt,s.m.Y8,s.m.X5⟩⟩
  | 5=>⟨rdR (rdR s.rest s.e 8 0) (rdE s.rest s.e 8 0) 8 0,rdE (rdR s.rest s.e 8 0) (rdE s.rest s.e 8 0) 8 0,⟨s.m.X0,s.m.Y9,s.m.Xu,s.m.Xr,s.m.W0,s.m.Xe,s.m.Xd,⟨rdI s.rest s.e,rdI (rdR s.rest s.e 8 0) (rdE s.rest s.e 8 0)⟩,s.m.Xt,s.m.Y8,s.m.X5⟩⟩
  | 6=>⟨(Hu N s.rest s.e).rest,(Hu N s.rest s.e).e,⟨s.m.X0,s.m.Y9,s.m.Xu,s.m.Xr,s.m.W0,s.m.Xe,s.m.Xd,s.m.X3,(Hu N s.rest s.e).l,s.m.Y8,s.m.X5⟩⟩
  | 7=>⟨(Hu N s.rest s.e).rest,(Hu N s.rest s.e).e,⟨s.m.X0,s.m.Y9,s.m.Xu,s.m.Xr,s.m.W0,s.m.Xe,s.m.Xd,s.m.X3,s.m.Xt,(Hu N s.rest s.e).l,s.m.X5⟩⟩
  | 8=>⟨(X36 N s.rest s.e).rest,(X36 N s.rest s.e).e,⟨s.m.X0,s.m.Y9,s.m.Xu,s.m.Xr,s.m.W0,s.m.Xe,s.m.Xd,s.m.X3,s.m.Xt,s.m.Y8,(X36 N s.rest s.e).l⟩⟩
  | _=>s
def Wq (k:Int):Nat→RdM
  | 0=>⟨r,e,mk0 k⟩
  | j+1=>if Ix (Xk k) j=true then Ud M N (Wq k j) j else Wq k j
end
def finM (M N:Int) (b:List UInt8):RdM:=Wq M N (rdR b 0 8 0) (rdE b 0 8 0) (rdI b 0) 9
def okD (M N:Int) (b:List UInt8):Prop:=b.length≤16777216∧okK (rdI b 0)∧rdX (finM M N b).rest (finM M N b).e=0∧Fg (finM M N b).m
instance (M N:Int) (b:List UInt8):Decidable (okD M N b):=by unfold okD;infer_instance
def decW (M N:Int) (b:List UInt8):aM:=if okD M N b then (finM M N b).m else zM
def decX (M N:Int) (b:List UInt8):Int:=if b.length>16777216 then 11 else if okD M N b then 0 else 12
def Vr (b:List UInt8):aM:=decW ((b.length:Nat):Int) 16777216 b
def X75 (b:List UInt8):Int:=decX ((b.length:Nat):Int) 16777216 b
section
variable {M N:Int} {r B:List UInt8} {e:Int}
theorem Xdj (M:Int) (r:List UInt8) (e:Int):(evR M r e).length≤r.length:=Nat.le_trans (X1m _ _ _) (Uh _ _ _ _)
theorem X1e (M:Int) (r:List UInt8) (e:Int):∀ k,(Id M r e k).rest.length≤r.length∧(Id M r e k).l.length=k
  | 0=>⟨Uh _ _ _ _,rfl⟩
  | k+1=>by
    obtain ⟨h1,h2⟩:=X1e M r e k
    refine ⟨Nat.le_trans (Xdj _ _ _) h1,?_⟩
    show ((Id M r e k).l++[_]).length=_
    rw [List.length_append,List.length_singleton,h2]
theorem X7s (r:List UInt8) (e:Int) (n:Nat):rdC r e ((n:Nat):Int)≤n:=by
  unfold rdC
  split
  · rename_i h
    have h3:=h.2.2
    unfold Yq at h3
    split at h3
    · cases h3
    · omega
  · exact Nat.zero_le _
theorem X09 (M:Int) (r:List UInt8) (e:Int):(Hu M r e).rest.length≤r.length∧(Hu M r e).l.length≤15:=⟨(X1e _ _ _ _).1,by rw [Hu,(X1e _ _ _ _).2];exact X7s r e 15⟩
theorem X4j (M:Int) (r:List UInt8) (e:Int):∀ k,(U3 M r e k).rest.length≤r.length∧(U3 M r e k).l.length=k
  | 0=>⟨Uh _ _ _ _,rfl⟩
  | k+1=>by
    obtain ⟨h1,h2⟩:=X4j M r e k
    refine ⟨Nat.le_trans (X09 _ _ _).1 (Nat.le_trans (Xdj _ _ _) h1),?_⟩
    show ((U3 M r e k).l++[_]).length=_
    rw [List.length_append,List.length_singleton,h2]
theorem Xft (M:Int) (r:List UInt8) (e:Int):(X36 M r e).rest.length≤r.length∧(X36 M r e).l.length≤8:=⟨(X4j _ _ _ _).1,by rw [X36,(X4j _ _ _ _).2];exact X7s r e 8⟩
theorem F9 {k:Int} {j i:Nat} (h:j=i) (hb:Ix (Xk k) j=true):Wq M N r e k (j+1)=Ud M N (Wq M N r e k j) i:=by subst h;rw [Wq,if_pos hb]
theorem run_no {k:Int} {j:Nat} (hb:¬Ix (Xk k) j=true):Wq M N r e k (j+1)=Wq M N r e k j:=by rw [Wq,if_neg hb]
theorem Xk6 (s:RdM) (j:Nat):(Ud M N s j).rest.length≤s.rest.length:=by
  rcases (by omega:j=0∨j=1∨j=2∨j=3∨j=4∨j=5∨j=6∨j=7∨j=8∨9≤j) with h|h|h|h|h|h|h|h|h|h
  · subst h;exact Uh _ _ _ _
  · subst h;exact Uh _ _ _ _
  · subst h;exact Nat.le_trans (Uh _ _ _ _) (Uh _ _ _ _)
  · subst h;exact X1m _ _ _
  · subst h;exact X1m _ _ _
  · subst h;exact Nat.le_trans (Uh _ _ _ _) (Uh _ _ _ _)
  · subst h;exact (X09 _ _ _).1
  · subst h;exact (X09 _ _ _).1
  · subst h;exact (Xft _ _ _).1
  · obtain ⟨i,rfl⟩:∃ i,j=i+9:=⟨j-9,by omega⟩
    exact Nat.le_refl _
theorem X1d (M N:Int) (r:List UInt8) (e k:Int):∀ j,(Wq M N r e k j).rest.length≤r.length
  | 0=>Nat.le_refl _
  | j+1=>by
    rw [Wq]
    split
    · exact Nat.le_trans (Xk6 _ _) (X1d M N r e k j)
    · exact X1d M N r e k j
def fitM (n:Nat) (m:aM):Prop:=m.Xt.length≤15∧m.Y8.length≤15∧m.X5.length≤8∧m.Xd.length≤n∧m.Xe.length≤n
theorem Xk7 {n:Nat} {s:RdM} (h:fitM n s.m) (hl:s.rest.length≤n) (j:Nat):fitM n (Ud M N s j).m:=by
  obtain ⟨h1,h2,h3,h4,h5⟩:=h
  rcases (by omega:j=0∨j=1∨j=2∨j=3∨j=4∨j=5∨j=6∨j=7∨j=8∨9≤j) with h|h|h|h|h|h|h|h|h|h
  · subst h;exact ⟨h1,h2,h3,h4,h5⟩
  · subst h;exact ⟨h1,h2,h3,h4,h5⟩
  · subst h;exact ⟨h1,h2,h3,h4,h5⟩
  · subst h;exact ⟨h1,h2,h3,h4,Nat.le_trans (X0i _ _ _) hl⟩
  · subst h;exact ⟨h1,h2,h3,Nat.le_trans (X0i _ _ _) hl,h5⟩
  · subst h;exact ⟨h1,h2,h3,h4,h5⟩
  · subst h;exact ⟨(X09 _ _ _).2,h2,h3,h4,h5⟩
  · subst h;exact ⟨h1,(X09 _ _ _).2,h3,h4,h5⟩
  · subst h;exact ⟨h1,h2,(Xft _ _ _).2,h4,h5⟩
  · obtain ⟨i,rfl⟩:∃ i,j=i+9:=⟨j-9,by omega⟩
    exact ⟨h1,h2,h3,h4,h5⟩
theorem X8p (M N:Int) (r:List UInt8) (e k:Int):∀ j,fitM r.length (Wq M N r e k j).m
  | 0=>⟨Nat.zero_le _,Nat.zero_le _,Nat.zero_le _,Nat.zero_le _,Nat.zero_le _⟩
  | j+1=>by
    rw [Wq]
    split
    · exact Xk7 (X8p M N r e k j) (X1d _ _ _ _ _ _) j
    · exact X8p M N r e k j
end
theorem Xa0 {M N:Int} {b:List UInt8} (h:¬okD M N b) (hl:¬b.length>16777216):decW M N b=zM∧decX M N b=12:=⟨if_neg h,by rw [decX,if_neg hl,if_neg h]⟩
theorem Xjp {M N:Int} {b:List UInt8} (h:okD M N b):decW M N b=(finM M N b).m∧decX M N b=0:=⟨if_pos h,by rw [decX,if_neg (by have:=h.1;omega),if_pos h]⟩
theorem dec_long {M N:Int} {b:List UInt8} (h:b.length>16777216):decW M N b=zM∧decX M N b=11:=⟨if_neg (fun q=>by have:=q.1;omega),if_pos h⟩
end Go.Proofs.YtnaopgohccacmaaGreat.Q
namespace Go.Proofs.YtnaopgohccacmaaGreat.Q
set_option linter.unusedVariables false
set_option linter.unusedSimpArgs false
set_option maxRecDepth 100000
section
variable {M M':Int} {r:List UInt8} {e:Int}
end
end Go.Proofs.YtnaopgohccacmaaGreat.Q
namespace Go.Proofs.YtnaopgohccacmaaGreat.Q
set_option linter.unusedVariables false
end Go.Proofs.YtnaopgohccacmaaGreat.Q
namespace Go.Proofs.YtnaopgohccacmaaGreat.Q
open Go Go.RowKit
set_option linter.unusedVariables false
set_option linter.unusedSimpArgs false
set_option maxRecDepth 100000
set_option maxHeartbeats 4000000
theorem Ic (rest:List UInt8) (e:Int) (hr:rest.length≤100000000):Holds Tryz.prog 194 ⟨[.tv (.agg [.ptr 0 0])],[.box 195 [dU rest,dI e]],vI (rdI rest e),[.live (.box 195 [dU (rdR rest e 8 0),dI (rdE rest e 8 0)])]⟩:=by
 refine Holds.of Tryz.func194 rfl (N:=6) Tryz.ntmps194 rfl fun w0 B0 S0 U0=>?_
 show T _ (Y2 6 1 w0 S0 U0 B0) ⟨[.tv (.agg [.ptr 0 0])],[.live (.box 195 [dU rest,dI e])]⟩ _ _
 refine sR [] (sR [hR 2 rfl rfl (rCa (rd_Int rest e (by omega)) Tryz.func105 [0] [(.tmp 4,pv 0 0)] 1 1)] (T.ret ?_))
 exact eRt 2 (.one (dI (rdI rest e))) [0] rfl (ix trivial)
section
variable (rest:List UInt8) (e:Int)
abbrev Zam:List AV:=[.tv (.agg [.ptr 0 0]),pv 1 0,pv 2 0,pv 3 0]
abbrev Zan:HS:=.live (.box 195 [dU (U4 (rdR rest e 8 0) (rdE rest e 8 0) 16777216),dI (Va (rdR rest e 8 0) (rdE rest e 8 0) 16777216)])
abbrev Zao:St:=⟨Zam,[(Zan rest e),.live (.box 240 [.ptr 0 0]),.live (.box 43 [dI 0,.d (.val (.slice none 0 0))]),.live (.box 43 [dI (rdI rest e),.own 4 kU8.sz 0 (rdY (rdR rest e 8 0) (rdE rest e 8 0) 16777216).length]),.live (Xc 5 kU8 (rdY (rdR rest e 8 0) (rdE rest e 8 0) 16777216))]⟩
abbrev Zap:SV:=dU (rdY (rdR rest e 8 0) (rdE rest e 8 0) 16777216)
end
theorem X4d (rest:List UInt8) (e:Int) (hr:rest.length≤100000000):Holds Tryz.prog 199 ⟨[.tv (.agg [.ptr 0 0])],[.box 195 [dU rest,dI e]],.tv (.agg [dI (evV 16777216 rest e).f_Signer,dU (evV 16777216 rest e).Xh]),[.live (.box 195 [dU (evR 16777216 rest e),dI (evE 16777216 rest e)])]⟩:=by
 refine Holds.of Tryz.func199 rfl (N:=12) Tryz.ntmps199 rfl fun w0 B0 S0 U0=>?_
 show T _ (Y2 12 1 w0 S0 U0 B0) ⟨[.tv (.agg [.ptr 0 0])],[.live (.box 195 [dU rest,dI e])]⟩ _ _
 have hr1:=Uh rest e 8 0
 have hr2:=X0i (rdR rest e 8 0) (rdE rest e 8 0) 16777216
 refine sR [] (sR [hR 1 rfl rfl (rCa (Ic rest e ‹_›) Tryz.func194 [0] [(.tmp 4,.tv (.agg [.ptr 0 0]))] 1 1)] (sR [hR 2 rfl rfl (rCa (X1l (rdR rest e 8 0) (rdE rest e 8 0) 16777216 (by omega)) Tryz.func106 [0,4] [(.tmp 8,pv 0 0),(.const (.int .i64 16777216),vI 16777216)] 1 2)] ?_))
 refine tN (Zao rest e) ?_
 refine Wy (s':=⟨Zam,[(Zan rest e),.live (.box 240 [.ptr 0 0]),.live (.box 43 [dI 0,.d (.val (.slice none 0 0))]),.live (.box 43 [dI (rdI rest e),(Zap rest e)]),.dead]⟩) (fun _ _ hG=>Gs.freeze (s:=(Zao rest e)) 4 (el:=W5 kU8 (rdY (rdR rest e 8 0) (rdE rest e 8 0) 16777216)) (sz:=kU8.sz) (n:=(rdY (rdR rest e 8 0) (rdE rest e 8 0) 16777216).length) rfl (kk4 trivial) ⟨pZ7,⟨pZ7,⟨pZ7,⟨p3e,⟨(.inl ⟨rfl,rfl⟩),trivial⟩⟩⟩⟩⟩ hG) (sR [] (T.ret ?_))
 exact eX [.c 2 2 43 0 43 [dI (rdI rest e),(Zap rest e)] (.agg [dI (rdI rest e),(Zap rest e)])] ⟨⟨rfl,rfl,by kernel_rfl,by kernel_rfl,.inl ⟨2,E9,rfl,Nat.le_of_ble_eq_true rfl⟩⟩,trivial⟩ [0] (cg2 (fun (q1:Int) (q2:List UInt8)=>(.tv (.agg [dI q1,dU q2]):AV)) (by rfl) (by rfl)) ⟨⟨rfl,(by have e1:((U4 (rdR rest e 8 0) (rdE rest e 8 0) 16777216):List UInt8)=(evR 16777216 rest e):=(by rfl);have e2:((Va (rdR rest e 8 0) (rdE rest e 8 0) 16777216):Int)=(evE 16777216 rest e):=(by rfl);have hE:=congr pZ10 e2;exact Eq.trans pZ4 hE)⟩,trivial⟩
section
variable (rest:List UInt8) (e:Int) (k:Nat)
abbrev Zaq:AV:=vI ((rdC rest e 15:Nat):Int)
abbrev Zar:HS:=.live (.box 195 [dU (rdR rest e 4 (Yq 15 (rest.take 4))),dI (rdE rest e 4 (Yq 15 (rest.take 4)))])
abbrev Zas:HS:=.live (.box 240 [.ptr 0 0])
abbrev Zat:=(Id 16777216 rest e k)
abbrev Zau:List HS:=[.live (.box 195 [dU (Zat rest e k).rest,dI (Zat rest e k).e]),Zas,.live (Xc 43 (kE false) (Zat rest e k).l)]
abbrev Zav:St:=⟨[aa,pv 1 0,Xx 2 (kE false) 0 (Zat rest e k).l.length,aa,aa,(Zaq rest e),vI ((k:Nat):Int)],(Zau rest e k)⟩
abbrev Zay:=(evV 16777216 (Zat rest e k).rest (Zat rest e k).e)
abbrev Zaz:AV:=vI ((k+1:Nat):Int)
abbrev Zb0:List HS:=[.live (.box 195 [dU (Id 16777216 rest e (k+1)).rest,dI (Id 16777216 rest e (k+1)).e]),Zas,.live (Xc 43 (kE false) (Id 16777216 rest e (k+1)).l)]
abbrev Zb1:St:=⟨[aa,pv 1 0,Xx 2 (kE false) 0 (Zat rest e k).l.length,aa,aa,(Zaq rest e),vI ((k:Nat):Int),vB (decide (((k:Nat):Int)<((rdC rest e 15:Nat):Int)))],(Zau rest e k)⟩
end
theorem X8f (rest:List UInt8) (e:Int) (hr:rest.length≤100000000):Holds Tryz.prog 196 ⟨[.tv (.agg [.ptr 0 0])],[.box 195 [dU rest,dI e]],slV false false (kE false) (Hu 16777216 rest e).l,[.live (.box 195 [dU (Hu 16777216 rest e).rest,dI (Hu 16777216 rest e).e])]⟩:=by
 refine Holds.of Tryz.func196 rfl (N:=15) Tryz.ntmps196 rfl fun w0 B0 S0 U0=>?_
 show T _ (Y2 15 1 w0 S0 U0 B0) ⟨[.tv (.agg [.ptr 0 0])],[.live (.box 195 [dU rest,dI e])]⟩ _ _
 have hr1:=Uh rest e 4 (Yq 15 (rest.take 4))
 refine sR [] (T.seq (sR [hR 2 rfl rfl (rCa (X95 rest e 15 (by omega)) Tryz.func147 [0] [(.tmp 4,pv 0 0),(.const (.int .i64 15),vI 15)] 1 1)] (T.block ?_)))
 refine tN ⟨[.tv (.agg [.ptr 0 0]),pv 1 0,dv (.slice none 0 0),aa,aa,(Zaq rest e),vI 0],[(Zar rest e),Zas]⟩ ?_
 refine Wy (s':=⟨[.tv (.agg [.ptr 0 0]),pv 1 0,Xx 2 (kE false) 0 0,aa,aa,(Zaq rest e),vI 0],[(Zar rest e),Zas,.live (Xc 43 (kE false) ([]:List aE))]⟩) (fun _ _ hG=>Vs 2 2 43 (kE false) rfl rfl hG) ?_
 refine T.loop (ι:=Nat) (fun (k:Nat)=>(Zav rest e k)) (fun (k:Nat)=>(k≤rdC rest e 15)) (fun (k:Nat)=>rdC rest e 15-k) (0) (Nat.zero_le _) (fun _ _ hG=>Yu [0,1,2] (bm 7 102) (t2:=[aa,pv 1 0,Xx 2 (kE false) 0 0,aa,aa,(Zaq rest e),vI 0]) (h2:=[(Zar rest e),Zas,.live (Xc 43 (kE false) ([]:List aE))]) (congrArg (fun (q1:Nat)=>([aa,pv 1 0,Xx 2 (kE false) 0 q1,aa,aa,(Zaq rest e),vI 0]:List AV)) (by rfl)) (cg3 (fun (q1:List UInt8) (q2:Int) (q3:List aE)=>([.live (.box 195 [dU q1,dI q2]),Zas,.live (Xc 43 (kE false) q3)]:List HS)) (by rfl) (by rfl) (by rfl)) hG) ?_
 rintro k hk
 show T _ _ (Zav rest e k) _ _
 replace hk:k≤rdC rest e 15:=hk
 have hg:=X1e 16777216 rest e k
 have hg1:=hg.1
 have hg2:=hg.2
 have hcm:rdC rest e 15≤15:=X7s rest e 15
 refine sR [] (T.seq ?_)
 by_cases hq1:((k:Nat):Int)<((rdC rest e 15:Nat):Int)
 ·refine cT (dT hq1) (T.skip (nT (T.seq (T.block ?_))))
  refine xR [hR 2 rfl rfl (rCa (X4d (Id 16777216 rest e k).rest (Id 16777216 rest e k).e (by omega)) Tryz.func199 [0] [(.tmp 9,.tv (.agg [.ptr 0 0]))] 1 1),hR 3 rfl rfl (Y7 3 43 (kE false) (W9 false) [(evV 16777216 (Id 16777216 rest e k).rest (Id 16777216 rest e k).e)] [⟨0,.tmp 10,.agg [dI (Zay rest e k).f_Signer,dU (Zay rest e k).Xh],0⟩] (cs:=[dI (Zay rest e k).f_Signer,dU (Zay rest e k).Xh]) Tryz.underlying37 Vv rfl E7 rfl rfl rfl pb (Ym rfl rfl pb W3) pZ4 (V2 pZ4) (X2 rfl) trivial),hR 4 rfl rfl (Yv 2 4 43 32 (kE false) (W9 false) (Id 16777216 rest e k).l [(evV 16777216 (Id 16777216 rest e k).rest (Id 16777216 rest e k).e)] ((Id 16777216 rest e k).l++[(evV 16777216 (Id 16777216 rest e k).rest (Id 16777216 rest e k).e)]) (Id 16777216 rest e k).l.length (sy:=(.own 3 (kE false).sz 0 [(Zay rest e k)].length)) (rhs:=[(3,.live (Xc 43 (kE false) [(Zay rest e k)]))]) En (by omega) (V0 3 43 (kE false) [(evV 16777216 (Id 16777216 rest e k).rest (Id 16777216 rest e k).e)]) px (by (simp [maxLen,-List.getD_eq_getElem?_getD]<;>omega)) (by (simp [maxLen,-List.getD_eq_getElem?_getD]<;>omega)) (X2 rfl) trivial)] pZ4 pZ4 ?_
  refine nB (nT (xK [hR 0 rfl rfl (Yb (u1:=.int .i64 ((k:Nat):Int)) (u2:=.int .i64 1) (v:=.int .i64 ((k+1:Nat):Int)) (Wb pZ9) (X2 rfl) ⟨rfl,trivial⟩)] ?_))
  refine nL (k+1) (show (k+1)≤rdC rest e 15 from (by omega)) (show (rdC rest e 15-(k+1):Nat)<rdC rest e 15-k from (by omega)) (fun _ _ hG=>Wf [0,1,4] (bm 7 102) (t1:=[aa,pv 1 0,Xx 4 (kE false) 0 (Id 16777216 rest e (k+1)).l.length,aa,aa,(Zaq rest e),(Zaz k)]) (t2:=[aa,pv 1 0,Xx 4 (kE false) 0 ((Zat rest e k).l++[(Zay rest e k)]).length,aa,aa,(Zaq rest e),(Zaz k)]) (h1:=(Zb0 rest e k)) (h2:=[.live (.box 195 [dU (evR 16777216 (Zat rest e k).rest (Zat rest e k).e),dI (evE 16777216 (Zat rest e k).rest (Zat rest e k).e)]),Zas,.live (Xc 43 (kE false) ((Zat rest e k).l++[(Zay rest e k)]))]) (congrArg (fun (q1:Nat)=>([aa,pv 1 0,Xx 4 (kE false) 0 q1,aa,aa,(Zaq rest e),(Zaz k)]:List AV)) (by rfl)) (cg3 (fun (q1:List UInt8) (q2:Int) (q3:List aE)=>([.live (.box 195 [dU q1,dI q2]),Zas,.live (Xc 43 (kE false) q3)]:List HS)) (by rfl) (by rfl) (by rfl)) hG)
 refine cF (dF hq1) (T.exit (xT (xT (xH (nT (sR [] (T.ret ?_)))))))
 refine eN (Zb1 rest e k) ?_
 refine Xa (s':=⟨[aa,pv 1 0,slV false false (kE false) (Zat rest e k).l,aa,aa,(Zaq rest e),vI ((k:Nat):Int),vB (decide (((k:Nat):Int)<((rdC rest e 15:Nat):Int)))],[.live (.box 195 [dU (Zat rest e k).rest,dI (Zat rest e k).e]),Zas,.dead]⟩) (fun _ _ hG=>Gs.freeze (s:=(Zb1 rest e k)) 2 (el:=W5 (kE false) (Id 16777216 rest e k).l) (sz:=(kE false).sz) (n:=(Id 16777216 rest e k).l.length) rfl (kk2 ⟨(.inr pZ0),⟨.inl rfl,(kk4 trivial)⟩⟩) ⟨pZ7,⟨pZ7,⟨(.inl ⟨rfl,rfl⟩),trivial⟩⟩⟩ hG) ?_
 exact eRt 2 (.one (.d (dsl false false (kE false) (Zat rest e k).l))) [0] (by have e1:((Hu 16777216 rest e).l:List aE)=(Id 16777216 rest e k).l:=p4a;have hE:=congrArg (fun (q1:List aE)=>(slV false false (kE false) q1:AV)) e1;exact hE) ⟨⟨rfl,(by have e1:((Id 16777216 rest e k).rest:List UInt8)=(Hu 16777216 rest e).rest:=p4a;have e2:((Id 16777216 rest e k).e:Int)=(Hu 16777216 rest e).e:=p4a;have hE:=congr pZ10 e2;exact Eq.trans pZ4 hE)⟩,trivial⟩
theorem zero_86:Zero Tryz.prog 86 [.int .i64 0,.slice none 0 0,.slice none 0 0]:=⟨_,_,Eu,rfl,rfl⟩
theorem elem_76:Elem Tryz.prog 76 86 3 56:=⟨Tryz.underlying76,_,_,Eu,rfl,rfl,rfl,rfl,by decide⟩
section
variable (rest:List UInt8) (e:Int) (k:Nat)
abbrev Zb2:AV:=vI ((rdC rest e 8:Nat):Int)
abbrev Zb3:HS:=.live (.box 195 [dU (rdR rest e 4 (Yq 8 (rest.take 4))),dI (rdE rest e 4 (Yq 8 (rest.take 4)))])
abbrev Zb4:HS:=.live (.box 240 [.ptr 0 0])
abbrev Zb5:=(U3 16777216 rest e k)
abbrev Zb6:List HS:=[.live (.box 195 [dU (Zb5 rest e k).rest,dI (Zb5 rest e k).e]),Zb4,.live (Xc 86 (kC false) (Zb5 rest e k).l)]
abbrev Zb7:St:=⟨[aa,pv 1 0,Xx 2 (kC false) 0 (Zb5 rest e k).l.length,aa,aa,aa,(Zb2 rest e),vI ((k:Nat):Int)],(Zb6 rest e k)⟩
abbrev Zba:=(evV 16777216 (Zb5 rest e k).rest (Zb5 rest e k).e)
abbrev Zbb:=(Hu 16777216 (evR 16777216 (Zb5 rest e k).rest (Zb5 rest e k).e) (evE 16777216 (Zb5 rest e k).rest (Zb5 rest e k).e))
abbrev Zbc:=(aC.mk (Zba rest e k) (Zbb rest e k).l)
abbrev Zbd:AV:=vI ((k+1:Nat):Int)
abbrev Zbe:List HS:=[.live (.box 195 [dU (U3 16777216 rest e (k+1)).rest,dI (U3 16777216 rest e (k+1)).e]),Zb4,.live (Xc 86 (kC false) (U3 16777216 rest e (k+1)).l)]
abbrev Zbf:List AV:=[aa,pv 1 0,Xx 2 (kC false) 0 (Zb5 rest e k).l.length,aa,aa,aa,(Zb2 rest e),vI ((k:Nat):Int),vB (decide (((k:Nat):Int)<((rdC rest e 8:Nat):Int)))]
end
theorem Xk9 (rest:List UInt8) (e:Int) (hr:rest.length≤100000000):Holds Tryz.prog 197 ⟨[.tv (.agg [.ptr 0 0])],[.box 195 [dU rest,dI e]],slV false false (kC false) (X36 16777216 rest e).l,[.live (.box 195 [dU (X36 16777216 rest e).rest,dI (X36 16777216 rest e).e])]⟩:=by
 refine Holds.of Tryz.func197 rfl (N:=21) Tryz.ntmps197 rfl fun w0 B0 S0 U0=>?_
 show T _ (Y2 21 1 w0 S0 U0 B0) ⟨[.tv (.agg [.ptr 0 0])],[.live (.box 195 [dU rest,dI e])]⟩ _ _
 have hr1:=Uh rest e 4 (Yq 8 (rest.take 4))
 refine sR [] (T.seq (sR [hR 2 rfl rfl (rCa (X95 rest e 8 (by omega)) Tryz.func147 [0] [(.tmp 5,pv 0 0),(.const (.int .i64 8),vI 8)] 1 1)] (T.block ?_)))
 refine tN ⟨[.tv (.agg [.ptr 0 0]),pv 1 0,dv (.slice none 0 0),aa,aa,aa,(Zb2 rest e),vI 0],[(Zb3 rest e),Zb4]⟩ ?_
 refine Wy (s':=⟨[.tv (.agg [.ptr 0 0]),pv 1 0,Xx 2 (kC false) 0 0,aa,aa,aa,(Zb2 rest e),vI 0],[(Zb3 rest e),Zb4,.live (Xc 86 (kC false) ([]:List aC))]⟩) (fun _ _ hG=>Vs 2 2 86 (kC false) rfl rfl hG) ?_
 refine T.loop (ι:=Nat) (fun (k:Nat)=>(Zb7 rest e k)) (fun (k:Nat)=>(k≤rdC rest e 8)) (fun (k:Nat)=>rdC rest e 8-k) (0) (Nat.zero_le _) (fun _ _ hG=>Yu [0,1,2] (bm 8 198) (t2:=[aa,pv 1 0,Xx 2 (kC false) 0 0,aa,aa,aa,(Zb2 rest e),vI 0]) (h2:=[(Zb3 rest e),Zb4,.live (Xc 86 (kC false) ([]:List aC))]) (congrArg (fun (q1:Nat)=>([aa,pv 1 0,Xx 2 (kC false) 0 q1,aa,aa,aa,(Zb2 rest e),vI 0]:List AV)) (by rfl)) (cg3 (fun (q1:List UInt8) (q2:Int) (q3:List aC)=>([.live (.box 195 [dU q1,dI q2]),Zb4,.live (Xc 86 (kC false) q3)]:List HS)) (by rfl) (by rfl) (by rfl)) hG) ?_
 rintro k hk
 show T _ _ (Zb7 rest e k) _ _
 replace hk:k≤rdC rest e 8:=hk
 have hg:=X4j 16777216 rest e k
 have hg1:=hg.1
 have hg2:=hg.2
 have hcm:rdC rest e 8≤8:=X7s rest e 8
 have hve:=Xdj 16777216 (U3 16777216 rest e k).rest (U3 16777216 rest e k).e
 refine sR [] (T.seq ?_)
 by_cases hq1:((k:Nat):Int)<((rdC rest e 8:Nat):Int)
 ·refine cT (dT hq1) (T.skip (nT (T.seq (T.block (sR [hR 1 rfl rfl (rCa (X4d (U3 16777216 rest e k).rest (U3 16777216 rest e k).e (by omega)) Tryz.func199 [0] [(.tmp 9,.tv (.agg [.ptr 0 0]))] 1 1)] (sR [hR 1 rfl rfl (rCa (X8f (evR 16777216 (U3 16777216 rest e k).rest (U3 16777216 rest e k).e) (evE 16777216 (U3 16777216 rest e k).rest (U3 16777216 rest e k).e) (by omega)) Tryz.func196 [0] [(.tmp 12,.tv (.agg [.ptr 0 0]))] 1 1)] ?_))))))
  refine xR [hR 2 rfl rfl (Y7 4 86 (kC false) (X3l false) [(aC.mk (evV 16777216 (U3 16777216 rest e k).rest (U3 16777216 rest e k).e) (Hu 16777216 (evR 16777216 (U3 16777216 rest e k).rest (U3 16777216 rest e k).e) (evE 16777216 (U3 16777216 rest e k).rest (U3 16777216 rest e k).e)).l)] [⟨0,.tmp 16,.agg [dI (Zba rest e k).f_Signer,dU (Zba rest e k).Xh,.d (dsl false false (kE false) (Zbb rest e k).l)],0⟩] (cs:=[dI (Zba rest e k).f_Signer,dU (Zba rest e k).Xh,.d (dsl false false (kE false) (Zbb rest e k).l)]) Tryz.underlying76 Eu rfl zero_86 rfl rfl rfl pb (Ym rfl rfl pb W3) pZ4 (V2 pZ4) (X2 rfl) trivial),hR 3 rfl rfl (Yv 2 5 86 56 (kC false) (X3l false) (U3 16777216 rest e k).l [(aC.mk (evV 16777216 (U3 16777216 rest e k).rest (U3 16777216 rest e k).e) (Hu 16777216 (evR 16777216 (U3 16777216 rest e k).rest (U3 16777216 rest e k).e) (evE 16777216 (U3 16777216 rest e k).rest (U3 16777216 rest e k).e)).l)] ((U3 16777216 rest e k).l++[(aC.mk (evV 16777216 (U3 16777216 rest e k).rest (U3 16777216 rest e k).e) (Hu 16777216 (evR 16777216 (U3 16777216 rest e k).rest (U3 16777216 rest e k).e) (evE 16777216 (U3 16777216 rest e k).rest (U3 16777216 rest e k).e)).l)]) (U3 16777216 rest e k).l.length (sy:=(.own 4 (kC false).sz 0 [(Zbc rest e k)].length)) (rhs:=[(4,.live (Xc 86 (kC false) [(Zbc rest e k)]))]) elem_76 (by omega) (V0 4 86 (kC false) [(aC.mk (evV 16777216 (U3 16777216 rest e k).rest (U3 16777216 rest e k).e) (Hu 16777216 (evR 16777216 (U3 16777216 rest e k).rest (U3 16777216 rest e k).e) (evE 16777216 (U3 16777216 rest e k).rest (U3 16777216 rest e k).e)).l)]) px (by (simp [maxLen,-List.getD_eq_getElem?_getD]<;>omega)) (by (simp [maxLen,-List.getD_eq_getElem?_getD]<;>omega)) (X2 rfl) trivial)] pZ4 pZ4 ?_
  refine nB (nT (xK [hR 0 rfl rfl (Yb (u1:=.int .i64 ((k:Nat):Int)) (u2:=.int .i64 1) (v:=.int .i64 ((k+1:Nat):Int)) (Wb pZ9) (X2 rfl) ⟨rfl,trivial⟩)] ?_))
  refine nL (k+1) (show (k+1)≤rdC rest e 8 from (by omega)) (show (rdC rest e 8-(k+1):Nat)<rdC rest e 8-k from (by omega)) (fun _ _ hG=>Wf [0,1,5] (bm 8 198) (t1:=[aa,pv 1 0,Xx 5 (kC false) 0 (U3 16777216 rest e (k+1)).l.length,aa,aa,aa,(Zb2 rest e),(Zbd k)]) (t2:=[aa,pv 1 0,Xx 5 (kC false) 0 ((Zb5 rest e k).l++[(Zbc rest e k)]).length,aa,aa,aa,(Zb2 rest e),(Zbd k)]) (h1:=(Zbe rest e k)) (h2:=[.live (.box 195 [dU (Zbb rest e k).rest,dI (Zbb rest e k).e]),Zb4,.live (Xc 86 (kC false) ((Zb5 rest e k).l++[(Zbc rest e k)]))]) (congrArg (fun (q1:Nat)=>([aa,pv 1 0,Xx 5 (kC false) 0 q1,aa,aa,aa,(Zb2 rest e),(Zbd k)]:List AV)) (by rfl)) (cg3 (fun (q1:List UInt8) (q2:Int) (q3:List aC)=>([.live (.box 195 [dU q1,dI q2]),Zb4,.live (Xc 86 (kC false) q3)]:List HS)) (by rfl) (by rfl) (by rfl)) hG)
 refine cF (dF hq1) (T.exit (xT (xT (xH (nT (sR [] (T.ret ?_)))))))
 refine eN ⟨(Zbf rest e k),(Zb6 rest e k)⟩ ?_
 refine Xa (s':=⟨[aa,pv 1 0,slV false false (kC false) (Zb5 rest e k).l,aa,aa,aa,(Zb2 rest e),vI ((k:Nat):Int),vB (decide (((k:Nat):Int)<((rdC rest e 8:Nat):Int)))],[.live (.box 195 [dU (Zb5 rest e k).rest,dI (Zb5 rest e k).e]),Zb4,.dead]⟩) (fun _ _ hG=>Gs.freeze (s:=⟨(Zbf rest e k),(Zb6 rest e k)⟩) 2 (el:=W5 (kC false) (U3 16777216 rest e k).l) (sz:=(kC false).sz) (n:=(U3 16777216 rest e k).l.length) rfl (kk2 ⟨(.inr pZ0),(kk2 (kk4 trivial))⟩) ⟨pZ7,⟨pZ7,⟨(.inl ⟨rfl,rfl⟩),trivial⟩⟩⟩ hG) ?_
 exact eRt 2 (.one (.d (dsl false false (kC false) (Zb5 rest e k).l))) [0] (by have e1:((X36 16777216 rest e).l:List aC)=(U3 16777216 rest e k).l:=p4c;have hE:=congrArg (fun (q1:List aC)=>(slV false false (kC false) q1:AV)) e1;exact hE) ⟨⟨rfl,(by have e1:((U3 16777216 rest e k).rest:List UInt8)=(X36 16777216 rest e).rest:=p4c;have e2:((U3 16777216 rest e k).e:Int)=(X36 16777216 rest e).e:=p4c;have hE:=congr pZ10 e2;exact Eq.trans pZ4 hE)⟩,trivial⟩
end Go.Proofs.YtnaopgohccacmaaGreat.Q
