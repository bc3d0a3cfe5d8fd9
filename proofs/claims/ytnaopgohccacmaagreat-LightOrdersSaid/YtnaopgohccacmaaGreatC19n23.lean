import Derived.Test.YtnaopgohccacmaaGreatC19n20
namespace Go.Proofs.YtnaopgohccacmaaGreat.Q
open Go Go.RowKit
set_option linter.unusedVariables false
set_option linter.unusedSimpArgs false
set_option maxRecDepth 100000
set_option maxHeartbeats 4000000
section
variable (tm:Bool) (m:aM) (k:Nat)
abbrev Z8m:List SV:=[dI m.X1,dI m.Xb,dI m.Xg,dI m.Xe,dI m.Y3,dS m.X6,.d (dsl tm false kU8 m.Xc),dI m.X0.Xu,dI m.X0.Xl,.d (dsl tm false (kE tm) m.Xa),.d (dsl tm false (kE tm) m.Xw),.d (dsl tm false (kC tm) m.X5)]
abbrev Z8n:HS:=.live (.box 78 (Z8m tm m))
abbrev Z8o:St:=⟨[.tv (.agg (Z8m tm m)),pv 0 0,dv (.slice none 0 0),aa,aa,aa,aa,aa,aa,vB (decide ((X7h m)≠0))],[(Z8n tm m)]⟩
abbrev Z8p:List AV:=[aa,pv 0 0,aa,pv 1 0,aa,Y7 2 kU8 0 (Ya m 1).length]
abbrev Z8q:HS:=.live (.box 119 [dB (Xp m.X1).Xb,dB (Xp m.X1).Xg,dB (Xp m.X1).Xe,dB (Xp m.X1).X6,dB (Xp m.X1).Xc,dB (Xp m.X1).X0,dB (Xp m.X1).Xa,dB (Xp m.X1).Xw,dB (Xp m.X1).X5])
abbrev Z8r:List HS:=[(Z8n tm m),(Z8q m),.live (Xf 5 kU8 (Ya m 1))]
abbrev Z8s:List AV:=[aa,pv 0 0,aa,pv 1 0,aa,Y7 2 kU8 0 (Ya m 0).length]
abbrev Z8t:List HS:=[(Z8n tm m),(Z8q m),.live (Xf 5 kU8 (Ya m 0))]
abbrev Z8u:List AV:=[aa,pv 0 0,aa,pv 1 0,aa,Y7 2 kU8 0 (Ya m 2).length]
abbrev Z8v:List HS:=[(Z8n tm m),(Z8q m),.live (Xf 5 kU8 (Ya m 2))]
abbrev Z8w:List AV:=[aa,pv 0 0,aa,pv 1 0,aa,Y7 2 kU8 0 (Ya m 3).length]
abbrev Z8x:List HS:=[(Z8n tm m),(Z8q m),.live (Xf 5 kU8 (Ya m 3))]
abbrev Z8y:AV:=Y7 4 kU8 0 ((Ya m 2)++Yv m.Xe++Yv m.Y3).length
abbrev Z8z:List AV:=[aa,pv 0 0,aa,pv 1 0,aa,Y7 2 kU8 0 (Ya m 4).length]
abbrev Z90:List HS:=[(Z8n tm m),(Z8q m),.live (Xf 5 kU8 (Ya m 4))]
abbrev Z91:List AV:=[aa,pv 0 0,aa,pv 1 0,aa,Y7 2 kU8 0 (Ya m 5).length]
abbrev Z92:List HS:=[(Z8n tm m),(Z8q m),.live (Xf 5 kU8 (Ya m 5))]
abbrev Z93:List AV:=[aa,pv 0 0,aa,pv 1 0,aa,Y7 2 kU8 0 (Ya m 6).length]
abbrev Z94:List HS:=[(Z8n tm m),(Z8q m),.live (Xf 5 kU8 (Ya m 6))]
abbrev Z95:AV:=Y7 4 kU8 0 ((Ya m 5)++Yv m.X0.Xu++Yv m.X0.Xl).length
abbrev Z96:List AV:=[aa,pv 0 0,aa,pv 1 0,aa,Y7 2 kU8 0 (Ya m 7).length]
abbrev Z97:List HS:=[(Z8n tm m),(Z8q m),.live (Xf 5 kU8 (Ya m 7))]
abbrev Z98:List AV:=[aa,pv 0 0,aa,pv 1 0,aa,Y7 2 kU8 0 (Ya m 8).length]
abbrev Z99:List HS:=[(Z8n tm m),(Z8q m),.live (Xf 5 kU8 (Ya m 8))]
abbrev Z9a:List AV:=[aa,pv 0 0,aa,pv 1 0,aa,Y7 2 kU8 0 (Ya m 9).length]
abbrev Z9b:List HS:=[(Z8n tm m),(Z8q m),.live (Xf 5 kU8 (Ya m 9))]
abbrev Z9c:AV:=Y7 2 kU8 0 ((Ya m 8)++U6 ((m.X5.length:Nat):Int)++Ih m.X5 k).length
abbrev Z9d:HS:=.live (Xf 5 kU8 ((Ya m 8)++U6 ((m.X5.length:Nat):Int)++Ih m.X5 k))
abbrev Z9e:St:=⟨[aa,pv 0 0,aa,pv 1 0,aa,(Z9c m k),vI ((k:Nat):Int)],[(Z8n tm m),(Z8q m),(Z9d m k)]⟩
abbrev Z9f:List HS:=[(Z8n tm m),(Z8q m),.live (Xf 5 kU8 ((Ya m 8)++U6 ((m.X5.length:Nat):Int)++Ih m.X5 0))]
abbrev Z9g:AV:=vI ((k+1:Nat):Int)
abbrev Z9h:List HS:=[(Z8n tm m),(Z8q m),.live (Xf 5 kU8 ((Ya m 8)++U6 ((m.X5.length:Nat):Int)++Ih m.X5 (k+1)))]
abbrev Z9i:List AV:=[aa,pv 0 0,Y7 2 kU8 0 (Ya m 9).length,pv 1 0,aa,Y7 2 kU8 0 (Ya m 9).length]
end
theorem X4j (tm:Bool) (m:aM) (hl:(Ya m 9).length≤1000000000) (hq:m.Xa.length≤9223372036854775807) (hr:m.Xw.length≤9223372036854775807) (hc:m.X5.length≤9223372036854775807) (hd:m.Xc.length≤9223372036854775807) (hg:m.X6.length≤9223372036854775807):Holds Tryz.prog 25 ⟨[.tv (.agg [dI m.X1,dI m.Xb,dI m.Xg,dI m.Xe,dI m.Y3,dS m.X6,.d (dsl tm false kU8 m.Xc),dI m.X0.Xu,dI m.X0.Xl,.d (dsl tm false (kE tm) m.Xa),.d (dsl tm false (kE tm) m.Xw),.d (dsl tm false (kC tm) m.X5)])],[],slV false false kU8 (Vh m),[]⟩:=by
 refine Holds.of Tryz.func25 rfl (N:=106) Tryz.ntmps25 rfl fun w0 B0 S0 U0=>?_
 show T _ (Y5 106 0 w0 S0 U0 B0) ⟨[.tv (.agg (Z8m tm m))],[]⟩ _ _
 have hi1:=Wt m.Xe
 have hi2:=Wt m.X0.Xu
 have hi0:=Wt m.X1
 refine sR [] (T.seq (sR [hR 1 rfl rfl (rCa (X6v tm m (by omega) (by omega) (by omega) (by omega) (by omega)) Tryz.func61 [] [(.tmp 7,.tv (.agg (Z8m tm m)))] 0 0)] ?_))
 by_cases hq1:(X7h m)≠0
 ·refine cT (dT hq1) (sR [] (T.ret (rT ?_)))
  refine eN (Z8o tm m) ?_
  refine X8 (s':=⟨[.tv (.agg (Z8m tm m)),pv 0 0,slV false false kU8 ([]:List UInt8),aa,aa,aa,aa,aa,aa,vB (decide ((X7h m)≠0))],[(Z8n tm m)]⟩) (fun _ _ hG=>Ym (s:=(Z8o tm m)) (kk2 ⟨pq,⟨.inl rfl,p4x⟩⟩) ⟨.inl rfl,trivial⟩ hG) ?_
  exact eRt 2 (.one (dU ([]:List UInt8))) [] (congrArg (fun (q1:List UInt8)=>(slV false false kU8 q1:AV)) (by exact (if_neg (fun h9=>by have h8:=chk0.2 h9;contradiction)))) trivial
 have hwl:=chk0.1 (Classical.not_not.1 hq1);have hcl0:=Ii ((m.X5.length:Nat):Int)
 refine cF (dF hq1) (T.skip (nT (sR [hR 2 rfl rfl (rCa (X0i m.X1 ) Tryz.func62 [] [(.tmp 12,vI m.X1)] 0 0)] (sR [hR 2 rfl rfl (rCn (Ue false false ([]:List UInt8) m.X1 (by decide)) Tryz.func63 [2] [(.const (.slice none 0 0),dv (.slice none 0 0)),(.tmp 17,vI m.X1)] 0 1 ⟨.inr pq,⟨.inl ⟨rfl,rfl⟩,trivial⟩⟩ ⟨rfl,trivial⟩)] ?_))))
 refine Uk ⟨(Z8p m),(Z8r tm m)⟩ ?_ ?_
 ·refine tN ⟨[.tv (.agg (Z8m tm m)),pv 0 0,dv (.slice none 0 0),pv 1 0,aa,Y7 2 kU8 0 (([]:List UInt8)++Yv m.X1).length,aa,aa,aa,vB (decide ((X7h m)≠0))],[(Z8n tm m),(Z8q m),.live (Xf 5 kU8 (([]:List UInt8)++Yv m.X1))]⟩ ?_
  refine Wr (s':=⟨(Z8s m),(Z8t tm m)⟩) (fun _ _ hG=>Yp [0,1,2] (bm 6 42) (t2:=[aa,pv 0 0,aa,pv 1 0,aa,Y7 2 kU8 0 (([]:List UInt8)++Yv m.X1).length]) (h2:=[(Z8n tm m),(Z8q m),.live (Xf 5 kU8 (([]:List UInt8)++Yv m.X1))]) (congrArg (fun (q1:Nat)=>([aa,pv 0 0,aa,pv 1 0,aa,Y7 2 kU8 0 q1]:List AV)) (by rfl)) (congrArg (fun (q1:List UInt8)=>([(Z8n tm m),(Z8q m),.live (Xf 5 kU8 q1)]:List HS)) (by rfl)) hG) (sR [] ?_)
  by_cases hq2:(Xp m.X1).Xb=true
  ·have hbt:Uy (Xp m.X1) 0=true:=hq2;have hst:Ya m 1=Ya m 0++Yv m.Xb:=(F1 (j:=0) (i:=0) rfl hbt);have hrm:=Hg (m:=m) (j:=0) (i:=0) rfl hbt (by decide);simp only [Fh,List.length_append,Wt,Vi] at hrm
   refine cT hq2 (xK [hR 3 rfl rfl (Wx (Ue true false (Ya m 0) m.Xb (by omega)) Tryz.func63 rfl (by decide) [3] [2] (l:=[(.tmp 21,Y7 2 kU8 0 (Ya m 0).length),(.tmp 23,vI m.Xb)]) [(2,.live (Xf 5 kU8 (Ya m 0)))] rfl 0 1 rfl rfl rfl rfl rfl rfl rfl rfl rfl ⟨.inr (.inl ⟨rfl,pZs,rfl,rfl,by simp,5,(Ya m 0).length,W6 kU8 (Ya m 0),List.Mem.head _,pk,fun i j=>by rw [Nat.zero_add]⟩),⟨.inl ⟨rfl,rfl⟩,trivial⟩⟩ rfl pZ6 pj (X3 rfl) trivial)] ?_)
   refine eN ⟨[aa,pv 0 0,aa,pv 1 0,aa,Y7 3 kU8 0 ((Ya m 0)++Yv m.Xb).length,aa,aa,aa,aa,aa,aa,aa,aa,aa,aa,aa,aa,aa,aa,vB (Xp m.X1).Xb],[(Z8n tm m),(Z8q m),.live (Xf 5 kU8 (Ya m 0)),.live (Xf 5 kU8 ((Ya m 0)++Yv m.Xb))]⟩ ?_
   refine X8 (s':=⟨(Z8p m),(Z8r tm m)⟩) (fun _ _ hG=>Wi [0,1,3] (bm 6 42) (t1:=[aa,pv 0 0,aa,pv 1 0,aa,Y7 3 kU8 0 (Ya m 1).length]) (t2:=[aa,pv 0 0,aa,pv 1 0,aa,Y7 3 kU8 0 ((Ya m 0)++Yv m.Xb).length]) (h1:=(Z8r tm m)) (h2:=[(Z8n tm m),(Z8q m),.live (Xf 5 kU8 ((Ya m 0)++Yv m.Xb))]) (by have e1:((Ya m 1).length:Nat)=((Ya m 0)++Yv m.Xb).length:=px;have hE:=congrArg (fun (q1:Nat)=>([aa,pv 0 0,aa,pv 1 0,aa,Y7 3 kU8 0 q1]:List AV)) e1;exact hE) (by have e1:((Ya m 1):List UInt8)=(Ya m 0)++Yv m.Xb:=px;have hE:=congrArg (fun (q1:List UInt8)=>([(Z8n tm m),(Z8q m),.live (Xf 5 kU8 q1)]:List HS)) e1;exact hE) hG) ?_
   exact nJ
  have hbt:¬Uy (Xp m.X1) 0=true:=hq2;have hst:Ya m 1=Ya m 0:=X0z (j:=0) hbt
  replace hq2:=Bool.eq_false_iff.2 hq2
  refine cF hq2 (T.skip ?_)
  refine eN ⟨[aa,pv 0 0,aa,pv 1 0,aa,Y7 2 kU8 0 (Ya m 0).length,aa,aa,aa,aa,aa,aa,aa,aa,aa,aa,aa,aa,aa,aa,vB (Xp m.X1).Xb],(Z8t tm m)⟩ ?_
  refine X8 (s':=⟨(Z8p m),(Z8r tm m)⟩) (fun _ _ hG=>Yp [0,1,2] (bm 6 42) (t2:=(Z8s m)) (h2:=(Z8t tm m)) (by have e1:((Ya m 1).length:Nat)=(Ya m 0).length:=px;have hE:=congrArg (fun (q1:Nat)=>([aa,pv 0 0,aa,pv 1 0,aa,Y7 2 kU8 0 q1]:List AV)) e1;exact hE) (by have e1:((Ya m 1):List UInt8)=(Ya m 0):=px;have hE:=congrArg (fun (q1:List UInt8)=>([(Z8n tm m),(Z8q m),.live (Xf 5 kU8 q1)]:List HS)) e1;exact hE) hG) ?_
  exact nJ
 refine Uk ⟨(Z8u m),(Z8v tm m)⟩ ?_ ?_
 ·refine sR [] ?_
  by_cases hq3:(Xp m.X1).Xg=true
  ·have hbt:Uy (Xp m.X1) 1=true:=hq3;have hst:Ya m 2=Ya m 1++Yv m.Xg:=(F1 (j:=1) (i:=1) rfl hbt);have hrm:=Hg (m:=m) (j:=1) (i:=1) rfl hbt (by decide);simp only [Fh,List.length_append,Wt,Vi] at hrm
   refine cT hq3 (xK [hR 3 rfl rfl (Wx (Ue true false (Ya m 1) m.Xg (by omega)) Tryz.func63 rfl (by decide) [3] [2] (l:=[(.tmp 27,Y7 2 kU8 0 (Ya m 1).length),(.tmp 29,vI m.Xg)]) [(2,.live (Xf 5 kU8 (Ya m 1)))] rfl 0 1 rfl rfl rfl rfl rfl rfl rfl rfl rfl ⟨.inr (.inl ⟨rfl,pZs,rfl,rfl,by simp,5,(Ya m 1).length,W6 kU8 (Ya m 1),List.Mem.head _,pk,fun i j=>by rw [Nat.zero_add]⟩),⟨.inl ⟨rfl,rfl⟩,trivial⟩⟩ rfl pZ6 pj (X3 rfl) trivial)] ?_)
   refine eN ⟨[aa,pv 0 0,aa,pv 1 0,aa,Y7 3 kU8 0 ((Ya m 1)++Yv m.Xg).length,aa,aa,aa,aa,aa,aa,aa,aa,aa,aa,aa,aa,aa,aa,aa,aa,aa,aa,aa,aa,vB (Xp m.X1).Xg],[(Z8n tm m),(Z8q m),.live (Xf 5 kU8 (Ya m 1)),.live (Xf 5 kU8 ((Ya m 1)++Yv m.Xg))]⟩ ?_
   refine X8 (s':=⟨(Z8u m),(Z8v tm m)⟩) (fun _ _ hG=>Wi [0,1,3] (bm 6 42) (t1:=[aa,pv 0 0,aa,pv 1 0,aa,Y7 3 kU8 0 (Ya m 2).length]) (t2:=[aa,pv 0 0,aa,pv 1 0,aa,Y7 3 kU8 0 ((Ya m 1)++Yv m.Xg).length]) (h1:=(Z8v tm m)) (h2:=[(Z8n tm m),(Z8q m),.live (Xf 5 kU8 ((Ya m 1)++Yv m.Xg))]) (by have e1:((Ya m 2).length:Nat)=((Ya m 1)++Yv m.Xg).length:=px;have hE:=congrArg (fun (q1:Nat)=>([aa,pv 0 0,aa,pv 1 0,aa,Y7 3 kU8 0 q1]:List AV)) e1;exact hE) (by have e1:((Ya m 2):List UInt8)=(Ya m 1)++Yv m.Xg:=px;have hE:=congrArg (fun (q1:List UInt8)=>([(Z8n tm m),(Z8q m),.live (Xf 5 kU8 q1)]:List HS)) e1;exact hE) hG) ?_
   exact nJ
  have hbt:¬Uy (Xp m.X1) 1=true:=hq3;have hst:Ya m 2=Ya m 1:=X0z (j:=1) hbt
  replace hq3:=Bool.eq_false_iff.2 hq3
  refine cF hq3 (T.skip ?_)
  refine eN ⟨[aa,pv 0 0,aa,pv 1 0,aa,Y7 2 kU8 0 (Ya m 1).length,aa,aa,aa,aa,aa,aa,aa,aa,aa,aa,aa,aa,aa,aa,aa,aa,aa,aa,aa,aa,vB (Xp m.X1).Xg],(Z8r tm m)⟩ ?_
  refine X8 (s':=⟨(Z8u m),(Z8v tm m)⟩) (fun _ _ hG=>Yp [0,1,2] (bm 6 42) (t2:=(Z8p m)) (h2:=(Z8r tm m)) (by have e1:((Ya m 2).length:Nat)=(Ya m 1).length:=px;have hE:=congrArg (fun (q1:Nat)=>([aa,pv 0 0,aa,pv 1 0,aa,Y7 2 kU8 0 q1]:List AV)) e1;exact hE) (by have e1:((Ya m 2):List UInt8)=(Ya m 1):=px;have hE:=congrArg (fun (q1:List UInt8)=>([(Z8n tm m),(Z8q m),.live (Xf 5 kU8 q1)]:List HS)) e1;exact hE) hG) ?_
  exact nJ
 refine Uk ⟨(Z8w m),(Z8x tm m)⟩ ?_ ?_
 ·refine sR [] ?_
  by_cases hq4:(Xp m.X1).Xe=true
  ·have hbt:Uy (Xp m.X1) 2=true:=hq4;have hst:Ya m 3=Ya m 2++Yv m.Xe++Yv m.Y3:=(F1 (j:=2) (i:=2) rfl hbt).trans (List.append_assoc ..).symm;have hrm:=Hg (m:=m) (j:=2) (i:=2) rfl hbt (by decide);simp only [Fh,List.length_append,Wt,Vi] at hrm
   refine cT hq4 ?_
   refine xD [[],[],[1],[0,1,2],[],[4],[0,1,2,3,4,5],[0,1,2,3,4,5,6]] [hR 3 rfl rfl (Wx (Ue true false (Ya m 2) m.Xe (by omega)) Tryz.func63 rfl (by decide) [3] [2] (l:=[(.tmp 33,Y7 2 kU8 0 (Ya m 2).length),(.tmp 35,vI m.Xe)]) [(2,.live (Xf 5 kU8 (Ya m 2)))] rfl 0 1 rfl rfl rfl rfl rfl rfl rfl rfl rfl ⟨.inr (.inl ⟨rfl,pZs,rfl,rfl,by simp,5,(Ya m 2).length,W6 kU8 (Ya m 2),List.Mem.head _,pk,fun i j=>by rw [Nat.zero_add]⟩),⟨.inl ⟨rfl,rfl⟩,trivial⟩⟩ rfl pZ6 pj (X3 rfl) trivial),hR 6 rfl rfl (Wx (Ue true false ((Ya m 2)++Yv m.Xe) m.Y3 pz) Tryz.func63 rfl (by decide) [4] [3] (l:=[(.tmp 36,Y7 3 kU8 0 ((Ya m 2)++Yv m.Xe).length),(.tmp 38,vI m.Y3)]) [(3,.live (Xf 5 kU8 ((Ya m 2)++Yv m.Xe)))] rfl 0 1 rfl rfl rfl rfl rfl rfl rfl rfl rfl ⟨.inr (.inl ⟨rfl,pZs,rfl,rfl,by simp,5,((Ya m 2)++Yv m.Xe).length,W6 kU8 ((Ya m 2)++Yv m.Xe),List.Mem.head _,pk,fun i j=>by rw [Nat.zero_add]⟩),⟨.inl ⟨rfl,rfl⟩,trivial⟩⟩ rfl pZ6 pj (X3 rfl) trivial)] pZ8 pZ8 pZ8 pZ8 pZ8 pZ8 ?_
   refine eN ⟨[aa,pv 0 0,aa,pv 1 0,aa,(Z8y m),aa,aa,aa,aa,aa,aa,aa,aa,aa,aa,aa,aa,aa,aa,aa,aa,aa,aa,aa,aa,aa,aa,aa,aa,aa,aa,vB (Xp m.X1).Xe],[(Z8n tm m),(Z8q m),.live (Xf 5 kU8 (Ya m 2)),.live (Xf 5 kU8 ((Ya m 2)++Yv m.Xe)),.live (Xf 5 kU8 ((Ya m 2)++Yv m.Xe++Yv m.Y3))]⟩ ?_
   refine X8 (s':=⟨(Z8w m),(Z8x tm m)⟩) (fun _ _ hG=>Wi [0,1,4] (bm 6 42) (t1:=[aa,pv 0 0,aa,pv 1 0,aa,Y7 4 kU8 0 (Ya m 3).length]) (t2:=[aa,pv 0 0,aa,pv 1 0,aa,(Z8y m)]) (h1:=(Z8x tm m)) (h2:=[(Z8n tm m),(Z8q m),.live (Xf 5 kU8 ((Ya m 2)++Yv m.Xe++Yv m.Y3))]) (by have e1:((Ya m 3).length:Nat)=((Ya m 2)++Yv m.Xe++Yv m.Y3).length:=px;have hE:=congrArg (fun (q1:Nat)=>([aa,pv 0 0,aa,pv 1 0,aa,Y7 4 kU8 0 q1]:List AV)) e1;exact hE) (by have e1:((Ya m 3):List UInt8)=(Ya m 2)++Yv m.Xe++Yv m.Y3:=px;have hE:=congrArg (fun (q1:List UInt8)=>([(Z8n tm m),(Z8q m),.live (Xf 5 kU8 q1)]:List HS)) e1;exact hE) hG) ?_
   exact nJ
  have hbt:¬Uy (Xp m.X1) 2=true:=hq4;have hst:Ya m 3=Ya m 2:=X0z (j:=2) hbt
  replace hq4:=Bool.eq_false_iff.2 hq4
  refine cF hq4 (T.skip ?_)
  refine eN ⟨[aa,pv 0 0,aa,pv 1 0,aa,Y7 2 kU8 0 (Ya m 2).length,aa,aa,aa,aa,aa,aa,aa,aa,aa,aa,aa,aa,aa,aa,aa,aa,aa,aa,aa,aa,aa,aa,aa,aa,aa,aa,vB (Xp m.X1).Xe],(Z8v tm m)⟩ ?_
  refine X8 (s':=⟨(Z8w m),(Z8x tm m)⟩) (fun _ _ hG=>Yp [0,1,2] (bm 6 42) (t2:=(Z8u m)) (h2:=(Z8v tm m)) (by have e1:((Ya m 3).length:Nat)=(Ya m 2).length:=px;have hE:=congrArg (fun (q1:Nat)=>([aa,pv 0 0,aa,pv 1 0,aa,Y7 2 kU8 0 q1]:List AV)) e1;exact hE) (by have e1:((Ya m 3):List UInt8)=(Ya m 2):=px;have hE:=congrArg (fun (q1:List UInt8)=>([(Z8n tm m),(Z8q m),.live (Xf 5 kU8 q1)]:List HS)) e1;exact hE) hG) ?_
  exact nJ
 refine Uk ⟨(Z8z m),(Z90 tm m)⟩ ?_ ?_
 ·refine sR [] ?_
  by_cases hq5:(Xp m.X1).X6=true
  ·have hbt:Uy (Xp m.X1) 3=true:=hq5;have hst:Ya m 4=Ya m 3++W2 m.X6:=(F1 (j:=3) (i:=3) rfl hbt);have hrm:=Hg (m:=m) (j:=3) (i:=3) rfl hbt (by decide);simp only [Fh,List.length_append,Wt,Vi] at hrm
   refine cT hq5 ?_
   refine xR [hR 3 rfl rfl (Ju (l:=m.X6) Tryz.underlying60 Tryz.underlying25 Tryz.underlying5 (X3 rfl) trivial),hR 4 rfl rfl (Wx (I4 true false (Ya m 3) false true m.X6 (by omega)) Tryz.func64 rfl (by decide) [3] [2] (l:=[(.tmp 42,Y7 2 kU8 0 (Ya m 3).length),(.tmp 45,slV false true kU8 m.X6)]) [(2,.live (Xf 5 kU8 (Ya m 3)))] rfl 0 1 rfl rfl rfl rfl rfl rfl rfl rfl rfl ⟨.inr (.inl ⟨rfl,pZs,rfl,rfl,by simp,5,(Ya m 3).length,W6 kU8 (Ya m 3),List.Mem.head _,pk,fun i j=>by rw [Nat.zero_add]⟩),⟨.inl ⟨rfl,rfl⟩,trivial⟩⟩ rfl pZ6 pj (X3 rfl) trivial)] pZ8 pZ8 ?_
   refine eN ⟨[aa,pv 0 0,aa,pv 1 0,aa,Y7 3 kU8 0 ((Ya m 3)++W2 m.X6).length,aa,aa,aa,aa,aa,aa,aa,aa,aa,aa,aa,aa,aa,aa,aa,aa,aa,aa,aa,aa,aa,aa,aa,aa,aa,aa,aa,aa,aa,aa,aa,aa,aa,aa,aa,vB (Xp m.X1).X6],[(Z8n tm m),(Z8q m),.live (Xf 5 kU8 (Ya m 3)),.live (Xf 5 kU8 ((Ya m 3)++W2 m.X6))]⟩ ?_
   refine X8 (s':=⟨(Z8z m),(Z90 tm m)⟩) (fun _ _ hG=>Wi [0,1,3] (bm 6 42) (t1:=[aa,pv 0 0,aa,pv 1 0,aa,Y7 3 kU8 0 (Ya m 4).length]) (t2:=[aa,pv 0 0,aa,pv 1 0,aa,Y7 3 kU8 0 ((Ya m 3)++W2 m.X6).length]) (h1:=(Z90 tm m)) (h2:=[(Z8n tm m),(Z8q m),.live (Xf 5 kU8 ((Ya m 3)++W2 m.X6))]) (by have e1:((Ya m 4).length:Nat)=((Ya m 3)++W2 m.X6).length:=px;have hE:=congrArg (fun (q1:Nat)=>([aa,pv 0 0,aa,pv 1 0,aa,Y7 3 kU8 0 q1]:List AV)) e1;exact hE) (by have e1:((Ya m 4):List UInt8)=(Ya m 3)++W2 m.X6:=px;have hE:=congrArg (fun (q1:List UInt8)=>([(Z8n tm m),(Z8q m),.live (Xf 5 kU8 q1)]:List HS)) e1;exact hE) hG) ?_
   exact nJ
  have hbt:¬Uy (Xp m.X1) 3=true:=hq5;have hst:Ya m 4=Ya m 3:=X0z (j:=3) hbt
  replace hq5:=Bool.eq_false_iff.2 hq5
  refine cF hq5 (T.skip ?_)
  refine eN ⟨[aa,pv 0 0,aa,pv 1 0,aa,Y7 2 kU8 0 (Ya m 3).length,aa,aa,aa,aa,aa,aa,aa,aa,aa,aa,aa,aa,aa,aa,aa,aa,aa,aa,aa,aa,aa,aa,aa,aa,aa,aa,aa,aa,aa,aa,aa,aa,aa,aa,aa,vB (Xp m.X1).X6],(Z8x tm m)⟩ ?_
  refine X8 (s':=⟨(Z8z m),(Z90 tm m)⟩) (fun _ _ hG=>Yp [0,1,2] (bm 6 42) (t2:=(Z8w m)) (h2:=(Z8x tm m)) (by have e1:((Ya m 4).length:Nat)=(Ya m 3).length:=px;have hE:=congrArg (fun (q1:Nat)=>([aa,pv 0 0,aa,pv 1 0,aa,Y7 2 kU8 0 q1]:List AV)) e1;exact hE) (by have e1:((Ya m 4):List UInt8)=(Ya m 3):=px;have hE:=congrArg (fun (q1:List UInt8)=>([(Z8n tm m),(Z8q m),.live (Xf 5 kU8 q1)]:List HS)) e1;exact hE) hG) ?_
  exact nJ
 refine Uk ⟨(Z91 m),(Z92 tm m)⟩ ?_ ?_
 ·refine sR [] ?_
  by_cases hq6:(Xp m.X1).Xc=true
  ·have hbt:Uy (Xp m.X1) 4=true:=hq6;have hst:Ya m 5=Ya m 4++W2 m.Xc:=(F1 (j:=4) (i:=4) rfl hbt);have hrm:=Hg (m:=m) (j:=4) (i:=4) rfl hbt (by decide);simp only [Fh,List.length_append,Wt,Vi] at hrm
   refine cT hq6 (xK [hR 3 rfl rfl (Wx (I4 true false (Ya m 4) tm false m.Xc (by omega)) Tryz.func64 rfl (by decide) [3] [2] (l:=[(.tmp 49,Y7 2 kU8 0 (Ya m 4).length),(.tmp 51,slV tm false kU8 m.Xc)]) [(2,.live (Xf 5 kU8 (Ya m 4)))] rfl 0 1 rfl rfl rfl rfl rfl rfl rfl rfl rfl ⟨.inr (.inl ⟨rfl,pZs,rfl,rfl,by simp,5,(Ya m 4).length,W6 kU8 (Ya m 4),List.Mem.head _,pk,fun i j=>by rw [Nat.zero_add]⟩),⟨.inl ⟨rfl,rfl⟩,trivial⟩⟩ rfl pZ6 pj (X3 rfl) trivial)] ?_)
   refine eN ⟨[aa,pv 0 0,aa,pv 1 0,aa,Y7 3 kU8 0 ((Ya m 4)++W2 m.Xc).length,aa,aa,aa,aa,aa,aa,aa,aa,aa,aa,aa,aa,aa,aa,aa,aa,aa,aa,aa,aa,aa,aa,aa,aa,aa,aa,aa,aa,aa,aa,aa,aa,aa,aa,aa,aa,aa,aa,aa,aa,aa,aa,vB (Xp m.X1).Xc],[(Z8n tm m),(Z8q m),.live (Xf 5 kU8 (Ya m 4)),.live (Xf 5 kU8 ((Ya m 4)++W2 m.Xc))]⟩ ?_
   refine X8 (s':=⟨(Z91 m),(Z92 tm m)⟩) (fun _ _ hG=>Wi [0,1,3] (bm 6 42) (t1:=[aa,pv 0 0,aa,pv 1 0,aa,Y7 3 kU8 0 (Ya m 5).length]) (t2:=[aa,pv 0 0,aa,pv 1 0,aa,Y7 3 kU8 0 ((Ya m 4)++W2 m.Xc).length]) (h1:=(Z92 tm m)) (h2:=[(Z8n tm m),(Z8q m),.live (Xf 5 kU8 ((Ya m 4)++W2 m.Xc))]) (by have e1:((Ya m 5).length:Nat)=((Ya m 4)++W2 m.Xc).length:=px;have hE:=congrArg (fun (q1:Nat)=>([aa,pv 0 0,aa,pv 1 0,aa,Y7 3 kU8 0 q1]:List AV)) e1;exact hE) (by have e1:((Ya m 5):List UInt8)=(Ya m 4)++W2 m.Xc:=px;have hE:=congrArg (fun (q1:List UInt8)=>([(Z8n tm m),(Z8q m),.live (Xf 5 kU8 q1)]:List HS)) e1;exact hE) hG) ?_
   exact nJ
  have hbt:¬Uy (Xp m.X1) 4=true:=hq6;have hst:Ya m 5=Ya m 4:=X0z (j:=4) hbt
  replace hq6:=Bool.eq_false_iff.2 hq6
  refine cF hq6 (T.skip ?_)
  refine eN ⟨[aa,pv 0 0,aa,pv 1 0,aa,Y7 2 kU8 0 (Ya m 4).length,aa,aa,aa,aa,aa,aa,aa,aa,aa,aa,aa,aa,aa,aa,aa,aa,aa,aa,aa,aa,aa,aa,aa,aa,aa,aa,aa,aa,aa,aa,aa,aa,aa,aa,aa,aa,aa,aa,aa,aa,aa,aa,vB (Xp m.X1).Xc],(Z90 tm m)⟩ ?_
  refine X8 (s':=⟨(Z91 m),(Z92 tm m)⟩) (fun _ _ hG=>Yp [0,1,2] (bm 6 42) (t2:=(Z8z m)) (h2:=(Z90 tm m)) (by have e1:((Ya m 5).length:Nat)=(Ya m 4).length:=px;have hE:=congrArg (fun (q1:Nat)=>([aa,pv 0 0,aa,pv 1 0,aa,Y7 2 kU8 0 q1]:List AV)) e1;exact hE) (by have e1:((Ya m 5):List UInt8)=(Ya m 4):=px;have hE:=congrArg (fun (q1:List UInt8)=>([(Z8n tm m),(Z8q m),.live (Xf 5 kU8 q1)]:List HS)) e1;exact hE) hG) ?_
  exact nJ
 refine Uk ⟨(Z93 m),(Z94 tm m)⟩ ?_ ?_
 ·refine sR [] ?_
  by_cases hq7:(Xp m.X1).X0=true
  ·have hbt:Uy (Xp m.X1) 5=true:=hq7;have hst:Ya m 6=Ya m 5++Yv m.X0.Xu++Yv m.X0.Xl:=(F1 (j:=5) (i:=5) rfl hbt).trans (List.append_assoc ..).symm;have hrm:=Hg (m:=m) (j:=5) (i:=5) rfl hbt (by decide);simp only [Fh,List.length_append,Wt,Vi] at hrm
   refine cT hq7 ?_
   refine xD [[],[],[1],[1,2],[0,1,2,3],[],[5],[5,6],[0,1,2,3,4,5,6,7],[0,1,2,3,4,5,6,7,8]] [hR 4 rfl rfl (Wx (Ue true false (Ya m 5) m.X0.Xu (by omega)) Tryz.func63 rfl (by decide) [3] [2] (l:=[(.tmp 55,Y7 2 kU8 0 (Ya m 5).length),(.tmp 58,vI m.X0.Xu)]) [(2,.live (Xf 5 kU8 (Ya m 5)))] rfl 0 1 rfl rfl rfl rfl rfl rfl rfl rfl rfl ⟨.inr (.inl ⟨rfl,pZs,rfl,rfl,by simp,5,(Ya m 5).length,W6 kU8 (Ya m 5),List.Mem.head _,pk,fun i j=>by rw [Nat.zero_add]⟩),⟨.inl ⟨rfl,rfl⟩,trivial⟩⟩ rfl pZ6 pj (X3 rfl) trivial),hR 8 rfl rfl (Wx (Ue true false ((Ya m 5)++Yv m.X0.Xu) m.X0.Xl pz) Tryz.func63 rfl (by decide) [4] [3] (l:=[(.tmp 59,Y7 3 kU8 0 ((Ya m 5)++Yv m.X0.Xu).length),(.tmp 62,vI m.X0.Xl)]) [(3,.live (Xf 5 kU8 ((Ya m 5)++Yv m.X0.Xu)))] rfl 0 1 rfl rfl rfl rfl rfl rfl rfl rfl rfl ⟨.inr (.inl ⟨rfl,pZs,rfl,rfl,by simp,5,((Ya m 5)++Yv m.X0.Xu).length,W6 kU8 ((Ya m 5)++Yv m.X0.Xu),List.Mem.head _,pk,fun i j=>by rw [Nat.zero_add]⟩),⟨.inl ⟨rfl,rfl⟩,trivial⟩⟩ rfl pZ6 pj (X3 rfl) trivial)] pZ8 pZ8 pZ8 pZ8 pZ8 pZ8 ?_
   refine eN ⟨[aa,pv 0 0,aa,pv 1 0,aa,(Z95 m),aa,aa,aa,aa,aa,aa,aa,aa,aa,aa,aa,aa,aa,aa,aa,aa,aa,aa,aa,aa,aa,aa,aa,aa,aa,aa,aa,aa,aa,aa,aa,aa,aa,aa,aa,aa,aa,aa,aa,aa,aa,aa,aa,aa,aa,aa,aa,aa,vB (Xp m.X1).X0],[(Z8n tm m),(Z8q m),.live (Xf 5 kU8 (Ya m 5)),.live (Xf 5 kU8 ((Ya m 5)++Yv m.X0.Xu)),.live (Xf 5 kU8 ((Ya m 5)++Yv m.X0.Xu++Yv m.X0.Xl))]⟩ ?_
   refine X8 (s':=⟨(Z93 m),(Z94 tm m)⟩) (fun _ _ hG=>Wi [0,1,4] (bm 6 42) (t1:=[aa,pv 0 0,aa,pv 1 0,aa,Y7 4 kU8 0 (Ya m 6).length]) (t2:=[aa,pv 0 0,aa,pv 1 0,aa,(Z95 m)]) (h1:=(Z94 tm m)) (h2:=[(Z8n tm m),(Z8q m),.live (Xf 5 kU8 ((Ya m 5)++Yv m.X0.Xu++Yv m.X0.Xl))]) (by have e1:((Ya m 6).length:Nat)=((Ya m 5)++Yv m.X0.Xu++Yv m.X0.Xl).length:=px;have hE:=congrArg (fun (q1:Nat)=>([aa,pv 0 0,aa,pv 1 0,aa,Y7 4 kU8 0 q1]:List AV)) e1;exact hE) (by have e1:((Ya m 6):List UInt8)=(Ya m 5)++Yv m.X0.Xu++Yv m.X0.Xl:=px;have hE:=congrArg (fun (q1:List UInt8)=>([(Z8n tm m),(Z8q m),.live (Xf 5 kU8 q1)]:List HS)) e1;exact hE) hG) ?_
   exact nJ
  have hbt:¬Uy (Xp m.X1) 5=true:=hq7;have hst:Ya m 6=Ya m 5:=X0z (j:=5) hbt
  replace hq7:=Bool.eq_false_iff.2 hq7
  refine cF hq7 (T.skip ?_)
  refine eN ⟨[aa,pv 0 0,aa,pv 1 0,aa,Y7 2 kU8 0 (Ya m 5).length,aa,aa,aa,aa,aa,aa,aa,aa,aa,aa,aa,aa,aa,aa,aa,aa,aa,aa,aa,aa,aa,aa,aa,aa,aa,aa,aa,aa,aa,aa,aa,aa,aa,aa,aa,aa,aa,aa,aa,aa,aa,aa,aa,aa,aa,aa,aa,aa,vB (Xp m.X1).X0],(Z92 tm m)⟩ ?_
  refine X8 (s':=⟨(Z93 m),(Z94 tm m)⟩) (fun _ _ hG=>Yp [0,1,2] (bm 6 42) (t2:=(Z91 m)) (h2:=(Z92 tm m)) (by have e1:((Ya m 6).length:Nat)=(Ya m 5).length:=px;have hE:=congrArg (fun (q1:Nat)=>([aa,pv 0 0,aa,pv 1 0,aa,Y7 2 kU8 0 q1]:List AV)) e1;exact hE) (by have e1:((Ya m 6):List UInt8)=(Ya m 5):=px;have hE:=congrArg (fun (q1:List UInt8)=>([(Z8n tm m),(Z8q m),.live (Xf 5 kU8 q1)]:List HS)) e1;exact hE) hG) ?_
  exact nJ
 refine Uk ⟨(Z96 m),(Z97 tm m)⟩ ?_ ?_
 ·refine sR [] ?_
  by_cases hq8:(Xp m.X1).Xa=true
  ·have hbt:Uy (Xp m.X1) 6=true:=hq8;have hst:Ya m 7=Ya m 6++Vd m.Xa:=(F1 (j:=6) (i:=6) rfl hbt);have hrm:=Hg (m:=m) (j:=6) (i:=6) rfl hbt (by decide);simp only [Fh,List.length_append,Wt,Vi] at hrm
   refine cT hq8 (xK [hR 3 rfl rfl (Wx (X3x true false (Ya m 6) tm false tm m.Xa (by omega) (by omega)) Tryz.func65 rfl (by decide) [3] [2] (l:=[(.tmp 66,Y7 2 kU8 0 (Ya m 6).length),(.tmp 68,slV tm false (kE tm) m.Xa)]) [(2,.live (Xf 5 kU8 (Ya m 6)))] rfl 0 1 rfl rfl rfl rfl rfl rfl rfl rfl rfl ⟨.inr (.inl ⟨rfl,pZs,rfl,rfl,by simp,5,(Ya m 6).length,W6 kU8 (Ya m 6),List.Mem.head _,pk,fun i j=>by rw [Nat.zero_add]⟩),⟨.inl ⟨rfl,rfl⟩,trivial⟩⟩ rfl pZ6 pj (X3 rfl) trivial)] ?_)
   refine eN ⟨[aa,pv 0 0,aa,pv 1 0,aa,Y7 3 kU8 0 ((Ya m 6)++Vd m.Xa).length,aa,aa,aa,aa,aa,aa,aa,aa,aa,aa,aa,aa,aa,aa,aa,aa,aa,aa,aa,aa,aa,aa,aa,aa,aa,aa,aa,aa,aa,aa,aa,aa,aa,aa,aa,aa,aa,aa,aa,aa,aa,aa,aa,aa,aa,aa,aa,aa,aa,aa,aa,aa,aa,aa,aa,aa,aa,aa,aa,vB (Xp m.X1).Xa],[(Z8n tm m),(Z8q m),.live (Xf 5 kU8 (Ya m 6)),.live (Xf 5 kU8 ((Ya m 6)++Vd m.Xa))]⟩ ?_
   refine X8 (s':=⟨(Z96 m),(Z97 tm m)⟩) (fun _ _ hG=>Wi [0,1,3] (bm 6 42) (t1:=[aa,pv 0 0,aa,pv 1 0,aa,Y7 3 kU8 0 (Ya m 7).length]) (t2:=[aa,pv 0 0,aa,pv 1 0,aa,Y7 3 kU8 0 ((Ya m 6)++Vd m.Xa).length]) (h1:=(Z97 tm m)) (h2:=[(Z8n tm m),(Z8q m),.live (Xf 5 kU8 ((Ya m 6)++Vd m.Xa))]) (by have e1:((Ya m 7).length:Nat)=((Ya m 6)++Vd m.Xa).length:=px;have hE:=congrArg (fun (q1:Nat)=>([aa,pv 0 0,aa,pv 1 0,aa,Y7 3 kU8 0 q1]:List AV)) e1;exact hE) (by have e1:((Ya m 7):List UInt8)=(Ya m 6)++Vd m.Xa:=px;have hE:=congrArg (fun (q1:List UInt8)=>([(Z8n tm m),(Z8q m),.live (Xf 5 kU8 q1)]:List HS)) e1;exact hE) hG) ?_
   exact nJ
  have hbt:¬Uy (Xp m.X1) 6=true:=hq8;have hst:Ya m 7=Ya m 6:=X0z (j:=6) hbt
  replace hq8:=Bool.eq_false_iff.2 hq8
  refine cF hq8 (T.skip ?_)
  refine eN ⟨[aa,pv 0 0,aa,pv 1 0,aa,Y7 2 kU8 0 (Ya m 6).length,aa,aa,aa,aa,aa,aa,aa,aa,aa,aa,aa,aa,aa,aa,aa,aa,aa,aa,aa,aa,aa,aa,aa,aa,aa,aa,aa,aa,aa,aa,aa,aa,aa,aa,aa,aa,aa,aa,aa,aa,aa,aa,aa,aa,aa,aa,aa,aa,aa,aa,aa,aa,aa,aa,aa,aa,aa,aa,aa,vB (Xp m.X1).Xa],(Z94 tm m)⟩ ?_
  refine X8 (s':=⟨(Z96 m),(Z97 tm m)⟩) (fun _ _ hG=>Yp [0,1,2] (bm 6 42) (t2:=(Z93 m)) (h2:=(Z94 tm m)) (by have e1:((Ya m 7).length:Nat)=(Ya m 6).length:=px;have hE:=congrArg (fun (q1:Nat)=>([aa,pv 0 0,aa,pv 1 0,aa,Y7 2 kU8 0 q1]:List AV)) e1;exact hE) (by have e1:((Ya m 7):List UInt8)=(Ya m 6):=px;have hE:=congrArg (fun (q1:List UInt8)=>([(Z8n tm m),(Z8q m),.live (Xf 5 kU8 q1)]:List HS)) e1;exact hE) hG) ?_
  exact nJ
 refine Uk ⟨(Z98 m),(Z99 tm m)⟩ ?_ ?_
 ·refine sR [] ?_
  by_cases hq9:(Xp m.X1).Xw=true
  ·have hbt:Uy (Xp m.X1) 7=true:=hq9;have hst:Ya m 8=Ya m 7++Vd m.Xw:=(F1 (j:=7) (i:=7) rfl hbt);have hrm:=Hg (m:=m) (j:=7) (i:=7) rfl hbt (by decide);simp only [Fh,List.length_append,Wt,Vi] at hrm
   refine cT hq9 (xK [hR 3 rfl rfl (Wx (X3x true false (Ya m 7) tm false tm m.Xw (by omega) (by omega)) Tryz.func65 rfl (by decide) [3] [2] (l:=[(.tmp 72,Y7 2 kU8 0 (Ya m 7).length),(.tmp 74,slV tm false (kE tm) m.Xw)]) [(2,.live (Xf 5 kU8 (Ya m 7)))] rfl 0 1 rfl rfl rfl rfl rfl rfl rfl rfl rfl ⟨.inr (.inl ⟨rfl,pZs,rfl,rfl,by simp,5,(Ya m 7).length,W6 kU8 (Ya m 7),List.Mem.head _,pk,fun i j=>by rw [Nat.zero_add]⟩),⟨.inl ⟨rfl,rfl⟩,trivial⟩⟩ rfl pZ6 pj (X3 rfl) trivial)] ?_)
   refine eN ⟨[aa,pv 0 0,aa,pv 1 0,aa,Y7 3 kU8 0 ((Ya m 7)++Vd m.Xw).length,aa,aa,aa,aa,aa,aa,aa,aa,aa,aa,aa,aa,aa,aa,aa,aa,aa,aa,aa,aa,aa,aa,aa,aa,aa,aa,aa,aa,aa,aa,aa,aa,aa,aa,aa,aa,aa,aa,aa,aa,aa,aa,aa,aa,aa,aa,aa,aa,aa,aa,aa,aa,aa,aa,aa,aa,aa,aa,aa,aa,aa,aa,aa,aa,aa,vB (Xp m.X1).Xw],[(Z8n tm m),(Z8q m),.live (Xf 5 kU8 (Ya m 7)),.live (Xf 5 kU8 ((Ya m 7)++Vd m.Xw))]⟩ ?_
   refine X8 (s':=⟨(Z98 m),(Z99 tm m)⟩) (fun _ _ hG=>Wi [0,1,3] (bm 6 42) (t1:=[aa,pv 0 0,aa,pv 1 0,aa,Y7 3 kU8 0 (Ya m 8).length]) (t2:=[aa,pv 0 0,aa,pv 1 0,aa,Y7 3 kU8 0 ((Ya m 7)++Vd m.Xw).length]) (h1:=(Z99 tm m)) (h2:=[(Z8n tm m),(Z8q m),.live (Xf 5 kU8 ((Ya m 7)++Vd m.Xw))]) (by have e1:((Ya m 8).length:Nat)=((Ya m 7)++Vd m.Xw).length:=px;have hE:=congrArg (fun (q1:Nat)=>([aa,pv 0 0,aa,pv 1 0,aa,Y7 3 kU8 0 q1]:List AV)) e1;exact hE) (by have e1:((Ya m 8):List UInt8)=(Ya m 7)++Vd m.Xw:=px;have hE:=congrArg (fun (q1:List UInt8)=>([(Z8n tm m),(Z8q m),.live (Xf 5 kU8 q1)]:List HS)) e1;exact hE) hG) ?_
   exact nJ
  have hbt:¬Uy (Xp m.X1) 7=true:=hq9;have hst:Ya m 8=Ya m 7:=X0z (j:=7) hbt
  replace hq9:=Bool.eq_false_iff.2 hq9
  refine cF hq9 (T.skip ?_)
  refine eN ⟨[aa,pv 0 0,aa,pv 1 0,aa,Y7 2 kU8 0 (Ya m 7).length,aa,aa,aa,aa,aa,aa,aa,aa,aa,aa,aa,aa,aa,aa,aa,aa,aa,aa,aa,aa,aa,aa,aa,aa,aa,aa,aa,aa,aa,aa,aa,aa,aa,aa,aa,aa,aa,aa,aa,aa,aa,aa,aa,aa,aa,aa,aa,aa,aa,aa,aa,aa,aa,aa,aa,aa,aa,aa,aa,aa,aa,aa,aa,aa,aa,vB (Xp m.X1).Xw],(Z97 tm m)⟩ ?_
  refine X8 (s':=⟨(Z98 m),(Z99 tm m)⟩) (fun _ _ hG=>Yp [0,1,2] (bm 6 42) (t2:=(Z96 m)) (h2:=(Z97 tm m)) (by have e1:((Ya m 8).length:Nat)=(Ya m 7).length:=px;have hE:=congrArg (fun (q1:Nat)=>([aa,pv 0 0,aa,pv 1 0,aa,Y7 2 kU8 0 q1]:List AV)) e1;exact hE) (by have e1:((Ya m 8):List UInt8)=(Ya m 7):=px;have hE:=congrArg (fun (q1:List UInt8)=>([(Z8n tm m),(Z8q m),.live (Xf 5 kU8 q1)]:List HS)) e1;exact hE) hG) ?_
  exact nJ
 refine Uk ⟨(Z9a m),(Z9b tm m)⟩ ?_ ?_
 ·refine sR [] ?_
  by_cases hq10:(Xp m.X1).X5=true
  rotate_left
  ·have hbt:¬Uy (Xp m.X1) 8=true:=hq10;have hst:Ya m 9=Ya m 8:=X0z (j:=8) hbt
   replace hq10:=Bool.eq_false_iff.2 hq10
   refine cF hq10 (T.skip ?_)
   refine eN ⟨[aa,pv 0 0,aa,pv 1 0,aa,Y7 2 kU8 0 (Ya m 8).length,aa,aa,aa,aa,aa,aa,aa,aa,aa,aa,aa,aa,aa,aa,aa,aa,aa,aa,aa,aa,aa,aa,aa,aa,aa,aa,aa,aa,aa,aa,aa,aa,aa,aa,aa,aa,aa,aa,aa,aa,aa,aa,aa,aa,aa,aa,aa,aa,aa,aa,aa,aa,aa,aa,aa,aa,aa,aa,aa,aa,aa,aa,aa,aa,aa,aa,aa,aa,aa,aa,aa,vB (Xp m.X1).X5],(Z99 tm m)⟩ ?_
   refine X8 (s':=⟨(Z9a m),(Z9b tm m)⟩) (fun _ _ hG=>Yp [0,1,2] (bm 6 42) (t2:=(Z98 m)) (h2:=(Z99 tm m)) (by have e1:((Ya m 9).length:Nat)=(Ya m 8).length:=px;have hE:=congrArg (fun (q1:Nat)=>([aa,pv 0 0,aa,pv 1 0,aa,Y7 2 kU8 0 q1]:List AV)) e1;exact hE) (by have e1:((Ya m 9):List UInt8)=(Ya m 8):=px;have hE:=congrArg (fun (q1:List UInt8)=>([(Z8n tm m),(Z8q m),.live (Xf 5 kU8 q1)]:List HS)) e1;exact hE) hG) ?_
   exact nJ
  have hbt:Uy (Xp m.X1) 8=true:=hq10;have hst:Ya m 9=Ya m 8++Hs m.X5:=(F1 (j:=8) (i:=8) rfl hbt);have hrm:=Hg (m:=m) (j:=8) (i:=8) rfl hbt (by decide);simp only [Fh,List.length_append,Wt,Vi] at hrm
  refine cT hq10 (sR [hR 4 rfl rfl (Wx (E8 true false (Ya m 8) ((m.X5.length:Nat):Int) (by omega)) Tryz.func66 rfl (by decide) [3] [2] (l:=[(.tmp 78,Y7 2 kU8 0 (Ya m 8).length),(.tmp 81,vI ((m.X5.length:Nat):Int))]) [(2,.live (Xf 5 kU8 (Ya m 8)))] rfl 0 1 rfl rfl rfl rfl rfl rfl rfl rfl rfl ⟨.inr (.inl ⟨rfl,pZs,rfl,rfl,by simp,5,(Ya m 8).length,W6 kU8 (Ya m 8),List.Mem.head _,pk,fun i j=>by rw [Nat.zero_add]⟩),⟨.inl ⟨rfl,rfl⟩,trivial⟩⟩ rfl pZ6 pj (X3 rfl) trivial)] (sR [] (T.block ?_)))
  refine T.loop (ι:=Nat) (fun (k:Nat)=>(Z9e tm m k)) (fun (k:Nat)=>(k≤m.X5.length)) (fun (k:Nat)=>m.X5.length-k) (0) (Nat.zero_le _) (fun _ _ hG=>Wi [0,1,3] (bm 7 106) (t1:=[aa,pv 0 0,aa,pv 1 0,aa,Y7 3 kU8 0 ((Ya m 8)++U6 ((m.X5.length:Nat):Int)++Ih m.X5 0).length,vI 0]) (t2:=[aa,pv 0 0,aa,pv 1 0,aa,Y7 3 kU8 0 ((Ya m 8)++U6 ((m.X5.length:Nat):Int)).length,vI 0]) (h1:=(Z9f tm m)) (h2:=[(Z8n tm m),(Z8q m),.live (Xf 5 kU8 ((Ya m 8)++U6 ((m.X5.length:Nat):Int)))]) (by have e1:(((Ya m 8)++U6 ((m.X5.length:Nat):Int)++Ih m.X5 0).length:Nat)=((Ya m 8)++U6 ((m.X5.length:Nat):Int)).length:=(by (rw [crt_0,List.append_nil];done));have hE:=congrArg (fun (q1:Nat)=>([aa,pv 0 0,aa,pv 1 0,aa,Y7 3 kU8 0 q1,vI 0]:List AV)) e1;exact hE) (by have e1:(((Ya m 8)++U6 ((m.X5.length:Nat):Int)++Ih m.X5 0):List UInt8)=(Ya m 8)++U6 ((m.X5.length:Nat):Int):=(by (rw [crt_0,List.append_nil];done));have hE:=congrArg (fun (q1:List UInt8)=>([(Z8n tm m),(Z8q m),.live (Xf 5 kU8 q1)]:List HS)) e1;exact hE) hG) ?_
  rintro k hk
  show T _ _ (Z9e tm m k) _ _
  replace hk:k≤m.X5.length:=hk
  have hcle:=crt_le m.X5 k
  refine T.seq (sR [] ?_)
  by_cases hq11:((k:Nat):Int)<((m.X5.length:Nat):Int)
  ·have hcr:=crt_room (l:=m.X5) (k:=k) (by omega);have hvc:=X9c (m.X5.getD k zC).Xo;have hcl:=Ii ((m.X5.length:Nat):Int)
   refine cT (dT hq11) (T.skip (nT (T.seq (T.block ?_))))
   refine xD [[],[],[1],[],[1,2,3],[1,2,3,4],[1,2,3,4,5],[0,1,2,3,4,5,6],[],[8],[],[8,9,10],[8,9,10,11],[8,9,10,11,12],[0,1,2,3,4,5,6,7,8,9,10,11,12,13],[0,1,2,3,4,5,6,7,8,9,10,11,12,13,14]] [hR 4 rfl rfl (W9 tm false (kC tm) m.X5 k (k:=.i64) (i:=((k:Nat):Int)) Tryz.underlying76 Fy rfl rfl (by omega) (X3 rfl) trivial),hR 7 rfl rfl (Wx (Fq true false ((Ya m 8)++U6 ((m.X5.length:Nat):Int)++Ih m.X5 k) tm (m.X5.getD k zC).Yf pz) Tryz.func67 rfl (by decide) [3] [2] (l:=[(.tmp 90,(Z9c m k)),(.tmp 96,.tv (.agg [dI (m.X5.getD k zC).Yf.X2,.d (dsl tm false kU8 (m.X5.getD k zC).Yf.X7)]))]) [(2,(Z9d m k))] rfl 0 1 rfl rfl rfl rfl rfl rfl rfl rfl rfl ⟨.inr (.inl ⟨rfl,pZs,rfl,rfl,by simp,5,((Ya m 8)++U6 ((m.X5.length:Nat):Int)++Ih m.X5 k).length,W6 kU8 ((Ya m 8)++U6 ((m.X5.length:Nat):Int)++Ih m.X5 k),List.Mem.head _,pk,fun i j=>by rw [Nat.zero_add]⟩),⟨⟨.inl ⟨rfl,rfl⟩,⟨.inl ⟨rfl,rfl⟩,trivial⟩⟩,trivial⟩⟩ rfl pZ6 pj (X3 rfl) trivial),hR 11 rfl rfl (W9 tm false (kC tm) m.X5 k (k:=.i64) (i:=((k:Nat):Int)) Tryz.underlying76 Fy rfl rfl (by omega) (X3 rfl) trivial),hR 14 rfl rfl (Wx (X3x true false (((Ya m 8)++U6 ((m.X5.length:Nat):Int)++Ih m.X5 k)++Wd (m.X5.getD k zC).Yf) tm false tm (m.X5.getD k zC).Xo pz (by omega)) Tryz.func65 rfl (by decide) [4] [3] (l:=[(.tmp 97,Y7 3 kU8 0 (((Ya m 8)++U6 ((m.X5.length:Nat):Int)++Ih m.X5 k)++Wd (m.X5.getD k zC).Yf).length),(.tmp 103,slV tm false (kE tm) (m.X5.getD k zC).Xo)]) [(3,.live (Xf 5 kU8 (((Ya m 8)++U6 ((m.X5.length:Nat):Int)++Ih m.X5 k)++Wd (m.X5.getD k zC).Yf)))] rfl 0 1 rfl rfl rfl rfl rfl rfl rfl rfl rfl ⟨.inr (.inl ⟨rfl,pZs,rfl,rfl,by simp,5,(((Ya m 8)++U6 ((m.X5.length:Nat):Int)++Ih m.X5 k)++Wd (m.X5.getD k zC).Yf).length,W6 kU8 (((Ya m 8)++U6 ((m.X5.length:Nat):Int)++Ih m.X5 k)++Wd (m.X5.getD k zC).Yf),List.Mem.head _,pk,fun i j=>by rw [Nat.zero_add]⟩),⟨.inl ⟨rfl,rfl⟩,trivial⟩⟩ rfl pZ6 pj (X3 rfl) trivial)] pZ8 pZ8 pZ8 pZ8 pZ8 pZ8 ?_
   refine nB (nT (xK [hR 1 rfl rfl (Yg (u1:=.int .i64 ((k:Nat):Int)) (u2:=.int .i64 1) (v:=.int .i64 ((k+1:Nat):Int)) (W8 pb) (X3 rfl) ⟨rfl,trivial⟩)] ?_))
   refine nL (k+1) (show (k+1)≤m.X5.length from (by omega)) (show (m.X5.length-(k+1):Nat)<m.X5.length-k from (by omega)) (fun _ _ hG=>Wi [0,1,4] (bm 7 106) (t1:=[aa,pv 0 0,aa,pv 1 0,aa,Y7 4 kU8 0 ((Ya m 8)++U6 ((m.X5.length:Nat):Int)++Ih m.X5 (k+1)).length,(Z9g k)]) (t2:=[aa,pv 0 0,aa,pv 1 0,aa,Y7 4 kU8 0 (((Ya m 8)++U6 ((m.X5.length:Nat):Int)++Ih m.X5 k)++Wd (m.X5.getD k zC).Yf++Vd (m.X5.getD k zC).Xo).length,(Z9g k)]) (h1:=(Z9h tm m k)) (h2:=[(Z8n tm m),(Z8q m),.live (Xf 5 kU8 (((Ya m 8)++U6 ((m.X5.length:Nat):Int)++Ih m.X5 k)++Wd (m.X5.getD k zC).Yf++Vd (m.X5.getD k zC).Xo))]) (by have e1:(((Ya m 8)++U6 ((m.X5.length:Nat):Int)++Ih m.X5 (k+1)).length:Nat)=(((Ya m 8)++U6 ((m.X5.length:Nat):Int)++Ih m.X5 k)++Wd (m.X5.getD k zC).Yf++Vd (m.X5.getD k zC).Xo).length:=(by (rw [Xfj (by omega)];simp only [List.append_assoc];done));have hE:=congrArg (fun (q1:Nat)=>([aa,pv 0 0,aa,pv 1 0,aa,Y7 4 kU8 0 q1,(Z9g k)]:List AV)) e1;exact hE) (by have e1:(((Ya m 8)++U6 ((m.X5.length:Nat):Int)++Ih m.X5 (k+1)):List UInt8)=((Ya m 8)++U6 ((m.X5.length:Nat):Int)++Ih m.X5 k)++Wd (m.X5.getD k zC).Yf++Vd (m.X5.getD k zC).Xo:=(by (rw [Xfj (by omega)];simp only [List.append_assoc];done));have hE:=congrArg (fun (q1:List UInt8)=>([(Z8n tm m),(Z8q m),.live (Xf 5 kU8 q1)]:List HS)) e1;exact hE) hG)
  refine cF (dF hq11) (T.exit (xT (xT (xH ?_))))
  refine eN ⟨[aa,pv 0 0,aa,pv 1 0,aa,(Z9c m k),vI ((k:Nat):Int),aa,aa,aa,aa,aa,aa,aa,aa,aa,aa,aa,aa,aa,aa,aa,aa,aa,aa,aa,aa,aa,aa,aa,aa,aa,aa,aa,aa,aa,aa,aa,aa,aa,aa,aa,aa,aa,aa,aa,aa,aa,aa,aa,aa,aa,aa,aa,aa,aa,aa,aa,aa,aa,aa,aa,aa,aa,aa,aa,aa,aa,aa,aa,aa,aa,aa,aa,aa,aa,aa,aa,aa,aa,aa,aa,aa,aa,aa,aa,aa,vB (decide (((k:Nat):Int)<((m.X5.length:Nat):Int)))],[(Z8n tm m),(Z8q m),(Z9d m k)]⟩ ?_
  refine X8 (s':=⟨(Z9a m),(Z9b tm m)⟩) (fun _ _ hG=>Yp [0,1,2] (bm 6 42) (t2:=[aa,pv 0 0,aa,pv 1 0,aa,(Z9c m k)]) (h2:=[(Z8n tm m),(Z8q m),(Z9d m k)]) (by have e1:((Ya m 9).length:Nat)=((Ya m 8)++U6 ((m.X5.length:Nat):Int)++Ih m.X5 k).length:=p4v;have hE:=congrArg (fun (q1:Nat)=>([aa,pv 0 0,aa,pv 1 0,aa,Y7 2 kU8 0 q1]:List AV)) e1;exact hE) (by have e1:((Ya m 9):List UInt8)=((Ya m 8)++U6 ((m.X5.length:Nat):Int)++Ih m.X5 k):=p4v;have hE:=congrArg (fun (q1:List UInt8)=>([(Z8n tm m),(Z8q m),.live (Xf 5 kU8 q1)]:List HS)) e1;exact hE) hG) ?_
  exact nJ
 refine sR [] (T.ret ?_)
 refine eN ⟨(Z9i m),(Z9b tm m)⟩ ?_
 refine X8 (s':=⟨[aa,pv 0 0,slV false false kU8 (Ya m 9),pv 1 0,aa,slV false false kU8 (Ya m 9)],[(Z8n tm m),(Z8q m),.dead]⟩) (fun _ _ hG=>Gs.freeze (s:=⟨(Z9i m),(Z9b tm m)⟩) 2 (el:=W6 kU8 (Ya m 9)) (sz:=kU8.sz) (n:=(Ya m 9).length) rfl (kk2 ⟨(.inr pZ2),(kk2 ⟨(.inr pZ2),trivial⟩)⟩) ⟨pZ5,⟨pZ5,⟨(.inl ⟨rfl,rfl⟩),trivial⟩⟩⟩ hG) ?_
 exact eRt 2 (.one (dU (Ya m 9))) [] (congrArg (fun (q1:List UInt8)=>(slV false false kU8 q1:AV)) (by exact (if_pos hwl))) trivial
end Go.Proofs.YtnaopgohccacmaaGreat.Q
namespace Go.Proofs.YtnaopgohccacmaaGreat.Q
set_option linter.unusedVariables false
set_option linter.unusedSimpArgs false
theorem Xk4 (r:List UInt8) (e:Int):X0w (rdI r e):=by
  unfold rdI X0w
  split
  · have:=X1z (l:=r.take 8) (List.length_take_le _ _)
    unfold X3e
    split<;>omega
  · omega
theorem rdX_ok {r:List UInt8} {e:Int} (h:rdX r e=0):e=0∧r=[]:=by
  unfold rdX at h
  split at h
  · cases h
  · rename_i h1
    refine ⟨h,?_⟩
    cases r with
    | nil=>rfl
    | cons a r=>exact absurd ⟨h,by simp<;>omega⟩ h1
end Go.Proofs.YtnaopgohccacmaaGreat.Q
namespace Go.Proofs.YtnaopgohccacmaaGreat.Q
set_option linter.unusedVariables false
set_option linter.unusedSimpArgs false
theorem lim_big {rest:List UInt8} {M:Int} (hM:((rest.length:Nat):Int)≤M) (h:Vf (rest.take 4)≤(rest.drop 4).length):Yu M (rest.take 4)=0:=by
  unfold Yu
  rw [List.length_drop] at h
  rw [if_neg (by omega)]
theorem okY_any {rest:List UInt8} {e M M':Int} (hM:((rest.length:Nat):Int)≤M) (hM':((rest.length:Nat):Int)≤M') (h:okY rest e M):okY rest e M':=by
  obtain ⟨h1,h2⟩:=h
  exact ⟨⟨h1.1,h1.2.1,lim_big hM' h2⟩,h2⟩
theorem X7r {rest:List UInt8} {e M:Int}:Vo rest e M=0↔okY rest e M:=by
  unfold Vo okY
  constructor
  · intro h
    split at h
    · rename_i h1
      split at h
      · rename_i h2;exact ⟨h1,h2⟩
      · cases h
    · rename_i h1;exact absurd h (Xgp h1)
  · rintro ⟨h1,h2⟩
    rw [if_pos h1,if_pos h2]
theorem X4o {rest:List UInt8} {e M M':Int} (hM:((rest.length:Nat):Int)≤M) (hM':((rest.length:Nat):Int)≤M') (h:Vo rest e M=0):Vo rest e M'=0∧rdY rest e M'=rdY rest e M∧Vv rest e M'=Vv rest e M:=by
  have h1:=X7r.1 h
  have h2:=okY_any hM hM' h1
  exact ⟨X7r.2 h2,by rw [rdY,rdY,if_pos h1,if_pos h2],by rw [Vv,Vv,if_pos h1,if_pos h2]⟩
end Go.Proofs.YtnaopgohccacmaaGreat.Q
namespace Go.Proofs.YtnaopgohccacmaaGreat.Q
set_option linter.unusedVariables false
set_option linter.unusedSimpArgs false
def Vb (B r:List UInt8):Nat:=B.length-r.length
theorem X5y (B r:List UInt8):Vb B r≤B.length:=Nat.sub_le _ _
section
variable {B r:List UInt8}
theorem X0b (h:r <:+ B):B.drop (Vb B r)=r:=(List.suffix_iff_eq_drop.1 h).symm
theorem pos_0:Vb B B=0:=Nat.sub_self _
theorem rdR_suf (r:List UInt8) (e n m:Int):rdR r e n m <:+ r:=by unfold rdR;split<;>first|exact List.drop_suffix _ _|exact List.suffix_refl _
theorem rdYR_suf (r:List UInt8) (e m:Int):Vv r e m <:+ r:=by unfold Vv;split<;>first|exact (List.drop_suffix _ _).trans (List.drop_suffix _ _)|exact List.suffix_refl _
theorem sufR {e n m:Int} (h:r <:+ B):rdR r e n m <:+ B:=(rdR_suf _ _ _ _).trans h
theorem sufY {e m:Int} (h:r <:+ B):Vv r e m <:+ B:=(rdYR_suf _ _ _).trans h
theorem pos_of {a:Nat} (ha:a≤B.length) (h:B.drop a=r):a=Vb B r:=by
  subst h
  unfold Vb
  rw [List.length_drop]
  omega
theorem pos_R {e n m:Int} (h:r <:+ B):rfA B (Vb B r) e n m=Vb B (rdR r e n m):=pos_of (rfA_le (X5y _ _)) (by rw [rfA_drop,X0b h])
theorem pos_Y {e m:Int} (h:r <:+ B):X7a B (Vb B r) e m=Vb B (Vv r e m):=pos_of (rfYA_le (X5y _ _)) (by rw [Xjx,X0b h])
end
end Go.Proofs.YtnaopgohccacmaaGreat.Q
namespace Go.Proofs.YtnaopgohccacmaaGreat.Q
set_option linter.unusedVariables false
set_option linter.unusedSimpArgs false
set_option maxRecDepth 100000
def X3k (h:Int) (d s:List UInt8):List UInt8:=Yv h++W2 d++W2 s
def uD (M:Int) (b:List UInt8):List UInt8:=rdY (rdR b 0 8 0) (rdE b 0 8 0) M
def uR2 (M:Int) (b:List UInt8):List UInt8:=Vv (rdR b 0 8 0) (rdE b 0 8 0) M
def uE2 (M:Int) (b:List UInt8):Int:=Vo (rdR b 0 8 0) (rdE b 0 8 0) M
def uS (M:Int) (b:List UInt8):List UInt8:=rdY (uR2 M b) (uE2 M b) M
def uR3 (M:Int) (b:List UInt8):List UInt8:=Vv (uR2 M b) (uE2 M b) M
def uE3 (M:Int) (b:List UInt8):Int:=Vo (uR2 M b) (uE2 M b) M
def okU (M:Int) (b:List UInt8):Prop:=rdX (uR3 M b) (uE3 M b)=0∧0≤rdI b 0∧rdI b 0≤1099511627776
instance (M:Int) (b:List UInt8):Decidable (okU M b):=inferInstanceAs (Decidable (_∧_∧_))
def unH (M:Int) (b:List UInt8):Int:=if okU M b then rdI b 0 else 0
def unD (M:Int) (b:List UInt8):List UInt8:=if okU M b then uD M b else []
def unS (M:Int) (b:List UInt8):List UInt8:=if okU M b then uS M b else []
def unE (M:Int) (b:List UInt8):Int:=if okU M b then 0 else 12
theorem pack_len (h:Int) (d s:List UInt8):(X3k h d s).length=16+d.length+s.length:=by
  simp only [X3k,List.length_append,Wt,Vi];omega
theorem u_lens (M:Int) (b:List UInt8):(rdR b 0 8 0).length≤b.length∧(uR2 M b).length≤b.length∧(uR3 M b).length≤b.length∧(uD M b).length≤b.length∧(uS M b).length≤b.length:=by
  have h1:=U3 b 0 8 0
  have h2:(uR2 M b).length≤b.length:=Nat.le_trans (X1u _ _ _) h1
  exact ⟨h1,h2,Nat.le_trans (X1u _ _ _) h2,Nat.le_trans (X0n _ _ _) h1,Nat.le_trans (X0n _ _ _) h2⟩
theorem Xip {b:List UInt8} {M M':Int} (hM:((b.length:Nat):Int)≤M) (hM':((b.length:Nat):Int)≤M') (h:okU M b):okU M' b∧uD M' b=uD M b∧uS M' b=uS M b:=by
  obtain ⟨h1,h2⟩:=h
  obtain ⟨x1,x2⟩:=rdX_ok h1
  have l1:=U3 b 0 8 0
  have l2:=(u_lens M b).2.1
  have e2:uE2 M b=0:=(X7r.1 x1).1.1
  obtain ⟨a1,a2,a3⟩:=X4o (M':=M') (show (((rdR b 0 8 0).length:Nat):Int)≤M by omega) (by omega) e2
  have a1':uE2 M' b=uE2 M b:=a1.trans e2.symm
  have a3':uR2 M' b=uR2 M b:=a3
  obtain ⟨b1,b2,b3⟩:=X4o (M':=M') (show (((uR2 M b).length:Nat):Int)≤M by omega) (by omega) x1
  refine ⟨⟨?_,h2⟩,a2,by unfold uS;rw [a1',a3'];exact b2⟩
  unfold uR3 uE3
  rw [a1',a3',b3]
  show rdX (uR3 M b) (Vo (uR2 M b) (uE2 M b) M')=0
  rw [b1,← show uE3 M b=0 from x1]
  exact h1.trans x1.symm
theorem un_any {b:List UInt8} {M M':Int} (hM:((b.length:Nat):Int)≤M) (hM':((b.length:Nat):Int)≤M'):unH M b=unH M' b∧unD M b=unD M' b∧unS M b=unS M' b∧unE M b=unE M' b:=by
  unfold unH unD unS unE
  by_cases h:okU M b
  · obtain ⟨h1,h2,h3⟩:=Xip hM hM' h
    rw [if_pos h,if_pos h,if_pos h,if_pos h,if_pos h1,if_pos h1,if_pos h1,if_pos h1,h2,h3]
    exact ⟨rfl,rfl,rfl,rfl⟩
  · have h1:¬okU M' b:=fun h'=>h (Xip hM' hM h').1
    rw [if_neg h,if_neg h,if_neg h,if_neg h,if_neg h1,if_neg h1,if_neg h1,if_neg h1]
    exact ⟨rfl,rfl,rfl,rfl⟩
end Go.Proofs.YtnaopgohccacmaaGreat.Q
namespace Go.Proofs.YtnaopgohccacmaaGreat.Q
open Go Go.RowKit
set_option linter.unusedVariables false
set_option linter.unusedSimpArgs false
set_option maxRecDepth 100000
set_option maxHeartbeats 4000000
theorem Xeu (tb:Bool) (nb:Bool) (b:List UInt8) (hb:b.length≤1000000000):Holds Tryz.prog 60 ⟨[slV tb nb kU8 b],[],dv (Ys (ofB 7 [b])),[]⟩:=by
 refine Holds.of Tryz.func60 rfl (N:=5) Tryz.ntmps60 rfl fun w0 B0 S0 U0=>?_
 show T _ (Y5 5 0 w0 S0 U0 B0) ⟨[slV tb nb kU8 b],[]⟩ _ _
 refine sR [] (sR [hR 1 rfl rfl (rCa (X5o (7:UInt8) tb nb b (by omega)) Tryz.func118 [] [(.const (.int .u8 7),dv (.int .u8 7)),(.tmp 3,slV tb nb kU8 b)] 0 0)] (T.ret ?_))
 exact eRt 2 (.one (dS (ofB (7:UInt8) [b]))) [] p1o trivial
theorem Xgd (h:Int) (d:List UInt8) (ts:Bool) (ns:Bool) (s:List UInt8) (hd:d.length≤100000000) (hs:s.length≤100000000):Holds Tryz.prog 41 ⟨[vI h,dv (Ys d),slV ts ns kU8 s],[],Y7 0 kU8 0 (X3k h d s).length,[.live (Xf 5 kU8 (X3k h d s))]⟩:=by
 refine Holds.of Tryz.func41 rfl (N:=14) Tryz.ntmps41 rfl fun w0 B0 S0 U0=>?_
 show T _ (Y5 14 0 w0 S0 U0 B0) ⟨[vI h,dv (Ys d),slV ts ns kU8 s],[]⟩ _ _
 have hi:=Wt h
 have hb:=Vi d
 refine sR [] ?_
 refine sR [hR 1 rfl rfl (rCn (Ue false false ([]:List UInt8) h (by (simp [maxLen,-List.getD_eq_getElem?_getD]<;>omega))) Tryz.func63 [0] [(.const (.slice none 0 0),dv (.slice none 0 0)),(.tmp 7,vI h)] 0 1 ⟨.inr pq,⟨.inl ⟨rfl,rfl⟩,trivial⟩⟩ ⟨rfl,trivial⟩),hR 3 rfl rfl (Ju (l:=d) Tryz.underlying60 Tryz.underlying25 Tryz.underlying5 (X3 rfl) trivial),hR 4 rfl rfl (Wx (I4 true false (([]:List UInt8)++Yv h) false true d (by (simp [maxLen,-List.getD_eq_getElem?_getD]<;>omega))) Tryz.func64 rfl (by decide) [1] [0] (l:=[(.tmp 8,Y7 0 kU8 0 (([]:List UInt8)++Yv h).length),(.tmp 10,slV false true kU8 d)]) [(0,.live (Xf 5 kU8 (([]:List UInt8)++Yv h)))] rfl 0 1 rfl rfl rfl rfl rfl rfl rfl rfl rfl ⟨.inr (.inl ⟨rfl,pZs,rfl,rfl,by simp,5,(([]:List UInt8)++Yv h).length,W6 kU8 (([]:List UInt8)++Yv h),List.Mem.head _,pk,fun i j=>by rw [Nat.zero_add]⟩),⟨.inl ⟨rfl,rfl⟩,trivial⟩⟩ rfl pZ6 pj (X3 rfl) trivial),hR 6 rfl rfl (Wx (I4 true false (([]:List UInt8)++Yv h++W2 d) ts ns s (by (simp [maxLen,-List.getD_eq_getElem?_getD]<;>omega))) Tryz.func64 rfl (by decide) [2] [1] (l:=[(.tmp 11,Y7 1 kU8 0 (([]:List UInt8)++Yv h++W2 d).length),(.tmp 12,slV ts ns kU8 s)]) [(1,.live (Xf 5 kU8 (([]:List UInt8)++Yv h++W2 d)))] rfl 0 1 rfl rfl rfl rfl rfl rfl rfl rfl rfl ⟨.inr (.inl ⟨rfl,pZs,rfl,rfl,by simp,5,(([]:List UInt8)++Yv h++W2 d).length,W6 kU8 (([]:List UInt8)++Yv h++W2 d),List.Mem.head _,pk,fun i j=>by rw [Nat.zero_add]⟩),⟨.inl ⟨rfl,rfl⟩,trivial⟩⟩ rfl pZ6 pj (X3 rfl) trivial)] ?_
 refine T.ret ?_
 exact eRt 6 (.one (.own 2 kU8.sz 0 (([]:List UInt8)++Yv h++W2 d++W2 s).length)) [2] (congrArg (fun (q1:Nat)=>(Y7 2 kU8 0 q1:AV)) (by rfl)) ⟨⟨rfl,(by have e1:(([]:List UInt8)++Yv h++W2 d++W2 s:List UInt8)=X3k h d s:=(by rfl);have hE:=congrArg (fun (q1:List UInt8)=>(.live (Xf 5 kU8 q1):HS)) e1;exact Eq.trans pZ8 hE)⟩,trivial⟩
theorem Xgc (tb:Bool) (nb:Bool) (b:List UInt8) (hb:b.length≤1000000000):Holds Tryz.prog 42 ⟨[slV tb nb kU8 b],[],dv (Ys (ofB 7 [b])),[]⟩:=by
 refine Holds.of Tryz.func42 rfl (N:=5) Tryz.ntmps42 rfl fun w0 B0 S0 U0=>?_
 show T _ (Y5 5 0 w0 S0 U0 B0) ⟨[slV tb nb kU8 b],[]⟩ _ _
 refine sR [] (sR [hR 1 rfl rfl (rCa (X8v (7:UInt8) tb nb b (by omega)) Tryz.func93 [] [(.const (.int .u8 7),dv (.int .u8 7)),(.tmp 3,slV tb nb kU8 b)] 0 0)] (T.ret ?_))
 exact eRt 2 (.one (dS (ofB (7:UInt8) [b]))) [] p1o trivial
section
variable (tb:Bool) (nb:Bool) (b:List UInt8)
abbrev Z9j:=(rdY (rdR b 0 8 0) (rdE b 0 8 0) ((b.length:Nat):Int))
abbrev Z9k:AV:=vI (rdI b 0)
abbrev Z9l:AV:=dv (Ys (Z9j b))
abbrev Z9m:=(Vv (rdR b 0 8 0) (rdE b 0 8 0) ((b.length:Nat):Int))
abbrev Z9n:=(Vo (rdR b 0 8 0) (rdE b 0 8 0) ((b.length:Nat):Int))
abbrev Z9o:=(rdY (Z9m b) (Z9n b) ((b.length:Nat):Int))
abbrev Z9p:AV:=Y7 2 kU8 0 (Z9o b).length
abbrev Z9q:HS:=.live (.box 195 [dU (Vv (Z9m b) (Z9n b) ((b.length:Nat):Int)),dI (rdX (Vv (Z9m b) (Z9n b) ((b.length:Nat):Int)) (Vo (Z9m b) (Z9n b) ((b.length:Nat):Int)))])
abbrev Z9r:List HS:=[(Z9q b),.live (Xf 5 kU8 (Z9j b)),.live (Xf 5 kU8 (Z9o b))]
abbrev Z9s:St:=⟨[slV tb nb kU8 b,aa,vI 0,dv (Ys []),dv (.slice none 0 0),vI 12,pv 0 0,(Z9k b),(Z9l b),(Z9p b),aa,aa,aa,aa,aa,aa,aa,aa,aa,aa,aa,aa,aa,aa,aa,aa,aa,aa,aa,aa,aa,aa,aa,aa,aa,vB true],(Z9r b)⟩
abbrev Z9t:St:=⟨[slV tb nb kU8 b,aa,vI 0,dv (Ys []),slV false false kU8 ([]:List UInt8),vI 12,pv 0 0,(Z9k b),(Z9l b),(Z9p b),aa,aa,aa,aa,aa,aa,aa,aa,aa,aa,aa,aa,aa,aa,aa,aa,aa,aa,aa,aa,aa,aa,aa,aa,aa,vB true],(Z9r b)⟩
abbrev Z9u:TV:=.one (dI 0)
abbrev Z9v:TV:=.one (dS [])
abbrev Z9w:TV:=.one (dU ([]:List UInt8))
abbrev Z9x:AV:=vB (decide ((rdI b 0)>1099511627776))
abbrev Z9y:St:=⟨[slV tb nb kU8 b,aa,vI 0,dv (Ys []),dv (.slice none 0 0),vI 12,pv 0 0,(Z9k b),(Z9l b),(Z9p b),aa,aa,aa,aa,aa,aa,aa,aa,aa,aa,aa,aa,aa,aa,aa,aa,aa,aa,aa,aa,aa,aa,aa,aa,aa,(Z9x b)],(Z9r b)⟩
abbrev Z9z:St:=⟨[slV tb nb kU8 b,aa,(Z9k b),(Z9l b),(Z9p b),vI 0,pv 0 0,(Z9k b),(Z9l b),(Z9p b),aa,aa,aa,aa,aa,aa,aa,aa,aa,aa,aa,aa,aa,aa,aa,aa,aa,aa,aa,aa,aa,aa,aa,aa,aa,(Z9x b)],(Z9r b)⟩
end
theorem X3m (tb:Bool) (nb:Bool) (b:List UInt8) (hb:b.length≤100000000):Holds Tryz.prog 50 ⟨[slV tb nb kU8 b],[],.tup [.one (dI (unH ((b.length:Nat):Int) b)),.one (dS (unD ((b.length:Nat):Int) b)),.one (dU (unS ((b.length:Nat):Int) b)),.one (dI (unE ((b.length:Nat):Int) b))],[]⟩:=by
 refine Holds.of Tryz.func50 rfl (N:=39) Tryz.ntmps50 rfl fun w0 B0 S0 U0=>?_
 show T _ (Y5 39 0 w0 S0 U0 B0) ⟨[slV tb nb kU8 b],[]⟩ _ _
 have hu:=u_lens ((b.length:Nat):Int) b
 have hu1:=hu.1
 have hu2:=hu.2.1
 have hu3:=hu.2.2.1
 have hu4:=hu.2.2.2.1
 have hu5:=hu.2.2.2.2
 simp only [uR2,uR3,uE2,uD,uS] at hu2 hu3 hu4 hu5
 refine sR [] (sR [hR 1 rfl rfl (rCa (Xdh tb nb b (by omega)) Tryz.func104 [0] [(.tmp 10,slV tb nb kU8 b)] 0 1)] ?_)
 refine sD [[],[0],[],[],[3],[0,1,2,3,4],[0,1,2,3,4,5],[],[],[8],[0,1,2,3,4,5,7,8,9],[0,1,2,3,4,5,7,8,9,10],[0,1,2,3,4,5,6,7,8,9,10,11],[0,1,2,3,4,5,6,7,8,9,10,11,12]] [hR 1 rfl rfl (rCa (rd_Int b 0 (by omega)) Tryz.func105 [0] [(.tmp 12,pv 0 0)] 1 1),hR 5 rfl rfl (rCa (X1t (rdR b 0 8 0) (rdE b 0 8 0) ((b.length:Nat):Int) (by omega)) Tryz.func106 [0,1] [(.tmp 14,pv 0 0),(.tmp 16,vI ((b.length:Nat):Int))] 1 2),hR 6 rfl rfl (Fg () (rdY (rdR b 0 8 0) (rdE b 0 8 0) ((b.length:Nat):Int)) (ys:=(.own 1 kU8.sz 0 (Z9j b).length)) (rhs:=[(1,.live (Xf 5 kU8 (Z9j b)))]) Tryz.underlying25 Tryz.underlying5 Tryz.underlying60 (V0 1 5 kU8 (rdY (rdR b 0 8 0) (rdE b 0 8 0) ((b.length:Nat):Int))) (X3 rfl) trivial),hR 10 rfl rfl (rCa (X1t (Vv (rdR b 0 8 0) (rdE b 0 8 0) ((b.length:Nat):Int)) (Vo (rdR b 0 8 0) (rdE b 0 8 0) ((b.length:Nat):Int)) ((b.length:Nat):Int) (by omega)) Tryz.func106 [0,2] [(.tmp 19,pv 0 0),(.tmp 21,vI ((b.length:Nat):Int))] 1 2)] ?_
 refine T.seq (sR [hR 1 rfl rfl (rCa (Xgn (Vv (Vv (rdR b 0 8 0) (rdE b 0 8 0) ((b.length:Nat):Int)) (Vo (rdR b 0 8 0) (rdE b 0 8 0) ((b.length:Nat):Int)) ((b.length:Nat):Int)) (Vo (Vv (rdR b 0 8 0) (rdE b 0 8 0) ((b.length:Nat):Int)) (Vo (rdR b 0 8 0) (rdE b 0 8 0) ((b.length:Nat):Int)) ((b.length:Nat):Int)) (by omega)) Tryz.func107 [0] [(.tmp 23,pv 0 0)] 1 1)] ?_)
 by_cases hq1:(rdX (Vv (Vv (rdR b 0 8 0) (rdE b 0 8 0) ((b.length:Nat):Int)) (Vo (rdR b 0 8 0) (rdE b 0 8 0) ((b.length:Nat):Int)) ((b.length:Nat):Int)) (Vo (Vv (rdR b 0 8 0) (rdE b 0 8 0) ((b.length:Nat):Int)) (Vo (rdR b 0 8 0) (rdE b 0 8 0) ((b.length:Nat):Int)) ((b.length:Nat):Int)))≠0
 ·have hno:¬okU ((b.length:Nat):Int) b:=fun h9=>hq1 h9.1
  refine sR [hR 1 rfl rfl (rCa (X8y (Vv (Vv (rdR b 0 8 0) (rdE b 0 8 0) ((b.length:Nat):Int)) (Vo (rdR b 0 8 0) (rdE b 0 8 0) ((b.length:Nat):Int)) ((b.length:Nat):Int)) (rdX (Vv (Vv (rdR b 0 8 0) (rdE b 0 8 0) ((b.length:Nat):Int)) (Vo (rdR b 0 8 0) (rdE b 0 8 0) ((b.length:Nat):Int)) ((b.length:Nat):Int)) (Vo (Vv (rdR b 0 8 0) (rdE b 0 8 0) ((b.length:Nat):Int)) (Vo (rdR b 0 8 0) (rdE b 0 8 0) ((b.length:Nat):Int)) ((b.length:Nat):Int))) ) Tryz.func108 [0] [(.tmp 25,pv 0 0)] 1 1),hN 4 false (dT hq1),hN 5 false (dT hq1),hP 6 (dT hq1),hN0 8,hN0 9,hP1 10] (cT (b:=true) rfl (sR [] (T.ret (rT ?_))))
  refine eN (Z9s tb nb b) ?_
  refine X8 (s':=(Z9t tb nb b)) (fun _ _ hG=>Ym (s:=(Z9s tb nb b)) p4p ⟨.inl rfl,(kk2 trivial)⟩ hG) ?_
  exact eX [.t 2 (Z9u),.t 3 (Z9v),.t 4 (Z9w),.t 5 (.one (dI 12))] ⟨⟨rfl,by kernel_rfl⟩,⟨⟨rfl,by kernel_rfl⟩,⟨⟨rfl,by kernel_rfl⟩,⟨⟨rfl,by kernel_rfl⟩,trivial⟩⟩⟩⟩ [] (cg4 (fun (q1:Int) (q2:List UInt8) (q3:List UInt8) (q4:Int)=>(.tup [.one (dI q1),.one (dS q2),.one (dU q3),.one (dI q4)]:AV)) p2n p2n p2n p2n) trivial
 by_cases hq2:(rdI b 0)<0
 ·have hno:¬okU ((b.length:Nat):Int) b:=(fun h9=>by have h8:=h9.2.1;omega)
  refine sR [hR 1 rfl rfl (rCa (X8y (Vv (Vv (rdR b 0 8 0) (rdE b 0 8 0) ((b.length:Nat):Int)) (Vo (rdR b 0 8 0) (rdE b 0 8 0) ((b.length:Nat):Int)) ((b.length:Nat):Int)) (rdX (Vv (Vv (rdR b 0 8 0) (rdE b 0 8 0) ((b.length:Nat):Int)) (Vo (rdR b 0 8 0) (rdE b 0 8 0) ((b.length:Nat):Int)) ((b.length:Nat):Int)) (Vo (Vv (rdR b 0 8 0) (rdE b 0 8 0) ((b.length:Nat):Int)) (Vo (rdR b 0 8 0) (rdE b 0 8 0) ((b.length:Nat):Int)) ((b.length:Nat):Int))) ) Tryz.func108 [0] [(.tmp 25,pv 0 0)] 1 1),hY 4 (dF hq1),hY 5 (dF hq1),hP 6 (dF hq1),hN 8 false (dT hq2),hN 9 false (dT hq2),hP 10 (dT hq2)] (cT (b:=true) rfl (sR [] (T.ret (rT ?_))))
  refine eN (Z9s tb nb b) ?_
  refine X8 (s':=(Z9t tb nb b)) (fun _ _ hG=>Ym (s:=(Z9s tb nb b)) p4p ⟨.inl rfl,(kk2 trivial)⟩ hG) ?_
  exact eX [.t 2 (Z9u),.t 3 (Z9v),.t 4 (Z9w),.t 5 (.one (dI 12))] ⟨⟨rfl,by kernel_rfl⟩,⟨⟨rfl,by kernel_rfl⟩,⟨⟨rfl,by kernel_rfl⟩,⟨⟨rfl,by kernel_rfl⟩,trivial⟩⟩⟩⟩ [] (cg4 (fun (q1:Int) (q2:List UInt8) (q3:List UInt8) (q4:Int)=>(.tup [.one (dI q1),.one (dS q2),.one (dU q3),.one (dI q4)]:AV)) p2n p2n p2n p2n) trivial
 refine sR [hR 1 rfl rfl (rCa (X8y (Vv (Vv (rdR b 0 8 0) (rdE b 0 8 0) ((b.length:Nat):Int)) (Vo (rdR b 0 8 0) (rdE b 0 8 0) ((b.length:Nat):Int)) ((b.length:Nat):Int)) (rdX (Vv (Vv (rdR b 0 8 0) (rdE b 0 8 0) ((b.length:Nat):Int)) (Vo (rdR b 0 8 0) (rdE b 0 8 0) ((b.length:Nat):Int)) ((b.length:Nat):Int)) (Vo (Vv (rdR b 0 8 0) (rdE b 0 8 0) ((b.length:Nat):Int)) (Vo (rdR b 0 8 0) (rdE b 0 8 0) ((b.length:Nat):Int)) ((b.length:Nat):Int))) ) Tryz.func108 [0] [(.tmp 25,pv 0 0)] 1 1),hY 4 (dF hq1),hY 5 (dF hq1),hP 6 (dF hq1),hY 8 (dF hq2),hY 9 (dF hq2),hP 10 (dF hq2)] ?_
 by_cases hq3:(rdI b 0)>1099511627776
 ·have hno:¬okU ((b.length:Nat):Int) b:=(fun h9=>by have h8:=h9.2.2;omega)
  refine cT (dT hq3) (sR [] (T.ret (rT ?_)))
  refine eN (Z9y tb nb b) ?_
  refine X8 (s':=⟨[slV tb nb kU8 b,aa,vI 0,dv (Ys []),slV false false kU8 ([]:List UInt8),vI 12,pv 0 0,(Z9k b),(Z9l b),(Z9p b),aa,aa,aa,aa,aa,aa,aa,aa,aa,aa,aa,aa,aa,aa,aa,aa,aa,aa,aa,aa,aa,aa,aa,aa,aa,(Z9x b)],(Z9r b)⟩) (fun _ _ hG=>Ym (s:=(Z9y tb nb b)) p4p ⟨.inl rfl,(kk2 trivial)⟩ hG) ?_
  exact eX [.t 2 (Z9u),.t 3 (Z9v),.t 4 (Z9w),.t 5 (.one (dI 12))] ⟨⟨rfl,by kernel_rfl⟩,⟨⟨rfl,by kernel_rfl⟩,⟨⟨rfl,by kernel_rfl⟩,⟨⟨rfl,by kernel_rfl⟩,trivial⟩⟩⟩⟩ [] (cg4 (fun (q1:Int) (q2:List UInt8) (q3:List UInt8) (q4:Int)=>(.tup [.one (dI q1),.one (dS q2),.one (dU q3),.one (dI q4)]:AV)) p2n p2n p2n p2n) trivial
 have hok:okU ((b.length:Nat):Int) b:=⟨Classical.not_not.1 ‹_›,by omega,by omega⟩
 refine cF (dF hq3) (T.skip (nT (sR [] (T.ret ?_))))
 refine eN (Z9z tb nb b) ?_
 refine X8 (s':=⟨[slV tb nb kU8 b,aa,(Z9k b),(Z9l b),slV false false kU8 (Z9o b),vI 0,pv 0 0,(Z9k b),(Z9l b),slV false false kU8 (Z9o b),aa,aa,aa,aa,aa,aa,aa,aa,aa,aa,aa,aa,aa,aa,aa,aa,aa,aa,aa,aa,aa,aa,aa,aa,aa,(Z9x b)],[(Z9q b),.live (Xf 5 kU8 (Z9j b)),.dead]⟩) (fun _ _ hG=>Gs.freeze (s:=(Z9z tb nb b)) 2 (el:=W6 kU8 (rdY (Vv (rdR b 0 8 0) (rdE b 0 8 0) ((b.length:Nat):Int)) (Vo (rdR b 0 8 0) (rdE b 0 8 0) ((b.length:Nat):Int)) ((b.length:Nat):Int))) (sz:=kU8.sz) (n:=(rdY (Vv (rdR b 0 8 0) (rdE b 0 8 0) ((b.length:Nat):Int)) (Vo (rdR b 0 8 0) (rdE b 0 8 0) ((b.length:Nat):Int)) ((b.length:Nat):Int)).length) rfl (kk4 ⟨(.inr pZ2),(kk4 ⟨(.inr pZ2),(kk2 p2k)⟩)⟩) ⟨pZ5,⟨pZ5,⟨(.inl ⟨rfl,rfl⟩),trivial⟩⟩⟩ hG) ?_
 exact eX [.t 2 (.one (dI (rdI b 0))),.t 3 (.one (dS (Z9j b))),.t 4 (.one (dU (Z9o b))),.t 5 (Z9u)] ⟨⟨rfl,by kernel_rfl⟩,⟨⟨rfl,by kernel_rfl⟩,⟨⟨rfl,by kernel_rfl⟩,⟨⟨rfl,by kernel_rfl⟩,trivial⟩⟩⟩⟩ [] (cg4 (fun (q1:Int) (q2:List UInt8) (q3:List UInt8) (q4:Int)=>(.tup [.one (dI q1),.one (dS q2),.one (dU q3),.one (dI q4)]:AV)) (by exact (if_pos hok)) (by exact (if_pos hok)) (by exact (if_pos hok)) (by exact (if_pos hok))) trivial
section
variable (b:List UInt8)
end
theorem I3 (B:List UInt8) (r:List UInt8) (e:Int) (hs:r <:+ B) (hB:B.length≤140737488350000):Holds Tryz.prog 94 ⟨[pv 0 0],[.box 156 [dU B,dI ((Vb B r:Nat):Int),dI e]],vI (rdI r e),[.live (.box 156 [dU B,dI ((Vb B (rdR r e 8 0):Nat):Int),dI (rdE r e 8 0)])]⟩:=by
  have h:=Xgl B (Vb B r) e (X5y B r) hB
  simp only [X0b hs,pos_R hs,pos_Y hs] at h
  exact h
theorem X4l (B:List UInt8) (r:List UInt8) (e:Int) (most:Int) (hs:r <:+ B) (hB:B.length≤140737488350000):Holds Tryz.prog 137 ⟨[pv 0 0,vI most],[.box 156 [dU B,dI ((Vb B r:Nat):Int),dI e]],vI ((rdC r e most:Nat):Int),[.live (.box 156 [dU B,dI ((Vb B (rdR r e 4 (Yu most (r.take 4))):Nat):Int),dI (rdE r e 4 (Yu most (r.take 4)))])]⟩:=by
  have h:=X4m B (Vb B r) e most (X5y B r) hB
  simp only [X0b hs,pos_R hs,pos_Y hs] at h
  exact h
theorem Xgk (B:List UInt8) (r:List UInt8) (e:Int) (hs:r <:+ B) (hB:B.length≤140737488350000):Holds Tryz.prog 96 ⟨[pv 0 0],[.box 156 [dU B,dI ((Vb B r:Nat):Int),dI e]],.tup [],[.live (.box 156 [dU B,dI ((Vb B r:Nat):Int),dI (rdX r e)])]⟩:=by
  have h:=Xgm B (Vb B r) e (X5y B r) hB
  simp only [X0b hs,pos_R hs,pos_Y hs] at h
  exact h
theorem X0j (B:List UInt8) (r:List UInt8) (e:Int) (most:Int) (hs:r <:+ B) (hB:B.length≤140737488350000):Holds Tryz.prog 95 ⟨[pv 0 0,vI most],[.box 156 [dU B,dI ((Vb B r:Nat):Int),dI e]],Y7 1 kU8 0 (rdY r e most).length,[.live (.box 156 [dU B,dI ((Vb B (Vv r e most):Nat):Int),dI (Vo r e most)]),.live (Xf 5 kU8 (rdY r e most))]⟩:=by
  have h:=Xcd B (Vb B r) e most (X5y B r) hB
  simp only [X0b hs,pos_R hs,pos_Y hs] at h
  exact h
end Go.Proofs.YtnaopgohccacmaaGreat.Q
namespace Go.Proofs.YtnaopgohccacmaaGreat.Q
set_option linter.unusedVariables false
set_option linter.unusedSimpArgs false
set_option maxRecDepth 100000
structure RdL where
  rest:List UInt8
  e:Int
  l:List aE
structure RdC where
  rest:List UInt8
  e:Int
  l:List aC
structure RdM where
  rest:List UInt8
  e:Int
  m:aM
section
variable (M N:Int) (r:List UInt8) (e:Int)
def evR:List UInt8:=Vv (rdR r e 8 0) (rdE r e 8 0) M
def evE:Int:=Vo (rdR r e 8 0) (rdE r e 8 0) M
def evV:aE:=⟨rdI r e,rdY (rdR r e 8 0) (rdE r e 8 0) M⟩
def stepL (s:RdL):RdL:=⟨evR M s.rest s.e,evE M s.rest s.e,s.l++[evV M s.rest s.e]⟩
def Vn:Nat→RdL
  | 0=>⟨rdR r e 4 (Yu 15 (r.take 4)),rdE r e 4 (Yu 15 (r.take 4)),[]⟩
  | k+1=>stepL M (Vn k)
def Up:RdL:=Vn M r e (rdC r e 15)
def stepC (s:RdC):RdC:=⟨(Up M (evR M s.rest s.e) (evE M s.rest s.e)).rest,(Up M (evR M s.rest s.e) (evE M s.rest s.e)).e,s.l++[⟨evV M s.rest s.e,(Up M (evR M s.rest s.e) (evE M s.rest s.e)).l⟩]⟩
def We:Nat→RdC
  | 0=>⟨rdR r e 4 (Yu 8 (r.take 4)),rdE r e 4 (Yu 8 (r.take 4)),[]⟩
  | k+1=>stepC M (We k)
def X09:RdC:=We M r e (rdC r e 8)
def mk0 (k:Int):aM:=⟨k,0,0,0,0,[],[],⟨0,0⟩,[],[],[]⟩
def V7 (s:RdM):Nat→RdM
  | 0=>⟨rdR s.rest s.e 8 0,rdE s.rest s.e 8 0,⟨s.m.X1,rdI s.rest s.e,s.m.Xg,s.m.Xe,s.m.Y3,s.m.X6,s.m.Xc,s.m.X0,s.m.Xa,s.m.Xw,s.m.X5⟩⟩
  | 1=>⟨rdR s.rest s.e 8 0,rdE s.rest s.e 8 0,⟨s.m.X1,s.m.Xb,rdI s.rest s.e,s.m.Xe,s.m.Y3,s.m.X6,s.m.Xc,s.m.X0,s.m.Xa,s.m.Xw,s.m.X5⟩⟩
  | 2=>⟨rdR (rdR s.rest s.e 8 0) (rdE s.rest s.e 8 0) 8 0,rdE (rdR s.rest s.e 8 0) (rdE s.rest s.e 8 0) 8 0,⟨s.m.X1,s.m.Xb,s.m.Xg,rdI s.rest s.e,rdI (rdR s.rest s.e 8 0) (rdE s.rest s.e 8 0),s.m.X6,s.m.Xc,s.m.X0,s.m.Xa,s.m.Xw,s.m.X5⟩⟩
  | 3=>⟨Vv s.rest s.e M,Vo s.rest s.e M,⟨s.m.X1,s.m.Xb,s.m.Xg,s.m.Xe,s.m.Y3,rdY s.rest s.e M,s.m.Xc,s.m.X0,s.m.Xa,s.m.Xw,s.m.X5⟩⟩
  | 4=>⟨Vv s.rest s.e M,Vo s.rest s.e M,⟨s.m.X1,s.m.Xb,s.m.Xg,s.m.Xe,s.m.Y3,s.m.X6,rdY s.rest s.e M,s.m.X0,s.m.Xa,s.m.Xw,s.m.X5⟩⟩
  | 5=>⟨rdR (rdR s.rest s.e 8 0) (rdE s.rest s.e 8 0) 8 0,rdE (rdR s.rest s.e 8 0) (rdE s.rest s.e 8 0) 8 0,⟨s.m.X1,s.m.Xb,s.m.Xg,s.m.Xe,s.m.Y3,s.m.X6,s.m.Xc,⟨rdI s.rest s.e,rdI (rdR s.rest s.e 8 0) (rdE s.rest s.e 8 0)⟩,s.m.Xa,s.m.Xw,s.m.X5⟩⟩
  | 6=>⟨(Up N s.rest s.e).rest,(Up N s.rest s.e).e,⟨s.m.X1,s.m.Xb,s.m.Xg,s.m.Xe,s.m.Y3,s.m.X6,s.m.Xc,s.m.X0,(Up N s.rest s.e).l,s.m.Xw,s.m.X5⟩⟩
  | 7=>⟨(Up N s.rest s.e).rest,(Up N s.rest s.e).e,⟨s.m.X1,s.m.Xb,s.m.Xg,s.m.Xe,s.m.Y3,s.m.X6,s.m.Xc,s.m.X0,s.m.Xa,(Up N s.rest s.e).l,s.m.X5⟩⟩
  | 8=>⟨(X09 N s.rest s.e).rest,(X09 N s.rest s.e).e,⟨s.m.X1,s.m.Xb,s.m.Xg,s.m.Xe,s.m.Y3,s.m.X6,s.m.Xc,s.m.X0,s.m.Xa,s.m.Xw,(X09 N s.rest s.e).l⟩⟩
  | _=>s
def Y0 (k:Int):Nat→RdM
  | 0=>⟨r,e,mk0 k⟩
  | j+1=>if Uy (Xp k) j=true then V7 M N (Y0 k j) j else Y0 k j
end
def X6a (M N:Int) (b:List UInt8):RdM:=Y0 M N (rdR b 0 8 0) (rdE b 0 8 0) (rdI b 0) 9
def okD (M N:Int) (b:List UInt8):Prop:=b.length≤16777216∧okK (rdI b 0)∧rdX (X6a M N b).rest (X6a M N b).e=0∧X6k (X6a M N b).m
instance (M N:Int) (b:List UInt8):Decidable (okD M N b):=by unfold okD;infer_instance
def decW (M N:Int) (b:List UInt8):aM:=if okD M N b then (X6a M N b).m else zM
def decX (M N:Int) (b:List UInt8):Int:=if b.length>16777216 then 11 else if okD M N b then 0 else 12
def Wb (b:List UInt8):aM:=decW ((b.length:Nat):Int) 16777216 b
def X11 (b:List UInt8):Int:=decX ((b.length:Nat):Int) 16777216 b
section
variable {M N:Int} {r B:List UInt8} {e:Int}
theorem X7x (M:Int) (r:List UInt8) (e:Int):(evR M r e).length≤r.length:=Nat.le_trans (X1u _ _ _) (U3 _ _ _ _)
theorem Fp (M:Int) (r:List UInt8) (e:Int):∀ k,(Vn M r e k).rest.length≤r.length∧(Vn M r e k).l.length=k
  | 0=>⟨U3 _ _ _ _,rfl⟩
  | k+1=>by
    obtain ⟨h1,h2⟩:=Fp M r e k
    refine ⟨Nat.le_trans (X7x _ _ _) h1,?_⟩
    show ((Vn M r e k).l++[_]).length=_
    rw [List.length_append,List.length_singleton,h2]
theorem X2t (r:List UInt8) (e:Int) (n:Nat):rdC r e ((n:Nat):Int)≤n:=by
  unfold rdC
  split
  · rename_i h
    have h3:=h.2.2
    unfold Yu at h3
    split at h3
    · cases h3
    · omega
  · exact Nat.zero_le _
theorem X08 (M:Int) (r:List UInt8) (e:Int):(Up M r e).rest.length≤r.length∧(Up M r e).l.length≤15:=⟨(Fp _ _ _ _).1,by rw [Up,(Fp _ _ _ _).2];exact X2t r e 15⟩
theorem F4 (M:Int) (r:List UInt8) (e:Int):∀ k,(We M r e k).rest.length≤r.length∧(We M r e k).l.length=k
  | 0=>⟨U3 _ _ _ _,rfl⟩
  | k+1=>by
    obtain ⟨h1,h2⟩:=F4 M r e k
    refine ⟨Nat.le_trans (X08 _ _ _).1 (Nat.le_trans (X7x _ _ _) h1),?_⟩
    show ((We M r e k).l++[_]).length=_
    rw [List.length_append,List.length_singleton,h2]
theorem Xf8 (M:Int) (r:List UInt8) (e:Int):(X09 M r e).rest.length≤r.length∧(X09 M r e).l.length≤8:=⟨(F4 _ _ _ _).1,by rw [X09,(F4 _ _ _ _).2];exact X2t r e 8⟩
theorem sufE (h:r <:+ B):evR M r e <:+ B:=sufY (sufR h)
theorem sufL (h:r <:+ B):∀ k,(Vn M r e k).rest <:+ B
  | 0=>sufR h
  | k+1=>sufE (sufL h k)
theorem sufF (h:r <:+ B):(Up M r e).rest <:+ B:=sufL h _
theorem sufC (h:r <:+ B):∀ k,(We M r e k).rest <:+ B
  | 0=>sufR h
  | k+1=>sufF (sufE (sufC h k))
theorem sufG (h:r <:+ B):(X09 M r e).rest <:+ B:=sufC h _
theorem Us {k:Int} {j i:Nat} (h:j=i) (hb:Uy (Xp k) j=true):Y0 M N r e k (j+1)=V7 M N (Y0 M N r e k j) i:=by subst h;rw [Y0,if_pos hb]
theorem Em {k:Int} {j:Nat} (hb:¬Uy (Xp k) j=true):Y0 M N r e k (j+1)=Y0 M N r e k j:=by rw [Y0,if_neg hb]
theorem Xjn (s:RdM) (j:Nat):(V7 M N s j).rest.length≤s.rest.length:=by
  rcases (by omega:j=0∨j=1∨j=2∨j=3∨j=4∨j=5∨j=6∨j=7∨j=8∨9≤j) with h|h|h|h|h|h|h|h|h|h
  · subst h;exact U3 _ _ _ _
  · subst h;exact U3 _ _ _ _
  · subst h;exact Nat.le_trans (U3 _ _ _ _) (U3 _ _ _ _)
  · subst h;exact X1u _ _ _
  · subst h;exact X1u _ _ _
  · subst h;exact Nat.le_trans (U3 _ _ _ _) (U3 _ _ _ _)
  · subst h;exact (X08 _ _ _).1
  · subst h;exact (X08 _ _ _).1
  · subst h;exact (Xf8 _ _ _).1
  · obtain ⟨i,rfl⟩:∃ i,j=i+9:=⟨j-9,by omega⟩
    exact Nat.le_refl _
theorem Ez (M N:Int) (r:List UInt8) (e k:Int):∀ j,(Y0 M N r e k j).rest.length≤r.length
  | 0=>Nat.le_refl _
  | j+1=>by
    rw [Y0]
    split
    · exact Nat.le_trans (Xjn _ _) (Ez M N r e k j)
    · exact Ez M N r e k j
theorem Xjm {s:RdM} (h:s.rest <:+ B) (j:Nat):(V7 M N s j).rest <:+ B:=by
  rcases (by omega:j=0∨j=1∨j=2∨j=3∨j=4∨j=5∨j=6∨j=7∨j=8∨9≤j) with q|q|q|q|q|q|q|q|q|q
  · subst q;exact sufR h
  · subst q;exact sufR h
  · subst q;exact sufR (sufR h)
  · subst q;exact sufY h
  · subst q;exact sufY h
  · subst q;exact sufR (sufR h)
  · subst q;exact sufF h
  · subst q;exact sufF h
  · subst q;exact sufG h
  · obtain ⟨i,rfl⟩:∃ i,j=i+9:=⟨j-9,by omega⟩
    exact h
theorem sufM (M N:Int) (e k:Int) (h:r <:+ B):∀ j,(Y0 M N r e k j).rest <:+ B
  | 0=>h
  | j+1=>by
    rw [Y0]
    split
    · exact Xjm (sufM M N e k h j) j
    · exact sufM M N e k h j
def fitM (n:Nat) (m:aM):Prop:=m.Xa.length≤15∧m.Xw.length≤15∧m.X5.length≤8∧m.Xc.length≤n∧m.X6.length≤n
theorem Xjo {n:Nat} {s:RdM} (h:fitM n s.m) (hl:s.rest.length≤n) (j:Nat):fitM n (V7 M N s j).m:=by
  obtain ⟨h1,h2,h3,h4,h5⟩:=h
  rcases (by omega:j=0∨j=1∨j=2∨j=3∨j=4∨j=5∨j=6∨j=7∨j=8∨9≤j) with h|h|h|h|h|h|h|h|h|h
  · subst h;exact ⟨h1,h2,h3,h4,h5⟩
  · subst h;exact ⟨h1,h2,h3,h4,h5⟩
  · subst h;exact ⟨h1,h2,h3,h4,h5⟩
  · subst h;exact ⟨h1,h2,h3,h4,Nat.le_trans (X0n _ _ _) hl⟩
  · subst h;exact ⟨h1,h2,h3,Nat.le_trans (X0n _ _ _) hl,h5⟩
  · subst h;exact ⟨h1,h2,h3,h4,h5⟩
  · subst h;exact ⟨(X08 _ _ _).2,h2,h3,h4,h5⟩
  · subst h;exact ⟨h1,(X08 _ _ _).2,h3,h4,h5⟩
  · subst h;exact ⟨h1,h2,(Xf8 _ _ _).2,h4,h5⟩
  · obtain ⟨i,rfl⟩:∃ i,j=i+9:=⟨j-9,by omega⟩
    exact ⟨h1,h2,h3,h4,h5⟩
theorem X4g (M N:Int) (r:List UInt8) (e k:Int):∀ j,fitM r.length (Y0 M N r e k j).m
  | 0=>⟨Nat.zero_le _,Nat.zero_le _,Nat.zero_le _,Nat.zero_le _,Nat.zero_le _⟩
  | j+1=>by
    rw [Y0]
    split
    · exact Xjo (X4g M N r e k j) (Ez _ _ _ _ _ _) j
    · exact X4g M N r e k j
end
theorem X6c {M N:Int} {b:List UInt8} (h:¬okD M N b) (hl:¬b.length>16777216):decW M N b=zM∧decX M N b=12:=⟨if_neg h,by rw [decX,if_neg hl,if_neg h]⟩
theorem Xj7 {M N:Int} {b:List UInt8} (h:okD M N b):decW M N b=(X6a M N b).m∧decX M N b=0:=⟨if_pos h,by rw [decX,if_neg (by have:=h.1;omega),if_pos h]⟩
theorem Xfh {M N:Int} {b:List UInt8} (h:b.length>16777216):decW M N b=zM∧decX M N b=11:=⟨if_neg (fun q=>by have:=q.1;omega),if_pos h⟩
end Go.Proofs.YtnaopgohccacmaaGreat.Q
namespace Go.Proofs.YtnaopgohccacmaaGreat.Q
set_option linter.unusedVariables false
set_option linter.unusedSimpArgs false
set_option maxRecDepth 100000
section
variable {M M':Int} {r:List UInt8} {e:Int}
theorem Jg {n m:Int} (h:rdE r e n m=0):e=0:=(X62 h).1
theorem X1v (h:Vo r e M=0):e=0:=(X7r.1 h).1.1
theorem ev_any (hM:((r.length:Nat):Int)≤M) (hM':((r.length:Nat):Int)≤M') (h:evE M r e=0):e=0∧evE M' r e=0∧evR M' r e=evR M r e∧evV M' r e=evV M r e:=by
  have hl:=U3 r e 8 0
  obtain ⟨a1,a2,a3⟩:=X4o (M':=M') (show (((rdR r e 8 0).length:Nat):Int)≤M by omega) (by omega) h
  exact ⟨Jg (X1v h),a1,a3,by unfold evV;rw [a2]⟩
theorem Xdv (hM:((r.length:Nat):Int)≤M) (hM':((r.length:Nat):Int)≤M'):∀ k,(Vn M r e k).e=0→e=0∧Vn M' r e k=Vn M r e k
  | 0,h=>⟨Jg h,rfl⟩
  | k+1,h=>by
    have hl:=(Fp M r e k).1
    obtain ⟨a1,a2,a3,a4⟩:=ev_any (M':=M') (show (((Vn M r e k).rest.length:Nat):Int)≤M by omega) (by omega) h
    obtain ⟨b1,b2⟩:=Xdv hM hM' k a1
    refine ⟨b1,?_⟩
    show stepL M' (Vn M' r e k)=stepL M (Vn M r e k)
    rw [b2]
    unfold stepL
    rw [a2,a3,a4,show evE M (Vn M r e k).rest (Vn M r e k).e=0 from h]
theorem X9m (hM:((r.length:Nat):Int)≤M) (hM':((r.length:Nat):Int)≤M') (h:(Up M r e).e=0):e=0∧Up M' r e=Up M r e:=Xdv hM hM' _ h
theorem Xdw (hM:((r.length:Nat):Int)≤M) (hM':((r.length:Nat):Int)≤M'):∀ k,(We M r e k).e=0→e=0∧We M' r e k=We M r e k
  | 0,h=>⟨Jg h,rfl⟩
  | k+1,h=>by
    have hl:=(F4 M r e k).1
    have hl2:=X7x M (We M r e k).rest (We M r e k).e
    obtain ⟨c1,c2⟩:=X9m (M':=M') (show (((evR M (We M r e k).rest (We M r e k).e).length:Nat):Int)≤M by omega) (by omega) h
    obtain ⟨a1,a2,a3,a4⟩:=ev_any (M':=M') (show (((We M r e k).rest.length:Nat):Int)≤M by omega) (by omega) c1
    obtain ⟨b1,b2⟩:=Xdw hM hM' k a1
    refine ⟨b1,?_⟩
    show stepC M' (We M' r e k)=stepC M (We M r e k)
    rw [b2]
    unfold stepC
    rw [a2,a3,a4,← c1,c2]
theorem finC_any (hM:((r.length:Nat):Int)≤M) (hM':((r.length:Nat):Int)≤M') (h:(X09 M r e).e=0):e=0∧X09 M' r e=X09 M r e:=Xdw hM hM' _ h
theorem Xjq {N N':Int} {s:RdM} (hM:((s.rest.length:Nat):Int)≤M) (hM':((s.rest.length:Nat):Int)≤M') (hN:((s.rest.length:Nat):Int)≤N) (hN':((s.rest.length:Nat):Int)≤N') (j:Nat) (h:(V7 M N s j).e=0):s.e=0∧V7 M' N' s j=V7 M N s j:=by
  rcases (by omega:j=0∨j=1∨j=2∨j=3∨j=4∨j=5∨j=6∨j=7∨j=8∨9≤j) with q|q|q|q|q|q|q|q|q|q
  · subst q;exact ⟨Jg h,rfl⟩
  · subst q;exact ⟨Jg h,rfl⟩
  · subst q;exact ⟨Jg (Jg h),rfl⟩
  · subst q
    obtain ⟨a1,a2,a3⟩:=X4o (M':=M') hM hM' h
    refine ⟨X1v h,?_⟩
    simp only [V7]
    rw [a1,a2,a3,show Vo s.rest s.e M=0 from h]
  · subst q
    obtain ⟨a1,a2,a3⟩:=X4o (M':=M') hM hM' h
    refine ⟨X1v h,?_⟩
    simp only [V7]
    rw [a1,a2,a3,show Vo s.rest s.e M=0 from h]
  · subst q;exact ⟨Jg (Jg h),rfl⟩
  · subst q
    obtain ⟨a1,a2⟩:=X9m hN hN' h
    exact ⟨a1,by simp only [V7];rw [a2]⟩
  · subst q
    obtain ⟨a1,a2⟩:=X9m hN hN' h
    exact ⟨a1,by simp only [V7];rw [a2]⟩
  · subst q
    obtain ⟨a1,a2⟩:=finC_any hN hN' h
    exact ⟨a1,by simp only [V7];rw [a2]⟩
  · obtain ⟨i,rfl⟩:∃ i,j=i+9:=⟨j-9,by omega⟩
    exact ⟨h,rfl⟩
theorem X8m {N N':Int} {k:Int} (hM:((r.length:Nat):Int)≤M) (hM':((r.length:Nat):Int)≤M') (hN:((r.length:Nat):Int)≤N) (hN':((r.length:Nat):Int)≤N'):∀ j,(Y0 M N r e k j).e=0→Y0 M' N' r e k j=Y0 M N r e k j
  | 0,_=>rfl
  | j+1,h=>by
    have hl:=Ez M N r e k j
    rw [Y0] at h ⊢
    rw [Y0]
    split
    · rename_i hb
      rw [if_pos hb] at h
      obtain ⟨a1,a2⟩:=Xjq (M':=M') (N':=N') (by omega) (by omega) (by omega) (by omega) j h
      rw [X8m hM hM' hN hN' j a1,a2]
    · rename_i hb
      rw [if_neg hb] at h
      exact X8m hM hM' hN hN' j h
end
theorem Xiq {M N M' N':Int} {b:List UInt8} (hM:((b.length:Nat):Int)≤M) (hM':((b.length:Nat):Int)≤M') (hN:((b.length:Nat):Int)≤N) (hN':((b.length:Nat):Int)≤N') (h:okD M N b):X6a M' N' b=X6a M N b∧okD M' N' b:=by
  have hl:=U3 b 0 8 0
  have e:=X8m (r:=rdR b 0 8 0) (e:=rdE b 0 8 0) (k:=rdI b 0) (M:=M) (M':=M') (N:=N) (N':=N') (by omega) (by omega) (by omega) (by omega) 9 (rdX_ok h.2.2.1).1
  have e':X6a M' N' b=X6a M N b:=e
  exact ⟨e',h.1,h.2.1,by rw [e'];exact h.2.2.1,by rw [e'];exact h.2.2.2⟩
theorem Xfi {b:List UInt8} (h:okD 1099511627776 1099511627776 b):Wb b=(X6a 1099511627776 1099511627776 b).m∧X11 b=0:=by
  have hl:=h.1
  obtain ⟨e,h2⟩:=Xiq (M':=((b.length:Nat):Int)) (N':=16777216) (by omega) (by omega) (by omega) (by omega) h
  rw [← e]
  exact Xj7 h2
theorem X9t {b:List UInt8} (h:¬okD 1099511627776 1099511627776 b) (hb:¬b.length>16777216):Wb b=zM∧X11 b=12 :=
  X6c (fun q=>h (Xiq (by omega) (by omega) (by omega) (by omega) q).2) hb
end Go.Proofs.YtnaopgohccacmaaGreat.Q
namespace Go.Proofs.YtnaopgohccacmaaGreat.Q
set_option linter.unusedVariables false
theorem X8h {M N:Int} {r:List UInt8} {e k:Int}:∀ j,j≤8→(Y0 M N r e k j).m.X5=[]
  | 0,_=>rfl
  | j+1,hj=>by
    have ih:=X8h (M:=M) (N:=N) (r:=r) (e:=e) (k:=k) j (by omega)
    rw [Y0]
    split
    · rcases (by omega:j=0∨j=1∨j=2∨j=3∨j=4∨j=5∨j=6∨j=7) with q|q|q|q|q|q|q|q<;>subst q<;>exact ih
    · exact ih
end Go.Proofs.YtnaopgohccacmaaGreat.Q
namespace Go.Proofs.YtnaopgohccacmaaGreat.Q
open Go Go.RowKit
set_option linter.unusedVariables false
set_option linter.unusedSimpArgs false
set_option maxRecDepth 100000
set_option maxHeartbeats 4000000
theorem I0 (rest:List UInt8) (e:Int) (hr:rest.length≤100000000):Holds Tryz.prog 194 ⟨[.tv (.agg [.ptr 0 0])],[.box 195 [dU rest,dI e]],vI (rdI rest e),[.live (.box 195 [dU (rdR rest e 8 0),dI (rdE rest e 8 0)])]⟩:=by
 refine Holds.of Tryz.func194 rfl (N:=6) Tryz.ntmps194 rfl fun w0 B0 S0 U0=>?_
 show T _ (Y5 6 1 w0 S0 U0 B0) ⟨[.tv (.agg [.ptr 0 0])],[.live (.box 195 [dU rest,dI e])]⟩ _ _
 refine sR [] (sR [hR 2 rfl rfl (rCa (rd_Int rest e (by omega)) Tryz.func105 [0] [(.tmp 4,pv 0 0)] 1 1)] (T.ret ?_))
 exact eRt 2 (.one (dI (rdI rest e))) [0] rfl (ix trivial)
section
variable (rest:List UInt8) (e:Int)
abbrev Zam:List AV:=[.tv (.agg [.ptr 0 0]),pv 1 0,pv 2 0,pv 3 0]
abbrev Zan:HS:=.live (.box 195 [dU (Vv (rdR rest e 8 0) (rdE rest e 8 0) 16777216),dI (Vo (rdR rest e 8 0) (rdE rest e 8 0) 16777216)])
abbrev Zao:St:=⟨Zam,[(Zan rest e),.live (.box 240 [.ptr 0 0]),.live (.box 43 [dI 0,.d (.val (.slice none 0 0))]),.live (.box 43 [dI (rdI rest e),.own 4 kU8.sz 0 (rdY (rdR rest e 8 0) (rdE rest e 8 0) 16777216).length]),.live (Xf 5 kU8 (rdY (rdR rest e 8 0) (rdE rest e 8 0) 16777216))]⟩
abbrev Zap:SV:=dU (rdY (rdR rest e 8 0) (rdE rest e 8 0) 16777216)
end
theorem X4b (rest:List UInt8) (e:Int) (hr:rest.length≤100000000):Holds Tryz.prog 199 ⟨[.tv (.agg [.ptr 0 0])],[.box 195 [dU rest,dI e]],.tv (.agg [dI (evV 16777216 rest e).X2,dU (evV 16777216 rest e).X7]),[.live (.box 195 [dU (evR 16777216 rest e),dI (evE 16777216 rest e)])]⟩:=by
 refine Holds.of Tryz.func199 rfl (N:=12) Tryz.ntmps199 rfl fun w0 B0 S0 U0=>?_
 show T _ (Y5 12 1 w0 S0 U0 B0) ⟨[.tv (.agg [.ptr 0 0])],[.live (.box 195 [dU rest,dI e])]⟩ _ _
 have hr1:=U3 rest e 8 0
 have hr2:=X0n (rdR rest e 8 0) (rdE rest e 8 0) 16777216
 refine sR [] (sR [hR 1 rfl rfl (rCa (I0 rest e ‹_›) Tryz.func194 [0] [(.tmp 4,.tv (.agg [.ptr 0 0]))] 1 1)] (sR [hR 2 rfl rfl (rCa (X1t (rdR rest e 8 0) (rdE rest e 8 0) 16777216 (by omega)) Tryz.func106 [0,4] [(.tmp 8,pv 0 0),(.const (.int .i64 16777216),vI 16777216)] 1 2)] ?_))
 refine tN (Zao rest e) ?_
 refine Wr (s':=⟨Zam,[(Zan rest e),.live (.box 240 [.ptr 0 0]),.live (.box 43 [dI 0,.d (.val (.slice none 0 0))]),.live (.box 43 [dI (rdI rest e),(Zap rest e)]),.dead]⟩) (fun _ _ hG=>Gs.freeze (s:=(Zao rest e)) 4 (el:=W6 kU8 (rdY (rdR rest e 8 0) (rdE rest e 8 0) 16777216)) (sz:=kU8.sz) (n:=(rdY (rdR rest e 8 0) (rdE rest e 8 0) 16777216).length) rfl (kk4 trivial) ⟨pZ5,⟨pZ5,⟨pZ5,⟨p2s,⟨(.inl ⟨rfl,rfl⟩),trivial⟩⟩⟩⟩⟩ hG) (sR [] (T.ret ?_))
 exact eX [.c 2 2 43 0 43 [dI (rdI rest e),(Zap rest e)] (.agg [dI (rdI rest e),(Zap rest e)])] ⟨⟨rfl,rfl,by kernel_rfl,by kernel_rfl,.inl ⟨2,Hx,rfl,Nat.le_of_ble_eq_true rfl⟩⟩,trivial⟩ [0] (cg2 (fun (q1:Int) (q2:List UInt8)=>(.tv (.agg [dI q1,dU q2]):AV)) (by rfl) (by rfl)) ⟨⟨rfl,(by have e1:((Vv (rdR rest e 8 0) (rdE rest e 8 0) 16777216):List UInt8)=(evR 16777216 rest e):=(by rfl);have e2:((Vo (rdR rest e 8 0) (rdE rest e 8 0) 16777216):Int)=(evE 16777216 rest e):=(by rfl);have hE:=congr pZ15 e2;exact Eq.trans pZ8 hE)⟩,trivial⟩
section
variable (rest:List UInt8) (e:Int) (k:Nat)
abbrev Zaq:AV:=vI ((rdC rest e 15:Nat):Int)
abbrev Zar:HS:=.live (.box 195 [dU (rdR rest e 4 (Yu 15 (rest.take 4))),dI (rdE rest e 4 (Yu 15 (rest.take 4)))])
abbrev Zas:HS:=.live (.box 240 [.ptr 0 0])
abbrev Zat:=(Vn 16777216 rest e k)
abbrev Zau:List HS:=[.live (.box 195 [dU (Zat rest e k).rest,dI (Zat rest e k).e]),Zas,.live (Xf 43 (kE false) (Zat rest e k).l)]
abbrev Zav:St:=⟨[aa,pv 1 0,Y7 2 (kE false) 0 (Zat rest e k).l.length,aa,aa,(Zaq rest e),vI ((k:Nat):Int)],(Zau rest e k)⟩
abbrev Zay:=(evV 16777216 (Zat rest e k).rest (Zat rest e k).e)
abbrev Zaz:AV:=vI ((k+1:Nat):Int)
abbrev Zb0:List HS:=[.live (.box 195 [dU (Vn 16777216 rest e (k+1)).rest,dI (Vn 16777216 rest e (k+1)).e]),Zas,.live (Xf 43 (kE false) (Vn 16777216 rest e (k+1)).l)]
abbrev Zb1:St:=⟨[aa,pv 1 0,Y7 2 (kE false) 0 (Zat rest e k).l.length,aa,aa,(Zaq rest e),vI ((k:Nat):Int),vB (decide (((k:Nat):Int)<((rdC rest e 15:Nat):Int)))],(Zau rest e k)⟩
end
theorem X8b (rest:List UInt8) (e:Int) (hr:rest.length≤100000000):Holds Tryz.prog 196 ⟨[.tv (.agg [.ptr 0 0])],[.box 195 [dU rest,dI e]],slV false false (kE false) (Up 16777216 rest e).l,[.live (.box 195 [dU (Up 16777216 rest e).rest,dI (Up 16777216 rest e).e])]⟩:=by
 refine Holds.of Tryz.func196 rfl (N:=15) Tryz.ntmps196 rfl fun w0 B0 S0 U0=>?_
 show T _ (Y5 15 1 w0 S0 U0 B0) ⟨[.tv (.agg [.ptr 0 0])],[.live (.box 195 [dU rest,dI e])]⟩ _ _
 have hr1:=U3 rest e 4 (Yu 15 (rest.take 4))
 refine sR [] (T.seq (sR [hR 2 rfl rfl (rCa (X8z rest e 15 (by omega)) Tryz.func147 [0] [(.tmp 4,pv 0 0),(.const (.int .i64 15),vI 15)] 1 1)] (T.block ?_)))
 refine tN ⟨[.tv (.agg [.ptr 0 0]),pv 1 0,dv (.slice none 0 0),aa,aa,(Zaq rest e),vI 0],[(Zar rest e),Zas]⟩ ?_
 refine Wr (s':=⟨[.tv (.agg [.ptr 0 0]),pv 1 0,Y7 2 (kE false) 0 0,aa,aa,(Zaq rest e),vI 0],[(Zar rest e),Zas,.live (Xf 43 (kE false) ([]:List aE))]⟩) (fun _ _ hG=>Vz 2 2 43 (kE false) rfl rfl hG) ?_
 refine T.loop (ι:=Nat) (fun (k:Nat)=>(Zav rest e k)) (fun (k:Nat)=>(k≤rdC rest e 15)) (fun (k:Nat)=>rdC rest e 15-k) (0) (Nat.zero_le _) (fun _ _ hG=>Yp [0,1,2] (bm 7 102) (t2:=[aa,pv 1 0,Y7 2 (kE false) 0 0,aa,aa,(Zaq rest e),vI 0]) (h2:=[(Zar rest e),Zas,.live (Xf 43 (kE false) ([]:List aE))]) (congrArg (fun (q1:Nat)=>([aa,pv 1 0,Y7 2 (kE false) 0 q1,aa,aa,(Zaq rest e),vI 0]:List AV)) (by rfl)) (cg3 (fun (q1:List UInt8) (q2:Int) (q3:List aE)=>([.live (.box 195 [dU q1,dI q2]),Zas,.live (Xf 43 (kE false) q3)]:List HS)) (by rfl) (by rfl) (by rfl)) hG) ?_
 rintro k hk
 show T _ _ (Zav rest e k) _ _
 replace hk:k≤rdC rest e 15:=hk
 have hg:=Fp 16777216 rest e k
 have hg1:=hg.1
 have hg2:=hg.2
 have hcm:rdC rest e 15≤15:=X2t rest e 15
 refine sR [] (T.seq ?_)
 by_cases hq1:((k:Nat):Int)<((rdC rest e 15:Nat):Int)
 ·refine cT (dT hq1) (T.skip (nT (T.seq (T.block ?_))))
  refine xR [hR 2 rfl rfl (rCa (X4b (Vn 16777216 rest e k).rest (Vn 16777216 rest e k).e (by omega)) Tryz.func199 [0] [(.tmp 9,.tv (.agg [.ptr 0 0]))] 1 1),hR 3 rfl rfl (Ye 3 43 (kE false) (Yt false) [(evV 16777216 (Vn 16777216 rest e k).rest (Vn 16777216 rest e k).e)] [⟨0,.tmp 10,.agg [dI (Zay rest e k).X2,dU (Zay rest e k).X7],0⟩] (cs:=[dI (Zay rest e k).X2,dU (Zay rest e k).X7]) Tryz.underlying37 Wy rfl H8 rfl rfl rfl pd (Yq rfl rfl pd W5) pZ8 (V6 pZ8) (X3 rfl) trivial),hR 4 rfl rfl (W0 2 4 43 32 (kE false) (Yt false) (Vn 16777216 rest e k).l [(evV 16777216 (Vn 16777216 rest e k).rest (Vn 16777216 rest e k).e)] ((Vn 16777216 rest e k).l++[(evV 16777216 (Vn 16777216 rest e k).rest (Vn 16777216 rest e k).e)]) (Vn 16777216 rest e k).l.length (sy:=(.own 3 (kE false).sz 0 [(Zay rest e k)].length)) (rhs:=[(3,.live (Xf 43 (kE false) [(Zay rest e k)]))]) Hh (by omega) (V0 3 43 (kE false) [(evV 16777216 (Vn 16777216 rest e k).rest (Vn 16777216 rest e k).e)]) I7 (by (simp [maxLen,-List.getD_eq_getElem?_getD]<;>omega)) (by (simp [maxLen,-List.getD_eq_getElem?_getD]<;>omega)) (X3 rfl) trivial)] pZ8 pZ8 ?_
  refine nB (nT (xK [hR 0 rfl rfl (Yg (u1:=.int .i64 ((k:Nat):Int)) (u2:=.int .i64 1) (v:=.int .i64 ((k+1:Nat):Int)) (W8 pb) (X3 rfl) ⟨rfl,trivial⟩)] ?_))
  refine nL (k+1) (show (k+1)≤rdC rest e 15 from (by omega)) (show (rdC rest e 15-(k+1):Nat)<rdC rest e 15-k from (by omega)) (fun _ _ hG=>Wi [0,1,4] (bm 7 102) (t1:=[aa,pv 1 0,Y7 4 (kE false) 0 (Vn 16777216 rest e (k+1)).l.length,aa,aa,(Zaq rest e),(Zaz k)]) (t2:=[aa,pv 1 0,Y7 4 (kE false) 0 ((Zat rest e k).l++[(Zay rest e k)]).length,aa,aa,(Zaq rest e),(Zaz k)]) (h1:=(Zb0 rest e k)) (h2:=[.live (.box 195 [dU (evR 16777216 (Zat rest e k).rest (Zat rest e k).e),dI (evE 16777216 (Zat rest e k).rest (Zat rest e k).e)]),Zas,.live (Xf 43 (kE false) ((Zat rest e k).l++[(Zay rest e k)]))]) (congrArg (fun (q1:Nat)=>([aa,pv 1 0,Y7 4 (kE false) 0 q1,aa,aa,(Zaq rest e),(Zaz k)]:List AV)) (by rfl)) (cg3 (fun (q1:List UInt8) (q2:Int) (q3:List aE)=>([.live (.box 195 [dU q1,dI q2]),Zas,.live (Xf 43 (kE false) q3)]:List HS)) (by rfl) (by rfl) (by rfl)) hG)
 refine cF (dF hq1) (T.exit (xT (xT (xH (nT (sR [] (T.ret ?_)))))))
 refine eN (Zb1 rest e k) ?_
 refine X8 (s':=⟨[aa,pv 1 0,slV false false (kE false) (Zat rest e k).l,aa,aa,(Zaq rest e),vI ((k:Nat):Int),vB (decide (((k:Nat):Int)<((rdC rest e 15:Nat):Int)))],[.live (.box 195 [dU (Zat rest e k).rest,dI (Zat rest e k).e]),Zas,.dead]⟩) (fun _ _ hG=>Gs.freeze (s:=(Zb1 rest e k)) 2 (el:=W6 (kE false) (Vn 16777216 rest e k).l) (sz:=(kE false).sz) (n:=(Vn 16777216 rest e k).l.length) rfl (kk2 ⟨(.inr pZ2),⟨.inl rfl,(kk4 trivial)⟩⟩) ⟨pZ5,⟨pZ5,⟨(.inl ⟨rfl,rfl⟩),trivial⟩⟩⟩ hG) ?_
 exact eRt 2 (.one (.d (dsl false false (kE false) (Zat rest e k).l))) [0] (by have e1:((Up 16777216 rest e).l:List aE)=(Vn 16777216 rest e k).l:=p49;have hE:=congrArg (fun (q1:List aE)=>(slV false false (kE false) q1:AV)) e1;exact hE) ⟨⟨rfl,(by have e1:((Vn 16777216 rest e k).rest:List UInt8)=(Up 16777216 rest e).rest:=p49;have e2:((Vn 16777216 rest e k).e:Int)=(Up 16777216 rest e).e:=p49;have hE:=congr pZ15 e2;exact Eq.trans pZ8 hE)⟩,trivial⟩
theorem Xht:Zero Tryz.prog 86 [.int .i64 0,.slice none 0 0,.slice none 0 0]:=⟨_,_,Fy,rfl,rfl⟩
theorem Xj5:Elem Tryz.prog 76 86 3 56:=⟨Tryz.underlying76,_,_,Fy,rfl,rfl,rfl,rfl,by decide⟩
section
variable (rest:List UInt8) (e:Int) (k:Nat)
abbrev Zb2:AV:=vI ((rdC rest e 8:Nat):Int)
abbrev Zb3:HS:=.live (.box 195 [dU (rdR rest e 4 (Yu 8 (rest.take 4))),dI (rdE rest e 4 (Yu 8 (rest.take 4)))])
abbrev Zb4:HS:=.live (.box 240 [.ptr 0 0])
abbrev Zb5:=(We 16777216 rest e k)
abbrev Zb6:List HS:=[.live (.box 195 [dU (Zb5 rest e k).rest,dI (Zb5 rest e k).e]),Zb4,.live (Xf 86 (kC false) (Zb5 rest e k).l)]
abbrev Zb7:St:=⟨[aa,pv 1 0,Y7 2 (kC false) 0 (Zb5 rest e k).l.length,aa,aa,aa,(Zb2 rest e),vI ((k:Nat):Int)],(Zb6 rest e k)⟩
abbrev Zba:=(evV 16777216 (Zb5 rest e k).rest (Zb5 rest e k).e)
abbrev Zbb:=(Up 16777216 (evR 16777216 (Zb5 rest e k).rest (Zb5 rest e k).e) (evE 16777216 (Zb5 rest e k).rest (Zb5 rest e k).e))
abbrev Zbc:=(aC.mk (Zba rest e k) (Zbb rest e k).l)
abbrev Zbd:AV:=vI ((k+1:Nat):Int)
abbrev Zbe:List HS:=[.live (.box 195 [dU (We 16777216 rest e (k+1)).rest,dI (We 16777216 rest e (k+1)).e]),Zb4,.live (Xf 86 (kC false) (We 16777216 rest e (k+1)).l)]
abbrev Zbf:List AV:=[aa,pv 1 0,Y7 2 (kC false) 0 (Zb5 rest e k).l.length,aa,aa,aa,(Zb2 rest e),vI ((k:Nat):Int),vB (decide (((k:Nat):Int)<((rdC rest e 8:Nat):Int)))]
end
theorem Xjr (rest:List UInt8) (e:Int) (hr:rest.length≤100000000):Holds Tryz.prog 197 ⟨[.tv (.agg [.ptr 0 0])],[.box 195 [dU rest,dI e]],slV false false (kC false) (X09 16777216 rest e).l,[.live (.box 195 [dU (X09 16777216 rest e).rest,dI (X09 16777216 rest e).e])]⟩:=by
 refine Holds.of Tryz.func197 rfl (N:=21) Tryz.ntmps197 rfl fun w0 B0 S0 U0=>?_
 show T _ (Y5 21 1 w0 S0 U0 B0) ⟨[.tv (.agg [.ptr 0 0])],[.live (.box 195 [dU rest,dI e])]⟩ _ _
 have hr1:=U3 rest e 4 (Yu 8 (rest.take 4))
 refine sR [] (T.seq (sR [hR 2 rfl rfl (rCa (X8z rest e 8 (by omega)) Tryz.func147 [0] [(.tmp 5,pv 0 0),(.const (.int .i64 8),vI 8)] 1 1)] (T.block ?_)))
 refine tN ⟨[.tv (.agg [.ptr 0 0]),pv 1 0,dv (.slice none 0 0),aa,aa,aa,(Zb2 rest e),vI 0],[(Zb3 rest e),Zb4]⟩ ?_
 refine Wr (s':=⟨[.tv (.agg [.ptr 0 0]),pv 1 0,Y7 2 (kC false) 0 0,aa,aa,aa,(Zb2 rest e),vI 0],[(Zb3 rest e),Zb4,.live (Xf 86 (kC false) ([]:List aC))]⟩) (fun _ _ hG=>Vz 2 2 86 (kC false) rfl rfl hG) ?_
 refine T.loop (ι:=Nat) (fun (k:Nat)=>(Zb7 rest e k)) (fun (k:Nat)=>(k≤rdC rest e 8)) (fun (k:Nat)=>rdC rest e 8-k) (0) (Nat.zero_le _) (fun _ _ hG=>Yp [0,1,2] (bm 8 198) (t2:=[aa,pv 1 0,Y7 2 (kC false) 0 0,aa,aa,aa,(Zb2 rest e),vI 0]) (h2:=[(Zb3 rest e),Zb4,.live (Xf 86 (kC false) ([]:List aC))]) (congrArg (fun (q1:Nat)=>([aa,pv 1 0,Y7 2 (kC false) 0 q1,aa,aa,aa,(Zb2 rest e),vI 0]:List AV)) (by rfl)) (cg3 (fun (q1:List UInt8) (q2:Int) (q3:List aC)=>([.live (.box 195 [dU q1,dI q2]),Zb4,.live (Xf 86 (kC false) q3)]:List HS)) (by rfl) (by rfl) (by rfl)) hG) ?_
 rintro k hk
 show T _ _ (Zb7 rest e k) _ _
 replace hk:k≤rdC rest e 8:=hk
 have hg:=F4 16777216 rest e k
 have hg1:=hg.1
 have hg2:=hg.2
 have hcm:rdC rest e 8≤8:=X2t rest e 8
 have hve:=X7x 16777216 (We 16777216 rest e k).rest (We 16777216 rest e k).e
 refine sR [] (T.seq ?_)
 by_cases hq1:((k:Nat):Int)<((rdC rest e 8:Nat):Int)
 ·refine cT (dT hq1) (T.skip (nT (T.seq (T.block (sR [hR 1 rfl rfl (rCa (X4b (We 16777216 rest e k).rest (We 16777216 rest e k).e (by omega)) Tryz.func199 [0] [(.tmp 9,.tv (.agg [.ptr 0 0]))] 1 1)] (sR [hR 1 rfl rfl (rCa (X8b (evR 16777216 (We 16777216 rest e k).rest (We 16777216 rest e k).e) (evE 16777216 (We 16777216 rest e k).rest (We 16777216 rest e k).e) (by omega)) Tryz.func196 [0] [(.tmp 12,.tv (.agg [.ptr 0 0]))] 1 1)] ?_))))))
  refine xR [hR 2 rfl rfl (Ye 4 86 (kC false) (Hz false) [(aC.mk (evV 16777216 (We 16777216 rest e k).rest (We 16777216 rest e k).e) (Up 16777216 (evR 16777216 (We 16777216 rest e k).rest (We 16777216 rest e k).e) (evE 16777216 (We 16777216 rest e k).rest (We 16777216 rest e k).e)).l)] [⟨0,.tmp 16,.agg [dI (Zba rest e k).X2,dU (Zba rest e k).X7,.d (dsl false false (kE false) (Zbb rest e k).l)],0⟩] (cs:=[dI (Zba rest e k).X2,dU (Zba rest e k).X7,.d (dsl false false (kE false) (Zbb rest e k).l)]) Tryz.underlying76 Fy rfl Xht rfl rfl rfl pd (Yq rfl rfl pd W5) pZ8 (V6 pZ8) (X3 rfl) trivial),hR 3 rfl rfl (W0 2 5 86 56 (kC false) (Hz false) (We 16777216 rest e k).l [(aC.mk (evV 16777216 (We 16777216 rest e k).rest (We 16777216 rest e k).e) (Up 16777216 (evR 16777216 (We 16777216 rest e k).rest (We 16777216 rest e k).e) (evE 16777216 (We 16777216 rest e k).rest (We 16777216 rest e k).e)).l)] ((We 16777216 rest e k).l++[(aC.mk (evV 16777216 (We 16777216 rest e k).rest (We 16777216 rest e k).e) (Up 16777216 (evR 16777216 (We 16777216 rest e k).rest (We 16777216 rest e k).e) (evE 16777216 (We 16777216 rest e k).rest (We 16777216 rest e k).e)).l)]) (We 16777216 rest e k).l.length (sy:=(.own 4 (kC false).sz 0 [(Zbc rest e k)].length)) (rhs:=[(4,.live (Xf 86 (kC false) [(Zbc rest e k)]))]) Xj5 (by omega) (V0 4 86 (kC false) [(aC.mk (evV 16777216 (We 16777216 rest e k).rest (We 16777216 rest e k).e) (Up 16777216 (evR 16777216 (We 16777216 rest e k).rest (We 16777216 rest e k).e) (evE 16777216 (We 16777216 rest e k).rest (We 16777216 rest e k).e)).l)]) I7 (by (simp [maxLen,-List.getD_eq_getElem?_getD]<;>omega)) (by (simp [maxLen,-List.getD_eq_getElem?_getD]<;>omega)) (X3 rfl) trivial)] pZ8 pZ8 ?_
  refine nB (nT (xK [hR 0 rfl rfl (Yg (u1:=.int .i64 ((k:Nat):Int)) (u2:=.int .i64 1) (v:=.int .i64 ((k+1:Nat):Int)) (W8 pb) (X3 rfl) ⟨rfl,trivial⟩)] ?_))
  refine nL (k+1) (show (k+1)≤rdC rest e 8 from (by omega)) (show (rdC rest e 8-(k+1):Nat)<rdC rest e 8-k from (by omega)) (fun _ _ hG=>Wi [0,1,5] (bm 8 198) (t1:=[aa,pv 1 0,Y7 5 (kC false) 0 (We 16777216 rest e (k+1)).l.length,aa,aa,aa,(Zb2 rest e),(Zbd k)]) (t2:=[aa,pv 1 0,Y7 5 (kC false) 0 ((Zb5 rest e k).l++[(Zbc rest e k)]).length,aa,aa,aa,(Zb2 rest e),(Zbd k)]) (h1:=(Zbe rest e k)) (h2:=[.live (.box 195 [dU (Zbb rest e k).rest,dI (Zbb rest e k).e]),Zb4,.live (Xf 86 (kC false) ((Zb5 rest e k).l++[(Zbc rest e k)]))]) (congrArg (fun (q1:Nat)=>([aa,pv 1 0,Y7 5 (kC false) 0 q1,aa,aa,aa,(Zb2 rest e),(Zbd k)]:List AV)) (by rfl)) (cg3 (fun (q1:List UInt8) (q2:Int) (q3:List aC)=>([.live (.box 195 [dU q1,dI q2]),Zb4,.live (Xf 86 (kC false) q3)]:List HS)) (by rfl) (by rfl) (by rfl)) hG)
 refine cF (dF hq1) (T.exit (xT (xT (xH (nT (sR [] (T.ret ?_)))))))
 refine eN ⟨(Zbf rest e k),(Zb6 rest e k)⟩ ?_
 refine X8 (s':=⟨[aa,pv 1 0,slV false false (kC false) (Zb5 rest e k).l,aa,aa,aa,(Zb2 rest e),vI ((k:Nat):Int),vB (decide (((k:Nat):Int)<((rdC rest e 8:Nat):Int)))],[.live (.box 195 [dU (Zb5 rest e k).rest,dI (Zb5 rest e k).e]),Zb4,.dead]⟩) (fun _ _ hG=>Gs.freeze (s:=⟨(Zbf rest e k),(Zb6 rest e k)⟩) 2 (el:=W6 (kC false) (We 16777216 rest e k).l) (sz:=(kC false).sz) (n:=(We 16777216 rest e k).l.length) rfl (kk2 ⟨(.inr pZ2),p4x⟩) ⟨pZ5,⟨pZ5,⟨(.inl ⟨rfl,rfl⟩),trivial⟩⟩⟩ hG) ?_
 exact eRt 2 (.one (.d (dsl false false (kC false) (Zb5 rest e k).l))) [0] (by have e1:((X09 16777216 rest e).l:List aC)=(We 16777216 rest e k).l:=p4d;have hE:=congrArg (fun (q1:List aC)=>(slV false false (kC false) q1:AV)) e1;exact hE) ⟨⟨rfl,(by have e1:((We 16777216 rest e k).rest:List UInt8)=(X09 16777216 rest e).rest:=p4d;have e2:((We 16777216 rest e k).e:Int)=(X09 16777216 rest e).e:=p4d;have hE:=congr pZ15 e2;exact Eq.trans pZ8 hE)⟩,trivial⟩
end Go.Proofs.YtnaopgohccacmaaGreat.Q
