import Derived.Test.YtnaopgohccacmaaGreatC19n20
namespace Go.Proofs.YtnaopgohccacmaaGreat.Q
open Go Go.RowKit
set_option linter.unusedVariables false
set_option linter.unusedSimpArgs false
set_option maxRecDepth 100000
set_option maxHeartbeats 4000000
section
variable (tm:Bool) (m:aM) (k:Nat)
abbrev Z8m:List SV:=[dI m.X1,dI m.Y1,dI m.Xs,dI m.Xh,dI m.Yh,dS m.X9,.d (dsl tm false kU8 m.Xc),dI m.X0.Xt,dI m.X0.Xn,.d (dsl tm false (kE tm) m.Xp),.d (dsl tm false (kE tm) m.Y4),.d (dsl tm false (kC tm) m.X6)]
abbrev Z8n:HS:=.live (.box 78 (Z8m tm m))
abbrev Z8o:St:=⟨[.tv (.agg (Z8m tm m)),pv 0 0,dv (.slice none 0 0),aa,aa,aa,aa,aa,aa,vB (decide ((X75 m)≠0))],[(Z8n tm m)]⟩
abbrev Z8p:List AV:=[aa,pv 0 0,aa,pv 1 0,aa,Y8 2 kU8 0 (Ya m 1).length]
abbrev Z8q:HS:=.live (.box 119 [dB (Xi m.X1).Y1,dB (Xi m.X1).Xs,dB (Xi m.X1).Xh,dB (Xi m.X1).X9,dB (Xi m.X1).Xc,dB (Xi m.X1).X0,dB (Xi m.X1).Xp,dB (Xi m.X1).Y4,dB (Xi m.X1).X6])
abbrev Z8r:List HS:=[(Z8n tm m),(Z8q m),.live (Xf 5 kU8 (Ya m 1))]
abbrev Z8s:List AV:=[aa,pv 0 0,aa,pv 1 0,aa,Y8 2 kU8 0 (Ya m 0).length]
abbrev Z8t:List HS:=[(Z8n tm m),(Z8q m),.live (Xf 5 kU8 (Ya m 0))]
abbrev Z8u:List AV:=[aa,pv 0 0,aa,pv 1 0,aa,Y8 2 kU8 0 (Ya m 2).length]
abbrev Z8v:List HS:=[(Z8n tm m),(Z8q m),.live (Xf 5 kU8 (Ya m 2))]
abbrev Z8w:List AV:=[aa,pv 0 0,aa,pv 1 0,aa,Y8 2 kU8 0 (Ya m 3).length]
abbrev Z8x:List HS:=[(Z8n tm m),(Z8q m),.live (Xf 5 kU8 (Ya m 3))]
abbrev Z8y:AV:=Y8 4 kU8 0 ((Ya m 2)++Yy m.Xh++Yy m.Yh).length
abbrev Z8z:List AV:=[aa,pv 0 0,aa,pv 1 0,aa,Y8 2 kU8 0 (Ya m 4).length]
abbrev Z90:List HS:=[(Z8n tm m),(Z8q m),.live (Xf 5 kU8 (Ya m 4))]
abbrev Z91:List AV:=[aa,pv 0 0,aa,pv 1 0,aa,Y8 2 kU8 0 (Ya m 5).length]
abbrev Z92:List HS:=[(Z8n tm m),(Z8q m),.live (Xf 5 kU8 (Ya m 5))]
abbrev Z93:List AV:=[aa,pv 0 0,aa,pv 1 0,aa,Y8 2 kU8 0 (Ya m 6).length]
abbrev Z94:List HS:=[(Z8n tm m),(Z8q m),.live (Xf 5 kU8 (Ya m 6))]
abbrev Z95:AV:=Y8 4 kU8 0 ((Ya m 5)++Yy m.X0.Xt++Yy m.X0.Xn).length
abbrev Z96:List AV:=[aa,pv 0 0,aa,pv 1 0,aa,Y8 2 kU8 0 (Ya m 7).length]
abbrev Z97:List HS:=[(Z8n tm m),(Z8q m),.live (Xf 5 kU8 (Ya m 7))]
abbrev Z98:List AV:=[aa,pv 0 0,aa,pv 1 0,aa,Y8 2 kU8 0 (Ya m 8).length]
abbrev Z99:List HS:=[(Z8n tm m),(Z8q m),.live (Xf 5 kU8 (Ya m 8))]
abbrev Z9a:List AV:=[aa,pv 0 0,aa,pv 1 0,aa,Y8 2 kU8 0 (Ya m 9).length]
abbrev Z9b:List HS:=[(Z8n tm m),(Z8q m),.live (Xf 5 kU8 (Ya m 9))]
abbrev Z9c:AV:=Y8 2 kU8 0 ((Ya m 8)++Ve ((m.X6.length:Nat):Int)++Ii m.X6 k).length
abbrev Z9d:HS:=.live (Xf 5 kU8 ((Ya m 8)++Ve ((m.X6.length:Nat):Int)++Ii m.X6 k))
abbrev Z9e:St:=⟨[aa,pv 0 0,aa,pv 1 0,aa,(Z9c m k),vI ((k:Nat):Int)],[(Z8n tm m),(Z8q m),(Z9d m k)]⟩
abbrev Z9f:List HS:=[(Z8n tm m),(Z8q m),.live (Xf 5 kU8 ((Ya m 8)++Ve ((m.X6.length:Nat):Int)++Ii m.X6 0))]
abbrev Z9g:AV:=vI ((k+1:Nat):Int)
abbrev Z9h:List HS:=[(Z8n tm m),(Z8q m),.live (Xf 5 kU8 ((Ya m 8)++Ve ((m.X6.length:Nat):Int)++Ii m.X6 (k+1)))]
abbrev Z9i:List AV:=[aa,pv 0 0,Y8 2 kU8 0 (Ya m 9).length,pv 1 0,aa,Y8 2 kU8 0 (Ya m 9).length]
end
theorem Xbu (tm:Bool) (m:aM) (hl:(Ya m 9).length≤1000000000) (hq:m.Xp.length≤9223372036854775807) (hr:m.Y4.length≤9223372036854775807) (hc:m.X6.length≤9223372036854775807) (hd:m.Xc.length≤9223372036854775807) (hg:m.X9.length≤9223372036854775807):Holds Tryz.prog 25 ⟨[.tv (.agg [dI m.X1,dI m.Y1,dI m.Xs,dI m.Xh,dI m.Yh,dS m.X9,.d (dsl tm false kU8 m.Xc),dI m.X0.Xt,dI m.X0.Xn,.d (dsl tm false (kE tm) m.Xp),.d (dsl tm false (kE tm) m.Y4),.d (dsl tm false (kC tm) m.X6)])],[],slV false false kU8 (F2 m),[]⟩:=by
 refine Holds.of Tryz.func25 rfl (N:=106) Tryz.ntmps25 rfl fun w0 B0 S0 U0=>?_
 show T _ (Y2 106 0 w0 S0 U0 B0) ⟨[.tv (.agg (Z8m tm m))],[]⟩ _ _
 have hi1:=Wk m.Xh
 have hi2:=Wk m.X0.Xt
 have hi0:=Wk m.X1
 refine sR [] (T.seq (sR [hR 1 rfl rfl (rCa (X6k tm m (by omega) (by omega) (by omega) (by omega) (by omega)) Tryz.func61 [] [(.tmp 7,.tv (.agg (Z8m tm m)))] 0 0)] ?_))
 by_cases hq1:(X75 m)≠0
 ·refine cT (dT hq1) (sR [] (T.ret (rT ?_)))
  refine eN (Z8o tm m) ?_
  refine X7 (s':=⟨[.tv (.agg (Z8m tm m)),pv 0 0,slV false false kU8 ([]:List UInt8),aa,aa,aa,aa,aa,aa,vB (decide ((X75 m)≠0))],[(Z8n tm m)]⟩) (fun _ _ hG=>Yt (s:=(Z8o tm m)) (kk2 ⟨pZ5,⟨.inl rfl,p4k⟩⟩) ⟨.inl rfl,trivial⟩ hG) ?_
  exact eRt 2 (.one (dU ([]:List UInt8))) [] (congrArg (fun (q1:List UInt8)=>(slV false false kU8 q1:AV)) (by exact (if_neg (fun h9=>by have h8:=chk0.2 h9;contradiction)))) trivial
 have hwl:=chk0.1 (Classical.not_not.1 hq1);have hcl0:=Jc ((m.X6.length:Nat):Int)
 refine cF (dF hq1) (T.skip (nT (sR [hR 2 rfl rfl (rCa (X06 m.X1 ) Tryz.func62 [] [(.tmp 12,vI m.X1)] 0 0)] (sR [hR 2 rfl rfl (rCn (Ud false false ([]:List UInt8) m.X1 (by decide)) Tryz.func63 [2] [(.const (.slice none 0 0),dv (.slice none 0 0)),(.tmp 17,vI m.X1)] 0 1 ⟨.inr pZ5,⟨.inl ⟨rfl,rfl⟩,trivial⟩⟩ ⟨rfl,trivial⟩)] ?_))))
 refine Um ⟨(Z8p m),(Z8r tm m)⟩ ?_ ?_
 ·refine tN ⟨[.tv (.agg (Z8m tm m)),pv 0 0,dv (.slice none 0 0),pv 1 0,aa,Y8 2 kU8 0 (([]:List UInt8)++Yy m.X1).length,aa,aa,aa,vB (decide ((X75 m)≠0))],[(Z8n tm m),(Z8q m),.live (Xf 5 kU8 (([]:List UInt8)++Yy m.X1))]⟩ ?_
  refine Wx (s':=⟨(Z8s m),(Z8t tm m)⟩) (fun _ _ hG=>Yv [0,1,2] (bm 6 42) (t2:=[aa,pv 0 0,aa,pv 1 0,aa,Y8 2 kU8 0 (([]:List UInt8)++Yy m.X1).length]) (h2:=[(Z8n tm m),(Z8q m),.live (Xf 5 kU8 (([]:List UInt8)++Yy m.X1))]) (congrArg (fun (q1:Nat)=>([aa,pv 0 0,aa,pv 1 0,aa,Y8 2 kU8 0 q1]:List AV)) (by rfl)) (congrArg (fun (q1:List UInt8)=>([(Z8n tm m),(Z8q m),.live (Xf 5 kU8 q1)]:List HS)) (by rfl)) hG) (sR [] ?_)
  by_cases hq2:(Xi m.X1).Y1=true
  ·have hbt:Ux (Xi m.X1) 0=true:=hq2;have hst:Ya m 1=Ya m 0++Yy m.Y1:=(Hr (j:=0) (i:=0) rfl hbt);have hrm:=Hd (m:=m) (j:=0) (i:=0) rfl hbt (by decide);simp only [F8,List.length_append,Wk,Vf] at hrm
   refine cT hq2 (xK [hR 3 rfl rfl (Wu (Ud true false (Ya m 0) m.Y1 (by omega)) Tryz.func63 rfl (by decide) [3] [2] (l:=[(.tmp 21,Y8 2 kU8 0 (Ya m 0).length),(.tmp 23,vI m.Y1)]) [(2,.live (Xf 5 kU8 (Ya m 0)))] rfl 0 1 rfl rfl rfl rfl rfl rfl rfl rfl rfl ⟨.inr (.inl ⟨rfl,pZv,rfl,rfl,by simp,5,(Ya m 0).length,W7 kU8 (Ya m 0),List.Mem.head _,pZl,fun i j=>by rw [Nat.zero_add]⟩),⟨.inl ⟨rfl,rfl⟩,trivial⟩⟩ rfl pZ6 pk (X3 rfl) trivial)] ?_)
   refine eN ⟨[aa,pv 0 0,aa,pv 1 0,aa,Y8 3 kU8 0 ((Ya m 0)++Yy m.Y1).length,aa,aa,aa,aa,aa,aa,aa,aa,aa,aa,aa,aa,aa,aa,vB (Xi m.X1).Y1],[(Z8n tm m),(Z8q m),.live (Xf 5 kU8 (Ya m 0)),.live (Xf 5 kU8 ((Ya m 0)++Yy m.Y1))]⟩ ?_
   refine X7 (s':=⟨(Z8p m),(Z8r tm m)⟩) (fun _ _ hG=>Wf [0,1,3] (bm 6 42) (t1:=[aa,pv 0 0,aa,pv 1 0,aa,Y8 3 kU8 0 (Ya m 1).length]) (t2:=[aa,pv 0 0,aa,pv 1 0,aa,Y8 3 kU8 0 ((Ya m 0)++Yy m.Y1).length]) (h1:=(Z8r tm m)) (h2:=[(Z8n tm m),(Z8q m),.live (Xf 5 kU8 ((Ya m 0)++Yy m.Y1))]) (by have e1:((Ya m 1).length:Nat)=((Ya m 0)++Yy m.Y1).length:=Ur;have hE:=congrArg (fun (q1:Nat)=>([aa,pv 0 0,aa,pv 1 0,aa,Y8 3 kU8 0 q1]:List AV)) e1;exact hE) (by have e1:((Ya m 1):List UInt8)=(Ya m 0)++Yy m.Y1:=Ur;have hE:=congrArg (fun (q1:List UInt8)=>([(Z8n tm m),(Z8q m),.live (Xf 5 kU8 q1)]:List HS)) e1;exact hE) hG) ?_
   exact nJ
  have hbt:¬Ux (Xi m.X1) 0=true:=hq2;have hst:Ya m 1=Ya m 0:=X0n (j:=0) hbt
  replace hq2:=Bool.eq_false_iff.2 hq2
  refine cF hq2 (T.skip ?_)
  refine eN ⟨[aa,pv 0 0,aa,pv 1 0,aa,Y8 2 kU8 0 (Ya m 0).length,aa,aa,aa,aa,aa,aa,aa,aa,aa,aa,aa,aa,aa,aa,vB (Xi m.X1).Y1],(Z8t tm m)⟩ ?_
  refine X7 (s':=⟨(Z8p m),(Z8r tm m)⟩) (fun _ _ hG=>Yv [0,1,2] (bm 6 42) (t2:=(Z8s m)) (h2:=(Z8t tm m)) (by have e1:((Ya m 1).length:Nat)=(Ya m 0).length:=Ur;have hE:=congrArg (fun (q1:Nat)=>([aa,pv 0 0,aa,pv 1 0,aa,Y8 2 kU8 0 q1]:List AV)) e1;exact hE) (by have e1:((Ya m 1):List UInt8)=(Ya m 0):=Ur;have hE:=congrArg (fun (q1:List UInt8)=>([(Z8n tm m),(Z8q m),.live (Xf 5 kU8 q1)]:List HS)) e1;exact hE) hG) ?_
  exact nJ
 refine Um ⟨(Z8u m),(Z8v tm m)⟩ ?_ ?_
 ·refine sR [] ?_
  by_cases hq3:(Xi m.X1).Xs=true
  ·have hbt:Ux (Xi m.X1) 1=true:=hq3;have hst:Ya m 2=Ya m 1++Yy m.Xs:=(Hr (j:=1) (i:=1) rfl hbt);have hrm:=Hd (m:=m) (j:=1) (i:=1) rfl hbt (by decide);simp only [F8,List.length_append,Wk,Vf] at hrm
   refine cT hq3 (xK [hR 3 rfl rfl (Wu (Ud true false (Ya m 1) m.Xs (by omega)) Tryz.func63 rfl (by decide) [3] [2] (l:=[(.tmp 27,Y8 2 kU8 0 (Ya m 1).length),(.tmp 29,vI m.Xs)]) [(2,.live (Xf 5 kU8 (Ya m 1)))] rfl 0 1 rfl rfl rfl rfl rfl rfl rfl rfl rfl ⟨.inr (.inl ⟨rfl,pZv,rfl,rfl,by simp,5,(Ya m 1).length,W7 kU8 (Ya m 1),List.Mem.head _,pZl,fun i j=>by rw [Nat.zero_add]⟩),⟨.inl ⟨rfl,rfl⟩,trivial⟩⟩ rfl pZ6 pk (X3 rfl) trivial)] ?_)
   refine eN ⟨[aa,pv 0 0,aa,pv 1 0,aa,Y8 3 kU8 0 ((Ya m 1)++Yy m.Xs).length,aa,aa,aa,aa,aa,aa,aa,aa,aa,aa,aa,aa,aa,aa,aa,aa,aa,aa,aa,aa,vB (Xi m.X1).Xs],[(Z8n tm m),(Z8q m),.live (Xf 5 kU8 (Ya m 1)),.live (Xf 5 kU8 ((Ya m 1)++Yy m.Xs))]⟩ ?_
   refine X7 (s':=⟨(Z8u m),(Z8v tm m)⟩) (fun _ _ hG=>Wf [0,1,3] (bm 6 42) (t1:=[aa,pv 0 0,aa,pv 1 0,aa,Y8 3 kU8 0 (Ya m 2).length]) (t2:=[aa,pv 0 0,aa,pv 1 0,aa,Y8 3 kU8 0 ((Ya m 1)++Yy m.Xs).length]) (h1:=(Z8v tm m)) (h2:=[(Z8n tm m),(Z8q m),.live (Xf 5 kU8 ((Ya m 1)++Yy m.Xs))]) (by have e1:((Ya m 2).length:Nat)=((Ya m 1)++Yy m.Xs).length:=Ur;have hE:=congrArg (fun (q1:Nat)=>([aa,pv 0 0,aa,pv 1 0,aa,Y8 3 kU8 0 q1]:List AV)) e1;exact hE) (by have e1:((Ya m 2):List UInt8)=(Ya m 1)++Yy m.Xs:=Ur;have hE:=congrArg (fun (q1:List UInt8)=>([(Z8n tm m),(Z8q m),.live (Xf 5 kU8 q1)]:List HS)) e1;exact hE) hG) ?_
   exact nJ
  have hbt:¬Ux (Xi m.X1) 1=true:=hq3;have hst:Ya m 2=Ya m 1:=X0n (j:=1) hbt
  replace hq3:=Bool.eq_false_iff.2 hq3
  refine cF hq3 (T.skip ?_)
  refine eN ⟨[aa,pv 0 0,aa,pv 1 0,aa,Y8 2 kU8 0 (Ya m 1).length,aa,aa,aa,aa,aa,aa,aa,aa,aa,aa,aa,aa,aa,aa,aa,aa,aa,aa,aa,aa,vB (Xi m.X1).Xs],(Z8r tm m)⟩ ?_
  refine X7 (s':=⟨(Z8u m),(Z8v tm m)⟩) (fun _ _ hG=>Yv [0,1,2] (bm 6 42) (t2:=(Z8p m)) (h2:=(Z8r tm m)) (by have e1:((Ya m 2).length:Nat)=(Ya m 1).length:=Ur;have hE:=congrArg (fun (q1:Nat)=>([aa,pv 0 0,aa,pv 1 0,aa,Y8 2 kU8 0 q1]:List AV)) e1;exact hE) (by have e1:((Ya m 2):List UInt8)=(Ya m 1):=Ur;have hE:=congrArg (fun (q1:List UInt8)=>([(Z8n tm m),(Z8q m),.live (Xf 5 kU8 q1)]:List HS)) e1;exact hE) hG) ?_
  exact nJ
 refine Um ⟨(Z8w m),(Z8x tm m)⟩ ?_ ?_
 ·refine sR [] ?_
  by_cases hq4:(Xi m.X1).Xh=true
  ·have hbt:Ux (Xi m.X1) 2=true:=hq4;have hst:Ya m 3=Ya m 2++Yy m.Xh++Yy m.Yh:=(Hr (j:=2) (i:=2) rfl hbt).trans (List.append_assoc ..).symm;have hrm:=Hd (m:=m) (j:=2) (i:=2) rfl hbt (by decide);simp only [F8,List.length_append,Wk,Vf] at hrm
   refine cT hq4 ?_
   refine xD [[],[],[1],[0,1,2],[],[4],[0,1,2,3,4,5],[0,1,2,3,4,5,6]] [hR 3 rfl rfl (Wu (Ud true false (Ya m 2) m.Xh (by omega)) Tryz.func63 rfl (by decide) [3] [2] (l:=[(.tmp 33,Y8 2 kU8 0 (Ya m 2).length),(.tmp 35,vI m.Xh)]) [(2,.live (Xf 5 kU8 (Ya m 2)))] rfl 0 1 rfl rfl rfl rfl rfl rfl rfl rfl rfl ⟨.inr (.inl ⟨rfl,pZv,rfl,rfl,by simp,5,(Ya m 2).length,W7 kU8 (Ya m 2),List.Mem.head _,pZl,fun i j=>by rw [Nat.zero_add]⟩),⟨.inl ⟨rfl,rfl⟩,trivial⟩⟩ rfl pZ6 pk (X3 rfl) trivial),hR 6 rfl rfl (Wu (Ud true false ((Ya m 2)++Yy m.Xh) m.Yh X72) Tryz.func63 rfl (by decide) [4] [3] (l:=[(.tmp 36,Y8 3 kU8 0 ((Ya m 2)++Yy m.Xh).length),(.tmp 38,vI m.Yh)]) [(3,.live (Xf 5 kU8 ((Ya m 2)++Yy m.Xh)))] rfl 0 1 rfl rfl rfl rfl rfl rfl rfl rfl rfl ⟨.inr (.inl ⟨rfl,pZv,rfl,rfl,by simp,5,((Ya m 2)++Yy m.Xh).length,W7 kU8 ((Ya m 2)++Yy m.Xh),List.Mem.head _,pZl,fun i j=>by rw [Nat.zero_add]⟩),⟨.inl ⟨rfl,rfl⟩,trivial⟩⟩ rfl pZ6 pk (X3 rfl) trivial)] pZ8 pZ8 pZ8 pZ8 pZ8 pZ8 ?_
   refine eN ⟨[aa,pv 0 0,aa,pv 1 0,aa,(Z8y m),aa,aa,aa,aa,aa,aa,aa,aa,aa,aa,aa,aa,aa,aa,aa,aa,aa,aa,aa,aa,aa,aa,aa,aa,aa,aa,vB (Xi m.X1).Xh],[(Z8n tm m),(Z8q m),.live (Xf 5 kU8 (Ya m 2)),.live (Xf 5 kU8 ((Ya m 2)++Yy m.Xh)),.live (Xf 5 kU8 ((Ya m 2)++Yy m.Xh++Yy m.Yh))]⟩ ?_
   refine X7 (s':=⟨(Z8w m),(Z8x tm m)⟩) (fun _ _ hG=>Wf [0,1,4] (bm 6 42) (t1:=[aa,pv 0 0,aa,pv 1 0,aa,Y8 4 kU8 0 (Ya m 3).length]) (t2:=[aa,pv 0 0,aa,pv 1 0,aa,(Z8y m)]) (h1:=(Z8x tm m)) (h2:=[(Z8n tm m),(Z8q m),.live (Xf 5 kU8 ((Ya m 2)++Yy m.Xh++Yy m.Yh))]) (by have e1:((Ya m 3).length:Nat)=((Ya m 2)++Yy m.Xh++Yy m.Yh).length:=Ur;have hE:=congrArg (fun (q1:Nat)=>([aa,pv 0 0,aa,pv 1 0,aa,Y8 4 kU8 0 q1]:List AV)) e1;exact hE) (by have e1:((Ya m 3):List UInt8)=(Ya m 2)++Yy m.Xh++Yy m.Yh:=Ur;have hE:=congrArg (fun (q1:List UInt8)=>([(Z8n tm m),(Z8q m),.live (Xf 5 kU8 q1)]:List HS)) e1;exact hE) hG) ?_
   exact nJ
  have hbt:¬Ux (Xi m.X1) 2=true:=hq4;have hst:Ya m 3=Ya m 2:=X0n (j:=2) hbt
  replace hq4:=Bool.eq_false_iff.2 hq4
  refine cF hq4 (T.skip ?_)
  refine eN ⟨[aa,pv 0 0,aa,pv 1 0,aa,Y8 2 kU8 0 (Ya m 2).length,aa,aa,aa,aa,aa,aa,aa,aa,aa,aa,aa,aa,aa,aa,aa,aa,aa,aa,aa,aa,aa,aa,aa,aa,aa,aa,vB (Xi m.X1).Xh],(Z8v tm m)⟩ ?_
  refine X7 (s':=⟨(Z8w m),(Z8x tm m)⟩) (fun _ _ hG=>Yv [0,1,2] (bm 6 42) (t2:=(Z8u m)) (h2:=(Z8v tm m)) (by have e1:((Ya m 3).length:Nat)=(Ya m 2).length:=Ur;have hE:=congrArg (fun (q1:Nat)=>([aa,pv 0 0,aa,pv 1 0,aa,Y8 2 kU8 0 q1]:List AV)) e1;exact hE) (by have e1:((Ya m 3):List UInt8)=(Ya m 2):=Ur;have hE:=congrArg (fun (q1:List UInt8)=>([(Z8n tm m),(Z8q m),.live (Xf 5 kU8 q1)]:List HS)) e1;exact hE) hG) ?_
  exact nJ
 refine Um ⟨(Z8z m),(Z90 tm m)⟩ ?_ ?_
 ·refine sR [] ?_
  by_cases hq5:(Xi m.X1).X9=true
  ·have hbt:Ux (Xi m.X1) 3=true:=hq5;have hst:Ya m 4=Ya m 3++Yx m.X9:=(Hr (j:=3) (i:=3) rfl hbt);have hrm:=Hd (m:=m) (j:=3) (i:=3) rfl hbt (by decide);simp only [F8,List.length_append,Wk,Vf] at hrm
   refine cT hq5 ?_
   refine xR [hR 3 rfl rfl (Jv (l:=m.X9) Tryz.underlying60 Tryz.underlying25 Tryz.underlying5 (X3 rfl) trivial),hR 4 rfl rfl (Wu (Ia true false (Ya m 3) false true m.X9 (by omega)) Tryz.func64 rfl (by decide) [3] [2] (l:=[(.tmp 42,Y8 2 kU8 0 (Ya m 3).length),(.tmp 45,slV false true kU8 m.X9)]) [(2,.live (Xf 5 kU8 (Ya m 3)))] rfl 0 1 rfl rfl rfl rfl rfl rfl rfl rfl rfl ⟨.inr (.inl ⟨rfl,pZv,rfl,rfl,by simp,5,(Ya m 3).length,W7 kU8 (Ya m 3),List.Mem.head _,pZl,fun i j=>by rw [Nat.zero_add]⟩),⟨.inl ⟨rfl,rfl⟩,trivial⟩⟩ rfl pZ6 pk (X3 rfl) trivial)] pZ8 pZ8 ?_
   refine eN ⟨[aa,pv 0 0,aa,pv 1 0,aa,Y8 3 kU8 0 ((Ya m 3)++Yx m.X9).length,aa,aa,aa,aa,aa,aa,aa,aa,aa,aa,aa,aa,aa,aa,aa,aa,aa,aa,aa,aa,aa,aa,aa,aa,aa,aa,aa,aa,aa,aa,aa,aa,aa,aa,aa,vB (Xi m.X1).X9],[(Z8n tm m),(Z8q m),.live (Xf 5 kU8 (Ya m 3)),.live (Xf 5 kU8 ((Ya m 3)++Yx m.X9))]⟩ ?_
   refine X7 (s':=⟨(Z8z m),(Z90 tm m)⟩) (fun _ _ hG=>Wf [0,1,3] (bm 6 42) (t1:=[aa,pv 0 0,aa,pv 1 0,aa,Y8 3 kU8 0 (Ya m 4).length]) (t2:=[aa,pv 0 0,aa,pv 1 0,aa,Y8 3 kU8 0 ((Ya m 3)++Yx m.X9).length]) (h1:=(Z90 tm m)) (h2:=[(Z8n tm m),(Z8q m),.live (Xf 5 kU8 ((Ya m 3)++Yx m.X9))]) (by have e1:((Ya m 4).length:Nat)=((Ya m 3)++Yx m.X9).length:=Ur;have hE:=congrArg (fun (q1:Nat)=>([aa,pv 0 0,aa,pv 1 0,aa,Y8 3 kU8 0 q1]:List AV)) e1;exact hE) (by have e1:((Ya m 4):List UInt8)=(Ya m 3)++Yx m.X9:=Ur;have hE:=congrArg (fun (q1:List UInt8)=>([(Z8n tm m),(Z8q m),.live (Xf 5 kU8 q1)]:List HS)) e1;exact hE) hG) ?_
   exact nJ
  have hbt:¬Ux (Xi m.X1) 3=true:=hq5;have hst:Ya m 4=Ya m 3:=X0n (j:=3) hbt
  replace hq5:=Bool.eq_false_iff.2 hq5
  refine cF hq5 (T.skip ?_)
  refine eN ⟨[aa,pv 0 0,aa,pv 1 0,aa,Y8 2 kU8 0 (Ya m 3).length,aa,aa,aa,aa,aa,aa,aa,aa,aa,aa,aa,aa,aa,aa,aa,aa,aa,aa,aa,aa,aa,aa,aa,aa,aa,aa,aa,aa,aa,aa,aa,aa,aa,aa,aa,vB (Xi m.X1).X9],(Z8x tm m)⟩ ?_
  refine X7 (s':=⟨(Z8z m),(Z90 tm m)⟩) (fun _ _ hG=>Yv [0,1,2] (bm 6 42) (t2:=(Z8w m)) (h2:=(Z8x tm m)) (by have e1:((Ya m 4).length:Nat)=(Ya m 3).length:=Ur;have hE:=congrArg (fun (q1:Nat)=>([aa,pv 0 0,aa,pv 1 0,aa,Y8 2 kU8 0 q1]:List AV)) e1;exact hE) (by have e1:((Ya m 4):List UInt8)=(Ya m 3):=Ur;have hE:=congrArg (fun (q1:List UInt8)=>([(Z8n tm m),(Z8q m),.live (Xf 5 kU8 q1)]:List HS)) e1;exact hE) hG) ?_
  exact nJ
 refine Um ⟨(Z91 m),(Z92 tm m)⟩ ?_ ?_
 ·refine sR [] ?_
  by_cases hq6:(Xi m.X1).Xc=true
  ·have hbt:Ux (Xi m.X1) 4=true:=hq6;have hst:Ya m 5=Ya m 4++Yx m.Xc:=(Hr (j:=4) (i:=4) rfl hbt);have hrm:=Hd (m:=m) (j:=4) (i:=4) rfl hbt (by decide);simp only [F8,List.length_append,Wk,Vf] at hrm
   refine cT hq6 (xK [hR 3 rfl rfl (Wu (Ia true false (Ya m 4) tm false m.Xc (by omega)) Tryz.func64 rfl (by decide) [3] [2] (l:=[(.tmp 49,Y8 2 kU8 0 (Ya m 4).length),(.tmp 51,slV tm false kU8 m.Xc)]) [(2,.live (Xf 5 kU8 (Ya m 4)))] rfl 0 1 rfl rfl rfl rfl rfl rfl rfl rfl rfl ⟨.inr (.inl ⟨rfl,pZv,rfl,rfl,by simp,5,(Ya m 4).length,W7 kU8 (Ya m 4),List.Mem.head _,pZl,fun i j=>by rw [Nat.zero_add]⟩),⟨.inl ⟨rfl,rfl⟩,trivial⟩⟩ rfl pZ6 pk (X3 rfl) trivial)] ?_)
   refine eN ⟨[aa,pv 0 0,aa,pv 1 0,aa,Y8 3 kU8 0 ((Ya m 4)++Yx m.Xc).length,aa,aa,aa,aa,aa,aa,aa,aa,aa,aa,aa,aa,aa,aa,aa,aa,aa,aa,aa,aa,aa,aa,aa,aa,aa,aa,aa,aa,aa,aa,aa,aa,aa,aa,aa,aa,aa,aa,aa,aa,aa,aa,vB (Xi m.X1).Xc],[(Z8n tm m),(Z8q m),.live (Xf 5 kU8 (Ya m 4)),.live (Xf 5 kU8 ((Ya m 4)++Yx m.Xc))]⟩ ?_
   refine X7 (s':=⟨(Z91 m),(Z92 tm m)⟩) (fun _ _ hG=>Wf [0,1,3] (bm 6 42) (t1:=[aa,pv 0 0,aa,pv 1 0,aa,Y8 3 kU8 0 (Ya m 5).length]) (t2:=[aa,pv 0 0,aa,pv 1 0,aa,Y8 3 kU8 0 ((Ya m 4)++Yx m.Xc).length]) (h1:=(Z92 tm m)) (h2:=[(Z8n tm m),(Z8q m),.live (Xf 5 kU8 ((Ya m 4)++Yx m.Xc))]) (by have e1:((Ya m 5).length:Nat)=((Ya m 4)++Yx m.Xc).length:=Ur;have hE:=congrArg (fun (q1:Nat)=>([aa,pv 0 0,aa,pv 1 0,aa,Y8 3 kU8 0 q1]:List AV)) e1;exact hE) (by have e1:((Ya m 5):List UInt8)=(Ya m 4)++Yx m.Xc:=Ur;have hE:=congrArg (fun (q1:List UInt8)=>([(Z8n tm m),(Z8q m),.live (Xf 5 kU8 q1)]:List HS)) e1;exact hE) hG) ?_
   exact nJ
  have hbt:¬Ux (Xi m.X1) 4=true:=hq6;have hst:Ya m 5=Ya m 4:=X0n (j:=4) hbt
  replace hq6:=Bool.eq_false_iff.2 hq6
  refine cF hq6 (T.skip ?_)
  refine eN ⟨[aa,pv 0 0,aa,pv 1 0,aa,Y8 2 kU8 0 (Ya m 4).length,aa,aa,aa,aa,aa,aa,aa,aa,aa,aa,aa,aa,aa,aa,aa,aa,aa,aa,aa,aa,aa,aa,aa,aa,aa,aa,aa,aa,aa,aa,aa,aa,aa,aa,aa,aa,aa,aa,aa,aa,aa,aa,vB (Xi m.X1).Xc],(Z90 tm m)⟩ ?_
  refine X7 (s':=⟨(Z91 m),(Z92 tm m)⟩) (fun _ _ hG=>Yv [0,1,2] (bm 6 42) (t2:=(Z8z m)) (h2:=(Z90 tm m)) (by have e1:((Ya m 5).length:Nat)=(Ya m 4).length:=Ur;have hE:=congrArg (fun (q1:Nat)=>([aa,pv 0 0,aa,pv 1 0,aa,Y8 2 kU8 0 q1]:List AV)) e1;exact hE) (by have e1:((Ya m 5):List UInt8)=(Ya m 4):=Ur;have hE:=congrArg (fun (q1:List UInt8)=>([(Z8n tm m),(Z8q m),.live (Xf 5 kU8 q1)]:List HS)) e1;exact hE) hG) ?_
  exact nJ
 refine Um ⟨(Z93 m),(Z94 tm m)⟩ ?_ ?_
 ·refine sR [] ?_
  by_cases hq7:(Xi m.X1).X0=true
  ·have hbt:Ux (Xi m.X1) 5=true:=hq7;have hst:Ya m 6=Ya m 5++Yy m.X0.Xt++Yy m.X0.Xn:=(Hr (j:=5) (i:=5) rfl hbt).trans (List.append_assoc ..).symm;have hrm:=Hd (m:=m) (j:=5) (i:=5) rfl hbt (by decide);simp only [F8,List.length_append,Wk,Vf] at hrm
   refine cT hq7 ?_
   refine xD [[],[],[1],[1,2],[0,1,2,3],[],[5],[5,6],[0,1,2,3,4,5,6,7],[0,1,2,3,4,5,6,7,8]] [hR 4 rfl rfl (Wu (Ud true false (Ya m 5) m.X0.Xt (by omega)) Tryz.func63 rfl (by decide) [3] [2] (l:=[(.tmp 55,Y8 2 kU8 0 (Ya m 5).length),(.tmp 58,vI m.X0.Xt)]) [(2,.live (Xf 5 kU8 (Ya m 5)))] rfl 0 1 rfl rfl rfl rfl rfl rfl rfl rfl rfl ⟨.inr (.inl ⟨rfl,pZv,rfl,rfl,by simp,5,(Ya m 5).length,W7 kU8 (Ya m 5),List.Mem.head _,pZl,fun i j=>by rw [Nat.zero_add]⟩),⟨.inl ⟨rfl,rfl⟩,trivial⟩⟩ rfl pZ6 pk (X3 rfl) trivial),hR 8 rfl rfl (Wu (Ud true false ((Ya m 5)++Yy m.X0.Xt) m.X0.Xn X72) Tryz.func63 rfl (by decide) [4] [3] (l:=[(.tmp 59,Y8 3 kU8 0 ((Ya m 5)++Yy m.X0.Xt).length),(.tmp 62,vI m.X0.Xn)]) [(3,.live (Xf 5 kU8 ((Ya m 5)++Yy m.X0.Xt)))] rfl 0 1 rfl rfl rfl rfl rfl rfl rfl rfl rfl ⟨.inr (.inl ⟨rfl,pZv,rfl,rfl,by simp,5,((Ya m 5)++Yy m.X0.Xt).length,W7 kU8 ((Ya m 5)++Yy m.X0.Xt),List.Mem.head _,pZl,fun i j=>by rw [Nat.zero_add]⟩),⟨.inl ⟨rfl,rfl⟩,trivial⟩⟩ rfl pZ6 pk (X3 rfl) trivial)] pZ8 pZ8 pZ8 pZ8 pZ8 pZ8 ?_
   refine eN ⟨[aa,pv 0 0,aa,pv 1 0,aa,(Z95 m),aa,aa,aa,aa,aa,aa,aa,aa,aa,aa,aa,aa,aa,aa,aa,aa,aa,aa,aa,aa,aa,aa,aa,aa,aa,aa,aa,aa,aa,aa,aa,aa,aa,aa,aa,aa,aa,aa,aa,aa,aa,aa,aa,aa,aa,aa,aa,aa,vB (Xi m.X1).X0],[(Z8n tm m),(Z8q m),.live (Xf 5 kU8 (Ya m 5)),.live (Xf 5 kU8 ((Ya m 5)++Yy m.X0.Xt)),.live (Xf 5 kU8 ((Ya m 5)++Yy m.X0.Xt++Yy m.X0.Xn))]⟩ ?_
   refine X7 (s':=⟨(Z93 m),(Z94 tm m)⟩) (fun _ _ hG=>Wf [0,1,4] (bm 6 42) (t1:=[aa,pv 0 0,aa,pv 1 0,aa,Y8 4 kU8 0 (Ya m 6).length]) (t2:=[aa,pv 0 0,aa,pv 1 0,aa,(Z95 m)]) (h1:=(Z94 tm m)) (h2:=[(Z8n tm m),(Z8q m),.live (Xf 5 kU8 ((Ya m 5)++Yy m.X0.Xt++Yy m.X0.Xn))]) (by have e1:((Ya m 6).length:Nat)=((Ya m 5)++Yy m.X0.Xt++Yy m.X0.Xn).length:=Ur;have hE:=congrArg (fun (q1:Nat)=>([aa,pv 0 0,aa,pv 1 0,aa,Y8 4 kU8 0 q1]:List AV)) e1;exact hE) (by have e1:((Ya m 6):List UInt8)=(Ya m 5)++Yy m.X0.Xt++Yy m.X0.Xn:=Ur;have hE:=congrArg (fun (q1:List UInt8)=>([(Z8n tm m),(Z8q m),.live (Xf 5 kU8 q1)]:List HS)) e1;exact hE) hG) ?_
   exact nJ
  have hbt:¬Ux (Xi m.X1) 5=true:=hq7;have hst:Ya m 6=Ya m 5:=X0n (j:=5) hbt
  replace hq7:=Bool.eq_false_iff.2 hq7
  refine cF hq7 (T.skip ?_)
  refine eN ⟨[aa,pv 0 0,aa,pv 1 0,aa,Y8 2 kU8 0 (Ya m 5).length,aa,aa,aa,aa,aa,aa,aa,aa,aa,aa,aa,aa,aa,aa,aa,aa,aa,aa,aa,aa,aa,aa,aa,aa,aa,aa,aa,aa,aa,aa,aa,aa,aa,aa,aa,aa,aa,aa,aa,aa,aa,aa,aa,aa,aa,aa,aa,aa,vB (Xi m.X1).X0],(Z92 tm m)⟩ ?_
  refine X7 (s':=⟨(Z93 m),(Z94 tm m)⟩) (fun _ _ hG=>Yv [0,1,2] (bm 6 42) (t2:=(Z91 m)) (h2:=(Z92 tm m)) (by have e1:((Ya m 6).length:Nat)=(Ya m 5).length:=Ur;have hE:=congrArg (fun (q1:Nat)=>([aa,pv 0 0,aa,pv 1 0,aa,Y8 2 kU8 0 q1]:List AV)) e1;exact hE) (by have e1:((Ya m 6):List UInt8)=(Ya m 5):=Ur;have hE:=congrArg (fun (q1:List UInt8)=>([(Z8n tm m),(Z8q m),.live (Xf 5 kU8 q1)]:List HS)) e1;exact hE) hG) ?_
  exact nJ
 refine Um ⟨(Z96 m),(Z97 tm m)⟩ ?_ ?_
 ·refine sR [] ?_
  by_cases hq8:(Xi m.X1).Xp=true
  ·have hbt:Ux (Xi m.X1) 6=true:=hq8;have hst:Ya m 7=Ya m 6++Vq m.Xp:=(Hr (j:=6) (i:=6) rfl hbt);have hrm:=Hd (m:=m) (j:=6) (i:=6) rfl hbt (by decide);simp only [F8,List.length_append,Wk,Vf] at hrm
   refine cT hq8 (xK [hR 3 rfl rfl (Wu (X3c true false (Ya m 6) tm false tm m.Xp (by omega) (by omega)) Tryz.func65 rfl (by decide) [3] [2] (l:=[(.tmp 66,Y8 2 kU8 0 (Ya m 6).length),(.tmp 68,slV tm false (kE tm) m.Xp)]) [(2,.live (Xf 5 kU8 (Ya m 6)))] rfl 0 1 rfl rfl rfl rfl rfl rfl rfl rfl rfl ⟨.inr (.inl ⟨rfl,pZv,rfl,rfl,by simp,5,(Ya m 6).length,W7 kU8 (Ya m 6),List.Mem.head _,pZl,fun i j=>by rw [Nat.zero_add]⟩),⟨.inl ⟨rfl,rfl⟩,trivial⟩⟩ rfl pZ6 pk (X3 rfl) trivial)] ?_)
   refine eN ⟨[aa,pv 0 0,aa,pv 1 0,aa,Y8 3 kU8 0 ((Ya m 6)++Vq m.Xp).length,aa,aa,aa,aa,aa,aa,aa,aa,aa,aa,aa,aa,aa,aa,aa,aa,aa,aa,aa,aa,aa,aa,aa,aa,aa,aa,aa,aa,aa,aa,aa,aa,aa,aa,aa,aa,aa,aa,aa,aa,aa,aa,aa,aa,aa,aa,aa,aa,aa,aa,aa,aa,aa,aa,aa,aa,aa,aa,aa,vB (Xi m.X1).Xp],[(Z8n tm m),(Z8q m),.live (Xf 5 kU8 (Ya m 6)),.live (Xf 5 kU8 ((Ya m 6)++Vq m.Xp))]⟩ ?_
   refine X7 (s':=⟨(Z96 m),(Z97 tm m)⟩) (fun _ _ hG=>Wf [0,1,3] (bm 6 42) (t1:=[aa,pv 0 0,aa,pv 1 0,aa,Y8 3 kU8 0 (Ya m 7).length]) (t2:=[aa,pv 0 0,aa,pv 1 0,aa,Y8 3 kU8 0 ((Ya m 6)++Vq m.Xp).length]) (h1:=(Z97 tm m)) (h2:=[(Z8n tm m),(Z8q m),.live (Xf 5 kU8 ((Ya m 6)++Vq m.Xp))]) (by have e1:((Ya m 7).length:Nat)=((Ya m 6)++Vq m.Xp).length:=Ur;have hE:=congrArg (fun (q1:Nat)=>([aa,pv 0 0,aa,pv 1 0,aa,Y8 3 kU8 0 q1]:List AV)) e1;exact hE) (by have e1:((Ya m 7):List UInt8)=(Ya m 6)++Vq m.Xp:=Ur;have hE:=congrArg (fun (q1:List UInt8)=>([(Z8n tm m),(Z8q m),.live (Xf 5 kU8 q1)]:List HS)) e1;exact hE) hG) ?_
   exact nJ
  have hbt:¬Ux (Xi m.X1) 6=true:=hq8;have hst:Ya m 7=Ya m 6:=X0n (j:=6) hbt
  replace hq8:=Bool.eq_false_iff.2 hq8
  refine cF hq8 (T.skip ?_)
  refine eN ⟨[aa,pv 0 0,aa,pv 1 0,aa,Y8 2 kU8 0 (Ya m 6).length,aa,aa,aa,aa,aa,aa,aa,aa,aa,aa,aa,aa,aa,aa,aa,aa,aa,aa,aa,aa,aa,aa,aa,aa,aa,aa,aa,aa,aa,aa,aa,aa,aa,aa,aa,aa,aa,aa,aa,aa,aa,aa,aa,aa,aa,aa,aa,aa,aa,aa,aa,aa,aa,aa,aa,aa,aa,aa,aa,vB (Xi m.X1).Xp],(Z94 tm m)⟩ ?_
  refine X7 (s':=⟨(Z96 m),(Z97 tm m)⟩) (fun _ _ hG=>Yv [0,1,2] (bm 6 42) (t2:=(Z93 m)) (h2:=(Z94 tm m)) (by have e1:((Ya m 7).length:Nat)=(Ya m 6).length:=Ur;have hE:=congrArg (fun (q1:Nat)=>([aa,pv 0 0,aa,pv 1 0,aa,Y8 2 kU8 0 q1]:List AV)) e1;exact hE) (by have e1:((Ya m 7):List UInt8)=(Ya m 6):=Ur;have hE:=congrArg (fun (q1:List UInt8)=>([(Z8n tm m),(Z8q m),.live (Xf 5 kU8 q1)]:List HS)) e1;exact hE) hG) ?_
  exact nJ
 refine Um ⟨(Z98 m),(Z99 tm m)⟩ ?_ ?_
 ·refine sR [] ?_
  by_cases hq9:(Xi m.X1).Y4=true
  ·have hbt:Ux (Xi m.X1) 7=true:=hq9;have hst:Ya m 8=Ya m 7++Vq m.Y4:=(Hr (j:=7) (i:=7) rfl hbt);have hrm:=Hd (m:=m) (j:=7) (i:=7) rfl hbt (by decide);simp only [F8,List.length_append,Wk,Vf] at hrm
   refine cT hq9 (xK [hR 3 rfl rfl (Wu (X3c true false (Ya m 7) tm false tm m.Y4 (by omega) (by omega)) Tryz.func65 rfl (by decide) [3] [2] (l:=[(.tmp 72,Y8 2 kU8 0 (Ya m 7).length),(.tmp 74,slV tm false (kE tm) m.Y4)]) [(2,.live (Xf 5 kU8 (Ya m 7)))] rfl 0 1 rfl rfl rfl rfl rfl rfl rfl rfl rfl ⟨.inr (.inl ⟨rfl,pZv,rfl,rfl,by simp,5,(Ya m 7).length,W7 kU8 (Ya m 7),List.Mem.head _,pZl,fun i j=>by rw [Nat.zero_add]⟩),⟨.inl ⟨rfl,rfl⟩,trivial⟩⟩ rfl pZ6 pk (X3 rfl) trivial)] ?_)
   refine eN ⟨[aa,pv 0 0,aa,pv 1 0,aa,Y8 3 kU8 0 ((Ya m 7)++Vq m.Y4).length,aa,aa,aa,aa,aa,aa,aa,aa,aa,aa,aa,aa,aa,aa,aa,aa,aa,aa,aa,aa,aa,aa,aa,aa,aa,aa,aa,aa,aa,aa,aa,aa,aa,aa,aa,aa,aa,aa,aa,aa,aa,aa,aa,aa,aa,aa,aa,aa,aa,aa,aa,aa,aa,aa,aa,aa,aa,aa,aa,aa,aa,aa,aa,aa,aa,vB (Xi m.X1).Y4],[(Z8n tm m),(Z8q m),.live (Xf 5 kU8 (Ya m 7)),.live (Xf 5 kU8 ((Ya m 7)++Vq m.Y4))]⟩ ?_
   refine X7 (s':=⟨(Z98 m),(Z99 tm m)⟩) (fun _ _ hG=>Wf [0,1,3] (bm 6 42) (t1:=[aa,pv 0 0,aa,pv 1 0,aa,Y8 3 kU8 0 (Ya m 8).length]) (t2:=[aa,pv 0 0,aa,pv 1 0,aa,Y8 3 kU8 0 ((Ya m 7)++Vq m.Y4).length]) (h1:=(Z99 tm m)) (h2:=[(Z8n tm m),(Z8q m),.live (Xf 5 kU8 ((Ya m 7)++Vq m.Y4))]) (by have e1:((Ya m 8).length:Nat)=((Ya m 7)++Vq m.Y4).length:=Ur;have hE:=congrArg (fun (q1:Nat)=>([aa,pv 0 0,aa,pv 1 0,aa,Y8 3 kU8 0 q1]:List AV)) e1;exact hE) (by have e1:((Ya m 8):List UInt8)=(Ya m 7)++Vq m.Y4:=Ur;have hE:=congrArg (fun (q1:List UInt8)=>([(Z8n tm m),(Z8q m),.live (Xf 5 kU8 q1)]:List HS)) e1;exact hE) hG) ?_
   exact nJ
  have hbt:¬Ux (Xi m.X1) 7=true:=hq9;have hst:Ya m 8=Ya m 7:=X0n (j:=7) hbt
  replace hq9:=Bool.eq_false_iff.2 hq9
  refine cF hq9 (T.skip ?_)
  refine eN ⟨[aa,pv 0 0,aa,pv 1 0,aa,Y8 2 kU8 0 (Ya m 7).length,aa,aa,aa,aa,aa,aa,aa,aa,aa,aa,aa,aa,aa,aa,aa,aa,aa,aa,aa,aa,aa,aa,aa,aa,aa,aa,aa,aa,aa,aa,aa,aa,aa,aa,aa,aa,aa,aa,aa,aa,aa,aa,aa,aa,aa,aa,aa,aa,aa,aa,aa,aa,aa,aa,aa,aa,aa,aa,aa,aa,aa,aa,aa,aa,aa,vB (Xi m.X1).Y4],(Z97 tm m)⟩ ?_
  refine X7 (s':=⟨(Z98 m),(Z99 tm m)⟩) (fun _ _ hG=>Yv [0,1,2] (bm 6 42) (t2:=(Z96 m)) (h2:=(Z97 tm m)) (by have e1:((Ya m 8).length:Nat)=(Ya m 7).length:=Ur;have hE:=congrArg (fun (q1:Nat)=>([aa,pv 0 0,aa,pv 1 0,aa,Y8 2 kU8 0 q1]:List AV)) e1;exact hE) (by have e1:((Ya m 8):List UInt8)=(Ya m 7):=Ur;have hE:=congrArg (fun (q1:List UInt8)=>([(Z8n tm m),(Z8q m),.live (Xf 5 kU8 q1)]:List HS)) e1;exact hE) hG) ?_
  exact nJ
 refine Um ⟨(Z9a m),(Z9b tm m)⟩ ?_ ?_
 ·refine sR [] ?_
  by_cases hq10:(Xi m.X1).X6=true
  rotate_left
  ·have hbt:¬Ux (Xi m.X1) 8=true:=hq10;have hst:Ya m 9=Ya m 8:=X0n (j:=8) hbt
   replace hq10:=Bool.eq_false_iff.2 hq10
   refine cF hq10 (T.skip ?_)
   refine eN ⟨[aa,pv 0 0,aa,pv 1 0,aa,Y8 2 kU8 0 (Ya m 8).length,aa,aa,aa,aa,aa,aa,aa,aa,aa,aa,aa,aa,aa,aa,aa,aa,aa,aa,aa,aa,aa,aa,aa,aa,aa,aa,aa,aa,aa,aa,aa,aa,aa,aa,aa,aa,aa,aa,aa,aa,aa,aa,aa,aa,aa,aa,aa,aa,aa,aa,aa,aa,aa,aa,aa,aa,aa,aa,aa,aa,aa,aa,aa,aa,aa,aa,aa,aa,aa,aa,aa,vB (Xi m.X1).X6],(Z99 tm m)⟩ ?_
   refine X7 (s':=⟨(Z9a m),(Z9b tm m)⟩) (fun _ _ hG=>Yv [0,1,2] (bm 6 42) (t2:=(Z98 m)) (h2:=(Z99 tm m)) (by have e1:((Ya m 9).length:Nat)=(Ya m 8).length:=Ur;have hE:=congrArg (fun (q1:Nat)=>([aa,pv 0 0,aa,pv 1 0,aa,Y8 2 kU8 0 q1]:List AV)) e1;exact hE) (by have e1:((Ya m 9):List UInt8)=(Ya m 8):=Ur;have hE:=congrArg (fun (q1:List UInt8)=>([(Z8n tm m),(Z8q m),.live (Xf 5 kU8 q1)]:List HS)) e1;exact hE) hG) ?_
   exact nJ
  have hbt:Ux (Xi m.X1) 8=true:=hq10;have hst:Ya m 9=Ya m 8++Em m.X6:=(Hr (j:=8) (i:=8) rfl hbt);have hrm:=Hd (m:=m) (j:=8) (i:=8) rfl hbt (by decide);simp only [F8,List.length_append,Wk,Vf] at hrm
  refine cT hq10 (sR [hR 4 rfl rfl (Wu (E1 true false (Ya m 8) ((m.X6.length:Nat):Int) (by omega)) Tryz.func66 rfl (by decide) [3] [2] (l:=[(.tmp 78,Y8 2 kU8 0 (Ya m 8).length),(.tmp 81,vI ((m.X6.length:Nat):Int))]) [(2,.live (Xf 5 kU8 (Ya m 8)))] rfl 0 1 rfl rfl rfl rfl rfl rfl rfl rfl rfl ⟨.inr (.inl ⟨rfl,pZv,rfl,rfl,by simp,5,(Ya m 8).length,W7 kU8 (Ya m 8),List.Mem.head _,pZl,fun i j=>by rw [Nat.zero_add]⟩),⟨.inl ⟨rfl,rfl⟩,trivial⟩⟩ rfl pZ6 pk (X3 rfl) trivial)] (sR [] (T.block ?_)))
  refine T.loop (ι:=Nat) (fun (k:Nat)=>(Z9e tm m k)) (fun (k:Nat)=>(k≤m.X6.length)) (fun (k:Nat)=>m.X6.length-k) (0) (Nat.zero_le _) (fun _ _ hG=>Wf [0,1,3] (bm 7 106) (t1:=[aa,pv 0 0,aa,pv 1 0,aa,Y8 3 kU8 0 ((Ya m 8)++Ve ((m.X6.length:Nat):Int)++Ii m.X6 0).length,vI 0]) (t2:=[aa,pv 0 0,aa,pv 1 0,aa,Y8 3 kU8 0 ((Ya m 8)++Ve ((m.X6.length:Nat):Int)).length,vI 0]) (h1:=(Z9f tm m)) (h2:=[(Z8n tm m),(Z8q m),.live (Xf 5 kU8 ((Ya m 8)++Ve ((m.X6.length:Nat):Int)))]) (by have e1:(((Ya m 8)++Ve ((m.X6.length:Nat):Int)++Ii m.X6 0).length:Nat)=((Ya m 8)++Ve ((m.X6.length:Nat):Int)).length:=(by (rw [crt_0,List.append_nil];done));have hE:=congrArg (fun (q1:Nat)=>([aa,pv 0 0,aa,pv 1 0,aa,Y8 3 kU8 0 q1,vI 0]:List AV)) e1;exact hE) (by have e1:(((Ya m 8)++Ve ((m.X6.length:Nat):Int)++Ii m.X6 0):List UInt8)=(Ya m 8)++Ve ((m.X6.length:Nat):Int):=(by (rw [crt_0,List.append_nil];done));have hE:=congrArg (fun (q1:List UInt8)=>([(Z8n tm m),(Z8q m),.live (Xf 5 kU8 q1)]:List HS)) e1;exact hE) hG) ?_
  rintro k hk
  show T _ _ (Z9e tm m k) _ _
  replace hk:k≤m.X6.length:=hk
  have hcle:=crt_le m.X6 k
  refine T.seq (sR [] ?_)
  by_cases hq11:((k:Nat):Int)<((m.X6.length:Nat):Int)
  ·have hcr:=crt_room (l:=m.X6) (k:=k) (by omega);have hvc:=list_cnt (m.X6.getD k zC).Xu;have hcl:=Jc ((m.X6.length:Nat):Int)
   refine cT (dT hq11) (T.skip (nT (T.seq (T.block ?_))))
   refine xD [[],[],[1],[],[1,2,3],[1,2,3,4],[1,2,3,4,5],[0,1,2,3,4,5,6],[],[8],[],[8,9,10],[8,9,10,11],[8,9,10,11,12],[0,1,2,3,4,5,6,7,8,9,10,11,12,13],[0,1,2,3,4,5,6,7,8,9,10,11,12,13,14]] [hR 4 rfl rfl (We tm false (kC tm) m.X6 k (k:=.i64) (i:=((k:Nat):Int)) Tryz.underlying76 Fp rfl rfl (by omega) (X3 rfl) trivial),hR 7 rfl rfl (Wu (X1g true false ((Ya m 8)++Ve ((m.X6.length:Nat):Int)++Ii m.X6 k) tm (m.X6.getD k zC).I5 X72) Tryz.func67 rfl (by decide) [3] [2] (l:=[(.tmp 90,(Z9c m k)),(.tmp 96,.tv (.agg [dI (m.X6.getD k zC).I5.X5,.d (dsl tm false kU8 (m.X6.getD k zC).I5.Xd)]))]) [(2,(Z9d m k))] rfl 0 1 rfl rfl rfl rfl rfl rfl rfl rfl rfl ⟨.inr (.inl ⟨rfl,pZv,rfl,rfl,by simp,5,((Ya m 8)++Ve ((m.X6.length:Nat):Int)++Ii m.X6 k).length,W7 kU8 ((Ya m 8)++Ve ((m.X6.length:Nat):Int)++Ii m.X6 k),List.Mem.head _,pZl,fun i j=>by rw [Nat.zero_add]⟩),⟨⟨.inl ⟨rfl,rfl⟩,⟨.inl ⟨rfl,rfl⟩,trivial⟩⟩,trivial⟩⟩ rfl pZ6 pk (X3 rfl) trivial),hR 11 rfl rfl (We tm false (kC tm) m.X6 k (k:=.i64) (i:=((k:Nat):Int)) Tryz.underlying76 Fp rfl rfl (by omega) (X3 rfl) trivial),hR 14 rfl rfl (Wu (X3c true false (((Ya m 8)++Ve ((m.X6.length:Nat):Int)++Ii m.X6 k)++Ih (m.X6.getD k zC).I5) tm false tm (m.X6.getD k zC).Xu X72 (by omega)) Tryz.func65 rfl (by decide) [4] [3] (l:=[(.tmp 97,Y8 3 kU8 0 (((Ya m 8)++Ve ((m.X6.length:Nat):Int)++Ii m.X6 k)++Ih (m.X6.getD k zC).I5).length),(.tmp 103,slV tm false (kE tm) (m.X6.getD k zC).Xu)]) [(3,.live (Xf 5 kU8 (((Ya m 8)++Ve ((m.X6.length:Nat):Int)++Ii m.X6 k)++Ih (m.X6.getD k zC).I5)))] rfl 0 1 rfl rfl rfl rfl rfl rfl rfl rfl rfl ⟨.inr (.inl ⟨rfl,pZv,rfl,rfl,by simp,5,(((Ya m 8)++Ve ((m.X6.length:Nat):Int)++Ii m.X6 k)++Ih (m.X6.getD k zC).I5).length,W7 kU8 (((Ya m 8)++Ve ((m.X6.length:Nat):Int)++Ii m.X6 k)++Ih (m.X6.getD k zC).I5),List.Mem.head _,pZl,fun i j=>by rw [Nat.zero_add]⟩),⟨.inl ⟨rfl,rfl⟩,trivial⟩⟩ rfl pZ6 pk (X3 rfl) trivial)] pZ8 pZ8 pZ8 pZ8 pZ8 pZ8 ?_
   refine nB (nT (xK [hR 1 rfl rfl (Yd (u1:=.int .i64 ((k:Nat):Int)) (u2:=.int .i64 1) (v:=.int .i64 ((k+1:Nat):Int)) (Wb pc) (X3 rfl) ⟨rfl,trivial⟩)] ?_))
   refine nL (k+1) (show (k+1)≤m.X6.length from (by omega)) (show (m.X6.length-(k+1):Nat)<m.X6.length-k from (by omega)) (fun _ _ hG=>Wf [0,1,4] (bm 7 106) (t1:=[aa,pv 0 0,aa,pv 1 0,aa,Y8 4 kU8 0 ((Ya m 8)++Ve ((m.X6.length:Nat):Int)++Ii m.X6 (k+1)).length,(Z9g k)]) (t2:=[aa,pv 0 0,aa,pv 1 0,aa,Y8 4 kU8 0 (((Ya m 8)++Ve ((m.X6.length:Nat):Int)++Ii m.X6 k)++Ih (m.X6.getD k zC).I5++Vq (m.X6.getD k zC).Xu).length,(Z9g k)]) (h1:=(Z9h tm m k)) (h2:=[(Z8n tm m),(Z8q m),.live (Xf 5 kU8 (((Ya m 8)++Ve ((m.X6.length:Nat):Int)++Ii m.X6 k)++Ih (m.X6.getD k zC).I5++Vq (m.X6.getD k zC).Xu))]) (by have e1:(((Ya m 8)++Ve ((m.X6.length:Nat):Int)++Ii m.X6 (k+1)).length:Nat)=(((Ya m 8)++Ve ((m.X6.length:Nat):Int)++Ii m.X6 k)++Ih (m.X6.getD k zC).I5++Vq (m.X6.getD k zC).Xu).length:=(by (rw [Xf7 (by omega)];simp only [List.append_assoc];done));have hE:=congrArg (fun (q1:Nat)=>([aa,pv 0 0,aa,pv 1 0,aa,Y8 4 kU8 0 q1,(Z9g k)]:List AV)) e1;exact hE) (by have e1:(((Ya m 8)++Ve ((m.X6.length:Nat):Int)++Ii m.X6 (k+1)):List UInt8)=((Ya m 8)++Ve ((m.X6.length:Nat):Int)++Ii m.X6 k)++Ih (m.X6.getD k zC).I5++Vq (m.X6.getD k zC).Xu:=(by (rw [Xf7 (by omega)];simp only [List.append_assoc];done));have hE:=congrArg (fun (q1:List UInt8)=>([(Z8n tm m),(Z8q m),.live (Xf 5 kU8 q1)]:List HS)) e1;exact hE) hG)
  refine cF (dF hq11) (T.exit (xT (xT (xH ?_))))
  refine eN ⟨[aa,pv 0 0,aa,pv 1 0,aa,(Z9c m k),vI ((k:Nat):Int),aa,aa,aa,aa,aa,aa,aa,aa,aa,aa,aa,aa,aa,aa,aa,aa,aa,aa,aa,aa,aa,aa,aa,aa,aa,aa,aa,aa,aa,aa,aa,aa,aa,aa,aa,aa,aa,aa,aa,aa,aa,aa,aa,aa,aa,aa,aa,aa,aa,aa,aa,aa,aa,aa,aa,aa,aa,aa,aa,aa,aa,aa,aa,aa,aa,aa,aa,aa,aa,aa,aa,aa,aa,aa,aa,aa,aa,aa,aa,aa,vB (decide (((k:Nat):Int)<((m.X6.length:Nat):Int)))],[(Z8n tm m),(Z8q m),(Z9d m k)]⟩ ?_
  refine X7 (s':=⟨(Z9a m),(Z9b tm m)⟩) (fun _ _ hG=>Yv [0,1,2] (bm 6 42) (t2:=[aa,pv 0 0,aa,pv 1 0,aa,(Z9c m k)]) (h2:=[(Z8n tm m),(Z8q m),(Z9d m k)]) (by have e1:((Ya m 9).length:Nat)=((Ya m 8)++Ve ((m.X6.length:Nat):Int)++Ii m.X6 k).length:=p4w;have hE:=congrArg (fun (q1:Nat)=>([aa,pv 0 0,aa,pv 1 0,aa,Y8 2 kU8 0 q1]:List AV)) e1;exact hE) (by have e1:((Ya m 9):List UInt8)=((Ya m 8)++Ve ((m.X6.length:Nat):Int)++Ii m.X6 k):=p4w;have hE:=congrArg (fun (q1:List UInt8)=>([(Z8n tm m),(Z8q m),.live (Xf 5 kU8 q1)]:List HS)) e1;exact hE) hG) ?_
  exact nJ
 refine sR [] (T.ret ?_)
 refine eN ⟨(Z9i m),(Z9b tm m)⟩ ?_
 refine X7 (s':=⟨[aa,pv 0 0,slV false false kU8 (Ya m 9),pv 1 0,aa,slV false false kU8 (Ya m 9)],[(Z8n tm m),(Z8q m),.dead]⟩) (fun _ _ hG=>Gs.freeze (s:=⟨(Z9i m),(Z9b tm m)⟩) 2 (el:=W7 kU8 (Ya m 9)) (sz:=kU8.sz) (n:=(Ya m 9).length) rfl (kk2 ⟨(.inr pZ0),(kk2 ⟨(.inr pZ0),trivial⟩)⟩) ⟨pZ9,⟨pZ9,⟨(.inl ⟨rfl,rfl⟩),trivial⟩⟩⟩ hG) ?_
 exact eRt 2 (.one (dU (Ya m 9))) [] (congrArg (fun (q1:List UInt8)=>(slV false false kU8 q1:AV)) (by exact (if_pos hwl))) trivial
end Go.Proofs.YtnaopgohccacmaaGreat.Q
namespace Go.Proofs.YtnaopgohccacmaaGreat.Q
set_option linter.unusedVariables false
set_option linter.unusedSimpArgs false
theorem Xko {n:Int} (hn:Ek n) (r:List UInt8):rdI (Yy n++r) 0=n∧rdR (Yy n++r) 0 8 0=r∧rdE (Yy n++r) 0 8 0=0:=by
  have hk:okT (Yy n++r) 0 8 0:=Xi8 (Wk n)
  refine ⟨?_,?_,X5e hk⟩
  · rw [rdI,if_pos hk,X7u (Wk n),Yy,Xb1 (Nat.lt_of_lt_of_le (Xfu n) (by decide)),Xj5 hn]
  · rw [X5d hk];exact X9h (Wk n)
theorem Xjn (r:List UInt8) (e:Int):Ek (rdI r e):=by
  unfold rdI Ek
  split
  · have:=X1q (l:=r.take 8) (List.length_take_le _ _)
    unfold X0y
    split<;>omega
  · omega
theorem rdX_ok {r:List UInt8} {e:Int} (h:rdX r e=0):e=0∧r=[]:=by
  unfold rdX at h
  split at h
  · cases h
  · rename_i h1
    refine ⟨h,?_⟩
    cases r with
    | nil=>rfl
    | cons a r=>exact absurd ⟨h,by simp<;>omega⟩ h1
end Go.Proofs.YtnaopgohccacmaaGreat.Q
namespace Go.Proofs.YtnaopgohccacmaaGreat.Q
set_option linter.unusedVariables false
set_option linter.unusedSimpArgs false
theorem lim_big {rest:List UInt8} {M:Int} (hM:((rest.length:Nat):Int)≤M) (h:V2 (rest.take 4)≤(rest.drop 4).length):Yw M (rest.take 4)=0:=by
  unfold Yw
  rw [List.length_drop] at h
  rw [if_neg (by omega)]
theorem okY_any {rest:List UInt8} {e M M':Int} (hM:((rest.length:Nat):Int)≤M) (hM':((rest.length:Nat):Int)≤M') (h:okY rest e M):okY rest e M':=by
  obtain ⟨h1,h2⟩:=h
  exact ⟨⟨h1.1,h1.2.1,lim_big hM' h2⟩,h2⟩
theorem X7f {rest:List UInt8} {e M:Int}:V3 rest e M=0↔okY rest e M:=by
  unfold V3 okY
  constructor
  · intro h
    split at h
    · rename_i h1
      split at h
      · rename_i h2;exact ⟨h1,h2⟩
      · cases h
    · rename_i h1;exact absurd h (Xgf h1)
  · rintro ⟨h1,h2⟩
    rw [if_pos h1,if_pos h2]
theorem X4c {rest:List UInt8} {e M M':Int} (hM:((rest.length:Nat):Int)≤M) (hM':((rest.length:Nat):Int)≤M') (h:V3 rest e M=0):V3 rest e M'=0∧rdY rest e M'=rdY rest e M∧Vt rest e M'=Vt rest e M:=by
  have h1:=X7f.1 h
  have h2:=okY_any hM hM' h1
  exact ⟨X7f.2 h2,by rw [rdY,rdY,if_pos h1,if_pos h2],by rw [Vt,Vt,if_pos h1,if_pos h2]⟩
end Go.Proofs.YtnaopgohccacmaaGreat.Q
namespace Go.Proofs.YtnaopgohccacmaaGreat.Q
set_option linter.unusedVariables false
set_option linter.unusedSimpArgs false
def V9 (B r:List UInt8):Nat:=B.length-r.length
theorem X5h (B r:List UInt8):V9 B r≤B.length:=Nat.sub_le _ _
section
variable {B r:List UInt8}
theorem Ez (h:r <:+ B):B.drop (V9 B r)=r:=(List.suffix_iff_eq_drop.1 h).symm
theorem pos_0:V9 B B=0:=Nat.sub_self _
theorem rdR_suf (r:List UInt8) (e n m:Int):rdR r e n m <:+ r:=by unfold rdR;split<;>first|exact List.drop_suffix _ _|exact List.suffix_refl _
theorem rdYR_suf (r:List UInt8) (e m:Int):Vt r e m <:+ r:=by unfold Vt;split<;>first|exact (List.drop_suffix _ _).trans (List.drop_suffix _ _)|exact List.suffix_refl _
theorem sufR {e n m:Int} (h:r <:+ B):rdR r e n m <:+ B:=(rdR_suf _ _ _ _).trans h
theorem sufY {e m:Int} (h:r <:+ B):Vt r e m <:+ B:=(rdYR_suf _ _ _).trans h
theorem pos_of {a:Nat} (ha:a≤B.length) (h:B.drop a=r):a=V9 B r:=by
  subst h
  unfold V9
  rw [List.length_drop]
  omega
theorem pos_R {e n m:Int} (h:r <:+ B):rfA B (V9 B r) e n m=V9 B (rdR r e n m):=pos_of (Xg1 (X5h _ _)) (by rw [Xdk,Ez h])
theorem pos_Y {e m:Int} (h:r <:+ B):H8 B (V9 B r) e m=V9 B (Vt r e m):=pos_of (Xbq (X5h _ _)) (by rw [X59,Ez h])
end
end Go.Proofs.YtnaopgohccacmaaGreat.Q
namespace Go.Proofs.YtnaopgohccacmaaGreat.Q
set_option linter.unusedVariables false
set_option linter.unusedSimpArgs false
set_option maxRecDepth 100000
def Jh (h:Int) (d s:List UInt8):List UInt8:=Yy h++Yx d++Yx s
def uD (M:Int) (b:List UInt8):List UInt8:=rdY (rdR b 0 8 0) (rdE b 0 8 0) M
def uR2 (M:Int) (b:List UInt8):List UInt8:=Vt (rdR b 0 8 0) (rdE b 0 8 0) M
def uE2 (M:Int) (b:List UInt8):Int:=V3 (rdR b 0 8 0) (rdE b 0 8 0) M
def uS (M:Int) (b:List UInt8):List UInt8:=rdY (uR2 M b) (uE2 M b) M
def uR3 (M:Int) (b:List UInt8):List UInt8:=Vt (uR2 M b) (uE2 M b) M
def uE3 (M:Int) (b:List UInt8):Int:=V3 (uR2 M b) (uE2 M b) M
def okU (M:Int) (b:List UInt8):Prop:=rdX (uR3 M b) (uE3 M b)=0∧0≤rdI b 0∧rdI b 0≤1099511627776
instance (M:Int) (b:List UInt8):Decidable (okU M b):=inferInstanceAs (Decidable (_∧_∧_))
def unH (M:Int) (b:List UInt8):Int:=if okU M b then rdI b 0 else 0
def unD (M:Int) (b:List UInt8):List UInt8:=if okU M b then uD M b else []
def unS (M:Int) (b:List UInt8):List UInt8:=if okU M b then uS M b else []
def unE (M:Int) (b:List UInt8):Int:=if okU M b then 0 else 12
theorem Xe0 (h:Int) (d s:List UInt8):(Jh h d s).length=16+d.length+s.length:=by
  simp only [Jh,List.length_append,Wk,Vf];omega
theorem Xft (M:Int) (b:List UInt8):(rdR b 0 8 0).length≤b.length∧(uR2 M b).length≤b.length∧(uR3 M b).length≤b.length∧(uD M b).length≤b.length∧(uS M b).length≤b.length:=by
  have h1:=U3 b 0 8 0
  have h2:(uR2 M b).length≤b.length:=Nat.le_trans (X1k _ _ _) h1
  exact ⟨h1,h2,Nat.le_trans (X1k _ _ _) h2,Nat.le_trans (X0c _ _ _) h1,Nat.le_trans (X0c _ _ _) h2⟩
theorem Xi7 {b:List UInt8} {M M':Int} (hM:((b.length:Nat):Int)≤M) (hM':((b.length:Nat):Int)≤M') (h:okU M b):okU M' b∧uD M' b=uD M b∧uS M' b=uS M b:=by
  obtain ⟨h1,h2⟩:=h
  obtain ⟨x1,x2⟩:=rdX_ok h1
  have l1:=U3 b 0 8 0
  have l2:=(Xft M b).2.1
  have e2:uE2 M b=0:=(X7f.1 x1).1.1
  obtain ⟨a1,a2,a3⟩:=X4c (M':=M') (show (((rdR b 0 8 0).length:Nat):Int)≤M by omega) (by omega) e2
  have a1':uE2 M' b=uE2 M b:=a1.trans e2.symm
  have a3':uR2 M' b=uR2 M b:=a3
  obtain ⟨b1,b2,b3⟩:=X4c (M':=M') (show (((uR2 M b).length:Nat):Int)≤M by omega) (by omega) x1
  refine ⟨⟨?_,h2⟩,a2,by unfold uS;rw [a1',a3'];exact b2⟩
  unfold uR3 uE3
  rw [a1',a3',b3]
  show rdX (uR3 M b) (V3 (uR2 M b) (uE2 M b) M')=0
  rw [b1,← show uE3 M b=0 from x1]
  exact h1.trans x1.symm
theorem Xfs {b:List UInt8} {M M':Int} (hM:((b.length:Nat):Int)≤M) (hM':((b.length:Nat):Int)≤M'):unH M b=unH M' b∧unD M b=unD M' b∧unS M b=unS M' b∧unE M b=unE M' b:=by
  unfold unH unD unS unE
  by_cases h:okU M b
  · obtain ⟨h1,h2,h3⟩:=Xi7 hM hM' h
    rw [if_pos h,if_pos h,if_pos h,if_pos h,if_pos h1,if_pos h1,if_pos h1,if_pos h1,h2,h3]
    exact ⟨rfl,rfl,rfl,rfl⟩
  · have h1:¬okU M' b:=fun h'=>h (Xi7 hM' hM h').1
    rw [if_neg h,if_neg h,if_neg h,if_neg h,if_neg h1,if_neg h1,if_neg h1,if_neg h1]
    exact ⟨rfl,rfl,rfl,rfl⟩
theorem un_pack {h:Int} {d s:List UInt8} {M:Int} (hh:Ek h) (hd:d.length≤1000000) (hs:s.length≤1000000) (hM:(((Jh h d s).length:Nat):Int)≤M) :
    rdI (Jh h d s) 0=h∧uD M (Jh h d s)=d∧uS M (Jh h d s)=s∧uR3 M (Jh h d s)=[]∧uE3 M (Jh h d s)=0:=by
  have hl:=Xe0 h d s
  have hx:Jh h d s=Yy h++(Yx d++(Yx s++[])):=by simp [Jh,List.append_assoc]
  generalize Jh h d s=x at hx hl hM ⊢
  obtain ⟨a1,a2,a3⟩:=Xko hh (Yx d++(Yx s++[]))
  obtain ⟨b1,b2,b3⟩:=X6v (most:=M) (x:=d) (by omega) (Yx s++[]) (by omega)
  obtain ⟨c1,c2,c3⟩:=X6v (most:=M) (x:=s) (by omega) [] (by omega)
  have e1:uR2 M x=Yx s++[]:=by unfold uR2;rw [hx,a2,a3];exact b2
  have e2:uE2 M x=0:=by unfold uE2;rw [hx,a2,a3];exact b3
  refine ⟨by rw [hx];exact a1,by unfold uD;rw [hx,a2,a3];exact b1,by unfold uS;rw [e1,e2];exact c1,by unfold uR3;rw [e1,e2];exact c2,by unfold uE3;rw [e1,e2];exact c3⟩
theorem un_ok {h:Int} {d s:List UInt8} {M:Int} (hh:Ek h) (hd:d.length≤1000000) (hs:s.length≤1000000) (hM:(((Jh h d s).length:Nat):Int)≤M) :
    (unE M (Jh h d s)=0↔0≤h∧h≤1099511627776)∧(unE M (Jh h d s)=0→unH M (Jh h d s)=h∧unD M (Jh h d s)=d∧unS M (Jh h d s)=s):=by
  obtain ⟨a1,a2,a3,a4,a5⟩:=un_pack hh hd hs hM
  have hk:okU M (Jh h d s)↔0≤h∧h≤1099511627776:=by
    unfold okU
    rw [a1,a4,a5]
    exact ⟨fun h=>h.2,fun h=>⟨rfl,h⟩⟩
  unfold unE unH unD unS
  by_cases h1:okU M (Jh h d s)
  · rw [if_pos h1,if_pos h1,if_pos h1,if_pos h1,a1,a2,a3]
    exact ⟨⟨fun _=>hk.1 h1,fun _=>rfl⟩,fun _=>⟨rfl,rfl,rfl⟩⟩
  · rw [if_neg h1]
    exact ⟨⟨fun h=>(by cases h),fun h=>absurd (hk.2 h) h1⟩,fun h=>(by cases h)⟩
end Go.Proofs.YtnaopgohccacmaaGreat.Q
namespace Go.Proofs.YtnaopgohccacmaaGreat.Q
open Go Go.RowKit
set_option linter.unusedVariables false
set_option linter.unusedSimpArgs false
set_option maxRecDepth 100000
set_option maxHeartbeats 4000000
theorem Xef (tb:Bool) (nb:Bool) (b:List UInt8) (hb:b.length≤1000000000):Holds Tryz.prog 60 ⟨[slV tb nb kU8 b],[],dv (Yk (ofB 7 [b])),[]⟩:=by
 refine Holds.of Tryz.func60 rfl (N:=5) Tryz.ntmps60 rfl fun w0 B0 S0 U0=>?_
 show T _ (Y2 5 0 w0 S0 U0 B0) ⟨[slV tb nb kU8 b],[]⟩ _ _
 refine sR [] (sR [hR 1 rfl rfl (rCa (X57 (7:UInt8) tb nb b (by omega)) Tryz.func118 [] [(.const (.int .u8 7),dv (.int .u8 7)),(.tmp 3,slV tb nb kU8 b)] 0 0)] (T.ret ?_))
 exact eRt 2 (.one (dS (ofB (7:UInt8) [b]))) [] p2e trivial
theorem Xg4 (h:Int) (d:List UInt8) (ts:Bool) (ns:Bool) (s:List UInt8) (hd:d.length≤100000000) (hs:s.length≤100000000):Holds Tryz.prog 41 ⟨[vI h,dv (Yk d),slV ts ns kU8 s],[],Y8 0 kU8 0 (Jh h d s).length,[.live (Xf 5 kU8 (Jh h d s))]⟩:=by
 refine Holds.of Tryz.func41 rfl (N:=14) Tryz.ntmps41 rfl fun w0 B0 S0 U0=>?_
 show T _ (Y2 14 0 w0 S0 U0 B0) ⟨[vI h,dv (Yk d),slV ts ns kU8 s],[]⟩ _ _
 have hi:=Wk h
 have hb:=Vf d
 refine sR [] ?_
 refine sR [hR 1 rfl rfl (rCn (Ud false false ([]:List UInt8) h (by (simp [maxLen,-List.getD_eq_getElem?_getD]<;>omega))) Tryz.func63 [0] [(.const (.slice none 0 0),dv (.slice none 0 0)),(.tmp 7,vI h)] 0 1 ⟨.inr pZ5,⟨.inl ⟨rfl,rfl⟩,trivial⟩⟩ ⟨rfl,trivial⟩),hR 3 rfl rfl (Jv (l:=d) Tryz.underlying60 Tryz.underlying25 Tryz.underlying5 (X3 rfl) trivial),hR 4 rfl rfl (Wu (Ia true false (([]:List UInt8)++Yy h) false true d (by (simp [maxLen,-List.getD_eq_getElem?_getD]<;>omega))) Tryz.func64 rfl (by decide) [1] [0] (l:=[(.tmp 8,Y8 0 kU8 0 (([]:List UInt8)++Yy h).length),(.tmp 10,slV false true kU8 d)]) [(0,.live (Xf 5 kU8 (([]:List UInt8)++Yy h)))] rfl 0 1 rfl rfl rfl rfl rfl rfl rfl rfl rfl ⟨.inr (.inl ⟨rfl,pZv,rfl,rfl,by simp,5,(([]:List UInt8)++Yy h).length,W7 kU8 (([]:List UInt8)++Yy h),List.Mem.head _,pZl,fun i j=>by rw [Nat.zero_add]⟩),⟨.inl ⟨rfl,rfl⟩,trivial⟩⟩ rfl pZ6 pk (X3 rfl) trivial),hR 6 rfl rfl (Wu (Ia true false (([]:List UInt8)++Yy h++Yx d) ts ns s (by (simp [maxLen,-List.getD_eq_getElem?_getD]<;>omega))) Tryz.func64 rfl (by decide) [2] [1] (l:=[(.tmp 11,Y8 1 kU8 0 (([]:List UInt8)++Yy h++Yx d).length),(.tmp 12,slV ts ns kU8 s)]) [(1,.live (Xf 5 kU8 (([]:List UInt8)++Yy h++Yx d)))] rfl 0 1 rfl rfl rfl rfl rfl rfl rfl rfl rfl ⟨.inr (.inl ⟨rfl,pZv,rfl,rfl,by simp,5,(([]:List UInt8)++Yy h++Yx d).length,W7 kU8 (([]:List UInt8)++Yy h++Yx d),List.Mem.head _,pZl,fun i j=>by rw [Nat.zero_add]⟩),⟨.inl ⟨rfl,rfl⟩,trivial⟩⟩ rfl pZ6 pk (X3 rfl) trivial)] ?_
 refine T.ret ?_
 exact eRt 6 (.one (.own 2 kU8.sz 0 (([]:List UInt8)++Yy h++Yx d++Yx s).length)) [2] (congrArg (fun (q1:Nat)=>(Y8 2 kU8 0 q1:AV)) (by rfl)) ⟨⟨rfl,(by have e1:(([]:List UInt8)++Yy h++Yx d++Yx s:List UInt8)=Jh h d s:=(by rfl);have hE:=congrArg (fun (q1:List UInt8)=>(.live (Xf 5 kU8 q1):HS)) e1;exact Eq.trans pZ8 hE)⟩,trivial⟩
theorem X8h (tb:Bool) (nb:Bool) (b:List UInt8) (hb:b.length≤1000000000):Holds Tryz.prog 42 ⟨[slV tb nb kU8 b],[],dv (Yk (ofB 7 [b])),[]⟩:=by
 refine Holds.of Tryz.func42 rfl (N:=5) Tryz.ntmps42 rfl fun w0 B0 S0 U0=>?_
 show T _ (Y2 5 0 w0 S0 U0 B0) ⟨[slV tb nb kU8 b],[]⟩ _ _
 refine sR [] (sR [hR 1 rfl rfl (rCa (X8m (7:UInt8) tb nb b (by omega)) Tryz.func93 [] [(.const (.int .u8 7),dv (.int .u8 7)),(.tmp 3,slV tb nb kU8 b)] 0 0)] (T.ret ?_))
 exact eRt 2 (.one (dS (ofB (7:UInt8) [b]))) [] p2e trivial
section
variable (tb:Bool) (nb:Bool) (b:List UInt8)
abbrev Z9j:=(rdY (rdR b 0 8 0) (rdE b 0 8 0) ((b.length:Nat):Int))
abbrev Z9k:AV:=vI (rdI b 0)
abbrev Z9l:AV:=dv (Yk (Z9j b))
abbrev Z9m:=(Vt (rdR b 0 8 0) (rdE b 0 8 0) ((b.length:Nat):Int))
abbrev Z9n:=(V3 (rdR b 0 8 0) (rdE b 0 8 0) ((b.length:Nat):Int))
abbrev Z9o:=(rdY (Z9m b) (Z9n b) ((b.length:Nat):Int))
abbrev Z9p:AV:=Y8 2 kU8 0 (Z9o b).length
abbrev Z9q:HS:=.live (.box 195 [dU (Vt (Z9m b) (Z9n b) ((b.length:Nat):Int)),dI (rdX (Vt (Z9m b) (Z9n b) ((b.length:Nat):Int)) (V3 (Z9m b) (Z9n b) ((b.length:Nat):Int)))])
abbrev Z9r:List HS:=[(Z9q b),.live (Xf 5 kU8 (Z9j b)),.live (Xf 5 kU8 (Z9o b))]
abbrev Z9s:St:=⟨[slV tb nb kU8 b,aa,vI 0,dv (Yk []),dv (.slice none 0 0),vI 12,pv 0 0,(Z9k b),(Z9l b),(Z9p b),aa,aa,aa,aa,aa,aa,aa,aa,aa,aa,aa,aa,aa,aa,aa,aa,aa,aa,aa,aa,aa,aa,aa,aa,aa,vB true],(Z9r b)⟩
abbrev Z9t:St:=⟨[slV tb nb kU8 b,aa,vI 0,dv (Yk []),slV false false kU8 ([]:List UInt8),vI 12,pv 0 0,(Z9k b),(Z9l b),(Z9p b),aa,aa,aa,aa,aa,aa,aa,aa,aa,aa,aa,aa,aa,aa,aa,aa,aa,aa,aa,aa,aa,aa,aa,aa,aa,vB true],(Z9r b)⟩
abbrev Z9u:TV:=.one (dI 0)
abbrev Z9v:TV:=.one (dS [])
abbrev Z9w:TV:=.one (dU ([]:List UInt8))
abbrev Z9x:AV:=vB (decide ((rdI b 0)>1099511627776))
abbrev Z9y:St:=⟨[slV tb nb kU8 b,aa,vI 0,dv (Yk []),dv (.slice none 0 0),vI 12,pv 0 0,(Z9k b),(Z9l b),(Z9p b),aa,aa,aa,aa,aa,aa,aa,aa,aa,aa,aa,aa,aa,aa,aa,aa,aa,aa,aa,aa,aa,aa,aa,aa,aa,(Z9x b)],(Z9r b)⟩
abbrev Z9z:St:=⟨[slV tb nb kU8 b,aa,(Z9k b),(Z9l b),(Z9p b),vI 0,pv 0 0,(Z9k b),(Z9l b),(Z9p b),aa,aa,aa,aa,aa,aa,aa,aa,aa,aa,aa,aa,aa,aa,aa,aa,aa,aa,aa,aa,aa,aa,aa,aa,aa,(Z9x b)],(Z9r b)⟩
end
theorem X34 (tb:Bool) (nb:Bool) (b:List UInt8) (hb:b.length≤100000000):Holds Tryz.prog 50 ⟨[slV tb nb kU8 b],[],.tup [.one (dI (unH ((b.length:Nat):Int) b)),.one (dS (unD ((b.length:Nat):Int) b)),.one (dU (unS ((b.length:Nat):Int) b)),.one (dI (unE ((b.length:Nat):Int) b))],[]⟩:=by
 refine Holds.of Tryz.func50 rfl (N:=39) Tryz.ntmps50 rfl fun w0 B0 S0 U0=>?_
 show T _ (Y2 39 0 w0 S0 U0 B0) ⟨[slV tb nb kU8 b],[]⟩ _ _
 have hu:=Xft ((b.length:Nat):Int) b
 have hu1:=hu.1
 have hu2:=hu.2.1
 have hu3:=hu.2.2.1
 have hu4:=hu.2.2.2.1
 have hu5:=hu.2.2.2.2
 simp only [uR2,uR3,uE2,uD,uS] at hu2 hu3 hu4 hu5
 refine sR [] (sR [hR 1 rfl rfl (rCa (Xd4 tb nb b (by omega)) Tryz.func104 [0] [(.tmp 10,slV tb nb kU8 b)] 0 1)] ?_)
 refine sD [[],[0],[],[],[3],[0,1,2,3,4],[0,1,2,3,4,5],[],[],[8],[0,1,2,3,4,5,7,8,9],[0,1,2,3,4,5,7,8,9,10],[0,1,2,3,4,5,6,7,8,9,10,11],[0,1,2,3,4,5,6,7,8,9,10,11,12]] [hR 1 rfl rfl (rCa (rd_Int b 0 (by omega)) Tryz.func105 [0] [(.tmp 12,pv 0 0)] 1 1),hR 5 rfl rfl (rCa (X1j (rdR b 0 8 0) (rdE b 0 8 0) ((b.length:Nat):Int) (by omega)) Tryz.func106 [0,1] [(.tmp 14,pv 0 0),(.tmp 16,vI ((b.length:Nat):Int))] 1 2),hR 6 rfl rfl (Hp () (rdY (rdR b 0 8 0) (rdE b 0 8 0) ((b.length:Nat):Int)) (ys:=(.own 1 kU8.sz 0 (Z9j b).length)) (rhs:=[(1,.live (Xf 5 kU8 (Z9j b)))]) Tryz.underlying25 Tryz.underlying5 Tryz.underlying60 (Wv 1 5 kU8 (rdY (rdR b 0 8 0) (rdE b 0 8 0) ((b.length:Nat):Int))) (X3 rfl) trivial),hR 10 rfl rfl (rCa (X1j (Vt (rdR b 0 8 0) (rdE b 0 8 0) ((b.length:Nat):Int)) (V3 (rdR b 0 8 0) (rdE b 0 8 0) ((b.length:Nat):Int)) ((b.length:Nat):Int) (by omega)) Tryz.func106 [0,2] [(.tmp 19,pv 0 0),(.tmp 21,vI ((b.length:Nat):Int))] 1 2)] ?_
 refine T.seq (sR [hR 1 rfl rfl (rCa (Xgd (Vt (Vt (rdR b 0 8 0) (rdE b 0 8 0) ((b.length:Nat):Int)) (V3 (rdR b 0 8 0) (rdE b 0 8 0) ((b.length:Nat):Int)) ((b.length:Nat):Int)) (V3 (Vt (rdR b 0 8 0) (rdE b 0 8 0) ((b.length:Nat):Int)) (V3 (rdR b 0 8 0) (rdE b 0 8 0) ((b.length:Nat):Int)) ((b.length:Nat):Int)) (by omega)) Tryz.func107 [0] [(.tmp 23,pv 0 0)] 1 1)] ?_)
 by_cases hq1:(rdX (Vt (Vt (rdR b 0 8 0) (rdE b 0 8 0) ((b.length:Nat):Int)) (V3 (rdR b 0 8 0) (rdE b 0 8 0) ((b.length:Nat):Int)) ((b.length:Nat):Int)) (V3 (Vt (rdR b 0 8 0) (rdE b 0 8 0) ((b.length:Nat):Int)) (V3 (rdR b 0 8 0) (rdE b 0 8 0) ((b.length:Nat):Int)) ((b.length:Nat):Int)))≠0
 ·have hno:¬okU ((b.length:Nat):Int) b:=fun h9=>hq1 h9.1
  refine sR [hR 1 rfl rfl (rCa (X8q (Vt (Vt (rdR b 0 8 0) (rdE b 0 8 0) ((b.length:Nat):Int)) (V3 (rdR b 0 8 0) (rdE b 0 8 0) ((b.length:Nat):Int)) ((b.length:Nat):Int)) (rdX (Vt (Vt (rdR b 0 8 0) (rdE b 0 8 0) ((b.length:Nat):Int)) (V3 (rdR b 0 8 0) (rdE b 0 8 0) ((b.length:Nat):Int)) ((b.length:Nat):Int)) (V3 (Vt (rdR b 0 8 0) (rdE b 0 8 0) ((b.length:Nat):Int)) (V3 (rdR b 0 8 0) (rdE b 0 8 0) ((b.length:Nat):Int)) ((b.length:Nat):Int))) ) Tryz.func108 [0] [(.tmp 25,pv 0 0)] 1 1),hN 4 false (dT hq1),hN 5 false (dT hq1),hP 6 (dT hq1),hN0 8,hN0 9,hP1 10] (cT (b:=true) rfl (sR [] (T.ret (rT ?_))))
  refine eN (Z9s tb nb b) ?_
  refine X7 (s':=(Z9t tb nb b)) (fun _ _ hG=>Yt (s:=(Z9s tb nb b)) p4o ⟨.inl rfl,(kk2 trivial)⟩ hG) ?_
  exact eX [.t 2 (Z9u),.t 3 (Z9v),.t 4 (Z9w),.t 5 (.one (dI 12))] ⟨⟨rfl,by kernel_rfl⟩,⟨⟨rfl,by kernel_rfl⟩,⟨⟨rfl,by kernel_rfl⟩,⟨⟨rfl,by kernel_rfl⟩,trivial⟩⟩⟩⟩ [] (cg4 (fun (q1:Int) (q2:List UInt8) (q3:List UInt8) (q4:Int)=>(.tup [.one (dI q1),.one (dS q2),.one (dU q3),.one (dI q4)]:AV)) p1f p1f p1f p1f) trivial
 by_cases hq2:(rdI b 0)<0
 ·have hno:¬okU ((b.length:Nat):Int) b:=(fun h9=>by have h8:=h9.2.1;omega)
  refine sR [hR 1 rfl rfl (rCa (X8q (Vt (Vt (rdR b 0 8 0) (rdE b 0 8 0) ((b.length:Nat):Int)) (V3 (rdR b 0 8 0) (rdE b 0 8 0) ((b.length:Nat):Int)) ((b.length:Nat):Int)) (rdX (Vt (Vt (rdR b 0 8 0) (rdE b 0 8 0) ((b.length:Nat):Int)) (V3 (rdR b 0 8 0) (rdE b 0 8 0) ((b.length:Nat):Int)) ((b.length:Nat):Int)) (V3 (Vt (rdR b 0 8 0) (rdE b 0 8 0) ((b.length:Nat):Int)) (V3 (rdR b 0 8 0) (rdE b 0 8 0) ((b.length:Nat):Int)) ((b.length:Nat):Int))) ) Tryz.func108 [0] [(.tmp 25,pv 0 0)] 1 1),hY 4 (dF hq1),hY 5 (dF hq1),hP 6 (dF hq1),hN 8 false (dT hq2),hN 9 false (dT hq2),hP 10 (dT hq2)] (cT (b:=true) rfl (sR [] (T.ret (rT ?_))))
  refine eN (Z9s tb nb b) ?_
  refine X7 (s':=(Z9t tb nb b)) (fun _ _ hG=>Yt (s:=(Z9s tb nb b)) p4o ⟨.inl rfl,(kk2 trivial)⟩ hG) ?_
  exact eX [.t 2 (Z9u),.t 3 (Z9v),.t 4 (Z9w),.t 5 (.one (dI 12))] ⟨⟨rfl,by kernel_rfl⟩,⟨⟨rfl,by kernel_rfl⟩,⟨⟨rfl,by kernel_rfl⟩,⟨⟨rfl,by kernel_rfl⟩,trivial⟩⟩⟩⟩ [] (cg4 (fun (q1:Int) (q2:List UInt8) (q3:List UInt8) (q4:Int)=>(.tup [.one (dI q1),.one (dS q2),.one (dU q3),.one (dI q4)]:AV)) p1f p1f p1f p1f) trivial
 refine sR [hR 1 rfl rfl (rCa (X8q (Vt (Vt (rdR b 0 8 0) (rdE b 0 8 0) ((b.length:Nat):Int)) (V3 (rdR b 0 8 0) (rdE b 0 8 0) ((b.length:Nat):Int)) ((b.length:Nat):Int)) (rdX (Vt (Vt (rdR b 0 8 0) (rdE b 0 8 0) ((b.length:Nat):Int)) (V3 (rdR b 0 8 0) (rdE b 0 8 0) ((b.length:Nat):Int)) ((b.length:Nat):Int)) (V3 (Vt (rdR b 0 8 0) (rdE b 0 8 0) ((b.length:Nat):Int)) (V3 (rdR b 0 8 0) (rdE b 0 8 0) ((b.length:Nat):Int)) ((b.length:Nat):Int))) ) Tryz.func108 [0] [(.tmp 25,pv 0 0)] 1 1),hY 4 (dF hq1),hY 5 (dF hq1),hP 6 (dF hq1),hY 8 (dF hq2),hY 9 (dF hq2),hP 10 (dF hq2)] ?_
 by_cases hq3:(rdI b 0)>1099511627776
 ·have hno:¬okU ((b.length:Nat):Int) b:=(fun h9=>by have h8:=h9.2.2;omega)
  refine cT (dT hq3) (sR [] (T.ret (rT ?_)))
  refine eN (Z9y tb nb b) ?_
  refine X7 (s':=⟨[slV tb nb kU8 b,aa,vI 0,dv (Yk []),slV false false kU8 ([]:List UInt8),vI 12,pv 0 0,(Z9k b),(Z9l b),(Z9p b),aa,aa,aa,aa,aa,aa,aa,aa,aa,aa,aa,aa,aa,aa,aa,aa,aa,aa,aa,aa,aa,aa,aa,aa,aa,(Z9x b)],(Z9r b)⟩) (fun _ _ hG=>Yt (s:=(Z9y tb nb b)) p4o ⟨.inl rfl,(kk2 trivial)⟩ hG) ?_
  exact eX [.t 2 (Z9u),.t 3 (Z9v),.t 4 (Z9w),.t 5 (.one (dI 12))] ⟨⟨rfl,by kernel_rfl⟩,⟨⟨rfl,by kernel_rfl⟩,⟨⟨rfl,by kernel_rfl⟩,⟨⟨rfl,by kernel_rfl⟩,trivial⟩⟩⟩⟩ [] (cg4 (fun (q1:Int) (q2:List UInt8) (q3:List UInt8) (q4:Int)=>(.tup [.one (dI q1),.one (dS q2),.one (dU q3),.one (dI q4)]:AV)) p1f p1f p1f p1f) trivial
 have hok:okU ((b.length:Nat):Int) b:=⟨Classical.not_not.1 ‹_›,by omega,by omega⟩
 refine cF (dF hq3) (T.skip (nT (sR [] (T.ret ?_))))
 refine eN (Z9z tb nb b) ?_
 refine X7 (s':=⟨[slV tb nb kU8 b,aa,(Z9k b),(Z9l b),slV false false kU8 (Z9o b),vI 0,pv 0 0,(Z9k b),(Z9l b),slV false false kU8 (Z9o b),aa,aa,aa,aa,aa,aa,aa,aa,aa,aa,aa,aa,aa,aa,aa,aa,aa,aa,aa,aa,aa,aa,aa,aa,aa,(Z9x b)],[(Z9q b),.live (Xf 5 kU8 (Z9j b)),.dead]⟩) (fun _ _ hG=>Gs.freeze (s:=(Z9z tb nb b)) 2 (el:=W7 kU8 (rdY (Vt (rdR b 0 8 0) (rdE b 0 8 0) ((b.length:Nat):Int)) (V3 (rdR b 0 8 0) (rdE b 0 8 0) ((b.length:Nat):Int)) ((b.length:Nat):Int))) (sz:=kU8.sz) (n:=(rdY (Vt (rdR b 0 8 0) (rdE b 0 8 0) ((b.length:Nat):Int)) (V3 (rdR b 0 8 0) (rdE b 0 8 0) ((b.length:Nat):Int)) ((b.length:Nat):Int)).length) rfl (kk4 ⟨(.inr pZ0),(kk4 ⟨(.inr pZ0),(kk2 p2y)⟩)⟩) ⟨pZ9,⟨pZ9,⟨(.inl ⟨rfl,rfl⟩),trivial⟩⟩⟩ hG) ?_
 exact eX [.t 2 (.one (dI (rdI b 0))),.t 3 (.one (dS (Z9j b))),.t 4 (.one (dU (Z9o b))),.t 5 (Z9u)] ⟨⟨rfl,by kernel_rfl⟩,⟨⟨rfl,by kernel_rfl⟩,⟨⟨rfl,by kernel_rfl⟩,⟨⟨rfl,by kernel_rfl⟩,trivial⟩⟩⟩⟩ [] (cg4 (fun (q1:Int) (q2:List UInt8) (q3:List UInt8) (q4:Int)=>(.tup [.one (dI q1),.one (dS q2),.one (dU q3),.one (dI q4)]:AV)) p3q p3q p3q p3q) trivial
section
variable (b:List UInt8)
abbrev Za0:=(rdY (b.drop (rfA b 0 0 8 0)) (rdE (b.drop 0) 0 8 0) 1099511627776)
abbrev Za1:HS:=.live (Xf 5 kU8 (Za0 b))
abbrev Za2:=(H8 b (rfA b 0 0 8 0) (rdE (b.drop 0) 0 8 0) 1099511627776)
abbrev Za3:=(V3 (b.drop (rfA b 0 0 8 0)) (rdE (b.drop 0) 0 8 0) 1099511627776)
abbrev Za4:List AV:=[slV false false kU8 b,aa,vI 0,dv (Yk []),dv (.slice none 0 0),vI 0,pv 0 0,vI (rdI (b.drop 0) 0),dv (Yk (Za0 b)),Y8 2 kU8 0 (rdY (b.drop (Za2 b)) (Za3 b) 1099511627776).length]
abbrev Za5:SV:=dI ((H8 b (Za2 b) (Za3 b) 1099511627776:Nat):Int)
abbrev Za6:List HS:=[.live (.box 156 [dU b,(Za5 b),dI (V3 (b.drop (Za2 b)) (Za3 b) 1099511627776)]),(Za1 b),.live (Xf 5 kU8 (rdY (b.drop (Za2 b)) (Za3 b) 1099511627776))]
abbrev Za7:AV:=vI (rdI b 0)
abbrev Za8:AV:=dv (Yk (uD 1099511627776 b))
abbrev Za9:AV:=Y8 2 kU8 0 (uS 1099511627776 b).length
abbrev Zaa:List AV:=[slV false false kU8 b,aa,vI 0,dv (Yk []),dv (.slice none 0 0),vI 0,pv 0 0,(Za7 b),(Za8 b),(Za9 b)]
abbrev Zab:List HS:=[.live (.box 156 [dU b,(Za5 b),dI (uE3 1099511627776 b)]),(Za1 b),.live (Xf 5 kU8 (uS 1099511627776 b))]
abbrev Zac:HS:=.live (.box 156 [dU b,(Za5 b),dI (rdX (b.drop (H8 b (Za2 b) (Za3 b) 1099511627776)) (uE3 1099511627776 b))])
abbrev Zad:List HS:=[(Zac b),(Za1 b),.live (Xf 5 kU8 (uS 1099511627776 b))]
abbrev Zae:St:=⟨[slV false false kU8 b,aa,vI 0,dv (Yk []),dv (.slice none 0 0),vI 12,pv 0 0,(Za7 b),(Za8 b),(Za9 b),aa,aa,aa,aa,aa,aa,aa,aa,aa,aa,aa,aa,aa,aa,aa,aa,aa,aa,aa,aa,aa,aa,aa,aa,vB true],(Zad b)⟩
abbrev Zaf:St:=⟨[slV false false kU8 b,aa,vI 0,dv (Yk []),slV false false kU8 ([]:List UInt8),vI 12,pv 0 0,(Za7 b),(Za8 b),(Za9 b),aa,aa,aa,aa,aa,aa,aa,aa,aa,aa,aa,aa,aa,aa,aa,aa,aa,aa,aa,aa,aa,aa,aa,aa,vB true],(Zad b)⟩
abbrev Zag:TV:=.one (dI 0)
abbrev Zah:TV:=.one (dS [])
abbrev Zai:TV:=.one (dU ([]:List UInt8))
abbrev Zaj:AV:=vB (decide ((rdI b 0)>1099511627776))
abbrev Zak:St:=⟨[slV false false kU8 b,aa,vI 0,dv (Yk []),dv (.slice none 0 0),vI 12,pv 0 0,(Za7 b),(Za8 b),(Za9 b),aa,aa,aa,aa,aa,aa,aa,aa,aa,aa,aa,aa,aa,aa,aa,aa,aa,aa,aa,aa,aa,aa,aa,aa,(Zaj b)],(Zad b)⟩
abbrev Zal:St:=⟨[slV false false kU8 b,aa,(Za7 b),(Za8 b),(Za9 b),vI 0,pv 0 0,(Za7 b),(Za8 b),(Za9 b),aa,aa,aa,aa,aa,aa,aa,aa,aa,aa,aa,aa,aa,aa,aa,aa,aa,aa,aa,aa,aa,aa,aa,aa,(Zaj b)],(Zad b)⟩
end
theorem X46 (b:List UInt8) (hb:b.length≤100000000):Holds Tryz.prog 43 ⟨[slV false false kU8 b],[],.tup [.one (dI (unH 1099511627776 b)),.one (dS (unD 1099511627776 b)),.one (dU (unS 1099511627776 b)),.one (dI (unE 1099511627776 b))],[]⟩:=by
 refine Holds.of Tryz.func43 rfl (N:=38) Tryz.ntmps43 rfl fun w0 B0 S0 U0=>?_
 show T _ (Y2 38 0 w0 S0 U0 B0) ⟨[slV false false kU8 b],[]⟩ _ _
 have hu:=Xft 1099511627776 b
 have hu1:=hu.1
 have hu2:=hu.2.1
 have hu3:=hu.2.2.1
 have hu4:=hu.2.2.2.1
 have hu5:=hu.2.2.2.2
 simp only [uR2,uR3,uE2,uD,uS] at hu2 hu3 hu4 hu5
 have hd1:b.drop (rfA b 0 0 8 0)=rdR b 0 8 0:=Xdk b 0 0 8 0
 have hd2:b.drop (H8 b (rfA b 0 0 8 0) (rdE (b.drop 0) 0 8 0) 1099511627776)=uR2 1099511627776 b:=by rw [X59,hd1];rfl
 have he2:(V3 (b.drop (rfA b 0 0 8 0)) (rdE (b.drop 0) 0 8 0) 1099511627776)=uE2 1099511627776 b:=by rw [hd1];rfl
 have hd3:b.drop (H8 b (H8 b (rfA b 0 0 8 0) (rdE (b.drop 0) 0 8 0) 1099511627776) (V3 (b.drop (rfA b 0 0 8 0)) (rdE (b.drop 0) 0 8 0) 1099511627776) 1099511627776)=uR3 1099511627776 b:=by rw [X59,hd2,he2];rfl
 have he3:(V3 (b.drop (H8 b (rfA b 0 0 8 0) (rdE (b.drop 0) 0 8 0) 1099511627776)) (V3 (b.drop (rfA b 0 0 8 0)) (rdE (b.drop 0) 0 8 0) 1099511627776) 1099511627776)=uE3 1099511627776 b:=by rw [hd2,he2];rfl
 have hv1:rdY (b.drop (rfA b 0 0 8 0)) (rdE (b.drop 0) 0 8 0) 1099511627776=uD 1099511627776 b:=by rw [hd1];rfl
 have hv2:rdY (b.drop (H8 b (rfA b 0 0 8 0) (rdE (b.drop 0) 0 8 0) 1099511627776)) (V3 (b.drop (rfA b 0 0 8 0)) (rdE (b.drop 0) 0 8 0) 1099511627776) 1099511627776=uS 1099511627776 b:=by rw [hd2,he2];rfl
 have hA1:(rfA b 0 0 8 0)≤b.length:=Xg1 (Nat.zero_le _)
 have hA2:(H8 b (rfA b 0 0 8 0) (rdE (b.drop 0) 0 8 0) 1099511627776)≤b.length:=Xbq hA1
 have hA3:(H8 b (H8 b (rfA b 0 0 8 0) (rdE (b.drop 0) 0 8 0) 1099511627776) (V3 (b.drop (rfA b 0 0 8 0)) (rdE (b.drop 0) 0 8 0) 1099511627776) 1099511627776)≤b.length:=Xbq hA2
 refine sR [] (sR [] (sR [hR 1 rfl rfl (rCa (X8n b 0 0 (by omega) (by omega)) Tryz.func94 [0] [(.tmp 13,pv 0 0)] 1 1)] (sR [hR 1 rfl rfl (rCa (X08 b (rfA b 0 0 8 0) (rdE (b.drop 0) 0 8 0) 1099511627776 ‹_› (by omega)) Tryz.func95 [0,1] [(.tmp 15,pv 0 0),(.const (.int .i64 1099511627776),vI 1099511627776)] 1 2),hR 2 rfl rfl (Hp () (rdY (b.drop (rfA b 0 0 8 0)) (rdE (b.drop 0) 0 8 0) 1099511627776) (ys:=(.own 1 kU8.sz 0 (Za0 b).length)) (rhs:=[(1,(Za1 b))]) Tryz.underlying25 Tryz.underlying5 Tryz.underlying60 (Wv 1 5 kU8 (rdY (b.drop (rfA b 0 0 8 0)) (rdE (b.drop 0) 0 8 0) 1099511627776)) (X3 rfl) trivial)] ?_)))
 refine sR [hR 1 rfl rfl (rCa (X08 b (H8 b (rfA b 0 0 8 0) (rdE (b.drop 0) 0 8 0) 1099511627776) (V3 (b.drop (rfA b 0 0 8 0)) (rdE (b.drop 0) 0 8 0) 1099511627776) 1099511627776 ‹_› (by omega)) Tryz.func95 [0,2] [(.tmp 18,pv 0 0),(.const (.int .i64 1099511627776),vI 1099511627776)] 1 2)] ?_
 refine tN ⟨(Za4 b),(Za6 b)⟩ ?_
 refine Wx (s':=⟨(Zaa b),(Zab b)⟩) (fun _ _ hG=>Yv [0,1,2] (bm 10 1021) (t2:=(Za4 b)) (h2:=(Za6 b)) (by have e1:(rdI b 0:Int)=rdI (b.drop 0) 0:=(by rfl);have e2:((uD 1099511627776 b):List UInt8)=(rdY (b.drop (rfA b 0 0 8 0)) (rdE (b.drop 0) 0 8 0) 1099511627776):=(by exact hv1.symm);have e3:((uS 1099511627776 b).length:Nat)=(rdY (b.drop (H8 b (rfA b 0 0 8 0) (rdE (b.drop 0) 0 8 0) 1099511627776)) (V3 (b.drop (rfA b 0 0 8 0)) (rdE (b.drop 0) 0 8 0) 1099511627776) 1099511627776).length:=(by (rw [hv2]));have hE:=congr (congr (congrArg (fun (q1:Int) (q2:List UInt8) (q3:Nat)=>([slV false false kU8 b,aa,vI 0,dv (Yk []),dv (.slice none 0 0),vI 0,pv 0 0,vI q1,dv (Yk q2),Y8 2 kU8 0 q3]:List AV)) e1) e2) e3;exact hE) (cg2 (fun (q1:Int) (q2:List UInt8)=>([.live (.box 156 [dU b,(Za5 b),dI q1]),(Za1 b),.live (Xf 5 kU8 q2)]:List HS)) (by exact he3.symm) (by exact hv2.symm)) hG) ?_
 refine sR [hR 1 rfl rfl (rCa (X8o b (H8 b (H8 b (rfA b 0 0 8 0) (rdE (b.drop 0) 0 8 0) 1099511627776) (V3 (b.drop (rfA b 0 0 8 0)) (rdE (b.drop 0) 0 8 0) 1099511627776) 1099511627776) (uE3 1099511627776 b) ‹_› (by omega)) Tryz.func96 [0] [(.tmp 20,pv 0 0)] 1 1)] (T.seq ?_)
 by_cases hq1:(rdX (b.drop (H8 b (H8 b (rfA b 0 0 8 0) (rdE (b.drop 0) 0 8 0) 1099511627776) (V3 (b.drop (rfA b 0 0 8 0)) (rdE (b.drop 0) 0 8 0) 1099511627776) 1099511627776)) (uE3 1099511627776 b))≠0
 ·have hno:¬okU 1099511627776 b:=fun h9=>hq1 (by rw [hd3];exact h9.1)
  refine sR [hN 6 false (dT hq1),hN 7 false (dT hq1),hP 8 (dT hq1),hN0 10,hN0 11,hP1 12] (cT (b:=true) rfl (sR [] (T.ret (rT ?_))))
  refine eN (Zae b) ?_
  refine X7 (s':=(Zaf b)) (fun _ _ hG=>Yt (s:=(Zae b)) (kk4 ⟨pZ5,(kk2 (kk4 p2y))⟩) ⟨.inl rfl,(kk2 trivial)⟩ hG) ?_
  exact eX [.t 2 (Zag),.t 3 (Zah),.t 4 (Zai),.t 5 (.one (dI 12))] ⟨⟨rfl,by kernel_rfl⟩,⟨⟨rfl,by kernel_rfl⟩,⟨⟨rfl,by kernel_rfl⟩,⟨⟨rfl,by kernel_rfl⟩,trivial⟩⟩⟩⟩ [] (cg4 (fun (q1:Int) (q2:List UInt8) (q3:List UInt8) (q4:Int)=>(.tup [.one (dI q1),.one (dS q2),.one (dU q3),.one (dI q4)]:AV)) p1f p1f p1f p1f) trivial
 by_cases hq2:(rdI b 0)<0
 ·have hno:¬okU 1099511627776 b:=(fun h9=>by have h8:=h9.2.1;omega)
  refine sR [hY 6 (dF hq1),hY 7 (dF hq1),hP 8 (dF hq1),hN 10 false (dT hq2),hN 11 false (dT hq2),hP 12 (dT hq2)] (cT (b:=true) rfl (sR [] (T.ret (rT ?_))))
  refine eN (Zae b) ?_
  refine X7 (s':=(Zaf b)) (fun _ _ hG=>Yt (s:=(Zae b)) (kk4 ⟨pZ5,(kk2 (kk4 p2y))⟩) ⟨.inl rfl,(kk2 trivial)⟩ hG) ?_
  exact eX [.t 2 (Zag),.t 3 (Zah),.t 4 (Zai),.t 5 (.one (dI 12))] ⟨⟨rfl,by kernel_rfl⟩,⟨⟨rfl,by kernel_rfl⟩,⟨⟨rfl,by kernel_rfl⟩,⟨⟨rfl,by kernel_rfl⟩,trivial⟩⟩⟩⟩ [] (cg4 (fun (q1:Int) (q2:List UInt8) (q3:List UInt8) (q4:Int)=>(.tup [.one (dI q1),.one (dS q2),.one (dU q3),.one (dI q4)]:AV)) p1f p1f p1f p1f) trivial
 refine sR [hY 6 (dF hq1),hY 7 (dF hq1),hP 8 (dF hq1),hY 10 (dF hq2),hY 11 (dF hq2),hP 12 (dF hq2)] ?_
 by_cases hq3:(rdI b 0)>1099511627776
 ·have hno:¬okU 1099511627776 b:=(fun h9=>by have h8:=h9.2.2;omega)
  refine cT (dT hq3) (sR [] (T.ret (rT ?_)))
  refine eN (Zak b) ?_
  refine X7 (s':=⟨[slV false false kU8 b,aa,vI 0,dv (Yk []),slV false false kU8 ([]:List UInt8),vI 12,pv 0 0,(Za7 b),(Za8 b),(Za9 b),aa,aa,aa,aa,aa,aa,aa,aa,aa,aa,aa,aa,aa,aa,aa,aa,aa,aa,aa,aa,aa,aa,aa,aa,(Zaj b)],(Zad b)⟩) (fun _ _ hG=>Yt (s:=(Zak b)) (kk4 ⟨pZ5,(kk2 (kk4 p2y))⟩) ⟨.inl rfl,(kk2 trivial)⟩ hG) ?_
  exact eX [.t 2 (Zag),.t 3 (Zah),.t 4 (Zai),.t 5 (.one (dI 12))] ⟨⟨rfl,by kernel_rfl⟩,⟨⟨rfl,by kernel_rfl⟩,⟨⟨rfl,by kernel_rfl⟩,⟨⟨rfl,by kernel_rfl⟩,trivial⟩⟩⟩⟩ [] (cg4 (fun (q1:Int) (q2:List UInt8) (q3:List UInt8) (q4:Int)=>(.tup [.one (dI q1),.one (dS q2),.one (dU q3),.one (dI q4)]:AV)) p1f p1f p1f p1f) trivial
 have hok:okU 1099511627776 b:=⟨by rw [← hd3];exact Classical.not_not.1 ‹_›,by omega,by omega⟩
 refine cF (dF hq3) (T.skip (nT (sR [] (T.ret ?_))))
 refine eN (Zal b) ?_
 refine X7 (s':=⟨[slV false false kU8 b,aa,(Za7 b),(Za8 b),slV false false kU8 (uS 1099511627776 b),vI 0,pv 0 0,(Za7 b),(Za8 b),slV false false kU8 (uS 1099511627776 b),aa,aa,aa,aa,aa,aa,aa,aa,aa,aa,aa,aa,aa,aa,aa,aa,aa,aa,aa,aa,aa,aa,aa,aa,(Zaj b)],[(Zac b),(Za1 b),.dead]⟩) (fun _ _ hG=>Gs.freeze (s:=(Zal b)) 2 (el:=W7 kU8 (uS 1099511627776 b)) (sz:=kU8.sz) (n:=(uS 1099511627776 b).length) rfl (kk4 ⟨(.inr pZ0),(kk4 ⟨(.inr pZ0),⟨.inl rfl,p2y⟩⟩)⟩) ⟨pZ9,⟨pZ9,⟨(.inl ⟨rfl,rfl⟩),trivial⟩⟩⟩ hG) ?_
 exact eX [.t 2 (.one (dI (rdI b 0))),.t 3 (.one (dS (uD 1099511627776 b))),.t 4 (.one (dU (uS 1099511627776 b))),.t 5 (Zag)] ⟨⟨rfl,by kernel_rfl⟩,⟨⟨rfl,by kernel_rfl⟩,⟨⟨rfl,by kernel_rfl⟩,⟨⟨rfl,by kernel_rfl⟩,trivial⟩⟩⟩⟩ [] (cg4 (fun (q1:Int) (q2:List UInt8) (q3:List UInt8) (q4:Int)=>(.tup [.one (dI q1),.one (dS q2),.one (dU q3),.one (dI q4)]:AV)) p3q p3q p3q p3q) trivial
theorem I9 (B:List UInt8) (r:List UInt8) (e:Int) (hs:r <:+ B) (hB:B.length≤140737488350000):Holds Tryz.prog 94 ⟨[pv 0 0],[.box 156 [dU B,dI ((V9 B r:Nat):Int),dI e]],vI (rdI r e),[.live (.box 156 [dU B,dI ((V9 B (rdR r e 8 0):Nat):Int),dI (rdE r e 8 0)])]⟩:=by
  have h:=X8n B (V9 B r) e (X5h B r) hB
  simp only [Ez hs,pos_R hs,pos_Y hs] at h
  exact h
theorem X49 (B:List UInt8) (r:List UInt8) (e:Int) (most:Int) (hs:r <:+ B) (hB:B.length≤140737488350000):Holds Tryz.prog 137 ⟨[pv 0 0,vI most],[.box 156 [dU B,dI ((V9 B r:Nat):Int),dI e]],vI ((rdC r e most:Nat):Int),[.live (.box 156 [dU B,dI ((V9 B (rdR r e 4 (Yw most (r.take 4))):Nat):Int),dI (rdE r e 4 (Yw most (r.take 4)))])]⟩:=by
  have h:=X4a B (V9 B r) e most (X5h B r) hB
  simp only [Ez hs,pos_R hs,pos_Y hs] at h
  exact h
theorem Xgc (B:List UInt8) (r:List UInt8) (e:Int) (hs:r <:+ B) (hB:B.length≤140737488350000):Holds Tryz.prog 96 ⟨[pv 0 0],[.box 156 [dU B,dI ((V9 B r:Nat):Int),dI e]],.tup [],[.live (.box 156 [dU B,dI ((V9 B r:Nat):Int),dI (rdX r e)])]⟩:=by
  have h:=X8o B (V9 B r) e (X5h B r) hB
  simp only [Ez hs,pos_R hs,pos_Y hs] at h
  exact h
theorem X07 (B:List UInt8) (r:List UInt8) (e:Int) (most:Int) (hs:r <:+ B) (hB:B.length≤140737488350000):Holds Tryz.prog 95 ⟨[pv 0 0,vI most],[.box 156 [dU B,dI ((V9 B r:Nat):Int),dI e]],Y8 1 kU8 0 (rdY r e most).length,[.live (.box 156 [dU B,dI ((V9 B (Vt r e most):Nat):Int),dI (V3 r e most)]),.live (Xf 5 kU8 (rdY r e most))]⟩:=by
  have h:=X08 B (V9 B r) e most (X5h B r) hB
  simp only [Ez hs,pos_R hs,pos_Y hs] at h
  exact h
end Go.Proofs.YtnaopgohccacmaaGreat.Q
namespace Go.Proofs.YtnaopgohccacmaaGreat.Q
set_option linter.unusedVariables false
set_option linter.unusedSimpArgs false
set_option maxRecDepth 100000
structure RdL where
  rest:List UInt8
  e:Int
  l:List aE
structure RdC where
  rest:List UInt8
  e:Int
  l:List aC
structure RdM where
  rest:List UInt8
  e:Int
  m:aM
section
variable (M N:Int) (r:List UInt8) (e:Int)
def evR:List UInt8:=Vt (rdR r e 8 0) (rdE r e 8 0) M
def evE:Int:=V3 (rdR r e 8 0) (rdE r e 8 0) M
def evV:aE:=⟨rdI r e,rdY (rdR r e 8 0) (rdE r e 8 0) M⟩
def stepL (s:RdL):RdL:=⟨evR M s.rest s.e,evE M s.rest s.e,s.l++[evV M s.rest s.e]⟩
def Vl:Nat→RdL
  | 0=>⟨rdR r e 4 (Yw 15 (r.take 4)),rdE r e 4 (Yw 15 (r.take 4)),[]⟩
  | k+1=>stepL M (Vl k)
def Up:RdL:=Vl M r e (rdC r e 15)
def stepC (s:RdC):RdC:=⟨(Up M (evR M s.rest s.e) (evE M s.rest s.e)).rest,(Up M (evR M s.rest s.e) (evE M s.rest s.e)).e,s.l++[⟨evV M s.rest s.e,(Up M (evR M s.rest s.e) (evE M s.rest s.e)).l⟩]⟩
def Wa:Nat→RdC
  | 0=>⟨rdR r e 4 (Yw 8 (r.take 4)),rdE r e 4 (Yw 8 (r.take 4)),[]⟩
  | k+1=>stepC M (Wa k)
def Ey:RdC:=Wa M r e (rdC r e 8)
def mk0 (k:Int):aM:=⟨k,0,0,0,0,[],[],⟨0,0⟩,[],[],[]⟩
def V5 (s:RdM):Nat→RdM
  | 0=>⟨rdR s.rest s.e 8 0,rdE s.rest s.e 8 0,⟨s.m.X1,rdI s.rest s.e,s.m.Xs,s.m.Xh,s.m.Yh,s.m.X9,s.m.Xc,s.m.X0,s.m.Xp,s.m.Y4,s.m.X6⟩⟩
  | 1=>⟨rdR s.rest s.e 8 0,rdE s.rest s.e 8 0,⟨s.m.X1,s.m.Y1,rdI s.rest s.e,s.m.Xh,s.m.Yh,s.m.X9,s.m.Xc,s.m.X0,s.m.Xp,s.m.Y4,s.m.X6⟩⟩
  | 2=>⟨rdR (rdR s.rest s.e 8 0) (rdE s.rest s.e 8 0) 8 0,rdE (rdR s.rest s.e 8 0) (rdE s.rest s.e 8 0) 8 0,⟨s.m.X1,s.m.Y1,s.m.Xs,rdI s.rest s.e,rdI (rdR s.rest s.e 8 0) (rdE s.rest s.e 8 0),s.m.X9,s.m.Xc,s.m.X0,s.m.Xp,s.m.Y4,s.m.X6⟩⟩
  | 3=>⟨Vt s.rest s.e M,V3 s.rest s.e M,⟨s.m.X1,s.m.Y1,s.m.Xs,s.m.Xh,s.m.Yh,rdY s.rest s.e M,s.m.Xc,s.m.X0,s.m.Xp,s.m.Y4,s.m.X6⟩⟩
  | 4=>⟨Vt s.rest s.e M,V3 s.rest s.e M,⟨s.m.X1,s.m.Y1,s.m.Xs,s.m.Xh,s.m.Yh,s.m.X9,rdY s.rest s.e M,s.m.X0,s.m.Xp,s.m.Y4,s.m.X6⟩⟩
  | 5=>⟨rdR (rdR s.rest s.e 8 0) (rdE s.rest s.e 8 0) 8 0,rdE (rdR s.rest s.e 8 0) (rdE s.rest s.e 8 0) 8 0,⟨s.m.X1,s.m.Y1,s.m.Xs,s.m.Xh,s.m.Yh,s.m.X9,s.m.Xc,⟨rdI s.rest s.e,rdI (rdR s.rest s.e 8 0) (rdE s.rest s.e 8 0)⟩,s.m.Xp,s.m.Y4,s.m.X6⟩⟩
  | 6=>⟨(Up N s.rest s.e).rest,(Up N s.rest s.e).e,⟨s.m.X1,s.m.Y1,s.m.Xs,s.m.Xh,s.m.Yh,s.m.X9,s.m.Xc,s.m.X0,(Up N s.rest s.e).l,s.m.Y4,s.m.X6⟩⟩
  | 7=>⟨(Up N s.rest s.e).rest,(Up N s.rest s.e).e,⟨s.m.X1,s.m.Y1,s.m.Xs,s.m.Xh,s.m.Yh,s.m.X9,s.m.Xc,s.m.X0,s.m.Xp,(Up N s.rest s.e).l,s.m.X6⟩⟩
  | 8=>⟨(Ey N s.rest s.e).rest,(Ey N s.rest s.e).e,⟨s.m.X1,s.m.Y1,s.m.Xs,s.m.Xh,s.m.Yh,s.m.X9,s.m.Xc,s.m.X0,s.m.Xp,s.m.Y4,(Ey N s.rest s.e).l⟩⟩
  | _=>s
def Xv (k:Int):Nat→RdM
  | 0=>⟨r,e,mk0 k⟩
  | j+1=>if Ux (Xi k) j=true then V5 M N (Xv k j) j else Xv k j
end
def X5x (M N:Int) (b:List UInt8):RdM:=Xv M N (rdR b 0 8 0) (rdE b 0 8 0) (rdI b 0) 9
def okD (M N:Int) (b:List UInt8):Prop:=b.length≤16777216∧okK (rdI b 0)∧rdX (X5x M N b).rest (X5x M N b).e=0∧X67 (X5x M N b).m
instance (M N:Int) (b:List UInt8):Decidable (okD M N b):=by unfold okD;infer_instance
def decW (M N:Int) (b:List UInt8):aM:=if okD M N b then (X5x M N b).m else zM
def decX (M N:Int) (b:List UInt8):Int:=if b.length>16777216 then 11 else if okD M N b then 0 else 12
def Wn (b:List UInt8):aM:=decW ((b.length:Nat):Int) 16777216 b
def X0o (b:List UInt8):Int:=decX ((b.length:Nat):Int) 16777216 b
section
variable {M N:Int} {r B:List UInt8} {e:Int}
theorem X7k (M:Int) (r:List UInt8) (e:Int):(evR M r e).length≤r.length:=Nat.le_trans (X1k _ _ _) (U3 _ _ _ _)
theorem Fh (M:Int) (r:List UInt8) (e:Int):∀ k,(Vl M r e k).rest.length≤r.length∧(Vl M r e k).l.length=k
  | 0=>⟨U3 _ _ _ _,rfl⟩
  | k+1=>by
    obtain ⟨h1,h2⟩:=Fh M r e k
    refine ⟨Nat.le_trans (X7k _ _ _) h1,?_⟩
    show ((Vl M r e k).l++[_]).length=_
    rw [List.length_append,List.length_singleton,h2]
theorem X2j (r:List UInt8) (e:Int) (n:Nat):rdC r e ((n:Nat):Int)≤n:=by
  unfold rdC
  split
  · rename_i h
    have h3:=h.2.2
    unfold Yw at h3
    split at h3
    · cases h3
    · omega
  · exact Nat.zero_le _
theorem Ex (M:Int) (r:List UInt8) (e:Int):(Up M r e).rest.length≤r.length∧(Up M r e).l.length≤15:=⟨(Fh _ _ _ _).1,by rw [Up,(Fh _ _ _ _).2];exact X2j r e 15⟩
theorem Hu (M:Int) (r:List UInt8) (e:Int):∀ k,(Wa M r e k).rest.length≤r.length∧(Wa M r e k).l.length=k
  | 0=>⟨U3 _ _ _ _,rfl⟩
  | k+1=>by
    obtain ⟨h1,h2⟩:=Hu M r e k
    refine ⟨Nat.le_trans (Ex _ _ _).1 (Nat.le_trans (X7k _ _ _) h1),?_⟩
    show ((Wa M r e k).l++[_]).length=_
    rw [List.length_append,List.length_singleton,h2]
theorem Xet (M:Int) (r:List UInt8) (e:Int):(Ey M r e).rest.length≤r.length∧(Ey M r e).l.length≤8:=⟨(Hu _ _ _ _).1,by rw [Ey,(Hu _ _ _ _).2];exact X2j r e 8⟩
theorem sufE (h:r <:+ B):evR M r e <:+ B:=sufY (sufR h)
theorem sufL (h:r <:+ B):∀ k,(Vl M r e k).rest <:+ B
  | 0=>sufR h
  | k+1=>sufE (sufL h k)
theorem sufF (h:r <:+ B):(Up M r e).rest <:+ B:=sufL h _
theorem sufC (h:r <:+ B):∀ k,(Wa M r e k).rest <:+ B
  | 0=>sufR h
  | k+1=>sufF (sufE (sufC h k))
theorem sufG (h:r <:+ B):(Ey M r e).rest <:+ B:=sufC h _
theorem Uu {k:Int} {j i:Nat} (h:j=i) (hb:Ux (Xi k) j=true):Xv M N r e k (j+1)=V5 M N (Xv M N r e k j) i:=by subst h;rw [Xv,if_pos hb]
theorem Ef {k:Int} {j:Nat} (hb:¬Ux (Xi k) j=true):Xv M N r e k (j+1)=Xv M N r e k j:=by rw [Xv,if_neg hb]
theorem Xj7 (s:RdM) (j:Nat):(V5 M N s j).rest.length≤s.rest.length:=by
  rcases (by omega:j=0∨j=1∨j=2∨j=3∨j=4∨j=5∨j=6∨j=7∨j=8∨9≤j) with h|h|h|h|h|h|h|h|h|h
  · subst h;exact U3 _ _ _ _
  · subst h;exact U3 _ _ _ _
  · subst h;exact Nat.le_trans (U3 _ _ _ _) (U3 _ _ _ _)
  · subst h;exact X1k _ _ _
  · subst h;exact X1k _ _ _
  · subst h;exact Nat.le_trans (U3 _ _ _ _) (U3 _ _ _ _)
  · subst h;exact (Ex _ _ _).1
  · subst h;exact (Ex _ _ _).1
  · subst h;exact (Xet _ _ _).1
  · obtain ⟨i,rfl⟩:∃ i,j=i+9:=⟨j-9,by omega⟩
    exact Nat.le_refl _
theorem Er (M N:Int) (r:List UInt8) (e k:Int):∀ j,(Xv M N r e k j).rest.length≤r.length
  | 0=>Nat.le_refl _
  | j+1=>by
    rw [Xv]
    split
    · exact Nat.le_trans (Xj7 _ _) (Er M N r e k j)
    · exact Er M N r e k j
theorem Xj6 {s:RdM} (h:s.rest <:+ B) (j:Nat):(V5 M N s j).rest <:+ B:=by
  rcases (by omega:j=0∨j=1∨j=2∨j=3∨j=4∨j=5∨j=6∨j=7∨j=8∨9≤j) with q|q|q|q|q|q|q|q|q|q
  · subst q;exact sufR h
  · subst q;exact sufR h
  · subst q;exact sufR (sufR h)
  · subst q;exact sufY h
  · subst q;exact sufY h
  · subst q;exact sufR (sufR h)
  · subst q;exact sufF h
  · subst q;exact sufF h
  · subst q;exact sufG h
  · obtain ⟨i,rfl⟩:∃ i,j=i+9:=⟨j-9,by omega⟩
    exact h
theorem sufM (M N:Int) (e k:Int) (h:r <:+ B):∀ j,(Xv M N r e k j).rest <:+ B
  | 0=>h
  | j+1=>by
    rw [Xv]
    split
    · exact Xj6 (sufM M N e k h j) j
    · exact sufM M N e k h j
def fitM (n:Nat) (m:aM):Prop:=m.Xp.length≤15∧m.Y4.length≤15∧m.X6.length≤8∧m.Xc.length≤n∧m.X9.length≤n
theorem Xj8 {n:Nat} {s:RdM} (h:fitM n s.m) (hl:s.rest.length≤n) (j:Nat):fitM n (V5 M N s j).m:=by
  obtain ⟨h1,h2,h3,h4,h5⟩:=h
  rcases (by omega:j=0∨j=1∨j=2∨j=3∨j=4∨j=5∨j=6∨j=7∨j=8∨9≤j) with h|h|h|h|h|h|h|h|h|h
  · subst h;exact ⟨h1,h2,h3,h4,h5⟩
  · subst h;exact ⟨h1,h2,h3,h4,h5⟩
  · subst h;exact ⟨h1,h2,h3,h4,h5⟩
  · subst h;exact ⟨h1,h2,h3,h4,Nat.le_trans (X0c _ _ _) hl⟩
  · subst h;exact ⟨h1,h2,h3,Nat.le_trans (X0c _ _ _) hl,h5⟩
  · subst h;exact ⟨h1,h2,h3,h4,h5⟩
  · subst h;exact ⟨(Ex _ _ _).2,h2,h3,h4,h5⟩
  · subst h;exact ⟨h1,(Ex _ _ _).2,h3,h4,h5⟩
  · subst h;exact ⟨h1,h2,(Xet _ _ _).2,h4,h5⟩
  · obtain ⟨i,rfl⟩:∃ i,j=i+9:=⟨j-9,by omega⟩
    exact ⟨h1,h2,h3,h4,h5⟩
theorem X43 (M N:Int) (r:List UInt8) (e k:Int):∀ j,fitM r.length (Xv M N r e k j).m
  | 0=>⟨Nat.zero_le _,Nat.zero_le _,Nat.zero_le _,Nat.zero_le _,Nat.zero_le _⟩
  | j+1=>by
    rw [Xv]
    split
    · exact Xj8 (X43 M N r e k j) (Er _ _ _ _ _ _) j
    · exact X43 M N r e k j
end
theorem X60 {M N:Int} {b:List UInt8} (h:¬okD M N b) (hl:¬b.length>16777216):decW M N b=zM∧decX M N b=12:=⟨if_neg h,by rw [decX,if_neg hl,if_neg h]⟩
theorem Xiq {M N:Int} {b:List UInt8} (h:okD M N b):decW M N b=(X5x M N b).m∧decX M N b=0:=⟨if_pos h,by rw [decX,if_neg (by have:=h.1;omega),if_pos h]⟩
theorem Xf4 {M N:Int} {b:List UInt8} (h:b.length>16777216):decW M N b=zM∧decX M N b=11:=⟨if_neg (fun q=>by have:=q.1;omega),if_pos h⟩
end Go.Proofs.YtnaopgohccacmaaGreat.Q
namespace Go.Proofs.YtnaopgohccacmaaGreat.Q
set_option linter.unusedVariables false
set_option linter.unusedSimpArgs false
set_option maxRecDepth 100000
section
variable {M M':Int} {r:List UInt8} {e:Int}
theorem Jl {n m:Int} (h:rdE r e n m=0):e=0:=(X5l h).1
theorem X1l (h:V3 r e M=0):e=0:=(X7f.1 h).1.1
theorem ev_any (hM:((r.length:Nat):Int)≤M) (hM':((r.length:Nat):Int)≤M') (h:evE M r e=0):e=0∧evE M' r e=0∧evR M' r e=evR M r e∧evV M' r e=evV M r e:=by
  have hl:=U3 r e 8 0
  obtain ⟨a1,a2,a3⟩:=X4c (M':=M') (show (((rdR r e 8 0).length:Nat):Int)≤M by omega) (by omega) h
  exact ⟨Jl (X1l h),a1,a3,by unfold evV;rw [a2]⟩
theorem Xdg (hM:((r.length:Nat):Int)≤M) (hM':((r.length:Nat):Int)≤M'):∀ k,(Vl M r e k).e=0→e=0∧Vl M' r e k=Vl M r e k
  | 0,h=>⟨Jl h,rfl⟩
  | k+1,h=>by
    have hl:=(Fh M r e k).1
    obtain ⟨a1,a2,a3,a4⟩:=ev_any (M':=M') (show (((Vl M r e k).rest.length:Nat):Int)≤M by omega) (by omega) h
    obtain ⟨b1,b2⟩:=Xdg hM hM' k a1
    refine ⟨b1,?_⟩
    show stepL M' (Vl M' r e k)=stepL M (Vl M r e k)
    rw [b2]
    unfold stepL
    rw [a2,a3,a4,show evE M (Vl M r e k).rest (Vl M r e k).e=0 from h]
theorem X9d (hM:((r.length:Nat):Int)≤M) (hM':((r.length:Nat):Int)≤M') (h:(Up M r e).e=0):e=0∧Up M' r e=Up M r e:=Xdg hM hM' _ h
theorem Xdh (hM:((r.length:Nat):Int)≤M) (hM':((r.length:Nat):Int)≤M'):∀ k,(Wa M r e k).e=0→e=0∧Wa M' r e k=Wa M r e k
  | 0,h=>⟨Jl h,rfl⟩
  | k+1,h=>by
    have hl:=(Hu M r e k).1
    have hl2:=X7k M (Wa M r e k).rest (Wa M r e k).e
    obtain ⟨c1,c2⟩:=X9d (M':=M') (show (((evR M (Wa M r e k).rest (Wa M r e k).e).length:Nat):Int)≤M by omega) (by omega) h
    obtain ⟨a1,a2,a3,a4⟩:=ev_any (M':=M') (show (((Wa M r e k).rest.length:Nat):Int)≤M by omega) (by omega) c1
    obtain ⟨b1,b2⟩:=Xdh hM hM' k a1
    refine ⟨b1,?_⟩
    show stepC M' (Wa M' r e k)=stepC M (Wa M r e k)
    rw [b2]
    unfold stepC
    rw [a2,a3,a4,← c1,c2]
theorem finC_any (hM:((r.length:Nat):Int)≤M) (hM':((r.length:Nat):Int)≤M') (h:(Ey M r e).e=0):e=0∧Ey M' r e=Ey M r e:=Xdh hM hM' _ h
theorem Xja {N N':Int} {s:RdM} (hM:((s.rest.length:Nat):Int)≤M) (hM':((s.rest.length:Nat):Int)≤M') (hN:((s.rest.length:Nat):Int)≤N) (hN':((s.rest.length:Nat):Int)≤N') (j:Nat) (h:(V5 M N s j).e=0):s.e=0∧V5 M' N' s j=V5 M N s j:=by
  rcases (by omega:j=0∨j=1∨j=2∨j=3∨j=4∨j=5∨j=6∨j=7∨j=8∨9≤j) with q|q|q|q|q|q|q|q|q|q
  · subst q;exact ⟨Jl h,rfl⟩
  · subst q;exact ⟨Jl h,rfl⟩
  · subst q;exact ⟨Jl (Jl h),rfl⟩
  · subst q
    obtain ⟨a1,a2,a3⟩:=X4c (M':=M') hM hM' h
    refine ⟨X1l h,?_⟩
    simp only [V5]
    rw [a1,a2,a3,show V3 s.rest s.e M=0 from h]
  · subst q
    obtain ⟨a1,a2,a3⟩:=X4c (M':=M') hM hM' h
    refine ⟨X1l h,?_⟩
    simp only [V5]
    rw [a1,a2,a3,show V3 s.rest s.e M=0 from h]
  · subst q;exact ⟨Jl (Jl h),rfl⟩
  · subst q
    obtain ⟨a1,a2⟩:=X9d hN hN' h
    exact ⟨a1,by simp only [V5];rw [a2]⟩
  · subst q
    obtain ⟨a1,a2⟩:=X9d hN hN' h
    exact ⟨a1,by simp only [V5];rw [a2]⟩
  · subst q
    obtain ⟨a1,a2⟩:=finC_any hN hN' h
    exact ⟨a1,by simp only [V5];rw [a2]⟩
  · obtain ⟨i,rfl⟩:∃ i,j=i+9:=⟨j-9,by omega⟩
    exact ⟨h,rfl⟩
theorem X89 {N N':Int} {k:Int} (hM:((r.length:Nat):Int)≤M) (hM':((r.length:Nat):Int)≤M') (hN:((r.length:Nat):Int)≤N) (hN':((r.length:Nat):Int)≤N'):∀ j,(Xv M N r e k j).e=0→Xv M' N' r e k j=Xv M N r e k j
  | 0,_=>rfl
  | j+1,h=>by
    have hl:=Er M N r e k j
    rw [Xv] at h ⊢
    rw [Xv]
    split
    · rename_i hb
      rw [if_pos hb] at h
      obtain ⟨a1,a2⟩:=Xja (M':=M') (N':=N') (by omega) (by omega) (by omega) (by omega) j h
      rw [X89 hM hM' hN hN' j a1,a2]
    · rename_i hb
      rw [if_neg hb] at h
      exact X89 hM hM' hN hN' j h
end
theorem Xia {M N M' N':Int} {b:List UInt8} (hM:((b.length:Nat):Int)≤M) (hM':((b.length:Nat):Int)≤M') (hN:((b.length:Nat):Int)≤N) (hN':((b.length:Nat):Int)≤N') (h:okD M N b):X5x M' N' b=X5x M N b∧okD M' N' b:=by
  have hl:=U3 b 0 8 0
  have e:=X89 (r:=rdR b 0 8 0) (e:=rdE b 0 8 0) (k:=rdI b 0) (M:=M) (M':=M') (N:=N) (N':=N') (by omega) (by omega) (by omega) (by omega) 9 (rdX_ok h.2.2.1).1
  have e':X5x M' N' b=X5x M N b:=e
  exact ⟨e',h.1,h.2.1,by rw [e'];exact h.2.2.1,by rw [e'];exact h.2.2.2⟩
theorem Xf5 {b:List UInt8} (h:okD 1099511627776 1099511627776 b):Wn b=(X5x 1099511627776 1099511627776 b).m∧X0o b=0:=by
  have hl:=h.1
  obtain ⟨e,h2⟩:=Xia (M':=((b.length:Nat):Int)) (N':=16777216) (by omega) (by omega) (by omega) (by omega) h
  rw [← e]
  exact Xiq h2
theorem X9l {b:List UInt8} (h:¬okD 1099511627776 1099511627776 b) (hb:¬b.length>16777216):Wn b=zM∧X0o b=12 :=
  X60 (fun q=>h (Xia (by omega) (by omega) (by omega) (by omega) q).2) hb
end Go.Proofs.YtnaopgohccacmaaGreat.Q
namespace Go.Proofs.YtnaopgohccacmaaGreat.Q
set_option linter.unusedVariables false
theorem X84 {M N:Int} {r:List UInt8} {e k:Int}:∀ j,j≤8→(Xv M N r e k j).m.X6=[]
  | 0,_=>rfl
  | j+1,hj=>by
    have ih:=X84 (M:=M) (N:=N) (r:=r) (e:=e) (k:=k) j (by omega)
    rw [Xv]
    split
    · rcases (by omega:j=0∨j=1∨j=2∨j=3∨j=4∨j=5∨j=6∨j=7) with q|q|q|q|q|q|q|q<;>subst q<;>exact ih
    · exact ih
end Go.Proofs.YtnaopgohccacmaaGreat.Q
namespace Go.Proofs.YtnaopgohccacmaaGreat.Q
open Go Go.RowKit
set_option linter.unusedVariables false
set_option linter.unusedSimpArgs false
set_option maxRecDepth 100000
set_option maxHeartbeats 4000000
theorem I8 (rest:List UInt8) (e:Int) (hr:rest.length≤100000000):Holds Tryz.prog 194 ⟨[.tv (.agg [.ptr 0 0])],[.box 195 [dU rest,dI e]],vI (rdI rest e),[.live (.box 195 [dU (rdR rest e 8 0),dI (rdE rest e 8 0)])]⟩:=by
 refine Holds.of Tryz.func194 rfl (N:=6) Tryz.ntmps194 rfl fun w0 B0 S0 U0=>?_
 show T _ (Y2 6 1 w0 S0 U0 B0) ⟨[.tv (.agg [.ptr 0 0])],[.live (.box 195 [dU rest,dI e])]⟩ _ _
 refine sR [] (sR [hR 2 rfl rfl (rCa (rd_Int rest e (by omega)) Tryz.func105 [0] [(.tmp 4,pv 0 0)] 1 1)] (T.ret ?_))
 exact eRt 2 (.one (dI (rdI rest e))) [0] rfl (ix trivial)
section
variable (rest:List UInt8) (e:Int)
abbrev Zam:List AV:=[.tv (.agg [.ptr 0 0]),pv 1 0,pv 2 0,pv 3 0]
abbrev Zan:HS:=.live (.box 195 [dU (Vt (rdR rest e 8 0) (rdE rest e 8 0) 16777216),dI (V3 (rdR rest e 8 0) (rdE rest e 8 0) 16777216)])
abbrev Zao:St:=⟨Zam,[(Zan rest e),.live (.box 240 [.ptr 0 0]),.live (.box 43 [dI 0,.d (.val (.slice none 0 0))]),.live (.box 43 [dI (rdI rest e),.own 4 kU8.sz 0 (rdY (rdR rest e 8 0) (rdE rest e 8 0) 16777216).length]),.live (Xf 5 kU8 (rdY (rdR rest e 8 0) (rdE rest e 8 0) 16777216))]⟩
abbrev Zap:SV:=dU (rdY (rdR rest e 8 0) (rdE rest e 8 0) 16777216)
end
theorem X3z (rest:List UInt8) (e:Int) (hr:rest.length≤100000000):Holds Tryz.prog 199 ⟨[.tv (.agg [.ptr 0 0])],[.box 195 [dU rest,dI e]],.tv (.agg [dI (evV 16777216 rest e).X5,dU (evV 16777216 rest e).Xd]),[.live (.box 195 [dU (evR 16777216 rest e),dI (evE 16777216 rest e)])]⟩:=by
 refine Holds.of Tryz.func199 rfl (N:=12) Tryz.ntmps199 rfl fun w0 B0 S0 U0=>?_
 show T _ (Y2 12 1 w0 S0 U0 B0) ⟨[.tv (.agg [.ptr 0 0])],[.live (.box 195 [dU rest,dI e])]⟩ _ _
 have hr1:=U3 rest e 8 0
 have hr2:=X0c (rdR rest e 8 0) (rdE rest e 8 0) 16777216
 refine sR [] (sR [hR 1 rfl rfl (rCa (I8 rest e ‹_›) Tryz.func194 [0] [(.tmp 4,.tv (.agg [.ptr 0 0]))] 1 1)] (sR [hR 2 rfl rfl (rCa (X1j (rdR rest e 8 0) (rdE rest e 8 0) 16777216 (by omega)) Tryz.func106 [0,4] [(.tmp 8,pv 0 0),(.const (.int .i64 16777216),vI 16777216)] 1 2)] ?_))
 refine tN (Zao rest e) ?_
 refine Wx (s':=⟨Zam,[(Zan rest e),.live (.box 240 [.ptr 0 0]),.live (.box 43 [dI 0,.d (.val (.slice none 0 0))]),.live (.box 43 [dI (rdI rest e),(Zap rest e)]),.dead]⟩) (fun _ _ hG=>Gs.freeze (s:=(Zao rest e)) 4 (el:=W7 kU8 (rdY (rdR rest e 8 0) (rdE rest e 8 0) 16777216)) (sz:=kU8.sz) (n:=(rdY (rdR rest e 8 0) (rdE rest e 8 0) 16777216).length) rfl (kk4 trivial) ⟨pZ9,⟨pZ9,⟨pZ9,⟨p2t,⟨(.inl ⟨rfl,rfl⟩),trivial⟩⟩⟩⟩⟩ hG) (sR [] (T.ret ?_))
 exact eX [.c 2 2 43 0 43 [dI (rdI rest e),(Zap rest e)] (.agg [dI (rdI rest e),(Zap rest e)])] ⟨⟨rfl,rfl,by kernel_rfl,by kernel_rfl,.inl ⟨2,F5,rfl,Nat.le_of_ble_eq_true rfl⟩⟩,trivial⟩ [0] (cg2 (fun (q1:Int) (q2:List UInt8)=>(.tv (.agg [dI q1,dU q2]):AV)) (by rfl) (by rfl)) ⟨⟨rfl,(by have e1:((Vt (rdR rest e 8 0) (rdE rest e 8 0) 16777216):List UInt8)=(evR 16777216 rest e):=(by rfl);have e2:((V3 (rdR rest e 8 0) (rdE rest e 8 0) 16777216):Int)=(evE 16777216 rest e):=(by rfl);have hE:=congr pZ16 e2;exact Eq.trans pZ8 hE)⟩,trivial⟩
section
variable (rest:List UInt8) (e:Int) (k:Nat)
abbrev Zaq:AV:=vI ((rdC rest e 15:Nat):Int)
abbrev Zar:HS:=.live (.box 195 [dU (rdR rest e 4 (Yw 15 (rest.take 4))),dI (rdE rest e 4 (Yw 15 (rest.take 4)))])
abbrev Zas:HS:=.live (.box 240 [.ptr 0 0])
abbrev Zat:=(Vl 16777216 rest e k)
abbrev Zau:List HS:=[.live (.box 195 [dU (Zat rest e k).rest,dI (Zat rest e k).e]),Zas,.live (Xf 43 (kE false) (Zat rest e k).l)]
abbrev Zav:St:=⟨[aa,pv 1 0,Y8 2 (kE false) 0 (Zat rest e k).l.length,aa,aa,(Zaq rest e),vI ((k:Nat):Int)],(Zau rest e k)⟩
abbrev Zay:=(evV 16777216 (Zat rest e k).rest (Zat rest e k).e)
abbrev Zaz:AV:=vI ((k+1:Nat):Int)
abbrev Zb0:List HS:=[.live (.box 195 [dU (Vl 16777216 rest e (k+1)).rest,dI (Vl 16777216 rest e (k+1)).e]),Zas,.live (Xf 43 (kE false) (Vl 16777216 rest e (k+1)).l)]
abbrev Zb1:St:=⟨[aa,pv 1 0,Y8 2 (kE false) 0 (Zat rest e k).l.length,aa,aa,(Zaq rest e),vI ((k:Nat):Int),vB (decide (((k:Nat):Int)<((rdC rest e 15:Nat):Int)))],(Zau rest e k)⟩
end
theorem X7x (rest:List UInt8) (e:Int) (hr:rest.length≤100000000):Holds Tryz.prog 196 ⟨[.tv (.agg [.ptr 0 0])],[.box 195 [dU rest,dI e]],slV false false (kE false) (Up 16777216 rest e).l,[.live (.box 195 [dU (Up 16777216 rest e).rest,dI (Up 16777216 rest e).e])]⟩:=by
 refine Holds.of Tryz.func196 rfl (N:=15) Tryz.ntmps196 rfl fun w0 B0 S0 U0=>?_
 show T _ (Y2 15 1 w0 S0 U0 B0) ⟨[.tv (.agg [.ptr 0 0])],[.live (.box 195 [dU rest,dI e])]⟩ _ _
 have hr1:=U3 rest e 4 (Yw 15 (rest.take 4))
 refine sR [] (T.seq (sR [hR 2 rfl rfl (rCa (X8r rest e 15 (by omega)) Tryz.func147 [0] [(.tmp 4,pv 0 0),(.const (.int .i64 15),vI 15)] 1 1)] (T.block ?_)))
 refine tN ⟨[.tv (.agg [.ptr 0 0]),pv 1 0,dv (.slice none 0 0),aa,aa,(Zaq rest e),vI 0],[(Zar rest e),Zas]⟩ ?_
 refine Wx (s':=⟨[.tv (.agg [.ptr 0 0]),pv 1 0,Y8 2 (kE false) 0 0,aa,aa,(Zaq rest e),vI 0],[(Zar rest e),Zas,.live (Xf 43 (kE false) ([]:List aE))]⟩) (fun _ _ hG=>U5 2 2 43 (kE false) rfl rfl hG) ?_
 refine T.loop (ι:=Nat) (fun (k:Nat)=>(Zav rest e k)) (fun (k:Nat)=>(k≤rdC rest e 15)) (fun (k:Nat)=>rdC rest e 15-k) (0) (Nat.zero_le _) (fun _ _ hG=>Yv [0,1,2] (bm 7 102) (t2:=[aa,pv 1 0,Y8 2 (kE false) 0 0,aa,aa,(Zaq rest e),vI 0]) (h2:=[(Zar rest e),Zas,.live (Xf 43 (kE false) ([]:List aE))]) (congrArg (fun (q1:Nat)=>([aa,pv 1 0,Y8 2 (kE false) 0 q1,aa,aa,(Zaq rest e),vI 0]:List AV)) (by rfl)) (cg3 (fun (q1:List UInt8) (q2:Int) (q3:List aE)=>([.live (.box 195 [dU q1,dI q2]),Zas,.live (Xf 43 (kE false) q3)]:List HS)) (by rfl) (by rfl) (by rfl)) hG) ?_
 rintro k hk
 show T _ _ (Zav rest e k) _ _
 replace hk:k≤rdC rest e 15:=hk
 have hg:=Fh 16777216 rest e k
 have hg1:=hg.1
 have hg2:=hg.2
 have hcm:rdC rest e 15≤15:=X2j rest e 15
 refine sR [] (T.seq ?_)
 by_cases hq1:((k:Nat):Int)<((rdC rest e 15:Nat):Int)
 ·refine cT (dT hq1) (T.skip (nT (T.seq (T.block ?_))))
  refine xR [hR 2 rfl rfl (rCa (X3z (Vl 16777216 rest e k).rest (Vl 16777216 rest e k).e (by omega)) Tryz.func199 [0] [(.tmp 9,.tv (.agg [.ptr 0 0]))] 1 1),hR 3 rfl rfl (Yc 3 43 (kE false) (W4 false) [(evV 16777216 (Vl 16777216 rest e k).rest (Vl 16777216 rest e k).e)] [⟨0,.tmp 10,.agg [dI (Zay rest e k).X5,dU (Zay rest e k).Xd],0⟩] (cs:=[dI (Zay rest e k).X5,dU (Zay rest e k).Xd]) Tryz.underlying37 Vi rfl F4 rfl rfl rfl pd (Yr rfl rfl pd W5) pZ8 (V4 pZ8) (X3 rfl) trivial),hR 4 rfl rfl (W2 2 4 43 32 (kE false) (W4 false) (Vl 16777216 rest e k).l [(evV 16777216 (Vl 16777216 rest e k).rest (Vl 16777216 rest e k).e)] ((Vl 16777216 rest e k).l++[(evV 16777216 (Vl 16777216 rest e k).rest (Vl 16777216 rest e k).e)]) (Vl 16777216 rest e k).l.length (sy:=(.own 3 (kE false).sz 0 [(Zay rest e k)].length)) (rhs:=[(3,.live (Xf 43 (kE false) [(Zay rest e k)]))]) F9 (by omega) (Wv 3 43 (kE false) [(evV 16777216 (Vl 16777216 rest e k).rest (Vl 16777216 rest e k).e)]) Jy (by (simp [maxLen,-List.getD_eq_getElem?_getD]<;>omega)) (by (simp [maxLen,-List.getD_eq_getElem?_getD]<;>omega)) (X3 rfl) trivial)] pZ8 pZ8 ?_
  refine nB (nT (xK [hR 0 rfl rfl (Yd (u1:=.int .i64 ((k:Nat):Int)) (u2:=.int .i64 1) (v:=.int .i64 ((k+1:Nat):Int)) (Wb pc) (X3 rfl) ⟨rfl,trivial⟩)] ?_))
  refine nL (k+1) (show (k+1)≤rdC rest e 15 from (by omega)) (show (rdC rest e 15-(k+1):Nat)<rdC rest e 15-k from (by omega)) (fun _ _ hG=>Wf [0,1,4] (bm 7 102) (t1:=[aa,pv 1 0,Y8 4 (kE false) 0 (Vl 16777216 rest e (k+1)).l.length,aa,aa,(Zaq rest e),(Zaz k)]) (t2:=[aa,pv 1 0,Y8 4 (kE false) 0 ((Zat rest e k).l++[(Zay rest e k)]).length,aa,aa,(Zaq rest e),(Zaz k)]) (h1:=(Zb0 rest e k)) (h2:=[.live (.box 195 [dU (evR 16777216 (Zat rest e k).rest (Zat rest e k).e),dI (evE 16777216 (Zat rest e k).rest (Zat rest e k).e)]),Zas,.live (Xf 43 (kE false) ((Zat rest e k).l++[(Zay rest e k)]))]) (congrArg (fun (q1:Nat)=>([aa,pv 1 0,Y8 4 (kE false) 0 q1,aa,aa,(Zaq rest e),(Zaz k)]:List AV)) (by rfl)) (cg3 (fun (q1:List UInt8) (q2:Int) (q3:List aE)=>([.live (.box 195 [dU q1,dI q2]),Zas,.live (Xf 43 (kE false) q3)]:List HS)) (by rfl) (by rfl) (by rfl)) hG)
 refine cF (dF hq1) (T.exit (xT (xT (xH (nT (sR [] (T.ret ?_)))))))
 refine eN (Zb1 rest e k) ?_
 refine X7 (s':=⟨[aa,pv 1 0,slV false false (kE false) (Zat rest e k).l,aa,aa,(Zaq rest e),vI ((k:Nat):Int),vB (decide (((k:Nat):Int)<((rdC rest e 15:Nat):Int)))],[.live (.box 195 [dU (Zat rest e k).rest,dI (Zat rest e k).e]),Zas,.dead]⟩) (fun _ _ hG=>Gs.freeze (s:=(Zb1 rest e k)) 2 (el:=W7 (kE false) (Vl 16777216 rest e k).l) (sz:=(kE false).sz) (n:=(Vl 16777216 rest e k).l.length) rfl (kk2 ⟨(.inr pZ0),⟨.inl rfl,(kk4 trivial)⟩⟩) ⟨pZ9,⟨pZ9,⟨(.inl ⟨rfl,rfl⟩),trivial⟩⟩⟩ hG) ?_
 exact eRt 2 (.one (.d (dsl false false (kE false) (Zat rest e k).l))) [0] (by have e1:((Up 16777216 rest e).l:List aE)=(Vl 16777216 rest e k).l:=p4d;have hE:=congrArg (fun (q1:List aE)=>(slV false false (kE false) q1:AV)) e1;exact hE) ⟨⟨rfl,(by have e1:((Vl 16777216 rest e k).rest:List UInt8)=(Up 16777216 rest e).rest:=p4d;have e2:((Vl 16777216 rest e k).e:Int)=(Up 16777216 rest e).e:=p4d;have hE:=congr pZ16 e2;exact Eq.trans pZ8 hE)⟩,trivial⟩
theorem Xhi:Zero Tryz.prog 86 [.int .i64 0,.slice none 0 0,.slice none 0 0]:=⟨_,_,Fp,rfl,rfl⟩
theorem Xip:Elem Tryz.prog 76 86 3 56:=⟨Tryz.underlying76,_,_,Fp,rfl,rfl,rfl,rfl,by decide⟩
section
variable (rest:List UInt8) (e:Int) (k:Nat)
abbrev Zb2:AV:=vI ((rdC rest e 8:Nat):Int)
abbrev Zb3:HS:=.live (.box 195 [dU (rdR rest e 4 (Yw 8 (rest.take 4))),dI (rdE rest e 4 (Yw 8 (rest.take 4)))])
abbrev Zb4:HS:=.live (.box 240 [.ptr 0 0])
abbrev Zb5:=(Wa 16777216 rest e k)
abbrev Zb6:List HS:=[.live (.box 195 [dU (Zb5 rest e k).rest,dI (Zb5 rest e k).e]),Zb4,.live (Xf 86 (kC false) (Zb5 rest e k).l)]
abbrev Zb7:St:=⟨[aa,pv 1 0,Y8 2 (kC false) 0 (Zb5 rest e k).l.length,aa,aa,aa,(Zb2 rest e),vI ((k:Nat):Int)],(Zb6 rest e k)⟩
abbrev Zba:=(evV 16777216 (Zb5 rest e k).rest (Zb5 rest e k).e)
abbrev Zbb:=(Up 16777216 (evR 16777216 (Zb5 rest e k).rest (Zb5 rest e k).e) (evE 16777216 (Zb5 rest e k).rest (Zb5 rest e k).e))
abbrev Zbc:=(aC.mk (Zba rest e k) (Zbb rest e k).l)
abbrev Zbd:AV:=vI ((k+1:Nat):Int)
abbrev Zbe:List HS:=[.live (.box 195 [dU (Wa 16777216 rest e (k+1)).rest,dI (Wa 16777216 rest e (k+1)).e]),Zb4,.live (Xf 86 (kC false) (Wa 16777216 rest e (k+1)).l)]
abbrev Zbf:List AV:=[aa,pv 1 0,Y8 2 (kC false) 0 (Zb5 rest e k).l.length,aa,aa,aa,(Zb2 rest e),vI ((k:Nat):Int),vB (decide (((k:Nat):Int)<((rdC rest e 8:Nat):Int)))]
end
theorem Xjb (rest:List UInt8) (e:Int) (hr:rest.length≤100000000):Holds Tryz.prog 197 ⟨[.tv (.agg [.ptr 0 0])],[.box 195 [dU rest,dI e]],slV false false (kC false) (Ey 16777216 rest e).l,[.live (.box 195 [dU (Ey 16777216 rest e).rest,dI (Ey 16777216 rest e).e])]⟩:=by
 refine Holds.of Tryz.func197 rfl (N:=21) Tryz.ntmps197 rfl fun w0 B0 S0 U0=>?_
 show T _ (Y2 21 1 w0 S0 U0 B0) ⟨[.tv (.agg [.ptr 0 0])],[.live (.box 195 [dU rest,dI e])]⟩ _ _
 have hr1:=U3 rest e 4 (Yw 8 (rest.take 4))
 refine sR [] (T.seq (sR [hR 2 rfl rfl (rCa (X8r rest e 8 (by omega)) Tryz.func147 [0] [(.tmp 5,pv 0 0),(.const (.int .i64 8),vI 8)] 1 1)] (T.block ?_)))
 refine tN ⟨[.tv (.agg [.ptr 0 0]),pv 1 0,dv (.slice none 0 0),aa,aa,aa,(Zb2 rest e),vI 0],[(Zb3 rest e),Zb4]⟩ ?_
 refine Wx (s':=⟨[.tv (.agg [.ptr 0 0]),pv 1 0,Y8 2 (kC false) 0 0,aa,aa,aa,(Zb2 rest e),vI 0],[(Zb3 rest e),Zb4,.live (Xf 86 (kC false) ([]:List aC))]⟩) (fun _ _ hG=>U5 2 2 86 (kC false) rfl rfl hG) ?_
 refine T.loop (ι:=Nat) (fun (k:Nat)=>(Zb7 rest e k)) (fun (k:Nat)=>(k≤rdC rest e 8)) (fun (k:Nat)=>rdC rest e 8-k) (0) (Nat.zero_le _) (fun _ _ hG=>Yv [0,1,2] (bm 8 198) (t2:=[aa,pv 1 0,Y8 2 (kC false) 0 0,aa,aa,aa,(Zb2 rest e),vI 0]) (h2:=[(Zb3 rest e),Zb4,.live (Xf 86 (kC false) ([]:List aC))]) (congrArg (fun (q1:Nat)=>([aa,pv 1 0,Y8 2 (kC false) 0 q1,aa,aa,aa,(Zb2 rest e),vI 0]:List AV)) (by rfl)) (cg3 (fun (q1:List UInt8) (q2:Int) (q3:List aC)=>([.live (.box 195 [dU q1,dI q2]),Zb4,.live (Xf 86 (kC false) q3)]:List HS)) (by rfl) (by rfl) (by rfl)) hG) ?_
 rintro k hk
 show T _ _ (Zb7 rest e k) _ _
 replace hk:k≤rdC rest e 8:=hk
 have hg:=Hu 16777216 rest e k
 have hg1:=hg.1
 have hg2:=hg.2
 have hcm:rdC rest e 8≤8:=X2j rest e 8
 have hve:=X7k 16777216 (Wa 16777216 rest e k).rest (Wa 16777216 rest e k).e
 refine sR [] (T.seq ?_)
 by_cases hq1:((k:Nat):Int)<((rdC rest e 8:Nat):Int)
 ·refine cT (dT hq1) (T.skip (nT (T.seq (T.block (sR [hR 1 rfl rfl (rCa (X3z (Wa 16777216 rest e k).rest (Wa 16777216 rest e k).e (by omega)) Tryz.func199 [0] [(.tmp 9,.tv (.agg [.ptr 0 0]))] 1 1)] (sR [hR 1 rfl rfl (rCa (X7x (evR 16777216 (Wa 16777216 rest e k).rest (Wa 16777216 rest e k).e) (evE 16777216 (Wa 16777216 rest e k).rest (Wa 16777216 rest e k).e) (by omega)) Tryz.func196 [0] [(.tmp 12,.tv (.agg [.ptr 0 0]))] 1 1)] ?_))))))
  refine xR [hR 2 rfl rfl (Yc 4 86 (kC false) (Hq false) [(aC.mk (evV 16777216 (Wa 16777216 rest e k).rest (Wa 16777216 rest e k).e) (Up 16777216 (evR 16777216 (Wa 16777216 rest e k).rest (Wa 16777216 rest e k).e) (evE 16777216 (Wa 16777216 rest e k).rest (Wa 16777216 rest e k).e)).l)] [⟨0,.tmp 16,.agg [dI (Zba rest e k).X5,dU (Zba rest e k).Xd,.d (dsl false false (kE false) (Zbb rest e k).l)],0⟩] (cs:=[dI (Zba rest e k).X5,dU (Zba rest e k).Xd,.d (dsl false false (kE false) (Zbb rest e k).l)]) Tryz.underlying76 Fp rfl Xhi rfl rfl rfl pd (Yr rfl rfl pd W5) pZ8 (V4 pZ8) (X3 rfl) trivial),hR 3 rfl rfl (W2 2 5 86 56 (kC false) (Hq false) (Wa 16777216 rest e k).l [(aC.mk (evV 16777216 (Wa 16777216 rest e k).rest (Wa 16777216 rest e k).e) (Up 16777216 (evR 16777216 (Wa 16777216 rest e k).rest (Wa 16777216 rest e k).e) (evE 16777216 (Wa 16777216 rest e k).rest (Wa 16777216 rest e k).e)).l)] ((Wa 16777216 rest e k).l++[(aC.mk (evV 16777216 (Wa 16777216 rest e k).rest (Wa 16777216 rest e k).e) (Up 16777216 (evR 16777216 (Wa 16777216 rest e k).rest (Wa 16777216 rest e k).e) (evE 16777216 (Wa 16777216 rest e k).rest (Wa 16777216 rest e k).e)).l)]) (Wa 16777216 rest e k).l.length (sy:=(.own 4 (kC false).sz 0 [(Zbc rest e k)].length)) (rhs:=[(4,.live (Xf 86 (kC false) [(Zbc rest e k)]))]) Xip (by omega) (Wv 4 86 (kC false) [(aC.mk (evV 16777216 (Wa 16777216 rest e k).rest (Wa 16777216 rest e k).e) (Up 16777216 (evR 16777216 (Wa 16777216 rest e k).rest (Wa 16777216 rest e k).e) (evE 16777216 (Wa 16777216 rest e k).rest (Wa 16777216 rest e k).e)).l)]) Jy (by (simp [maxLen,-List.getD_eq_getElem?_getD]<;>omega)) (by (simp [maxLen,-List.getD_eq_getElem?_getD]<;>omega)) (X3 rfl) trivial)] pZ8 pZ8 ?_
  refine nB (nT (xK [hR 0 rfl rfl (Yd (u1:=.int .i64 ((k:Nat):Int)) (u2:=.int .i64 1) (v:=.int .i64 ((k+1:Nat):Int)) (Wb pc) (X3 rfl) ⟨rfl,trivial⟩)] ?_))
  refine nL (k+1) (show (k+1)≤rdC rest e 8 from (by omega)) (show (rdC rest e 8-(k+1):Nat)<rdC rest e 8-k from (by omega)) (fun _ _ hG=>Wf [0,1,5] (bm 8 198) (t1:=[aa,pv 1 0,Y8 5 (kC false) 0 (Wa 16777216 rest e (k+1)).l.length,aa,aa,aa,(Zb2 rest e),(Zbd k)]) (t2:=[aa,pv 1 0,Y8 5 (kC false) 0 ((Zb5 rest e k).l++[(Zbc rest e k)]).length,aa,aa,aa,(Zb2 rest e),(Zbd k)]) (h1:=(Zbe rest e k)) (h2:=[.live (.box 195 [dU (Zbb rest e k).rest,dI (Zbb rest e k).e]),Zb4,.live (Xf 86 (kC false) ((Zb5 rest e k).l++[(Zbc rest e k)]))]) (congrArg (fun (q1:Nat)=>([aa,pv 1 0,Y8 5 (kC false) 0 q1,aa,aa,aa,(Zb2 rest e),(Zbd k)]:List AV)) (by rfl)) (cg3 (fun (q1:List UInt8) (q2:Int) (q3:List aC)=>([.live (.box 195 [dU q1,dI q2]),Zb4,.live (Xf 86 (kC false) q3)]:List HS)) (by rfl) (by rfl) (by rfl)) hG)
 refine cF (dF hq1) (T.exit (xT (xT (xH (nT (sR [] (T.ret ?_)))))))
 refine eN ⟨(Zbf rest e k),(Zb6 rest e k)⟩ ?_
 refine X7 (s':=⟨[aa,pv 1 0,slV false false (kC false) (Zb5 rest e k).l,aa,aa,aa,(Zb2 rest e),vI ((k:Nat):Int),vB (decide (((k:Nat):Int)<((rdC rest e 8:Nat):Int)))],[.live (.box 195 [dU (Zb5 rest e k).rest,dI (Zb5 rest e k).e]),Zb4,.dead]⟩) (fun _ _ hG=>Gs.freeze (s:=⟨(Zbf rest e k),(Zb6 rest e k)⟩) 2 (el:=W7 (kC false) (Wa 16777216 rest e k).l) (sz:=(kC false).sz) (n:=(Wa 16777216 rest e k).l.length) rfl (kk2 ⟨(.inr pZ0),p4k⟩) ⟨pZ9,⟨pZ9,⟨(.inl ⟨rfl,rfl⟩),trivial⟩⟩⟩ hG) ?_
 exact eRt 2 (.one (.d (dsl false false (kC false) (Zb5 rest e k).l))) [0] (by have e1:((Ey 16777216 rest e).l:List aC)=(Wa 16777216 rest e k).l:=p4f;have hE:=congrArg (fun (q1:List aC)=>(slV false false (kC false) q1:AV)) e1;exact hE) ⟨⟨rfl,(by have e1:((Wa 16777216 rest e k).rest:List UInt8)=(Ey 16777216 rest e).rest:=p4f;have e2:((Wa 16777216 rest e k).e:Int)=(Ey 16777216 rest e).e:=p4f;have hE:=congr pZ16 e2;exact Eq.trans pZ8 hE)⟩,trivial⟩
end Go.Proofs.YtnaopgohccacmaaGreat.Q
