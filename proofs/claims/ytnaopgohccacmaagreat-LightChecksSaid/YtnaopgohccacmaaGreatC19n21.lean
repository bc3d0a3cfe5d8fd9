import Derived.Test.YtnaopgohccacmaaGreatC19n20
namespace Go.Proofs.YtnaopgohccacmaaGreat.Q
open Go Go.RowKit
set_option linter.unusedVariables false
set_option linter.unusedSimpArgs false
set_option maxRecDepth 100000
set_option maxHeartbeats 4000000
section
variable (tm:Bool) (m:aM) (k:Nat)
abbrev Z8m:List SV:=[dI m.X2,dI m.Y1,dI m.Xo,dI m.Xi,dI m.Yj,dS m.X8,.d (dsl tm false kU8 m.Xa),dI m.X1.Xw,dI m.X1.Xn,.d (dsl tm false (kE tm) m.Xp),.d (dsl tm false (kE tm) m.Y5),.d (dsl tm false (kC tm) m.X5)]
abbrev Z8n:HS:=.live (.box 78 (Z8m tm m))
abbrev Z8o:St:=⟨[.tv (.agg (Z8m tm m)),pv 0 0,dv (.slice none 0 0),aa,aa,aa,aa,aa,aa,vB (decide ((X7f m)≠0))],[(Z8n tm m)]⟩
abbrev Z8p:List AV:=[aa,pv 0 0,aa,pv 1 0,aa,Y9 2 kU8 0 (Yb m 1).length]
abbrev Z8q:HS:=.live (.box 119 [dB (Xj m.X2).Y1,dB (Xj m.X2).Xo,dB (Xj m.X2).Xi,dB (Xj m.X2).X8,dB (Xj m.X2).Xa,dB (Xj m.X2).X1,dB (Xj m.X2).Xp,dB (Xj m.X2).Y5,dB (Xj m.X2).X5])
abbrev Z8r:List HS:=[(Z8n tm m),(Z8q m),.live (Xe 5 kU8 (Yb m 1))]
abbrev Z8s:List AV:=[aa,pv 0 0,aa,pv 1 0,aa,Y9 2 kU8 0 (Yb m 0).length]
abbrev Z8t:List HS:=[(Z8n tm m),(Z8q m),.live (Xe 5 kU8 (Yb m 0))]
abbrev Z8u:List AV:=[aa,pv 0 0,aa,pv 1 0,aa,Y9 2 kU8 0 (Yb m 2).length]
abbrev Z8v:List HS:=[(Z8n tm m),(Z8q m),.live (Xe 5 kU8 (Yb m 2))]
abbrev Z8w:List AV:=[aa,pv 0 0,aa,pv 1 0,aa,Y9 2 kU8 0 (Yb m 3).length]
abbrev Z8x:List HS:=[(Z8n tm m),(Z8q m),.live (Xe 5 kU8 (Yb m 3))]
abbrev Z8y:AV:=Y9 4 kU8 0 ((Yb m 2)++Yx m.Xi++Yx m.Yj).length
abbrev Z8z:List AV:=[aa,pv 0 0,aa,pv 1 0,aa,Y9 2 kU8 0 (Yb m 4).length]
abbrev Z90:List HS:=[(Z8n tm m),(Z8q m),.live (Xe 5 kU8 (Yb m 4))]
abbrev Z91:List AV:=[aa,pv 0 0,aa,pv 1 0,aa,Y9 2 kU8 0 (Yb m 5).length]
abbrev Z92:List HS:=[(Z8n tm m),(Z8q m),.live (Xe 5 kU8 (Yb m 5))]
abbrev Z93:List AV:=[aa,pv 0 0,aa,pv 1 0,aa,Y9 2 kU8 0 (Yb m 6).length]
abbrev Z94:List HS:=[(Z8n tm m),(Z8q m),.live (Xe 5 kU8 (Yb m 6))]
abbrev Z95:AV:=Y9 4 kU8 0 ((Yb m 5)++Yx m.X1.Xw++Yx m.X1.Xn).length
abbrev Z96:List AV:=[aa,pv 0 0,aa,pv 1 0,aa,Y9 2 kU8 0 (Yb m 7).length]
abbrev Z97:List HS:=[(Z8n tm m),(Z8q m),.live (Xe 5 kU8 (Yb m 7))]
abbrev Z98:List AV:=[aa,pv 0 0,aa,pv 1 0,aa,Y9 2 kU8 0 (Yb m 8).length]
abbrev Z99:List HS:=[(Z8n tm m),(Z8q m),.live (Xe 5 kU8 (Yb m 8))]
abbrev Z9a:List AV:=[aa,pv 0 0,aa,pv 1 0,aa,Y9 2 kU8 0 (Yb m 9).length]
abbrev Z9b:List HS:=[(Z8n tm m),(Z8q m),.live (Xe 5 kU8 (Yb m 9))]
abbrev Z9c:AV:=Y9 2 kU8 0 ((Yb m 8)++U7 ((m.X5.length:Nat):Int)++Ij m.X5 k).length
abbrev Z9d:HS:=.live (Xe 5 kU8 ((Yb m 8)++U7 ((m.X5.length:Nat):Int)++Ij m.X5 k))
abbrev Z9e:St:=⟨[aa,pv 0 0,aa,pv 1 0,aa,(Z9c m k),vI ((k:Nat):Int)],[(Z8n tm m),(Z8q m),(Z9d m k)]⟩
abbrev Z9f:List HS:=[(Z8n tm m),(Z8q m),.live (Xe 5 kU8 ((Yb m 8)++U7 ((m.X5.length:Nat):Int)++Ij m.X5 0))]
abbrev Z9g:AV:=vI ((k+1:Nat):Int)
abbrev Z9h:List HS:=[(Z8n tm m),(Z8q m),.live (Xe 5 kU8 ((Yb m 8)++U7 ((m.X5.length:Nat):Int)++Ij m.X5 (k+1)))]
abbrev Z9i:List AV:=[aa,pv 0 0,Y9 2 kU8 0 (Yb m 9).length,pv 1 0,aa,Y9 2 kU8 0 (Yb m 9).length]
end
theorem Xbz (tm:Bool) (m:aM) (hl:(Yb m 9).length≤1000000000) (hq:m.Xp.length≤9223372036854775807) (hr:m.Y5.length≤9223372036854775807) (hc:m.X5.length≤9223372036854775807) (hd:m.Xa.length≤9223372036854775807) (hg:m.X8.length≤9223372036854775807):Holds Tryz.prog 25 ⟨[.tv (.agg [dI m.X2,dI m.Y1,dI m.Xo,dI m.Xi,dI m.Yj,dS m.X8,.d (dsl tm false kU8 m.Xa),dI m.X1.Xw,dI m.X1.Xn,.d (dsl tm false (kE tm) m.Xp),.d (dsl tm false (kE tm) m.Y5),.d (dsl tm false (kC tm) m.X5)])],[],slV false false kU8 (F5 m),[]⟩:=by
 refine Holds.of Tryz.func25 rfl (N:=106) Tryz.ntmps25 rfl fun w0 B0 S0 U0=>?_
 show T _ (Y2 106 0 w0 S0 U0 B0) ⟨[.tv (.agg (Z8m tm m))],[]⟩ _ _
 have hi1:=Wq m.Xi
 have hi2:=Wq m.X1.Xw
 have hi0:=Wq m.X2
 refine sR [] ?_
 refine T.seq ?_
 refine sR [hR 1 rfl rfl (rCa (X6u tm m (by omega) (by omega) (by omega) (by omega) (by omega)) Tryz.func61 [] [(.tmp 7,.tv (.agg (Z8m tm m)))] 0 0)] ?_
 by_cases hq1:(X7f m)≠0
 ·refine cT (dT hq1) ?_
  refine sR [] ?_
  refine T.ret (rT ?_)
  refine eN (Z8o tm m) ?_
  refine Xc (s':=⟨[.tv (.agg (Z8m tm m)),pv 0 0,slV false false kU8 ([]:List UInt8),aa,aa,aa,aa,aa,aa,vB (decide ((X7f m)≠0))],[(Z8n tm m)]⟩) (fun _ _ hG=>Ys (s:=(Z8o tm m)) (kk2 ⟨pZ5,⟨.inl rfl,p4s⟩⟩) ⟨.inl rfl,trivial⟩ hG) ?_
  exact eRt 2 (.one (dU ([]:List UInt8))) [] (congrArg (fun (q1:List UInt8)=>(slV false false kU8 q1:AV)) (by exact (if_neg (fun h9=>by have h8:=chk0.2 h9;contradiction)))) trivial
 have hwl:=chk0.1 (Classical.not_not.1 hq1);have hcl0:=Ik ((m.X5.length:Nat):Int)
 refine cF (dF hq1) ?_
 refine T.skip (nT ?_)
 refine sR [hR 2 rfl rfl (rCa (X0c m.X2 ) Tryz.func62 [] [(.tmp 12,vI m.X2)] 0 0)] ?_
 refine sR [hR 2 rfl rfl (rCn (Ui false false ([]:List UInt8) m.X2 (by decide)) Tryz.func63 [2] [(.const (.slice none 0 0),dv (.slice none 0 0)),(.tmp 17,vI m.X2)] 0 1 ⟨.inr pZ5,⟨.inl ⟨rfl,rfl⟩,trivial⟩⟩ ⟨rfl,trivial⟩)] ?_
 refine Uu ⟨(Z8p m),(Z8r tm m)⟩ ?_ ?_
 ·refine tN ⟨[.tv (.agg (Z8m tm m)),pv 0 0,dv (.slice none 0 0),pv 1 0,aa,Y9 2 kU8 0 (([]:List UInt8)++Yx m.X2).length,aa,aa,aa,vB (decide ((X7f m)≠0))],[(Z8n tm m),(Z8q m),.live (Xe 5 kU8 (([]:List UInt8)++Yx m.X2))]⟩ ?_
  refine Wv (s':=⟨(Z8s m),(Z8t tm m)⟩) (fun _ _ hG=>Yt [0,1,2] (bm 6 42) (t2:=[aa,pv 0 0,aa,pv 1 0,aa,Y9 2 kU8 0 (([]:List UInt8)++Yx m.X2).length]) (h2:=[(Z8n tm m),(Z8q m),.live (Xe 5 kU8 (([]:List UInt8)++Yx m.X2))]) (congrArg (fun (q1:Nat)=>([aa,pv 0 0,aa,pv 1 0,aa,Y9 2 kU8 0 q1]:List AV)) (by rfl)) (congrArg (fun (q1:List UInt8)=>([(Z8n tm m),(Z8q m),.live (Xe 5 kU8 q1)]:List HS)) (by rfl)) hG) ?_
  refine sR [] ?_
  by_cases hq2:(Xj m.X2).Y1=true
  ·have hbt:Uz (Xj m.X2) 0=true:=hq2;have hst:Yb m 1=Yb m 0++Yx m.Y1:=(Ht (j:=0) (i:=0) rfl hbt);have hrm:=He (m:=m) (j:=0) (i:=0) rfl hbt (by decide);simp only [Fa,List.length_append,Wq,Vg] at hrm
   refine cT hq2 ?_
   refine xK [hR 3 rfl rfl (Ww (Ui true false (Yb m 0) m.Y1 (by omega)) Tryz.func63 rfl (by decide) [3] [2] (l:=[(.tmp 21,Y9 2 kU8 0 (Yb m 0).length),(.tmp 23,vI m.Y1)]) [(2,.live (Xe 5 kU8 (Yb m 0)))] rfl 0 1 rfl rfl rfl rfl rfl rfl rfl rfl rfl ⟨.inr (.inl ⟨rfl,px,rfl,rfl,by simp,5,(Yb m 0).length,W6 kU8 (Yb m 0),List.Mem.head _,pm,fun i j=>by rw [Nat.zero_add]⟩),⟨.inl ⟨rfl,rfl⟩,trivial⟩⟩ rfl pZ6 pZl (X3 rfl) trivial)] ?_
   refine eN ⟨[aa,pv 0 0,aa,pv 1 0,aa,Y9 3 kU8 0 ((Yb m 0)++Yx m.Y1).length,aa,aa,aa,aa,aa,aa,aa,aa,aa,aa,aa,aa,aa,aa,vB (Xj m.X2).Y1],[(Z8n tm m),(Z8q m),.live (Xe 5 kU8 (Yb m 0)),.live (Xe 5 kU8 ((Yb m 0)++Yx m.Y1))]⟩ ?_
   refine Xc (s':=⟨(Z8p m),(Z8r tm m)⟩) (fun _ _ hG=>Vb [0,1,3] (bm 6 42) (t1:=[aa,pv 0 0,aa,pv 1 0,aa,Y9 3 kU8 0 (Yb m 1).length]) (t2:=[aa,pv 0 0,aa,pv 1 0,aa,Y9 3 kU8 0 ((Yb m 0)++Yx m.Y1).length]) (h1:=(Z8r tm m)) (h2:=[(Z8n tm m),(Z8q m),.live (Xe 5 kU8 ((Yb m 0)++Yx m.Y1))]) (by have e1:((Yb m 1).length:Nat)=((Yb m 0)++Yx m.Y1).length:=Us;have hE:=congrArg (fun (q1:Nat)=>([aa,pv 0 0,aa,pv 1 0,aa,Y9 3 kU8 0 q1]:List AV)) e1;exact hE) (by have e1:((Yb m 1):List UInt8)=(Yb m 0)++Yx m.Y1:=Us;have hE:=congrArg (fun (q1:List UInt8)=>([(Z8n tm m),(Z8q m),.live (Xe 5 kU8 q1)]:List HS)) e1;exact hE) hG) ?_
   exact nJ
  have hbt:¬Uz (Xj m.X2) 0=true:=hq2;have hst:Yb m 1=Yb m 0:=X0v (j:=0) hbt
  replace hq2:=Bool.eq_false_iff.2 hq2
  refine cF hq2 ?_
  refine T.skip ?_
  refine eN ⟨[aa,pv 0 0,aa,pv 1 0,aa,Y9 2 kU8 0 (Yb m 0).length,aa,aa,aa,aa,aa,aa,aa,aa,aa,aa,aa,aa,aa,aa,vB (Xj m.X2).Y1],(Z8t tm m)⟩ ?_
  refine Xc (s':=⟨(Z8p m),(Z8r tm m)⟩) (fun _ _ hG=>Yt [0,1,2] (bm 6 42) (t2:=(Z8s m)) (h2:=(Z8t tm m)) (by have e1:((Yb m 1).length:Nat)=(Yb m 0).length:=Us;have hE:=congrArg (fun (q1:Nat)=>([aa,pv 0 0,aa,pv 1 0,aa,Y9 2 kU8 0 q1]:List AV)) e1;exact hE) (by have e1:((Yb m 1):List UInt8)=(Yb m 0):=Us;have hE:=congrArg (fun (q1:List UInt8)=>([(Z8n tm m),(Z8q m),.live (Xe 5 kU8 q1)]:List HS)) e1;exact hE) hG) ?_
  exact nJ
 refine Uu ⟨(Z8u m),(Z8v tm m)⟩ ?_ ?_
 ·refine sR [] ?_
  by_cases hq3:(Xj m.X2).Xo=true
  ·have hbt:Uz (Xj m.X2) 1=true:=hq3;have hst:Yb m 2=Yb m 1++Yx m.Xo:=(Ht (j:=1) (i:=1) rfl hbt);have hrm:=He (m:=m) (j:=1) (i:=1) rfl hbt (by decide);simp only [Fa,List.length_append,Wq,Vg] at hrm
   refine cT hq3 ?_
   refine xK [hR 3 rfl rfl (Ww (Ui true false (Yb m 1) m.Xo (by omega)) Tryz.func63 rfl (by decide) [3] [2] (l:=[(.tmp 27,Y9 2 kU8 0 (Yb m 1).length),(.tmp 29,vI m.Xo)]) [(2,.live (Xe 5 kU8 (Yb m 1)))] rfl 0 1 rfl rfl rfl rfl rfl rfl rfl rfl rfl ⟨.inr (.inl ⟨rfl,px,rfl,rfl,by simp,5,(Yb m 1).length,W6 kU8 (Yb m 1),List.Mem.head _,pm,fun i j=>by rw [Nat.zero_add]⟩),⟨.inl ⟨rfl,rfl⟩,trivial⟩⟩ rfl pZ6 pZl (X3 rfl) trivial)] ?_
   refine eN ⟨[aa,pv 0 0,aa,pv 1 0,aa,Y9 3 kU8 0 ((Yb m 1)++Yx m.Xo).length,aa,aa,aa,aa,aa,aa,aa,aa,aa,aa,aa,aa,aa,aa,aa,aa,aa,aa,aa,aa,vB (Xj m.X2).Xo],[(Z8n tm m),(Z8q m),.live (Xe 5 kU8 (Yb m 1)),.live (Xe 5 kU8 ((Yb m 1)++Yx m.Xo))]⟩ ?_
   refine Xc (s':=⟨(Z8u m),(Z8v tm m)⟩) (fun _ _ hG=>Vb [0,1,3] (bm 6 42) (t1:=[aa,pv 0 0,aa,pv 1 0,aa,Y9 3 kU8 0 (Yb m 2).length]) (t2:=[aa,pv 0 0,aa,pv 1 0,aa,Y9 3 kU8 0 ((Yb m 1)++Yx m.Xo).length]) (h1:=(Z8v tm m)) (h2:=[(Z8n tm m),(Z8q m),.live (Xe 5 kU8 ((Yb m 1)++Yx m.Xo))]) (by have e1:((Yb m 2).length:Nat)=((Yb m 1)++Yx m.Xo).length:=Us;have hE:=congrArg (fun (q1:Nat)=>([aa,pv 0 0,aa,pv 1 0,aa,Y9 3 kU8 0 q1]:List AV)) e1;exact hE) (by have e1:((Yb m 2):List UInt8)=(Yb m 1)++Yx m.Xo:=Us;have hE:=congrArg (fun (q1:List UInt8)=>([(Z8n tm m),(Z8q m),.live (Xe 5 kU8 q1)]:List HS)) e1;exact hE) hG) ?_
   exact nJ
  have hbt:¬Uz (Xj m.X2) 1=true:=hq3;have hst:Yb m 2=Yb m 1:=X0v (j:=1) hbt
  replace hq3:=Bool.eq_false_iff.2 hq3
  refine cF hq3 ?_
  refine T.skip ?_
  refine eN ⟨[aa,pv 0 0,aa,pv 1 0,aa,Y9 2 kU8 0 (Yb m 1).length,aa,aa,aa,aa,aa,aa,aa,aa,aa,aa,aa,aa,aa,aa,aa,aa,aa,aa,aa,aa,vB (Xj m.X2).Xo],(Z8r tm m)⟩ ?_
  refine Xc (s':=⟨(Z8u m),(Z8v tm m)⟩) (fun _ _ hG=>Yt [0,1,2] (bm 6 42) (t2:=(Z8p m)) (h2:=(Z8r tm m)) (by have e1:((Yb m 2).length:Nat)=(Yb m 1).length:=Us;have hE:=congrArg (fun (q1:Nat)=>([aa,pv 0 0,aa,pv 1 0,aa,Y9 2 kU8 0 q1]:List AV)) e1;exact hE) (by have e1:((Yb m 2):List UInt8)=(Yb m 1):=Us;have hE:=congrArg (fun (q1:List UInt8)=>([(Z8n tm m),(Z8q m),.live (Xe 5 kU8 q1)]:List HS)) e1;exact hE) hG) ?_
  exact nJ
 refine Uu ⟨(Z8w m),(Z8x tm m)⟩ ?_ ?_
 ·refine sR [] ?_
  by_cases hq4:(Xj m.X2).Xi=true
  ·have hbt:Uz (Xj m.X2) 2=true:=hq4;have hst:Yb m 3=Yb m 2++Yx m.Xi++Yx m.Yj:=(Ht (j:=2) (i:=2) rfl hbt).trans (List.append_assoc ..).symm;have hrm:=He (m:=m) (j:=2) (i:=2) rfl hbt (by decide);simp only [Fa,List.length_append,Wq,Vg] at hrm
   refine cT hq4 ?_
   refine xD [[],[],[1],[0,1,2],[],[4],[0,1,2,3,4,5],[0,1,2,3,4,5,6]] [hR 3 rfl rfl (Ww (Ui true false (Yb m 2) m.Xi (by omega)) Tryz.func63 rfl (by decide) [3] [2] (l:=[(.tmp 33,Y9 2 kU8 0 (Yb m 2).length),(.tmp 35,vI m.Xi)]) [(2,.live (Xe 5 kU8 (Yb m 2)))] rfl 0 1 rfl rfl rfl rfl rfl rfl rfl rfl rfl ⟨.inr (.inl ⟨rfl,px,rfl,rfl,by simp,5,(Yb m 2).length,W6 kU8 (Yb m 2),List.Mem.head _,pm,fun i j=>by rw [Nat.zero_add]⟩),⟨.inl ⟨rfl,rfl⟩,trivial⟩⟩ rfl pZ6 pZl (X3 rfl) trivial),hR 6 rfl rfl (Ww (Ui true false ((Yb m 2)++Yx m.Xi) m.Yj X7a) Tryz.func63 rfl (by decide) [4] [3] (l:=[(.tmp 36,Y9 3 kU8 0 ((Yb m 2)++Yx m.Xi).length),(.tmp 38,vI m.Yj)]) [(3,.live (Xe 5 kU8 ((Yb m 2)++Yx m.Xi)))] rfl 0 1 rfl rfl rfl rfl rfl rfl rfl rfl rfl ⟨.inr (.inl ⟨rfl,px,rfl,rfl,by simp,5,((Yb m 2)++Yx m.Xi).length,W6 kU8 ((Yb m 2)++Yx m.Xi),List.Mem.head _,pm,fun i j=>by rw [Nat.zero_add]⟩),⟨.inl ⟨rfl,rfl⟩,trivial⟩⟩ rfl pZ6 pZl (X3 rfl) trivial)] pZ7 pZ7 pZ7 pZ7 pZ7 pZ7 ?_
   refine eN ⟨[aa,pv 0 0,aa,pv 1 0,aa,(Z8y m),aa,aa,aa,aa,aa,aa,aa,aa,aa,aa,aa,aa,aa,aa,aa,aa,aa,aa,aa,aa,aa,aa,aa,aa,aa,aa,vB (Xj m.X2).Xi],[(Z8n tm m),(Z8q m),.live (Xe 5 kU8 (Yb m 2)),.live (Xe 5 kU8 ((Yb m 2)++Yx m.Xi)),.live (Xe 5 kU8 ((Yb m 2)++Yx m.Xi++Yx m.Yj))]⟩ ?_
   refine Xc (s':=⟨(Z8w m),(Z8x tm m)⟩) (fun _ _ hG=>Vb [0,1,4] (bm 6 42) (t1:=[aa,pv 0 0,aa,pv 1 0,aa,Y9 4 kU8 0 (Yb m 3).length]) (t2:=[aa,pv 0 0,aa,pv 1 0,aa,(Z8y m)]) (h1:=(Z8x tm m)) (h2:=[(Z8n tm m),(Z8q m),.live (Xe 5 kU8 ((Yb m 2)++Yx m.Xi++Yx m.Yj))]) (by have e1:((Yb m 3).length:Nat)=((Yb m 2)++Yx m.Xi++Yx m.Yj).length:=Us;have hE:=congrArg (fun (q1:Nat)=>([aa,pv 0 0,aa,pv 1 0,aa,Y9 4 kU8 0 q1]:List AV)) e1;exact hE) (by have e1:((Yb m 3):List UInt8)=(Yb m 2)++Yx m.Xi++Yx m.Yj:=Us;have hE:=congrArg (fun (q1:List UInt8)=>([(Z8n tm m),(Z8q m),.live (Xe 5 kU8 q1)]:List HS)) e1;exact hE) hG) ?_
   exact nJ
  have hbt:¬Uz (Xj m.X2) 2=true:=hq4;have hst:Yb m 3=Yb m 2:=X0v (j:=2) hbt
  replace hq4:=Bool.eq_false_iff.2 hq4
  refine cF hq4 ?_
  refine T.skip ?_
  refine eN ⟨[aa,pv 0 0,aa,pv 1 0,aa,Y9 2 kU8 0 (Yb m 2).length,aa,aa,aa,aa,aa,aa,aa,aa,aa,aa,aa,aa,aa,aa,aa,aa,aa,aa,aa,aa,aa,aa,aa,aa,aa,aa,vB (Xj m.X2).Xi],(Z8v tm m)⟩ ?_
  refine Xc (s':=⟨(Z8w m),(Z8x tm m)⟩) (fun _ _ hG=>Yt [0,1,2] (bm 6 42) (t2:=(Z8u m)) (h2:=(Z8v tm m)) (by have e1:((Yb m 3).length:Nat)=(Yb m 2).length:=Us;have hE:=congrArg (fun (q1:Nat)=>([aa,pv 0 0,aa,pv 1 0,aa,Y9 2 kU8 0 q1]:List AV)) e1;exact hE) (by have e1:((Yb m 3):List UInt8)=(Yb m 2):=Us;have hE:=congrArg (fun (q1:List UInt8)=>([(Z8n tm m),(Z8q m),.live (Xe 5 kU8 q1)]:List HS)) e1;exact hE) hG) ?_
  exact nJ
 refine Uu ⟨(Z8z m),(Z90 tm m)⟩ ?_ ?_
 ·refine sR [] ?_
  by_cases hq5:(Xj m.X2).X8=true
  ·have hbt:Uz (Xj m.X2) 3=true:=hq5;have hst:Yb m 4=Yb m 3++W3 m.X8:=(Ht (j:=3) (i:=3) rfl hbt);have hrm:=He (m:=m) (j:=3) (i:=3) rfl hbt (by decide);simp only [Fa,List.length_append,Wq,Vg] at hrm
   refine cT hq5 ?_
   refine xR [hR 3 rfl rfl (Jx (l:=m.X8) Tryz.underlying60 Tryz.underlying25 Tryz.underlying5 (X3 rfl) trivial),hR 4 rfl rfl (Ww (I9 true false (Yb m 3) false true m.X8 (by omega)) Tryz.func64 rfl (by decide) [3] [2] (l:=[(.tmp 42,Y9 2 kU8 0 (Yb m 3).length),(.tmp 45,slV false true kU8 m.X8)]) [(2,.live (Xe 5 kU8 (Yb m 3)))] rfl 0 1 rfl rfl rfl rfl rfl rfl rfl rfl rfl ⟨.inr (.inl ⟨rfl,px,rfl,rfl,by simp,5,(Yb m 3).length,W6 kU8 (Yb m 3),List.Mem.head _,pm,fun i j=>by rw [Nat.zero_add]⟩),⟨.inl ⟨rfl,rfl⟩,trivial⟩⟩ rfl pZ6 pZl (X3 rfl) trivial)] pZ7 pZ7 ?_
   refine eN ⟨[aa,pv 0 0,aa,pv 1 0,aa,Y9 3 kU8 0 ((Yb m 3)++W3 m.X8).length,aa,aa,aa,aa,aa,aa,aa,aa,aa,aa,aa,aa,aa,aa,aa,aa,aa,aa,aa,aa,aa,aa,aa,aa,aa,aa,aa,aa,aa,aa,aa,aa,aa,aa,aa,vB (Xj m.X2).X8],[(Z8n tm m),(Z8q m),.live (Xe 5 kU8 (Yb m 3)),.live (Xe 5 kU8 ((Yb m 3)++W3 m.X8))]⟩ ?_
   refine Xc (s':=⟨(Z8z m),(Z90 tm m)⟩) (fun _ _ hG=>Vb [0,1,3] (bm 6 42) (t1:=[aa,pv 0 0,aa,pv 1 0,aa,Y9 3 kU8 0 (Yb m 4).length]) (t2:=[aa,pv 0 0,aa,pv 1 0,aa,Y9 3 kU8 0 ((Yb m 3)++W3 m.X8).length]) (h1:=(Z90 tm m)) (h2:=[(Z8n tm m),(Z8q m),.live (Xe 5 kU8 ((Yb m 3)++W3 m.X8))]) (by have e1:((Yb m 4).length:Nat)=((Yb m 3)++W3 m.X8).length:=Us;have hE:=congrArg (fun (q1:Nat)=>([aa,pv 0 0,aa,pv 1 0,aa,Y9 3 kU8 0 q1]:List AV)) e1;exact hE) (by have e1:((Yb m 4):List UInt8)=(Yb m 3)++W3 m.X8:=Us;have hE:=congrArg (fun (q1:List UInt8)=>([(Z8n tm m),(Z8q m),.live (Xe 5 kU8 q1)]:List HS)) e1;exact hE) hG) ?_
   exact nJ
  have hbt:¬Uz (Xj m.X2) 3=true:=hq5;have hst:Yb m 4=Yb m 3:=X0v (j:=3) hbt
  replace hq5:=Bool.eq_false_iff.2 hq5
  refine cF hq5 ?_
  refine T.skip ?_
  refine eN ⟨[aa,pv 0 0,aa,pv 1 0,aa,Y9 2 kU8 0 (Yb m 3).length,aa,aa,aa,aa,aa,aa,aa,aa,aa,aa,aa,aa,aa,aa,aa,aa,aa,aa,aa,aa,aa,aa,aa,aa,aa,aa,aa,aa,aa,aa,aa,aa,aa,aa,aa,vB (Xj m.X2).X8],(Z8x tm m)⟩ ?_
  refine Xc (s':=⟨(Z8z m),(Z90 tm m)⟩) (fun _ _ hG=>Yt [0,1,2] (bm 6 42) (t2:=(Z8w m)) (h2:=(Z8x tm m)) (by have e1:((Yb m 4).length:Nat)=(Yb m 3).length:=Us;have hE:=congrArg (fun (q1:Nat)=>([aa,pv 0 0,aa,pv 1 0,aa,Y9 2 kU8 0 q1]:List AV)) e1;exact hE) (by have e1:((Yb m 4):List UInt8)=(Yb m 3):=Us;have hE:=congrArg (fun (q1:List UInt8)=>([(Z8n tm m),(Z8q m),.live (Xe 5 kU8 q1)]:List HS)) e1;exact hE) hG) ?_
  exact nJ
 refine Uu ⟨(Z91 m),(Z92 tm m)⟩ ?_ ?_
 ·refine sR [] ?_
  by_cases hq6:(Xj m.X2).Xa=true
  ·have hbt:Uz (Xj m.X2) 4=true:=hq6;have hst:Yb m 5=Yb m 4++W3 m.Xa:=(Ht (j:=4) (i:=4) rfl hbt);have hrm:=He (m:=m) (j:=4) (i:=4) rfl hbt (by decide);simp only [Fa,List.length_append,Wq,Vg] at hrm
   refine cT hq6 ?_
   refine xK [hR 3 rfl rfl (Ww (I9 true false (Yb m 4) tm false m.Xa (by omega)) Tryz.func64 rfl (by decide) [3] [2] (l:=[(.tmp 49,Y9 2 kU8 0 (Yb m 4).length),(.tmp 51,slV tm false kU8 m.Xa)]) [(2,.live (Xe 5 kU8 (Yb m 4)))] rfl 0 1 rfl rfl rfl rfl rfl rfl rfl rfl rfl ⟨.inr (.inl ⟨rfl,px,rfl,rfl,by simp,5,(Yb m 4).length,W6 kU8 (Yb m 4),List.Mem.head _,pm,fun i j=>by rw [Nat.zero_add]⟩),⟨.inl ⟨rfl,rfl⟩,trivial⟩⟩ rfl pZ6 pZl (X3 rfl) trivial)] ?_
   refine eN ⟨[aa,pv 0 0,aa,pv 1 0,aa,Y9 3 kU8 0 ((Yb m 4)++W3 m.Xa).length,aa,aa,aa,aa,aa,aa,aa,aa,aa,aa,aa,aa,aa,aa,aa,aa,aa,aa,aa,aa,aa,aa,aa,aa,aa,aa,aa,aa,aa,aa,aa,aa,aa,aa,aa,aa,aa,aa,aa,aa,aa,aa,vB (Xj m.X2).Xa],[(Z8n tm m),(Z8q m),.live (Xe 5 kU8 (Yb m 4)),.live (Xe 5 kU8 ((Yb m 4)++W3 m.Xa))]⟩ ?_
   refine Xc (s':=⟨(Z91 m),(Z92 tm m)⟩) (fun _ _ hG=>Vb [0,1,3] (bm 6 42) (t1:=[aa,pv 0 0,aa,pv 1 0,aa,Y9 3 kU8 0 (Yb m 5).length]) (t2:=[aa,pv 0 0,aa,pv 1 0,aa,Y9 3 kU8 0 ((Yb m 4)++W3 m.Xa).length]) (h1:=(Z92 tm m)) (h2:=[(Z8n tm m),(Z8q m),.live (Xe 5 kU8 ((Yb m 4)++W3 m.Xa))]) (by have e1:((Yb m 5).length:Nat)=((Yb m 4)++W3 m.Xa).length:=Us;have hE:=congrArg (fun (q1:Nat)=>([aa,pv 0 0,aa,pv 1 0,aa,Y9 3 kU8 0 q1]:List AV)) e1;exact hE) (by have e1:((Yb m 5):List UInt8)=(Yb m 4)++W3 m.Xa:=Us;have hE:=congrArg (fun (q1:List UInt8)=>([(Z8n tm m),(Z8q m),.live (Xe 5 kU8 q1)]:List HS)) e1;exact hE) hG) ?_
   exact nJ
  have hbt:¬Uz (Xj m.X2) 4=true:=hq6;have hst:Yb m 5=Yb m 4:=X0v (j:=4) hbt
  replace hq6:=Bool.eq_false_iff.2 hq6
  refine cF hq6 ?_
  refine T.skip ?_
  refine eN ⟨[aa,pv 0 0,aa,pv 1 0,aa,Y9 2 kU8 0 (Yb m 4).length,aa,aa,aa,aa,aa,aa,aa,aa,aa,aa,aa,aa,aa,aa,aa,aa,aa,aa,aa,aa,aa,aa,aa,aa,aa,aa,aa,aa,aa,aa,aa,aa,aa,aa,aa,aa,aa,aa,aa,aa,aa,aa,vB (Xj m.X2).Xa],(Z90 tm m)⟩ ?_
  refine Xc (s':=⟨(Z91 m),(Z92 tm m)⟩) (fun _ _ hG=>Yt [0,1,2] (bm 6 42) (t2:=(Z8z m)) (h2:=(Z90 tm m)) (by have e1:((Yb m 5).length:Nat)=(Yb m 4).length:=Us;have hE:=congrArg (fun (q1:Nat)=>([aa,pv 0 0,aa,pv 1 0,aa,Y9 2 kU8 0 q1]:List AV)) e1;exact hE) (by have e1:((Yb m 5):List UInt8)=(Yb m 4):=Us;have hE:=congrArg (fun (q1:List UInt8)=>([(Z8n tm m),(Z8q m),.live (Xe 5 kU8 q1)]:List HS)) e1;exact hE) hG) ?_
  exact nJ
 refine Uu ⟨(Z93 m),(Z94 tm m)⟩ ?_ ?_
 ·refine sR [] ?_
  by_cases hq7:(Xj m.X2).X1=true
  ·have hbt:Uz (Xj m.X2) 5=true:=hq7;have hst:Yb m 6=Yb m 5++Yx m.X1.Xw++Yx m.X1.Xn:=(Ht (j:=5) (i:=5) rfl hbt).trans (List.append_assoc ..).symm;have hrm:=He (m:=m) (j:=5) (i:=5) rfl hbt (by decide);simp only [Fa,List.length_append,Wq,Vg] at hrm
   refine cT hq7 ?_
   refine xD [[],[],[1],[1,2],[0,1,2,3],[],[5],[5,6],[0,1,2,3,4,5,6,7],[0,1,2,3,4,5,6,7,8]] [hR 4 rfl rfl (Ww (Ui true false (Yb m 5) m.X1.Xw (by omega)) Tryz.func63 rfl (by decide) [3] [2] (l:=[(.tmp 55,Y9 2 kU8 0 (Yb m 5).length),(.tmp 58,vI m.X1.Xw)]) [(2,.live (Xe 5 kU8 (Yb m 5)))] rfl 0 1 rfl rfl rfl rfl rfl rfl rfl rfl rfl ⟨.inr (.inl ⟨rfl,px,rfl,rfl,by simp,5,(Yb m 5).length,W6 kU8 (Yb m 5),List.Mem.head _,pm,fun i j=>by rw [Nat.zero_add]⟩),⟨.inl ⟨rfl,rfl⟩,trivial⟩⟩ rfl pZ6 pZl (X3 rfl) trivial),hR 8 rfl rfl (Ww (Ui true false ((Yb m 5)++Yx m.X1.Xw) m.X1.Xn X7a) Tryz.func63 rfl (by decide) [4] [3] (l:=[(.tmp 59,Y9 3 kU8 0 ((Yb m 5)++Yx m.X1.Xw).length),(.tmp 62,vI m.X1.Xn)]) [(3,.live (Xe 5 kU8 ((Yb m 5)++Yx m.X1.Xw)))] rfl 0 1 rfl rfl rfl rfl rfl rfl rfl rfl rfl ⟨.inr (.inl ⟨rfl,px,rfl,rfl,by simp,5,((Yb m 5)++Yx m.X1.Xw).length,W6 kU8 ((Yb m 5)++Yx m.X1.Xw),List.Mem.head _,pm,fun i j=>by rw [Nat.zero_add]⟩),⟨.inl ⟨rfl,rfl⟩,trivial⟩⟩ rfl pZ6 pZl (X3 rfl) trivial)] pZ7 pZ7 pZ7 pZ7 pZ7 pZ7 ?_
   refine eN ⟨[aa,pv 0 0,aa,pv 1 0,aa,(Z95 m),aa,aa,aa,aa,aa,aa,aa,aa,aa,aa,aa,aa,aa,aa,aa,aa,aa,aa,aa,aa,aa,aa,aa,aa,aa,aa,aa,aa,aa,aa,aa,aa,aa,aa,aa,aa,aa,aa,aa,aa,aa,aa,aa,aa,aa,aa,aa,aa,vB (Xj m.X2).X1],[(Z8n tm m),(Z8q m),.live (Xe 5 kU8 (Yb m 5)),.live (Xe 5 kU8 ((Yb m 5)++Yx m.X1.Xw)),.live (Xe 5 kU8 ((Yb m 5)++Yx m.X1.Xw++Yx m.X1.Xn))]⟩ ?_
   refine Xc (s':=⟨(Z93 m),(Z94 tm m)⟩) (fun _ _ hG=>Vb [0,1,4] (bm 6 42) (t1:=[aa,pv 0 0,aa,pv 1 0,aa,Y9 4 kU8 0 (Yb m 6).length]) (t2:=[aa,pv 0 0,aa,pv 1 0,aa,(Z95 m)]) (h1:=(Z94 tm m)) (h2:=[(Z8n tm m),(Z8q m),.live (Xe 5 kU8 ((Yb m 5)++Yx m.X1.Xw++Yx m.X1.Xn))]) (by have e1:((Yb m 6).length:Nat)=((Yb m 5)++Yx m.X1.Xw++Yx m.X1.Xn).length:=Us;have hE:=congrArg (fun (q1:Nat)=>([aa,pv 0 0,aa,pv 1 0,aa,Y9 4 kU8 0 q1]:List AV)) e1;exact hE) (by have e1:((Yb m 6):List UInt8)=(Yb m 5)++Yx m.X1.Xw++Yx m.X1.Xn:=Us;have hE:=congrArg (fun (q1:List UInt8)=>([(Z8n tm m),(Z8q m),.live (Xe 5 kU8 q1)]:List HS)) e1;exact hE) hG) ?_
   exact nJ
  have hbt:¬Uz (Xj m.X2) 5=true:=hq7;have hst:Yb m 6=Yb m 5:=X0v (j:=5) hbt
  replace hq7:=Bool.eq_false_iff.2 hq7
  refine cF hq7 ?_
  refine T.skip ?_
  refine eN ⟨[aa,pv 0 0,aa,pv 1 0,aa,Y9 2 kU8 0 (Yb m 5).length,aa,aa,aa,aa,aa,aa,aa,aa,aa,aa,aa,aa,aa,aa,aa,aa,aa,aa,aa,aa,aa,aa,aa,aa,aa,aa,aa,aa,aa,aa,aa,aa,aa,aa,aa,aa,aa,aa,aa,aa,aa,aa,aa,aa,aa,aa,aa,aa,vB (Xj m.X2).X1],(Z92 tm m)⟩ ?_
  refine Xc (s':=⟨(Z93 m),(Z94 tm m)⟩) (fun _ _ hG=>Yt [0,1,2] (bm 6 42) (t2:=(Z91 m)) (h2:=(Z92 tm m)) (by have e1:((Yb m 6).length:Nat)=(Yb m 5).length:=Us;have hE:=congrArg (fun (q1:Nat)=>([aa,pv 0 0,aa,pv 1 0,aa,Y9 2 kU8 0 q1]:List AV)) e1;exact hE) (by have e1:((Yb m 6):List UInt8)=(Yb m 5):=Us;have hE:=congrArg (fun (q1:List UInt8)=>([(Z8n tm m),(Z8q m),.live (Xe 5 kU8 q1)]:List HS)) e1;exact hE) hG) ?_
  exact nJ
 refine Uu ⟨(Z96 m),(Z97 tm m)⟩ ?_ ?_
 ·refine sR [] ?_
  by_cases hq8:(Xj m.X2).Xp=true
  ·have hbt:Uz (Xj m.X2) 6=true:=hq8;have hst:Yb m 7=Yb m 6++Vo m.Xp:=(Ht (j:=6) (i:=6) rfl hbt);have hrm:=He (m:=m) (j:=6) (i:=6) rfl hbt (by decide);simp only [Fa,List.length_append,Wq,Vg] at hrm
   refine cT hq8 ?_
   refine xK [hR 3 rfl rfl (Ww (X3l true false (Yb m 6) tm false tm m.Xp (by omega) (by omega)) Tryz.func65 rfl (by decide) [3] [2] (l:=[(.tmp 66,Y9 2 kU8 0 (Yb m 6).length),(.tmp 68,slV tm false (kE tm) m.Xp)]) [(2,.live (Xe 5 kU8 (Yb m 6)))] rfl 0 1 rfl rfl rfl rfl rfl rfl rfl rfl rfl ⟨.inr (.inl ⟨rfl,px,rfl,rfl,by simp,5,(Yb m 6).length,W6 kU8 (Yb m 6),List.Mem.head _,pm,fun i j=>by rw [Nat.zero_add]⟩),⟨.inl ⟨rfl,rfl⟩,trivial⟩⟩ rfl pZ6 pZl (X3 rfl) trivial)] ?_
   refine eN ⟨[aa,pv 0 0,aa,pv 1 0,aa,Y9 3 kU8 0 ((Yb m 6)++Vo m.Xp).length,aa,aa,aa,aa,aa,aa,aa,aa,aa,aa,aa,aa,aa,aa,aa,aa,aa,aa,aa,aa,aa,aa,aa,aa,aa,aa,aa,aa,aa,aa,aa,aa,aa,aa,aa,aa,aa,aa,aa,aa,aa,aa,aa,aa,aa,aa,aa,aa,aa,aa,aa,aa,aa,aa,aa,aa,aa,aa,aa,vB (Xj m.X2).Xp],[(Z8n tm m),(Z8q m),.live (Xe 5 kU8 (Yb m 6)),.live (Xe 5 kU8 ((Yb m 6)++Vo m.Xp))]⟩ ?_
   refine Xc (s':=⟨(Z96 m),(Z97 tm m)⟩) (fun _ _ hG=>Vb [0,1,3] (bm 6 42) (t1:=[aa,pv 0 0,aa,pv 1 0,aa,Y9 3 kU8 0 (Yb m 7).length]) (t2:=[aa,pv 0 0,aa,pv 1 0,aa,Y9 3 kU8 0 ((Yb m 6)++Vo m.Xp).length]) (h1:=(Z97 tm m)) (h2:=[(Z8n tm m),(Z8q m),.live (Xe 5 kU8 ((Yb m 6)++Vo m.Xp))]) (by have e1:((Yb m 7).length:Nat)=((Yb m 6)++Vo m.Xp).length:=Us;have hE:=congrArg (fun (q1:Nat)=>([aa,pv 0 0,aa,pv 1 0,aa,Y9 3 kU8 0 q1]:List AV)) e1;exact hE) (by have e1:((Yb m 7):List UInt8)=(Yb m 6)++Vo m.Xp:=Us;have hE:=congrArg (fun (q1:List UInt8)=>([(Z8n tm m),(Z8q m),.live (Xe 5 kU8 q1)]:List HS)) e1;exact hE) hG) ?_
   exact nJ
  have hbt:¬Uz (Xj m.X2) 6=true:=hq8;have hst:Yb m 7=Yb m 6:=X0v (j:=6) hbt
  replace hq8:=Bool.eq_false_iff.2 hq8
  refine cF hq8 ?_
  refine T.skip ?_
  refine eN ⟨[aa,pv 0 0,aa,pv 1 0,aa,Y9 2 kU8 0 (Yb m 6).length,aa,aa,aa,aa,aa,aa,aa,aa,aa,aa,aa,aa,aa,aa,aa,aa,aa,aa,aa,aa,aa,aa,aa,aa,aa,aa,aa,aa,aa,aa,aa,aa,aa,aa,aa,aa,aa,aa,aa,aa,aa,aa,aa,aa,aa,aa,aa,aa,aa,aa,aa,aa,aa,aa,aa,aa,aa,aa,aa,vB (Xj m.X2).Xp],(Z94 tm m)⟩ ?_
  refine Xc (s':=⟨(Z96 m),(Z97 tm m)⟩) (fun _ _ hG=>Yt [0,1,2] (bm 6 42) (t2:=(Z93 m)) (h2:=(Z94 tm m)) (by have e1:((Yb m 7).length:Nat)=(Yb m 6).length:=Us;have hE:=congrArg (fun (q1:Nat)=>([aa,pv 0 0,aa,pv 1 0,aa,Y9 2 kU8 0 q1]:List AV)) e1;exact hE) (by have e1:((Yb m 7):List UInt8)=(Yb m 6):=Us;have hE:=congrArg (fun (q1:List UInt8)=>([(Z8n tm m),(Z8q m),.live (Xe 5 kU8 q1)]:List HS)) e1;exact hE) hG) ?_
  exact nJ
 refine Uu ⟨(Z98 m),(Z99 tm m)⟩ ?_ ?_
 ·refine sR [] ?_
  by_cases hq9:(Xj m.X2).Y5=true
  ·have hbt:Uz (Xj m.X2) 7=true:=hq9;have hst:Yb m 8=Yb m 7++Vo m.Y5:=(Ht (j:=7) (i:=7) rfl hbt);have hrm:=He (m:=m) (j:=7) (i:=7) rfl hbt (by decide);simp only [Fa,List.length_append,Wq,Vg] at hrm
   refine cT hq9 ?_
   refine xK [hR 3 rfl rfl (Ww (X3l true false (Yb m 7) tm false tm m.Y5 (by omega) (by omega)) Tryz.func65 rfl (by decide) [3] [2] (l:=[(.tmp 72,Y9 2 kU8 0 (Yb m 7).length),(.tmp 74,slV tm false (kE tm) m.Y5)]) [(2,.live (Xe 5 kU8 (Yb m 7)))] rfl 0 1 rfl rfl rfl rfl rfl rfl rfl rfl rfl ⟨.inr (.inl ⟨rfl,px,rfl,rfl,by simp,5,(Yb m 7).length,W6 kU8 (Yb m 7),List.Mem.head _,pm,fun i j=>by rw [Nat.zero_add]⟩),⟨.inl ⟨rfl,rfl⟩,trivial⟩⟩ rfl pZ6 pZl (X3 rfl) trivial)] ?_
   refine eN ⟨[aa,pv 0 0,aa,pv 1 0,aa,Y9 3 kU8 0 ((Yb m 7)++Vo m.Y5).length,aa,aa,aa,aa,aa,aa,aa,aa,aa,aa,aa,aa,aa,aa,aa,aa,aa,aa,aa,aa,aa,aa,aa,aa,aa,aa,aa,aa,aa,aa,aa,aa,aa,aa,aa,aa,aa,aa,aa,aa,aa,aa,aa,aa,aa,aa,aa,aa,aa,aa,aa,aa,aa,aa,aa,aa,aa,aa,aa,aa,aa,aa,aa,aa,aa,vB (Xj m.X2).Y5],[(Z8n tm m),(Z8q m),.live (Xe 5 kU8 (Yb m 7)),.live (Xe 5 kU8 ((Yb m 7)++Vo m.Y5))]⟩ ?_
   refine Xc (s':=⟨(Z98 m),(Z99 tm m)⟩) (fun _ _ hG=>Vb [0,1,3] (bm 6 42) (t1:=[aa,pv 0 0,aa,pv 1 0,aa,Y9 3 kU8 0 (Yb m 8).length]) (t2:=[aa,pv 0 0,aa,pv 1 0,aa,Y9 3 kU8 0 ((Yb m 7)++Vo m.Y5).length]) (h1:=(Z99 tm m)) (h2:=[(Z8n tm m),(Z8q m),.live (Xe 5 kU8 ((Yb m 7)++Vo m.Y5))]) (by have e1:((Yb m 8).length:Nat)=((Yb m 7)++Vo m.Y5).length:=Us;have hE:=congrArg (fun (q1:Nat)=>([aa,pv 0 0,aa,pv 1 0,aa,Y9 3 kU8 0 q1]:List AV)) e1;exact hE) (by have e1:((Yb m 8):List UInt8)=(Yb m 7)++Vo m.Y5:=Us;have hE:=congrArg (fun (q1:List UInt8)=>([(Z8n tm m),(Z8q m),.live (Xe 5 kU8 q1)]:List HS)) e1;exact hE) hG) ?_
   exact nJ
  have hbt:¬Uz (Xj m.X2) 7=true:=hq9;have hst:Yb m 8=Yb m 7:=X0v (j:=7) hbt
  replace hq9:=Bool.eq_false_iff.2 hq9
  refine cF hq9 ?_
  refine T.skip ?_
  refine eN ⟨[aa,pv 0 0,aa,pv 1 0,aa,Y9 2 kU8 0 (Yb m 7).length,aa,aa,aa,aa,aa,aa,aa,aa,aa,aa,aa,aa,aa,aa,aa,aa,aa,aa,aa,aa,aa,aa,aa,aa,aa,aa,aa,aa,aa,aa,aa,aa,aa,aa,aa,aa,aa,aa,aa,aa,aa,aa,aa,aa,aa,aa,aa,aa,aa,aa,aa,aa,aa,aa,aa,aa,aa,aa,aa,aa,aa,aa,aa,aa,aa,vB (Xj m.X2).Y5],(Z97 tm m)⟩ ?_
  refine Xc (s':=⟨(Z98 m),(Z99 tm m)⟩) (fun _ _ hG=>Yt [0,1,2] (bm 6 42) (t2:=(Z96 m)) (h2:=(Z97 tm m)) (by have e1:((Yb m 8).length:Nat)=(Yb m 7).length:=Us;have hE:=congrArg (fun (q1:Nat)=>([aa,pv 0 0,aa,pv 1 0,aa,Y9 2 kU8 0 q1]:List AV)) e1;exact hE) (by have e1:((Yb m 8):List UInt8)=(Yb m 7):=Us;have hE:=congrArg (fun (q1:List UInt8)=>([(Z8n tm m),(Z8q m),.live (Xe 5 kU8 q1)]:List HS)) e1;exact hE) hG) ?_
  exact nJ
 refine Uu ⟨(Z9a m),(Z9b tm m)⟩ ?_ ?_
 ·refine sR [] ?_
  by_cases hq10:(Xj m.X2).X5=true
  rotate_left
  ·have hbt:¬Uz (Xj m.X2) 8=true:=hq10;have hst:Yb m 9=Yb m 8:=X0v (j:=8) hbt
   replace hq10:=Bool.eq_false_iff.2 hq10
   refine cF hq10 ?_
   refine T.skip ?_
   refine eN ⟨[aa,pv 0 0,aa,pv 1 0,aa,Y9 2 kU8 0 (Yb m 8).length,aa,aa,aa,aa,aa,aa,aa,aa,aa,aa,aa,aa,aa,aa,aa,aa,aa,aa,aa,aa,aa,aa,aa,aa,aa,aa,aa,aa,aa,aa,aa,aa,aa,aa,aa,aa,aa,aa,aa,aa,aa,aa,aa,aa,aa,aa,aa,aa,aa,aa,aa,aa,aa,aa,aa,aa,aa,aa,aa,aa,aa,aa,aa,aa,aa,aa,aa,aa,aa,aa,aa,vB (Xj m.X2).X5],(Z99 tm m)⟩ ?_
   refine Xc (s':=⟨(Z9a m),(Z9b tm m)⟩) (fun _ _ hG=>Yt [0,1,2] (bm 6 42) (t2:=(Z98 m)) (h2:=(Z99 tm m)) (by have e1:((Yb m 9).length:Nat)=(Yb m 8).length:=Us;have hE:=congrArg (fun (q1:Nat)=>([aa,pv 0 0,aa,pv 1 0,aa,Y9 2 kU8 0 q1]:List AV)) e1;exact hE) (by have e1:((Yb m 9):List UInt8)=(Yb m 8):=Us;have hE:=congrArg (fun (q1:List UInt8)=>([(Z8n tm m),(Z8q m),.live (Xe 5 kU8 q1)]:List HS)) e1;exact hE) hG) ?_
   exact nJ
  have hbt:Uz (Xj m.X2) 8=true:=hq10;have hst:Yb m 9=Yb m 8++Ep m.X5:=(Ht (j:=8) (i:=8) rfl hbt);have hrm:=He (m:=m) (j:=8) (i:=8) rfl hbt (by decide);simp only [Fa,List.length_append,Wq,Vg] at hrm
  refine cT hq10 ?_
  refine sR [hR 4 rfl rfl (Ww (E5 true false (Yb m 8) ((m.X5.length:Nat):Int) (by omega)) Tryz.func66 rfl (by decide) [3] [2] (l:=[(.tmp 78,Y9 2 kU8 0 (Yb m 8).length),(.tmp 81,vI ((m.X5.length:Nat):Int))]) [(2,.live (Xe 5 kU8 (Yb m 8)))] rfl 0 1 rfl rfl rfl rfl rfl rfl rfl rfl rfl ⟨.inr (.inl ⟨rfl,px,rfl,rfl,by simp,5,(Yb m 8).length,W6 kU8 (Yb m 8),List.Mem.head _,pm,fun i j=>by rw [Nat.zero_add]⟩),⟨.inl ⟨rfl,rfl⟩,trivial⟩⟩ rfl pZ6 pZl (X3 rfl) trivial)] ?_
  refine sR [] ?_
  refine T.block ?_
  refine T.loop (ι:=Nat) (fun (k:Nat)=>(Z9e tm m k)) (fun (k:Nat)=>(k≤m.X5.length)) (fun (k:Nat)=>m.X5.length-k) (0) (Nat.zero_le _) (fun _ _ hG=>Vb [0,1,3] (bm 7 106) (t1:=[aa,pv 0 0,aa,pv 1 0,aa,Y9 3 kU8 0 ((Yb m 8)++U7 ((m.X5.length:Nat):Int)++Ij m.X5 0).length,vI 0]) (t2:=[aa,pv 0 0,aa,pv 1 0,aa,Y9 3 kU8 0 ((Yb m 8)++U7 ((m.X5.length:Nat):Int)).length,vI 0]) (h1:=(Z9f tm m)) (h2:=[(Z8n tm m),(Z8q m),.live (Xe 5 kU8 ((Yb m 8)++U7 ((m.X5.length:Nat):Int)))]) (by have e1:(((Yb m 8)++U7 ((m.X5.length:Nat):Int)++Ij m.X5 0).length:Nat)=((Yb m 8)++U7 ((m.X5.length:Nat):Int)).length:=(by (rw [crt_0,List.append_nil];done));have hE:=congrArg (fun (q1:Nat)=>([aa,pv 0 0,aa,pv 1 0,aa,Y9 3 kU8 0 q1,vI 0]:List AV)) e1;exact hE) (by have e1:(((Yb m 8)++U7 ((m.X5.length:Nat):Int)++Ij m.X5 0):List UInt8)=(Yb m 8)++U7 ((m.X5.length:Nat):Int):=(by (rw [crt_0,List.append_nil];done));have hE:=congrArg (fun (q1:List UInt8)=>([(Z8n tm m),(Z8q m),.live (Xe 5 kU8 q1)]:List HS)) e1;exact hE) hG) ?_
  rintro k hk
  show T _ _ (Z9e tm m k) _ _
  replace hk:k≤m.X5.length:=hk
  have hcle:=crt_le m.X5 k
  refine T.seq ?_
  refine sR [] ?_
  by_cases hq11:((k:Nat):Int)<((m.X5.length:Nat):Int)
  ·have hcr:=crt_room (l:=m.X5) (k:=k) (by omega);have hvc:=list_cnt (m.X5.getD k zC).Xv;have hcl:=Ik ((m.X5.length:Nat):Int)
   refine cT (dT hq11) ?_
   refine T.skip (nT (T.seq ?_))
   refine T.block ?_
   refine xD [[],[],[1],[],[1,2,3],[1,2,3,4],[1,2,3,4,5],[0,1,2,3,4,5,6],[],[8],[],[8,9,10],[8,9,10,11],[8,9,10,11,12],[0,1,2,3,4,5,6,7,8,9,10,11,12,13],[0,1,2,3,4,5,6,7,8,9,10,11,12,13,14]] [hR 4 rfl rfl (Wd tm false (kC tm) m.X5 k (k:=.i64) (i:=((k:Nat):Int)) Tryz.underlying76 Fr rfl rfl (by omega) (X3 rfl) trivial),hR 7 rfl rfl (Ww (X1k true false ((Yb m 8)++U7 ((m.X5.length:Nat):Int)++Ij m.X5 k) tm (m.X5.getD k zC).I1 X7a) Tryz.func67 rfl (by decide) [3] [2] (l:=[(.tmp 90,(Z9c m k)),(.tmp 96,.tv (.agg [dI (m.X5.getD k zC).I1.X4,.d (dsl tm false kU8 (m.X5.getD k zC).I1.Xf)]))]) [(2,(Z9d m k))] rfl 0 1 rfl rfl rfl rfl rfl rfl rfl rfl rfl ⟨.inr (.inl ⟨rfl,px,rfl,rfl,by simp,5,((Yb m 8)++U7 ((m.X5.length:Nat):Int)++Ij m.X5 k).length,W6 kU8 ((Yb m 8)++U7 ((m.X5.length:Nat):Int)++Ij m.X5 k),List.Mem.head _,pm,fun i j=>by rw [Nat.zero_add]⟩),⟨⟨.inl ⟨rfl,rfl⟩,⟨.inl ⟨rfl,rfl⟩,trivial⟩⟩,trivial⟩⟩ rfl pZ6 pZl (X3 rfl) trivial),hR 11 rfl rfl (Wd tm false (kC tm) m.X5 k (k:=.i64) (i:=((k:Nat):Int)) Tryz.underlying76 Fr rfl rfl (by omega) (X3 rfl) trivial),hR 14 rfl rfl (Ww (X3l true false (((Yb m 8)++U7 ((m.X5.length:Nat):Int)++Ij m.X5 k)++Ih (m.X5.getD k zC).I1) tm false tm (m.X5.getD k zC).Xv X7a (by omega)) Tryz.func65 rfl (by decide) [4] [3] (l:=[(.tmp 97,Y9 3 kU8 0 (((Yb m 8)++U7 ((m.X5.length:Nat):Int)++Ij m.X5 k)++Ih (m.X5.getD k zC).I1).length),(.tmp 103,slV tm false (kE tm) (m.X5.getD k zC).Xv)]) [(3,.live (Xe 5 kU8 (((Yb m 8)++U7 ((m.X5.length:Nat):Int)++Ij m.X5 k)++Ih (m.X5.getD k zC).I1)))] rfl 0 1 rfl rfl rfl rfl rfl rfl rfl rfl rfl ⟨.inr (.inl ⟨rfl,px,rfl,rfl,by simp,5,(((Yb m 8)++U7 ((m.X5.length:Nat):Int)++Ij m.X5 k)++Ih (m.X5.getD k zC).I1).length,W6 kU8 (((Yb m 8)++U7 ((m.X5.length:Nat):Int)++Ij m.X5 k)++Ih (m.X5.getD k zC).I1),List.Mem.head _,pm,fun i j=>by rw [Nat.zero_add]⟩),⟨.inl ⟨rfl,rfl⟩,trivial⟩⟩ rfl pZ6 pZl (X3 rfl) trivial)] pZ7 pZ7 pZ7 pZ7 pZ7 pZ7 ?_
   refine nB ?_
   refine nT ?_
   refine xK [hR 1 rfl rfl (Ye (u1:=.int .i64 ((k:Nat):Int)) (u2:=.int .i64 1) (v:=.int .i64 ((k+1:Nat):Int)) (Wa pa) (X3 rfl) ⟨rfl,trivial⟩)] ?_
   refine nL (k+1) (show (k+1)≤m.X5.length from (by omega)) (show (m.X5.length-(k+1):Nat)<m.X5.length-k from (by omega)) (fun _ _ hG=>Vb [0,1,4] (bm 7 106) (t1:=[aa,pv 0 0,aa,pv 1 0,aa,Y9 4 kU8 0 ((Yb m 8)++U7 ((m.X5.length:Nat):Int)++Ij m.X5 (k+1)).length,(Z9g k)]) (t2:=[aa,pv 0 0,aa,pv 1 0,aa,Y9 4 kU8 0 (((Yb m 8)++U7 ((m.X5.length:Nat):Int)++Ij m.X5 k)++Ih (m.X5.getD k zC).I1++Vo (m.X5.getD k zC).Xv).length,(Z9g k)]) (h1:=(Z9h tm m k)) (h2:=[(Z8n tm m),(Z8q m),.live (Xe 5 kU8 (((Yb m 8)++U7 ((m.X5.length:Nat):Int)++Ij m.X5 k)++Ih (m.X5.getD k zC).I1++Vo (m.X5.getD k zC).Xv))]) (by have e1:(((Yb m 8)++U7 ((m.X5.length:Nat):Int)++Ij m.X5 (k+1)).length:Nat)=(((Yb m 8)++U7 ((m.X5.length:Nat):Int)++Ij m.X5 k)++Ih (m.X5.getD k zC).I1++Vo (m.X5.getD k zC).Xv).length:=(by (rw [Xf5 (by omega)];simp only [List.append_assoc];done));have hE:=congrArg (fun (q1:Nat)=>([aa,pv 0 0,aa,pv 1 0,aa,Y9 4 kU8 0 q1,(Z9g k)]:List AV)) e1;exact hE) (by have e1:(((Yb m 8)++U7 ((m.X5.length:Nat):Int)++Ij m.X5 (k+1)):List UInt8)=((Yb m 8)++U7 ((m.X5.length:Nat):Int)++Ij m.X5 k)++Ih (m.X5.getD k zC).I1++Vo (m.X5.getD k zC).Xv:=(by (rw [Xf5 (by omega)];simp only [List.append_assoc];done));have hE:=congrArg (fun (q1:List UInt8)=>([(Z8n tm m),(Z8q m),.live (Xe 5 kU8 q1)]:List HS)) e1;exact hE) hG)
  refine cF (dF hq11) ?_
  refine T.exit ?_
  refine xT ?_
  refine xT ?_
  refine xH ?_
  refine eN ⟨[aa,pv 0 0,aa,pv 1 0,aa,(Z9c m k),vI ((k:Nat):Int),aa,aa,aa,aa,aa,aa,aa,aa,aa,aa,aa,aa,aa,aa,aa,aa,aa,aa,aa,aa,aa,aa,aa,aa,aa,aa,aa,aa,aa,aa,aa,aa,aa,aa,aa,aa,aa,aa,aa,aa,aa,aa,aa,aa,aa,aa,aa,aa,aa,aa,aa,aa,aa,aa,aa,aa,aa,aa,aa,aa,aa,aa,aa,aa,aa,aa,aa,aa,aa,aa,aa,aa,aa,aa,aa,aa,aa,aa,aa,aa,vB (decide (((k:Nat):Int)<((m.X5.length:Nat):Int)))],[(Z8n tm m),(Z8q m),(Z9d m k)]⟩ ?_
  refine Xc (s':=⟨(Z9a m),(Z9b tm m)⟩) (fun _ _ hG=>Yt [0,1,2] (bm 6 42) (t2:=[aa,pv 0 0,aa,pv 1 0,aa,(Z9c m k)]) (h2:=[(Z8n tm m),(Z8q m),(Z9d m k)]) (by have e1:((Yb m 9).length:Nat)=((Yb m 8)++U7 ((m.X5.length:Nat):Int)++Ij m.X5 k).length:=p56;have hE:=congrArg (fun (q1:Nat)=>([aa,pv 0 0,aa,pv 1 0,aa,Y9 2 kU8 0 q1]:List AV)) e1;exact hE) (by have e1:((Yb m 9):List UInt8)=((Yb m 8)++U7 ((m.X5.length:Nat):Int)++Ij m.X5 k):=p56;have hE:=congrArg (fun (q1:List UInt8)=>([(Z8n tm m),(Z8q m),.live (Xe 5 kU8 q1)]:List HS)) e1;exact hE) hG) ?_
  exact nJ
 refine sR [] ?_
 refine T.ret ?_
 refine eN ⟨(Z9i m),(Z9b tm m)⟩ ?_
 refine Xc (s':=⟨[aa,pv 0 0,slV false false kU8 (Yb m 9),pv 1 0,aa,slV false false kU8 (Yb m 9)],[(Z8n tm m),(Z8q m),.dead]⟩) (fun _ _ hG=>Gs.freeze (s:=⟨(Z9i m),(Z9b tm m)⟩) 2 (el:=W6 kU8 (Yb m 9)) (sz:=kU8.sz) (n:=(Yb m 9).length) rfl (kk2 ⟨(.inr pZ0),(kk2 ⟨(.inr pZ0),trivial⟩)⟩) ⟨pc,⟨pc,⟨(.inl ⟨rfl,rfl⟩),trivial⟩⟩⟩ hG) ?_
 exact eRt 2 (.one (dU (Yb m 9))) [] (congrArg (fun (q1:List UInt8)=>(slV false false kU8 q1:AV)) (by exact (if_pos hwl))) trivial
end Go.Proofs.YtnaopgohccacmaaGreat.Q
