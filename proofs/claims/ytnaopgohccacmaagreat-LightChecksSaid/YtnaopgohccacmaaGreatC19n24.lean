import Derived.Test.YtnaopgohccacmaaGreatC19n23
namespace Go.Proofs.YtnaopgohccacmaaGreat.Q
open Go Go.RowKit
set_option linter.unusedVariables false
set_option linter.unusedSimpArgs false
set_option maxRecDepth 100000
set_option maxHeartbeats 4000000
theorem cells_60:Cells Tryz.prog 60 1:=⟨_,iat_60,rfl⟩
section
variable (tb:Bool) (nb:Bool) (b:List UInt8) (j:Nat)
abbrev Zbg:List AV:=[slV tb nb kU8 b,aa,pv 0 0,vI 11,aa,aa,aa,aa,aa,aa,aa,vB (decide (((b.length:Nat):Int)>16777216))]
abbrev Zbh:SV:=.d (.val (.slice none 0 0))
abbrev Zbi:HS:=.live (.box 78 [dI 0,dI 0,dI 0,dI 0,dI 0,dS [],Zbh,dI 0,dI 0,Zbh,Zbh,Zbh])
abbrev Zbj:SV:=dU ([]:List UInt8)
abbrev Zbk:SV:=.d (dsl false false (kE false) ([]:List aE))
abbrev Zbl:SV:=.d (dsl false false (kC false) ([]:List aC))
abbrev Zbm:List SV:=[dI 0,dI 0,dI 0,dI 0,dI 0,dS [],Zbj,dI 0,dI 0,Zbk,Zbk,Zbl]
abbrev Zbn:AV:=vB (decide (okK (rdI b 0)))
abbrev Zbo:List AV:=[slV tb nb kU8 b,aa,pv 0 0,vI 0,pv 2 0,pv 3 0,pv 4 0,(Zbn b),vI 1,aa,aa,vB (decide (((b.length:Nat):Int)>16777216))]
abbrev Zbp:HS:=.live (.box 195 [dU (rdR b 0 8 0),dI (rdE b 0 8 0)])
abbrev Zbq:HS:=.live (.box 240 [.ptr 1 0])
abbrev Zbr:HS:=.live (.box 242 [dI (Yk (rdI b 0)).Vx,dI (Yk (rdI b 0)).Wt,dI (Yk (rdI b 0)).V7,dI (Yk (rdI b 0)).Vp])
abbrev Zbs:List HS:=[Zbi,(Zbp b),Zbq,.live (.box 78 [dI (rdI b 0),dI 0,dI 0,dI 0,dI 0,dS [],Zbh,dI 0,dI 0,Zbh,Zbh,Zbh]),(Zbr b)]
abbrev Zbt:HS:=.live (.box 78 [dI (rdI b 0),dI 0,dI 0,dI 0,dI 0,dS [],Zbj,dI 0,dI 0,Zbk,Zbk,Zbl])
abbrev Zbu:AV:=vI ((2 ^ j:Nat):Int)
abbrev Zbv:HS:=.live (.box 240 [.ptr 2 0])
abbrev Zbw:=(Xx ((b.length:Nat):Int) 16777216 (rdR b 0 8 0) (rdE b 0 8 0) (rdI b 0) j)
abbrev Zbx:SV:=dI (Zbw b j).m.X2
abbrev Zby:SV:=dI (Zbw b j).m.Y1
abbrev Zbz:SV:=dI (Zbw b j).m.Xo
abbrev Zc0:SV:=dI (Zbw b j).m.Xi
abbrev Zc1:SV:=dI (Zbw b j).m.Yj
abbrev Zc2:SV:=dS (Zbw b j).m.X8
abbrev Zc3:SV:=dU (Zbw b j).m.Xa
abbrev Zc4:SV:=dI (Zbw b j).m.X1.Xw
abbrev Zc5:SV:=dI (Zbw b j).m.X1.Xn
abbrev Zc6:SV:=.d (dsl false false (kE false) (Zbw b j).m.Xp)
abbrev Zc7:SV:=.d (dsl false false (kE false) (Zbw b j).m.Y5)
abbrev Zc8:SV:=.d (dsl false false (kC false) (Zbw b j).m.X5)
abbrev Zc9:List SV:=[(Zbx b j),(Zby b j),(Zbz b j),(Zc0 b j),(Zc1 b j),(Zc2 b j),(Zc3 b j),(Zc4 b j),(Zc5 b j),(Zc6 b j),(Zc7 b j),(Zc8 b j)]
abbrev Zca:List HS:=[Zbi,Zbv,.live (.box 195 [dU (Zbw b j).rest,dI (Zbw b j).e]),.live (.box 78 (Zc9 b j)),(Zbr b)]
abbrev Zcb:=(Xx ((b.length:Nat):Int) 16777216 (rdR b 0 8 0) (rdE b 0 8 0) (rdI b 0) 0)
abbrev Zcc:HS:=.live (.box 195 [dU (Zcb b).rest,dI (Zcb b).e])
abbrev Zcd:HS:=.live (.box 78 [dI (Zcb b).m.X2,dI (Zcb b).m.Y1,dI (Zcb b).m.Xo,dI (Zcb b).m.Xi,dI (Zcb b).m.Yj,dS (Zcb b).m.X8,dU (Zcb b).m.Xa,dI (Zcb b).m.X1.Xw,dI (Zcb b).m.X1.Xn,.d (dsl false false (kE false) (Zcb b).m.Xp),.d (dsl false false (kE false) (Zcb b).m.Y5),.d (dsl false false (kC false) (Zcb b).m.X5)])
abbrev Zci:List AV:=[slV tb nb kU8 b,aa,pv 0 0,aa,pv 1 0,pv 3 0,pv 4 0,(Zbn b),vI (((2 ^ j)*2 ^ 1:Nat):Int)]
abbrev Zcj:=(rdR (Zbw b j).rest (Zbw b j).e 8 0)
abbrev Zck:=(rdE (Zbw b j).rest (Zbw b j).e 8 0)
abbrev Zcl:SV:=dI (rdI (Zbw b j).rest (Zbw b j).e)
abbrev Zcm:HS:=.live (.box 195 [dU (rdR (Zcj b j) (Zck b j) 8 0),dI (rdE (Zcj b j) (Zck b j) 8 0)])
abbrev Zcn:=(rdY (Zbw b j).rest (Zbw b j).e ((b.length:Nat):Int))
abbrev Zco:List AV:=[slV tb nb kU8 b,aa,pv 0 0,aa,pv 1 0,pv 3 0,pv 4 0,(Zbn b),(Zbu j),aa,aa,aa,aa,aa,aa,aa,aa,aa,aa,aa,aa,aa,aa,aa,aa,aa,aa,aa,aa,(Zbn b),aa,aa,aa,aa,aa,aa,vB (decide ((I0 (Yk (rdI b 0)).Vx ((2 ^ j:Nat):Int))=0)),(Zbu j),vB (decide (((2 ^ j:Nat):Int)=1)),aa,aa,aa,aa,vB (decide (((2 ^ j:Nat):Int)=2)),aa,aa,aa,aa,vB (decide (((2 ^ j:Nat):Int)=4)),aa,aa,aa,aa,aa,aa,aa,vB (decide (((2 ^ j:Nat):Int)=8))]
abbrev Zcp:HS:=.live (.box 195 [dU (Vw (Zbw b j).rest (Zbw b j).e ((b.length:Nat):Int)),dI (V5 (Zbw b j).rest (Zbw b j).e ((b.length:Nat):Int))])
abbrev Zcq:HS:=.live (.box 78 [(Zbx b j),(Zby b j),(Zbz b j),(Zc0 b j),(Zc1 b j),dS (Zcn b j),(Zc3 b j),(Zc4 b j),(Zc5 b j),(Zc6 b j),(Zc7 b j),(Zc8 b j)])
abbrev Zcr:List AV:=[slV tb nb kU8 b,aa,pv 0 0,aa,pv 1 0,pv 3 0,pv 4 0,(Zbn b),(Zbu j),aa,aa,aa,aa,aa,aa,aa,aa,aa,aa,aa,aa,aa,aa,aa,aa,aa,aa,aa,aa,(Zbn b),aa,aa,aa,aa,aa,aa,vB (decide ((I0 (Yk (rdI b 0)).Vx ((2 ^ j:Nat):Int))=0)),(Zbu j),vB (decide (((2 ^ j:Nat):Int)=1)),aa,aa,aa,aa,vB (decide (((2 ^ j:Nat):Int)=2)),aa,aa,aa,aa,vB (decide (((2 ^ j:Nat):Int)=4)),aa,aa,aa,aa,aa,aa,aa,vB (decide (((2 ^ j:Nat):Int)=8)),aa,aa,aa,aa,aa,aa,aa,aa,vB (decide (((2 ^ j:Nat):Int)=16))]
abbrev Zcs:List HS:=[Zbi,Zbv,(Zcp b j),.live (.box 78 [(Zbx b j),(Zby b j),(Zbz b j),(Zc0 b j),(Zc1 b j),(Zc2 b j),.own 5 kU8.sz 0 (Zcn b j).length,(Zc4 b j),(Zc5 b j),(Zc6 b j),(Zc7 b j),(Zc8 b j)]),(Zbr b),.live (Xe 5 kU8 (Zcn b j))]
abbrev Zct:HS:=.live (.box 78 [(Zbx b j),(Zby b j),(Zbz b j),(Zc0 b j),(Zc1 b j),(Zc2 b j),dU (Zcn b j),(Zc4 b j),(Zc5 b j),(Zc6 b j),(Zc7 b j),(Zc8 b j)])
abbrev Zcu:=(Uq 16777216 (Zbw b j).rest (Zbw b j).e)
abbrev Zcv:=(X03 16777216 (Zbw b j).rest (Zbw b j).e)
abbrev Zcw:List AV:=[slV tb nb kU8 b,aa,pv 0 0,vI 12,pv 1 0,pv 3 0,pv 4 0,(Zbn b),(Zbu j),aa,aa,aa,aa,aa,aa,aa,aa,aa,aa,aa,aa,aa,aa,aa,aa,aa,aa,aa,aa,(Zbn b),aa,aa,aa,aa,aa,aa,aa,aa,aa,aa,aa,aa,aa,aa,aa,aa,aa,aa,aa,aa,aa,aa,aa,aa,aa,aa,aa,aa,aa,aa,aa,aa,aa,aa,aa,aa,aa,aa,aa,aa,aa,aa,aa,aa,aa,aa,aa,aa,aa,aa,aa,aa,aa,aa,aa,aa,aa,aa,aa,aa,aa,aa,aa,aa,aa,aa,aa,aa,aa,aa,aa,aa,aa,aa,aa,aa,aa,aa,aa,aa,aa,aa,aa,vB true]
abbrev Zcx:HS:=.live (.box 195 [dU (Zbw b j).rest,dI (rdX (Zbw b j).rest (Zbw b j).e)])
abbrev Zcy:List HS:=[Zbi,Zbv,(Zcx b j),.live (.box 78 (Zc9 b j)),(Zbr b)]
abbrev Zcz:List HS:=[.live (.box 78 Zbm),Zbv,(Zcx b j),.live (.box 78 (Zc9 b j)),(Zbr b)]
abbrev Zd0:TV:=.one (dI 12)
abbrev Zd1:List AV:=[slV tb nb kU8 b,aa,pv 0 0,vI 12,pv 1 0,pv 3 0,pv 4 0,(Zbn b),(Zbu j),aa,aa,aa,aa,aa,aa,aa,aa,aa,aa,aa,aa,aa,aa,aa,aa,aa,aa,aa,aa,vB false,aa,aa,aa,aa,aa,aa,aa,aa,aa,aa,aa,aa,aa,aa,aa,aa,aa,aa,aa,aa,aa,aa,aa,aa,aa,aa,aa,aa,aa,aa,aa,aa,aa,aa,aa,aa,aa,aa,aa,aa,aa,aa,aa,aa,aa,aa,aa,aa,aa,aa,aa,aa,aa,aa,aa,aa,aa,aa,aa,aa,aa,aa,aa,aa,aa,aa,aa,aa,aa,aa,aa,aa,aa,aa,aa,aa,aa,aa,aa,aa,aa,aa,aa,vB true]
abbrev Zd2:List AV:=[slV tb nb kU8 b,aa,pv 0 0,vI 12,pv 1 0,pv 3 0,pv 4 0,(Zbn b),(Zbu j),aa,aa,aa,aa,aa,aa,aa,aa,aa,aa,aa,aa,aa,aa,aa,aa,aa,aa,aa,aa,vB false,aa,aa,aa,aa,aa,aa,aa,aa,aa,aa,aa,aa,aa,aa,aa,aa,aa,aa,aa,aa,aa,aa,aa,aa,aa,aa,aa,aa,aa,aa,aa,aa,aa,aa,aa,aa,aa,aa,aa,aa,aa,aa,aa,aa,aa,aa,aa,aa,aa,aa,aa,aa,aa,aa,aa,aa,aa,aa,aa,aa,aa,aa,aa,aa,aa,aa,aa,aa,aa,aa,aa,aa,aa,aa,aa,aa,aa,aa,aa,aa,aa,aa,aa,vB (decide ((X7f (Zbw b j).m)≠0))]
end
theorem Xgg (tb:Bool) (nb:Bool) (b:List UInt8) (hb:b.length≤140737488355328):Holds Tryz.prog 187 ⟨[slV tb nb kU8 b],[],.tup [.agg [dI (Wl b).X2,dI (Wl b).Y1,dI (Wl b).Xo,dI (Wl b).Xi,dI (Wl b).Yj,dS (Wl b).X8,dU (Wl b).Xa,dI (Wl b).X1.Xw,dI (Wl b).X1.Xn,.d (dsl false false (kE false) (Wl b).Xp),.d (dsl false false (kE false) (Wl b).Y5),.d (dsl false false (kC false) (Wl b).X5)],.one (dI (X0w b))],[]⟩:=by
 refine Holds.of Tryz.func187 rfl (N:=116) Tryz.ntmps187 rfl fun w0 B0 S0 U0=>?_
 show T _ (Y2 116 0 w0 S0 U0 B0) ⟨[slV tb nb kU8 b],[]⟩ _ _
 have hr1:=U3 b 0 8 0
 refine sR [] ?_
 refine T.seq ?_
 refine sR [] ?_
 by_cases hq1:((b.length:Nat):Int)>16777216
 ·have hd9:=Xf2 (M:=((b.length:Nat):Int)) (N:=16777216) (b:=b) (by omega)
  refine cT (dT hq1) ?_
  refine sR [] ?_
  refine T.ret (rT ?_)
  refine eN ⟨(Zbg tb nb b),[Zbi]⟩ ?_
  refine Xc (s':=⟨(Zbg tb nb b),[.live (.box 78 Zbm)]⟩) (fun _ _ hG=>Ys (s:=⟨(Zbg tb nb b),[Zbi]⟩) p3w ⟨pq,trivial⟩ hG) ?_
  exact eX [.c 2 0 78 0 78 [dI 0,dI 0,dI 0,dI 0,dI 0,dS [],Zbj,dI 0,dI 0,Zbk,Zbk,Zbl] (.agg Zbm),.t 3 (.one (dI 11))] ⟨⟨rfl,rfl,by kernel_rfl,by kernel_rfl,.inl ⟨12,Wp,rfl,Nat.le_of_ble_eq_true rfl⟩⟩,⟨⟨rfl,by kernel_rfl⟩,trivial⟩⟩ [] pf trivial
 have hbl:¬b.length>16777216:=(by omega)
 refine cF (dF hq1) ?_
 refine T.skip (nT ?_)
 refine sR [hR 1 rfl rfl (rCa (Xd6 tb nb b ‹_›) Tryz.func104 [1] [(.tmp 13,slV tb nb kU8 b)] 0 1)] ?_
 refine sR [hR 1 rfl rfl (rCa (I6 b 0 (by omega)) Tryz.func194 [1] [(.tmp 16,.tv (.agg [.ptr 1 0]))] 1 1)] ?_
 refine sR [hR 2 rfl rfl (rCa (X70 (rdI b 0) ) Tryz.func195 [] [(.tmp 21,vI (rdI b 0))] 0 0)] ?_
 refine T.seq ?_
 refine sR [] ?_
 refine T.block ?_
 refine tN ⟨(Zbo tb nb b),(Zbs b)⟩ ?_
 refine Wv (s':=⟨(Zbo tb nb b),[Zbi,(Zbp b),Zbq,(Zbt b),(Zbr b)]⟩) (fun _ _ hG=>Ys (s:=⟨(Zbo tb nb b),(Zbs b)⟩) p3w ⟨.inl rfl,p1n⟩ hG) ?_
 refine T.loop (ι:=Nat) (fun (j:Nat)=>⟨[slV tb nb kU8 b,aa,pv 0 0,aa,pv 1 0,pv 3 0,pv 4 0,(Zbn b),(Zbu j)],(Zca b j)⟩) (fun (j:Nat)=>(j≤9)) (fun (j:Nat)=>9-j) (0) (by omega) (fun _ _ hG=>Vb [0,2,1,3,4] (bm 9 501) (t1:=[slV tb nb kU8 b,aa,pv 0 0,aa,pv 2 0,pv 3 0,pv 4 0,(Zbn b),vI ((2 ^ 0:Nat):Int)]) (t2:=[slV tb nb kU8 b,aa,pv 0 0,aa,pv 2 0,pv 3 0,pv 4 0,(Zbn b),vI 1]) (h1:=[Zbi,Zbq,(Zcc b),(Zcd b),(Zbr b)]) (h2:=[Zbi,Zbq,(Zbp b),(Zbt b),(Zbr b)]) (congrArg (fun (q1:Int)=>([slV tb nb kU8 b,aa,pv 0 0,aa,pv 2 0,pv 3 0,pv 4 0,(Zbn b),vI q1]:List AV)) (by rfl)) (cg14 (fun (q1:List UInt8) (q2:Int) (q3:Int) (q4:Int) (q5:Int) (q6:Int) (q7:Int) (q8:List UInt8) (q9:List UInt8) (q10:Int) (q11:Int) (q12:List aE) (q13:List aE) (q14:List aC)=>([Zbi,Zbq,.live (.box 195 [dU q1,dI q2]),.live (.box 78 [dI q3,dI q4,dI q5,dI q6,dI q7,dS q8,dU q9,dI q10,dI q11,.d (dsl false false (kE false) q12),.d (dsl false false (kE false) q13),.d (dsl false false (kC false) q14)]),(Zbr b)]:List HS)) (by rfl) (by rfl) (by rfl) (by rfl) (by rfl) (by rfl) (by rfl) (by rfl) (by rfl) (by rfl) (by rfl) (by rfl) (by rfl) (by rfl)) hG) ?_
 rintro j hj
 show T _ _ ⟨[slV tb nb kU8 b,aa,pv 0 0,aa,pv 1 0,pv 3 0,pv 4 0,(Zbn b),(Zbu j)],(Zca b j)⟩ _ _
 replace hj:j≤9:=hj
 have hp9:=pow_le9 hj
 have hrl:=Eu ((b.length:Nat):Int) 16777216 (rdR b 0 8 0) (rdE b 0 8 0) (rdI b 0) j
 have hr2:=U3 (Xx ((b.length:Nat):Int) 16777216 (rdR b 0 8 0) (rdE b 0 8 0) (rdI b 0) j).rest (Xx ((b.length:Nat):Int) 16777216 (rdR b 0 8 0) (rdE b 0 8 0) (rdI b 0) j).e 8 0
 have hr3:=X0i (Xx ((b.length:Nat):Int) 16777216 (rdR b 0 8 0) (rdE b 0 8 0) (rdI b 0) j).rest (Xx ((b.length:Nat):Int) 16777216 (rdR b 0 8 0) (rdE b 0 8 0) (rdI b 0) j).e ((b.length:Nat):Int)
 obtain ⟨hf1,hf2,hf3,hf4,hf5⟩:=X4f ((b.length:Nat):Int) 16777216 (rdR b 0 8 0) (rdE b 0 8 0) (rdI b 0) j
 refine T.seq ?_
 by_cases hq2:((2 ^ j:Nat):Int)≤256
 rotate_left
 ·have hj9:j=9:=(by have h9:¬j≤8:=fun q=>hq2 ((pow_le hj).2 q);omega)
  refine sR [hN 3 true (dF hq2),hP 4 (dF hq2)] ?_
  refine cF (b:=false) rfl ?_
  refine T.exit ?_
  refine xT ?_
  refine xT ?_
  refine xH ?_
  refine nT (T.seq ?_)
  refine sR [hR 2 rfl rfl (rCa (Xg3 (Xx ((b.length:Nat):Int) 16777216 (rdR b 0 8 0) (rdE b 0 8 0) (rdI b 0) j).rest (Xx ((b.length:Nat):Int) 16777216 (rdR b 0 8 0) (rdE b 0 8 0) (rdI b 0) j).e (by omega)) Tryz.func107 [2] [(.tmp 99,pv 2 0)] 1 1)] ?_
  by_cases hq14:okK (rdI b 0)
  rotate_left
  ·have hd9:=X6a (M:=((b.length:Nat):Int)) (N:=16777216) (fun q=>hq14 q.2.1) hbl
   refine sR (Xm (hN · false (cn (dF hq14))) [3,4,5,6] (hP 7 (cn (dF hq14))::(Xm hN0 [9,10,11] (hP1 12::[])))) ?_
   refine cT (b:=true) rfl ?_
   refine sR [] ?_
   refine T.ret (rT ?_)
   refine eN ⟨(Zd1 tb nb b j),(Zcy b j)⟩ ?_
   refine Xc (s':=⟨(Zd1 tb nb b j),(Zcz b j)⟩) (fun _ _ hG=>Ys (s:=⟨(Zd1 tb nb b j),(Zcy b j)⟩) (kk2 (Fq p1i)) ⟨pq,(kk4 trivial)⟩ hG) ?_
   exact eX [.c 2 0 78 0 78 [dI 0,dI 0,dI 0,dI 0,dI 0,dS [],Zbj,dI 0,dI 0,Zbk,Zbk,Zbl] (.agg Zbm),.t 3 (Zd0)] ⟨⟨rfl,rfl,by kernel_rfl,by kernel_rfl,.inl ⟨12,Wp,rfl,Nat.le_of_ble_eq_true rfl⟩⟩,⟨⟨rfl,by kernel_rfl⟩,trivial⟩⟩ [] pf trivial
  by_cases hq15:(rdX (Xx ((b.length:Nat):Int) 16777216 (rdR b 0 8 0) (rdE b 0 8 0) (rdI b 0) j).rest (Xx ((b.length:Nat):Int) 16777216 (rdR b 0 8 0) (rdE b 0 8 0) (rdI b 0) j).e)≠0
  ·have hF:(Xx ((b.length:Nat):Int) 16777216 (rdR b 0 8 0) (rdE b 0 8 0) (rdI b 0) j)=X67 ((b.length:Nat):Int) 16777216 b:=(by rw [hj9];rfl);have hd9:=X6a (M:=((b.length:Nat):Int)) (N:=16777216) (fun q=>hq15 (by rw [hF];exact q.2.2.1)) hbl
   refine sR (hY 3 (cn (dT hq14))::(hY 4 (cn (dT hq14))::(hS 5 (oY rfl rfl rfl rfl (X3 rfl) (cn (dT hq14)) (rCa (X92 (Xx ((b.length:Nat):Int) 16777216 (rdR b 0 8 0) (rdE b 0 8 0) (rdI b 0) j).rest (rdX (Xx ((b.length:Nat):Int) 16777216 (rdR b 0 8 0) (rdE b 0 8 0) (rdI b 0) j).rest (Xx ((b.length:Nat):Int) 16777216 (rdR b 0 8 0) (rdE b 0 8 0) (rdI b 0) j).e) ) Tryz.func108 [2] [(.tmp 105,pv 2 0)] 1 1))::(hY 6 (cn (dT hq14))::(hP 7 (cn (dT hq14))::(Xm (hN · false (dT hq15)) [9,10,11] (hP 12 (dT hq15)::[]))))))) ?_
   refine cT (b:=true) rfl ?_
   refine sR [] ?_
   refine T.ret (rT ?_)
   refine eN ⟨(Zd1 tb nb b j),(Zcy b j)⟩ ?_
   refine Xc (s':=⟨(Zd1 tb nb b j),(Zcz b j)⟩) (fun _ _ hG=>Ys (s:=⟨(Zd1 tb nb b j),(Zcy b j)⟩) (kk2 (Fq p1i)) ⟨pq,(kk4 trivial)⟩ hG) ?_
   exact eX [.c 2 0 78 0 78 [dI 0,dI 0,dI 0,dI 0,dI 0,dS [],Zbj,dI 0,dI 0,Zbk,Zbk,Zbl] (.agg Zbm),.t 3 (Zd0)] ⟨⟨rfl,rfl,by kernel_rfl,by kernel_rfl,.inl ⟨12,Wp,rfl,Nat.le_of_ble_eq_true rfl⟩⟩,⟨⟨rfl,by kernel_rfl⟩,trivial⟩⟩ [] pf trivial
  refine sR [hY 3 (cn (dT hq14)),hY 4 (cn (dT hq14)),hS 5 (oY rfl rfl rfl rfl (X3 rfl) (cn (dT hq14)) (rCa (X92 (Xx ((b.length:Nat):Int) 16777216 (rdR b 0 8 0) (rdE b 0 8 0) (rdI b 0) j).rest (rdX (Xx ((b.length:Nat):Int) 16777216 (rdR b 0 8 0) (rdE b 0 8 0) (rdI b 0) j).rest (Xx ((b.length:Nat):Int) 16777216 (rdR b 0 8 0) (rdE b 0 8 0) (rdI b 0) j).e) ) Tryz.func108 [2] [(.tmp 105,pv 2 0)] 1 1)),hY 6 (cn (dT hq14)),hP 7 (cn (dT hq14)),hY 9 (dF hq15),hS 10 (oY rfl rfl rfl rfl (X3 rfl) (dF hq15) (rCa (Xjf false (Xx ((b.length:Nat):Int) 16777216 (rdR b 0 8 0) (rdE b 0 8 0) (rdI b 0) j).m (by omega) (by omega) (by omega) (by omega) (by omega)) Tryz.func198 [] [(.tmp 110,.tv (.agg (Zc9 b j)))] 0 0)),hY 11 (dF hq15),hP 12 (dF hq15)] ?_
  by_cases hq16:(X7f (Xx ((b.length:Nat):Int) 16777216 (rdR b 0 8 0) (rdE b 0 8 0) (rdI b 0) j).m)≠0
  ·have hF:(Xx ((b.length:Nat):Int) 16777216 (rdR b 0 8 0) (rdE b 0 8 0) (rdI b 0) j)=X67 ((b.length:Nat):Int) 16777216 b:=(by rw [hj9];rfl);have hd9:=X6a (M:=((b.length:Nat):Int)) (N:=16777216) (fun q=>hq16 (by rw [hF];exact chk0.2 q.2.2.2)) hbl
   refine cT (dT hq16) ?_
   refine sR [] ?_
   refine T.ret (rT ?_)
   refine eN ⟨(Zd2 tb nb b j),(Zcy b j)⟩ ?_
   refine Xc (s':=⟨(Zd2 tb nb b j),(Zcz b j)⟩) (fun _ _ hG=>Ys (s:=⟨(Zd2 tb nb b j),(Zcy b j)⟩) (kk2 (Fq p1i)) ⟨pq,(kk4 trivial)⟩ hG) ?_
   exact eX [.c 2 0 78 0 78 [dI 0,dI 0,dI 0,dI 0,dI 0,dS [],Zbj,dI 0,dI 0,Zbk,Zbk,Zbl] (.agg Zbm),.t 3 (Zd0)] ⟨⟨rfl,rfl,by kernel_rfl,by kernel_rfl,.inl ⟨12,Wp,rfl,Nat.le_of_ble_eq_true rfl⟩⟩,⟨⟨rfl,by kernel_rfl⟩,trivial⟩⟩ [] pf trivial
  have hF:(Xx ((b.length:Nat):Int) 16777216 (rdR b 0 8 0) (rdE b 0 8 0) (rdI b 0) j)=X67 ((b.length:Nat):Int) 16777216 b:=(by rw [hj9];rfl);have hd9:=Xi7 (M:=((b.length:Nat):Int)) (N:=16777216) (b:=b) ⟨by omega,by assumption,by rw [← hF];exact Classical.not_not.1 ‹_›,chk0.1 (by rw [← hF];exact Classical.not_not.1 hq16)⟩;rw [← hF] at hd9
  refine cF (dF hq16) ?_
  refine T.skip (nT ?_)
  refine sR [] ?_
  refine T.ret ?_
  exact eX [.c 2 0 78 0 78 [(Zbx b j),(Zby b j),(Zbz b j),(Zc0 b j),(Zc1 b j),(Zc2 b j),(Zc3 b j),(Zc4 b j),(Zc5 b j),(Zc6 b j),(Zc7 b j),(Zc8 b j)] (.agg (Zc9 b j)),.t 3 (.one (dI 0))] ⟨⟨rfl,rfl,by kernel_rfl,by kernel_rfl,.inl ⟨12,Wp,rfl,Nat.le_of_ble_eq_true rfl⟩⟩,⟨⟨rfl,by kernel_rfl⟩,trivial⟩⟩ [] pf trivial
 have hj8:j≤8:=(pow_le hj).1 hq2
 refine sR [hY 3 (dT hq2),hP 4 (dT hq2)] ?_
 by_cases hq3:okK (rdI b 0)
 rotate_left
 ·have hd9:=X6a (M:=((b.length:Nat):Int)) (N:=16777216) (fun q=>hq3 q.2.1) hbl
  refine cF (dF hq3) ?_
  refine T.exit ?_
  refine xT ?_
  refine xT ?_
  refine xH ?_
  refine nT (T.seq ?_)
  refine sR [hR 2 rfl rfl (rCa (Xg3 (Xx ((b.length:Nat):Int) 16777216 (rdR b 0 8 0) (rdE b 0 8 0) (rdI b 0) j).rest (Xx ((b.length:Nat):Int) 16777216 (rdR b 0 8 0) (rdE b 0 8 0) (rdI b 0) j).e (by omega)) Tryz.func107 [2] [(.tmp 99,pv 2 0)] 1 1)] ?_
  refine sR (Xm (hN · false (cn (dF hq3))) [3,4,5,6] (hP 7 (cn (dF hq3))::(Xm hN0 [9,10,11] (hP1 12::[])))) ?_
  refine cT (b:=true) rfl ?_
  refine sR [] ?_
  refine T.ret (rT ?_)
  refine eN ⟨(Zcw tb nb b j),(Zcy b j)⟩ ?_
  refine Xc (s':=⟨(Zcw tb nb b j),(Zcz b j)⟩) (fun _ _ hG=>Ys (s:=⟨(Zcw tb nb b j),(Zcy b j)⟩) (kk2 (Fq p1i)) ⟨pq,(kk4 trivial)⟩ hG) ?_
  exact eX [.c 2 0 78 0 78 [dI 0,dI 0,dI 0,dI 0,dI 0,dS [],Zbj,dI 0,dI 0,Zbk,Zbk,Zbl] (.agg Zbm),.t 3 (Zd0)] ⟨⟨rfl,rfl,by kernel_rfl,by kernel_rfl,.inl ⟨12,Wp,rfl,Nat.le_of_ble_eq_true rfl⟩⟩,⟨⟨rfl,by kernel_rfl⟩,trivial⟩⟩ [] pf trivial
 refine cT (dT hq3) ?_
 refine T.skip (nT (T.seq ?_))
 refine T.block ?_
 refine T.seq ?_
 refine sR [hR 3 rfl rfl (Ye (u1:=.int .i64 (Yk (rdI b 0)).Vx) (u2:=.int .i64 ((2 ^ j:Nat):Int)) (v:=.int .i64 (I0 (Yk (rdI b 0)).Vx ((2 ^ j:Nat):Int))) (Xcy rfl) (X3 rfl) trivial)] ?_
 by_cases hq4:(I0 (Yk (rdI b 0)).Vx ((2 ^ j:Nat):Int))=0
 ·have hbt:=(Xih hj8).1 hq4;have hst:(Xx ((b.length:Nat):Int) 16777216 (rdR b 0 8 0) (rdE b 0 8 0) (rdI b 0) (j+1))=(Xx ((b.length:Nat):Int) 16777216 (rdR b 0 8 0) (rdE b 0 8 0) (rdI b 0) j):=Ej hbt
  refine cT (dT hq4) ?_
  refine T.exit ?_
  refine xT ?_
  refine xH ?_
  refine nT ?_
  refine xK [hR 1 rfl rfl (Ye (u1:=.int .i64 ((2 ^ j:Nat):Int)) (u2:=.int .u64 1) (v:=.int .i64 (((2 ^ j)*2 ^ 1:Nat):Int)) (F6 (n:=1) rfl py pa) (X3 rfl) ⟨rfl,trivial⟩)] ?_
  refine nL (j+1) (show (j+1)≤9 from (by omega)) (show (9-(j+1):Nat)<9-j from (by omega)) (fun _ _ hG=>Yt [0,1,2,3,4] (bm 9 501) (t2:=(Zci tb nb b j)) (h2:=(Zca b j)) pZv pZ8 hG)
 have hbt:Uz (Xj (rdI b 0)) j=true:=Classical.byContradiction fun q=>hq4 ((Xih hj8).2 q)
 refine cF (dF hq4) ?_
 refine T.skip (nT ?_)
 refine sR [] ?_
 refine T.block ?_
 refine sR [] ?_
 by_cases hq5:((2 ^ j:Nat):Int)=1
 ·have hji:j=0:=X0j (i:=0) hj hq5;have hst:(Xx ((b.length:Nat):Int) 16777216 (rdR b 0 8 0) (rdE b 0 8 0) (rdI b 0) (j+1))=V3 ((b.length:Nat):Int) 16777216 (Xx ((b.length:Nat):Int) 16777216 (rdR b 0 8 0) (rdE b 0 8 0) (rdI b 0) j) 0:=Uv hji hbt;simp only [V3] at hst
  refine cT (dT hq5) ?_
  refine xK [hR 1 rfl rfl (rCa (I6 (Xx ((b.length:Nat):Int) 16777216 (rdR b 0 8 0) (rdE b 0 8 0) (rdI b 0) j).rest (Xx ((b.length:Nat):Int) 16777216 (rdR b 0 8 0) (rdE b 0 8 0) (rdI b 0) j).e (by omega)) Tryz.func194 [2] [(.tmp 40,.tv (.agg [.ptr 2 0]))] 1 1)] ?_
  refine nB ?_
  refine nB ?_
  refine nT ?_
  refine xK [hR 1 rfl rfl (Ye (u1:=.int .i64 ((2 ^ j:Nat):Int)) (u2:=.int .u64 1) (v:=.int .i64 (((2 ^ j)*2 ^ 1:Nat):Int)) (F6 (n:=1) rfl py pa) (X3 rfl) ⟨rfl,trivial⟩)] ?_
  refine nL (j+1) (show (j+1)≤9 from (by omega)) (show (9-(j+1):Nat)<9-j from (by omega)) (fun _ _ hG=>Yt [0,1,2,3,4] (bm 9 501) (t2:=(Zci tb nb b j)) (h2:=[Zbi,Zbv,.live (.box 195 [dU (Zcj b j),dI (Zck b j)]),.live (.box 78 [(Zbx b j),(Zcl b j),(Zbz b j),(Zc0 b j),(Zc1 b j),(Zc2 b j),(Zc3 b j),(Zc4 b j),(Zc5 b j),(Zc6 b j),(Zc7 b j),(Zc8 b j)]),(Zbr b)]) pZv pZ8 hG)
 have hn0:j≠0:=(fun q=>hq5 p4k)
 refine cF (dF hq5) ?_
 refine sR [] ?_
 by_cases hq6:((2 ^ j:Nat):Int)=2
 ·have hji:j=1:=X0j (i:=1) hj hq6;have hst:(Xx ((b.length:Nat):Int) 16777216 (rdR b 0 8 0) (rdE b 0 8 0) (rdI b 0) (j+1))=V3 ((b.length:Nat):Int) 16777216 (Xx ((b.length:Nat):Int) 16777216 (rdR b 0 8 0) (rdE b 0 8 0) (rdI b 0) j) 1:=Uv hji hbt;simp only [V3] at hst
  refine cT (dT hq6) ?_
  refine xK [hR 1 rfl rfl (rCa (I6 (Xx ((b.length:Nat):Int) 16777216 (rdR b 0 8 0) (rdE b 0 8 0) (rdI b 0) j).rest (Xx ((b.length:Nat):Int) 16777216 (rdR b 0 8 0) (rdE b 0 8 0) (rdI b 0) j).e (by omega)) Tryz.func194 [2] [(.tmp 45,.tv (.agg [.ptr 2 0]))] 1 1)] ?_
  refine nB ?_
  refine nB ?_
  refine nT ?_
  refine xK [hR 1 rfl rfl (Ye (u1:=.int .i64 ((2 ^ j:Nat):Int)) (u2:=.int .u64 1) (v:=.int .i64 (((2 ^ j)*2 ^ 1:Nat):Int)) (F6 (n:=1) rfl py pa) (X3 rfl) ⟨rfl,trivial⟩)] ?_
  refine nL (j+1) (show (j+1)≤9 from (by omega)) (show (9-(j+1):Nat)<9-j from (by omega)) (fun _ _ hG=>Yt [0,1,2,3,4] (bm 9 501) (t2:=(Zci tb nb b j)) (h2:=[Zbi,Zbv,.live (.box 195 [dU (Zcj b j),dI (Zck b j)]),.live (.box 78 [(Zbx b j),(Zby b j),(Zcl b j),(Zc0 b j),(Zc1 b j),(Zc2 b j),(Zc3 b j),(Zc4 b j),(Zc5 b j),(Zc6 b j),(Zc7 b j),(Zc8 b j)]),(Zbr b)]) pZv pZ8 hG)
 have hn1:j≠1:=(fun q=>hq6 p4k)
 refine cF (dF hq6) ?_
 refine sR [] ?_
 by_cases hq7:((2 ^ j:Nat):Int)=4
 ·have hji:j=2:=X0j (i:=2) hj hq7;have hst:(Xx ((b.length:Nat):Int) 16777216 (rdR b 0 8 0) (rdE b 0 8 0) (rdI b 0) (j+1))=V3 ((b.length:Nat):Int) 16777216 (Xx ((b.length:Nat):Int) 16777216 (rdR b 0 8 0) (rdE b 0 8 0) (rdI b 0) j) 2:=Uv hji hbt;simp only [V3] at hst
  refine cT (dT hq7) ?_
  refine sR [hR 1 rfl rfl (rCa (I6 (Xx ((b.length:Nat):Int) 16777216 (rdR b 0 8 0) (rdE b 0 8 0) (rdI b 0) j).rest (Xx ((b.length:Nat):Int) 16777216 (rdR b 0 8 0) (rdE b 0 8 0) (rdI b 0) j).e (by omega)) Tryz.func194 [2] [(.tmp 50,.tv (.agg [.ptr 2 0]))] 1 1)] ?_
  refine xK [hR 1 rfl rfl (rCa (I6 (rdR (Xx ((b.length:Nat):Int) 16777216 (rdR b 0 8 0) (rdE b 0 8 0) (rdI b 0) j).rest (Xx ((b.length:Nat):Int) 16777216 (rdR b 0 8 0) (rdE b 0 8 0) (rdI b 0) j).e 8 0) (rdE (Xx ((b.length:Nat):Int) 16777216 (rdR b 0 8 0) (rdE b 0 8 0) (rdI b 0) j).rest (Xx ((b.length:Nat):Int) 16777216 (rdR b 0 8 0) (rdE b 0 8 0) (rdI b 0) j).e 8 0) (by omega)) Tryz.func194 [2] [(.tmp 53,.tv (.agg [.ptr 2 0]))] 1 1)] ?_
  refine nB ?_
  refine nB ?_
  refine nT ?_
  refine xK [hR 1 rfl rfl (Ye (u1:=.int .i64 ((2 ^ j:Nat):Int)) (u2:=.int .u64 1) (v:=.int .i64 (((2 ^ j)*2 ^ 1:Nat):Int)) (F6 (n:=1) rfl py pa) (X3 rfl) ⟨rfl,trivial⟩)] ?_
  refine nL (j+1) (show (j+1)≤9 from (by omega)) (show (9-(j+1):Nat)<9-j from (by omega)) (fun _ _ hG=>Yt [0,1,2,3,4] (bm 9 501) (t2:=(Zci tb nb b j)) (h2:=[Zbi,Zbv,(Zcm b j),.live (.box 78 [(Zbx b j),(Zby b j),(Zbz b j),(Zcl b j),dI (rdI (Zcj b j) (Zck b j)),(Zc2 b j),(Zc3 b j),(Zc4 b j),(Zc5 b j),(Zc6 b j),(Zc7 b j),(Zc8 b j)]),(Zbr b)]) pZv pZ8 hG)
 have hn2:j≠2:=(fun q=>hq7 p4k)
 refine cF (dF hq7) ?_
 refine sR [] ?_
 by_cases hq8:((2 ^ j:Nat):Int)=8
 ·have hji:j=3:=X0j (i:=3) hj hq8;have hst:(Xx ((b.length:Nat):Int) 16777216 (rdR b 0 8 0) (rdE b 0 8 0) (rdI b 0) (j+1))=V3 ((b.length:Nat):Int) 16777216 (Xx ((b.length:Nat):Int) 16777216 (rdR b 0 8 0) (rdE b 0 8 0) (rdI b 0) j) 3:=Uv hji hbt;simp only [V3] at hst
  refine cT (dT hq8) ?_
  refine xR [hR 4 rfl rfl (rCa (X1m (Xx ((b.length:Nat):Int) 16777216 (rdR b 0 8 0) (rdE b 0 8 0) (rdI b 0) j).rest (Xx ((b.length:Nat):Int) 16777216 (rdR b 0 8 0) (rdE b 0 8 0) (rdI b 0) j).e ((b.length:Nat):Int) (by omega)) Tryz.func106 [2,5] [(.tmp 59,pv 2 0),(.tmp 61,vI ((b.length:Nat):Int))] 1 2),hR 5 rfl rfl (Hr () (rdY (Xx ((b.length:Nat):Int) 16777216 (rdR b 0 8 0) (rdE b 0 8 0) (rdI b 0) j).rest (Xx ((b.length:Nat):Int) 16777216 (rdR b 0 8 0) (rdE b 0 8 0) (rdI b 0) j).e ((b.length:Nat):Int)) (ys:=(.own 5 kU8.sz 0 (Zcn b j).length)) (rhs:=[(5,.live (Xe 5 kU8 (Zcn b j)))]) Tryz.underlying25 Tryz.underlying5 Tryz.underlying60 (Wu 5 5 kU8 (rdY (Xx ((b.length:Nat):Int) 16777216 (rdR b 0 8 0) (rdE b 0 8 0) (rdI b 0) j).rest (Xx ((b.length:Nat):Int) 16777216 (rdR b 0 8 0) (rdE b 0 8 0) (rdI b 0) j).e ((b.length:Nat):Int))) (X3 rfl) trivial)] pZ7 pZ7 ?_
  refine nB ?_
  refine nB ?_
  refine nT ?_
  refine tN ⟨(Zco tb nb b j),[Zbi,Zbv,(Zcp b j),(Zcq b j),(Zbr b),.live (Xe 5 kU8 (Zcn b j))]⟩ ?_
  refine Wv (s':=⟨(Zco tb nb b j),[Zbi,Zbv,(Zcp b j),(Zcq b j),(Zbr b),.dead]⟩) (fun _ _ hG=>Gs.freeze (s:=⟨(Zco tb nb b j),[Zbi,Zbv,(Zcp b j),(Zcq b j),(Zbr b),.live (Xe 5 kU8 (Zcn b j))]⟩) 5 (el:=W6 kU8 (rdY (Xx ((b.length:Nat):Int) 16777216 (rdR b 0 8 0) (rdE b 0 8 0) (rdI b 0) j).rest (Xx ((b.length:Nat):Int) 16777216 (rdR b 0 8 0) (rdE b 0 8 0) (rdI b 0) j).e ((b.length:Nat):Int))) (sz:=kU8.sz) (n:=(rdY (Xx ((b.length:Nat):Int) 16777216 (rdR b 0 8 0) (rdE b 0 8 0) (rdI b 0) j).rest (Xx ((b.length:Nat):Int) 16777216 (rdR b 0 8 0) (rdE b 0 8 0) (rdI b 0) j).e ((b.length:Nat):Int)).length) rfl ⟨.inl rfl,(kk8 X5v)⟩ ⟨pc,⟨pc,⟨pc,⟨pc,⟨pc,⟨(.inl ⟨rfl,rfl⟩),trivial⟩⟩⟩⟩⟩⟩ hG) ?_
  refine xK [hR 1 rfl rfl (Ye (u1:=.int .i64 ((2 ^ j:Nat):Int)) (u2:=.int .u64 1) (v:=.int .i64 (((2 ^ j)*2 ^ 1:Nat):Int)) (F6 (n:=1) rfl py pa) (X3 rfl) ⟨rfl,trivial⟩)] ?_
  refine nL (j+1) (show (j+1)≤9 from (by omega)) (show (9-(j+1):Nat)<9-j from (by omega)) (fun _ _ hG=>Yt [0,1,2,3,4] (bm 9 501) (t2:=(Zci tb nb b j)) (h2:=[Zbi,Zbv,(Zcp b j),(Zcq b j),(Zbr b)]) pZv pZ8 hG)
 have hn3:j≠3:=(fun q=>hq8 p4k)
 refine cF (dF hq8) ?_
 refine sR [] ?_
 by_cases hq9:((2 ^ j:Nat):Int)=16
 ·have hji:j=4:=X0j (i:=4) hj hq9;have hst:(Xx ((b.length:Nat):Int) 16777216 (rdR b 0 8 0) (rdE b 0 8 0) (rdI b 0) (j+1))=V3 ((b.length:Nat):Int) 16777216 (Xx ((b.length:Nat):Int) 16777216 (rdR b 0 8 0) (rdE b 0 8 0) (rdI b 0) j) 4:=Uv hji hbt;simp only [V3] at hst
  refine cT (dT hq9) ?_
  refine xK [hR 4 rfl rfl (rCa (X1m (Xx ((b.length:Nat):Int) 16777216 (rdR b 0 8 0) (rdE b 0 8 0) (rdI b 0) j).rest (Xx ((b.length:Nat):Int) 16777216 (rdR b 0 8 0) (rdE b 0 8 0) (rdI b 0) j).e ((b.length:Nat):Int) (by omega)) Tryz.func106 [2,5] [(.tmp 68,pv 2 0),(.tmp 70,vI ((b.length:Nat):Int))] 1 2)] ?_
  refine nB ?_
  refine nB ?_
  refine nT ?_
  refine tN ⟨(Zcr tb nb b j),(Zcs b j)⟩ ?_
  refine Wv (s':=⟨(Zcr tb nb b j),[Zbi,Zbv,(Zcp b j),(Zct b j),(Zbr b),.dead]⟩) (fun _ _ hG=>Gs.freeze (s:=⟨(Zcr tb nb b j),(Zcs b j)⟩) 5 (el:=W6 kU8 (rdY (Xx ((b.length:Nat):Int) 16777216 (rdR b 0 8 0) (rdE b 0 8 0) (rdI b 0) j).rest (Xx ((b.length:Nat):Int) 16777216 (rdR b 0 8 0) (rdE b 0 8 0) (rdI b 0) j).e ((b.length:Nat):Int))) (sz:=kU8.sz) (n:=(rdY (Xx ((b.length:Nat):Int) 16777216 (rdR b 0 8 0) (rdE b 0 8 0) (rdI b 0) j).rest (Xx ((b.length:Nat):Int) 16777216 (rdR b 0 8 0) (rdE b 0 8 0) (rdI b 0) j).e ((b.length:Nat):Int)).length) rfl (kk2 p4f) ⟨pc,⟨pc,⟨pc,⟨p4y,⟨pc,⟨(.inl ⟨rfl,rfl⟩),trivial⟩⟩⟩⟩⟩⟩ hG) ?_
  refine xK [hR 1 rfl rfl (Ye (u1:=.int .i64 ((2 ^ j:Nat):Int)) (u2:=.int .u64 1) (v:=.int .i64 (((2 ^ j)*2 ^ 1:Nat):Int)) (F6 (n:=1) rfl py pa) (X3 rfl) ⟨rfl,trivial⟩)] ?_
  refine nL (j+1) (show (j+1)≤9 from (by omega)) (show (9-(j+1):Nat)<9-j from (by omega)) (fun _ _ hG=>Yt [0,1,2,3,4] (bm 9 501) (t2:=(Zci tb nb b j)) (h2:=[Zbi,Zbv,(Zcp b j),(Zct b j),(Zbr b)]) pZv pZ8 hG)
 have hn4:j≠4:=(fun q=>hq9 p4k)
 refine cF (dF hq9) ?_
 refine sR [] ?_
 by_cases hq10:((2 ^ j:Nat):Int)=32
 ·have hji:j=5:=X0j (i:=5) hj hq10;have hst:(Xx ((b.length:Nat):Int) 16777216 (rdR b 0 8 0) (rdE b 0 8 0) (rdI b 0) (j+1))=V3 ((b.length:Nat):Int) 16777216 (Xx ((b.length:Nat):Int) 16777216 (rdR b 0 8 0) (rdE b 0 8 0) (rdI b 0) j) 5:=Uv hji hbt;simp only [V3] at hst
  refine cT (dT hq10) ?_
  refine sR [hR 1 rfl rfl (rCa (I6 (Xx ((b.length:Nat):Int) 16777216 (rdR b 0 8 0) (rdE b 0 8 0) (rdI b 0) j).rest (Xx ((b.length:Nat):Int) 16777216 (rdR b 0 8 0) (rdE b 0 8 0) (rdI b 0) j).e (by omega)) Tryz.func194 [2] [(.tmp 75,.tv (.agg [.ptr 2 0]))] 1 1)] ?_
  refine xK [hR 1 rfl rfl (rCa (I6 (rdR (Xx ((b.length:Nat):Int) 16777216 (rdR b 0 8 0) (rdE b 0 8 0) (rdI b 0) j).rest (Xx ((b.length:Nat):Int) 16777216 (rdR b 0 8 0) (rdE b 0 8 0) (rdI b 0) j).e 8 0) (rdE (Xx ((b.length:Nat):Int) 16777216 (rdR b 0 8 0) (rdE b 0 8 0) (rdI b 0) j).rest (Xx ((b.length:Nat):Int) 16777216 (rdR b 0 8 0) (rdE b 0 8 0) (rdI b 0) j).e 8 0) (by omega)) Tryz.func194 [2] [(.tmp 79,.tv (.agg [.ptr 2 0]))] 1 1)] ?_
  refine nB ?_
  refine nB ?_
  refine nT ?_
  refine xK [hR 1 rfl rfl (Ye (u1:=.int .i64 ((2 ^ j:Nat):Int)) (u2:=.int .u64 1) (v:=.int .i64 (((2 ^ j)*2 ^ 1:Nat):Int)) (F6 (n:=1) rfl py pa) (X3 rfl) ⟨rfl,trivial⟩)] ?_
  refine nL (j+1) (show (j+1)≤9 from (by omega)) (show (9-(j+1):Nat)<9-j from (by omega)) (fun _ _ hG=>Yt [0,1,2,3,4] (bm 9 501) (t2:=(Zci tb nb b j)) (h2:=[Zbi,Zbv,(Zcm b j),.live (.box 78 [(Zbx b j),(Zby b j),(Zbz b j),(Zc0 b j),(Zc1 b j),(Zc2 b j),(Zc3 b j),(Zcl b j),dI (rdI (Zcj b j) (Zck b j)),(Zc6 b j),(Zc7 b j),(Zc8 b j)]),(Zbr b)]) pZv pZ8 hG)
 have hn5:j≠5:=(fun q=>hq10 p4k)
 refine cF (dF hq10) ?_
 refine sR [] ?_
 by_cases hq11:((2 ^ j:Nat):Int)=64
 ·have hji:j=6:=X0j (i:=6) hj hq11;have hst:(Xx ((b.length:Nat):Int) 16777216 (rdR b 0 8 0) (rdE b 0 8 0) (rdI b 0) (j+1))=V3 ((b.length:Nat):Int) 16777216 (Xx ((b.length:Nat):Int) 16777216 (rdR b 0 8 0) (rdE b 0 8 0) (rdI b 0) j) 6:=Uv hji hbt;simp only [V3] at hst
  refine cT (dT hq11) ?_
  refine xK [hR 1 rfl rfl (rCa (X8a (Xx ((b.length:Nat):Int) 16777216 (rdR b 0 8 0) (rdE b 0 8 0) (rdI b 0) j).rest (Xx ((b.length:Nat):Int) 16777216 (rdR b 0 8 0) (rdE b 0 8 0) (rdI b 0) j).e (by omega)) Tryz.func196 [2] [(.tmp 85,.tv (.agg [.ptr 2 0]))] 1 1)] ?_
  refine nB ?_
  refine nB ?_
  refine nT ?_
  refine xK [hR 1 rfl rfl (Ye (u1:=.int .i64 ((2 ^ j:Nat):Int)) (u2:=.int .u64 1) (v:=.int .i64 (((2 ^ j)*2 ^ 1:Nat):Int)) (F6 (n:=1) rfl py pa) (X3 rfl) ⟨rfl,trivial⟩)] ?_
  refine nL (j+1) (show (j+1)≤9 from (by omega)) (show (9-(j+1):Nat)<9-j from (by omega)) (fun _ _ hG=>Yt [0,1,2,3,4] (bm 9 501) (t2:=(Zci tb nb b j)) (h2:=[Zbi,Zbv,.live (.box 195 [dU (Zcu b j).rest,dI (Zcu b j).e]),.live (.box 78 [(Zbx b j),(Zby b j),(Zbz b j),(Zc0 b j),(Zc1 b j),(Zc2 b j),(Zc3 b j),(Zc4 b j),(Zc5 b j),.d (dsl false false (kE false) (Zcu b j).l),(Zc7 b j),(Zc8 b j)]),(Zbr b)]) pZv pZ8 hG)
 have hn6:j≠6:=(fun q=>hq11 p4k)
 refine cF (dF hq11) ?_
 refine sR [] ?_
 by_cases hq12:((2 ^ j:Nat):Int)=128
 ·have hji:j=7:=X0j (i:=7) hj hq12;have hst:(Xx ((b.length:Nat):Int) 16777216 (rdR b 0 8 0) (rdE b 0 8 0) (rdI b 0) (j+1))=V3 ((b.length:Nat):Int) 16777216 (Xx ((b.length:Nat):Int) 16777216 (rdR b 0 8 0) (rdE b 0 8 0) (rdI b 0) j) 7:=Uv hji hbt;simp only [V3] at hst
  refine cT (dT hq12) ?_
  refine xK [hR 1 rfl rfl (rCa (X8a (Xx ((b.length:Nat):Int) 16777216 (rdR b 0 8 0) (rdE b 0 8 0) (rdI b 0) j).rest (Xx ((b.length:Nat):Int) 16777216 (rdR b 0 8 0) (rdE b 0 8 0) (rdI b 0) j).e (by omega)) Tryz.func196 [2] [(.tmp 90,.tv (.agg [.ptr 2 0]))] 1 1)] ?_
  refine nB ?_
  refine nB ?_
  refine nT ?_
  refine xK [hR 1 rfl rfl (Ye (u1:=.int .i64 ((2 ^ j:Nat):Int)) (u2:=.int .u64 1) (v:=.int .i64 (((2 ^ j)*2 ^ 1:Nat):Int)) (F6 (n:=1) rfl py pa) (X3 rfl) ⟨rfl,trivial⟩)] ?_
  refine nL (j+1) (show (j+1)≤9 from (by omega)) (show (9-(j+1):Nat)<9-j from (by omega)) (fun _ _ hG=>Yt [0,1,2,3,4] (bm 9 501) (t2:=(Zci tb nb b j)) (h2:=[Zbi,Zbv,.live (.box 195 [dU (Zcu b j).rest,dI (Zcu b j).e]),.live (.box 78 [(Zbx b j),(Zby b j),(Zbz b j),(Zc0 b j),(Zc1 b j),(Zc2 b j),(Zc3 b j),(Zc4 b j),(Zc5 b j),(Zc6 b j),.d (dsl false false (kE false) (Zcu b j).l),(Zc8 b j)]),(Zbr b)]) pZv pZ8 hG)
 have hn7:j≠7:=(fun q=>hq12 p4k)
 refine cF (dF hq12) ?_
 refine sR [] ?_
 by_cases hq13:((2 ^ j:Nat):Int)=256
 ·have hji:j=8:=X0j (i:=8) hj hq13;have hst:(Xx ((b.length:Nat):Int) 16777216 (rdR b 0 8 0) (rdE b 0 8 0) (rdI b 0) (j+1))=V3 ((b.length:Nat):Int) 16777216 (Xx ((b.length:Nat):Int) 16777216 (rdR b 0 8 0) (rdE b 0 8 0) (rdI b 0) j) 8:=Uv hji hbt;simp only [V3] at hst
  refine cT (dT hq13) ?_
  refine xK [hR 1 rfl rfl (rCa (Xit (Xx ((b.length:Nat):Int) 16777216 (rdR b 0 8 0) (rdE b 0 8 0) (rdI b 0) j).rest (Xx ((b.length:Nat):Int) 16777216 (rdR b 0 8 0) (rdE b 0 8 0) (rdI b 0) j).e (by omega)) Tryz.func197 [2] [(.tmp 95,.tv (.agg [.ptr 2 0]))] 1 1)] ?_
  refine nB ?_
  refine nB ?_
  refine nT ?_
  refine xK [hR 1 rfl rfl (Ye (u1:=.int .i64 ((2 ^ j:Nat):Int)) (u2:=.int .u64 1) (v:=.int .i64 (((2 ^ j)*2 ^ 1:Nat):Int)) (F6 (n:=1) rfl py pa) (X3 rfl) ⟨rfl,trivial⟩)] ?_
  refine nL (j+1) (show (j+1)≤9 from (by omega)) (show (9-(j+1):Nat)<9-j from (by omega)) (fun _ _ hG=>Yt [0,1,2,3,4] (bm 9 501) (t2:=(Zci tb nb b j)) (h2:=[Zbi,Zbv,.live (.box 195 [dU (Zcv b j).rest,dI (Zcv b j).e]),.live (.box 78 [(Zbx b j),(Zby b j),(Zbz b j),(Zc0 b j),(Zc1 b j),(Zc2 b j),(Zc3 b j),(Zc4 b j),(Zc5 b j),(Zc6 b j),(Zc7 b j),.d (dsl false false (kC false) (Zcv b j).l)]),(Zbr b)]) pZv pZ8 hG)
 exact absurd (show j=8 by omega) (fun q=>hq13 p4k)
end Go.Proofs.YtnaopgohccacmaaGreat.Q
