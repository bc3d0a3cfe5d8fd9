import Derived.Test.YtnaopgohccacmaaGreatC19n23
namespace Go.Proofs.YtnaopgohccacmaaGreat.Q
open Go Go.RowKit
set_option linter.unusedVariables false
set_option linter.unusedSimpArgs false
set_option maxRecDepth 100000
set_option maxHeartbeats 4000000
theorem cells_60:Cells Tryz.prog 60 1:=⟨_,iat_60,rfl⟩
section
variable (tb:Bool) (nb:Bool) (b:List UInt8) (j:Nat)
abbrev Zbg:List AV:=[slV tb nb kU8 b,aa,pv 0 0,vI 11,aa,aa,aa,aa,aa,aa,aa,vB (decide (((b.length:Nat):Int)>16777216))]
abbrev Zbh:SV:=.d (.val (.slice none 0 0))
abbrev Zbi:HS:=.live (.box 78 [dI 0,dI 0,dI 0,dI 0,dI 0,dS [],Zbh,dI 0,dI 0,Zbh,Zbh,Zbh])
abbrev Zbj:SV:=dU ([]:List UInt8)
abbrev Zbk:SV:=.d (dsl false false (kE false) ([]:List aE))
abbrev Zbl:SV:=.d (dsl false false (kC false) ([]:List aC))
abbrev Zbm:List SV:=[dI 0,dI 0,dI 0,dI 0,dI 0,dS [],Zbj,dI 0,dI 0,Zbk,Zbk,Zbl]
abbrev Zbn:AV:=vB (decide (okK (rdI b 0)))
abbrev Zbo:List AV:=[slV tb nb kU8 b,aa,pv 0 0,vI 0,pv 2 0,pv 3 0,pv 4 0,(Zbn b),vI 1,aa,aa,vB (decide (((b.length:Nat):Int)>16777216))]
abbrev Zbp:HS:=.live (.box 195 [dU (rdR b 0 8 0),dI (rdE b 0 8 0)])
abbrev Zbq:HS:=.live (.box 240 [.ptr 1 0])
abbrev Zbr:HS:=.live (.box 242 [dI (Yh (rdI b 0)).Vp,dI (Yh (rdI b 0)).Wu,dI (Yh (rdI b 0)).V6,dI (Yh (rdI b 0)).Vi])
abbrev Zbs:List HS:=[Zbi,(Zbp b),Zbq,.live (.box 78 [dI (rdI b 0),dI 0,dI 0,dI 0,dI 0,dS [],Zbh,dI 0,dI 0,Zbh,Zbh,Zbh]),(Zbr b)]
abbrev Zbt:HS:=.live (.box 78 [dI (rdI b 0),dI 0,dI 0,dI 0,dI 0,dS [],Zbj,dI 0,dI 0,Zbk,Zbk,Zbl])
abbrev Zbu:AV:=vI ((2 ^ j:Nat):Int)
abbrev Zbv:HS:=.live (.box 240 [.ptr 2 0])
abbrev Zbw:=(Wq ((b.length:Nat):Int) 16777216 (rdR b 0 8 0) (rdE b 0 8 0) (rdI b 0) j)
abbrev Zbx:SV:=dI (Zbw b j).m.X0
abbrev Zby:SV:=dI (Zbw b j).m.Y9
abbrev Zbz:SV:=dI (Zbw b j).m.Xu
abbrev Zc0:SV:=dI (Zbw b j).m.Xr
abbrev Zc1:SV:=dI (Zbw b j).m.W0
abbrev Zc2:SV:=dS (Zbw b j).m.Xe
abbrev Zc3:SV:=dU (Zbw b j).m.Xd
abbrev Zc4:SV:=dI (Zbw b j).m.X3.Y0
abbrev Zc5:SV:=dI (Zbw b j).m.X3.Xq
abbrev Zc6:SV:=.d (dsl false false (kE false) (Zbw b j).m.Xt)
abbrev Zc7:SV:=.d (dsl false false (kE false) (Zbw b j).m.Y8)
abbrev Zc8:SV:=.d (dsl false false (kC false) (Zbw b j).m.X5)
abbrev Zc9:List SV:=[(Zbx b j),(Zby b j),(Zbz b j),(Zc0 b j),(Zc1 b j),(Zc2 b j),(Zc3 b j),(Zc4 b j),(Zc5 b j),(Zc6 b j),(Zc7 b j),(Zc8 b j)]
abbrev Zca:List HS:=[Zbi,Zbv,.live (.box 195 [dU (Zbw b j).rest,dI (Zbw b j).e]),.live (.box 78 (Zc9 b j)),(Zbr b)]
abbrev Zcb:=(Wq ((b.length:Nat):Int) 16777216 (rdR b 0 8 0) (rdE b 0 8 0) (rdI b 0) 0)
abbrev Zcc:HS:=.live (.box 195 [dU (Zcb b).rest,dI (Zcb b).e])
abbrev Zcd:HS:=.live (.box 78 [dI (Zcb b).m.X0,dI (Zcb b).m.Y9,dI (Zcb b).m.Xu,dI (Zcb b).m.Xr,dI (Zcb b).m.W0,dS (Zcb b).m.Xe,dU (Zcb b).m.Xd,dI (Zcb b).m.X3.Y0,dI (Zcb b).m.X3.Xq,.d (dsl false false (kE false) (Zcb b).m.Xt),.d (dsl false false (kE false) (Zcb b).m.Y8),.d (dsl false false (kC false) (Zcb b).m.X5)])
abbrev Zci:List AV:=[slV tb nb kU8 b,aa,pv 0 0,aa,pv 1 0,pv 3 0,pv 4 0,(Zbn b),vI (((2 ^ j)*2 ^ 1:Nat):Int)]
abbrev Zcj:=(rdR (Zbw b j).rest (Zbw b j).e 8 0)
abbrev Zck:=(rdE (Zbw b j).rest (Zbw b j).e 8 0)
abbrev Zcl:SV:=dI (rdI (Zbw b j).rest (Zbw b j).e)
abbrev Zcm:HS:=.live (.box 195 [dU (rdR (Zcj b j) (Zck b j) 8 0),dI (rdE (Zcj b j) (Zck b j) 8 0)])
abbrev Zcn:=(rdY (Zbw b j).rest (Zbw b j).e ((b.length:Nat):Int))
abbrev Zco:List AV:=[slV tb nb kU8 b,aa,pv 0 0,aa,pv 1 0,pv 3 0,pv 4 0,(Zbn b),(Zbu j),aa,aa,aa,aa,aa,aa,aa,aa,aa,aa,aa,aa,aa,aa,aa,aa,aa,aa,aa,aa,(Zbn b),aa,aa,aa,aa,aa,aa,vB (decide ((I8 (Yh (rdI b 0)).Vp ((2 ^ j:Nat):Int))=0)),(Zbu j),vB (decide (((2 ^ j:Nat):Int)=1)),aa,aa,aa,aa,vB (decide (((2 ^ j:Nat):Int)=2)),aa,aa,aa,aa,vB (decide (((2 ^ j:Nat):Int)=4)),aa,aa,aa,aa,aa,aa,aa,vB (decide (((2 ^ j:Nat):Int)=8))]
abbrev Zcp:HS:=.live (.box 195 [dU (U4 (Zbw b j).rest (Zbw b j).e ((b.length:Nat):Int)),dI (Va (Zbw b j).rest (Zbw b j).e ((b.length:Nat):Int))])
abbrev Zcq:HS:=.live (.box 78 [(Zbx b j),(Zby b j),(Zbz b j),(Zc0 b j),(Zc1 b j),dS (Zcn b j),(Zc3 b j),(Zc4 b j),(Zc5 b j),(Zc6 b j),(Zc7 b j),(Zc8 b j)])
abbrev Zcr:List AV:=[slV tb nb kU8 b,aa,pv 0 0,aa,pv 1 0,pv 3 0,pv 4 0,(Zbn b),(Zbu j),aa,aa,aa,aa,aa,aa,aa,aa,aa,aa,aa,aa,aa,aa,aa,aa,aa,aa,aa,aa,(Zbn b),aa,aa,aa,aa,aa,aa,vB (decide ((I8 (Yh (rdI b 0)).Vp ((2 ^ j:Nat):Int))=0)),(Zbu j),vB (decide (((2 ^ j:Nat):Int)=1)),aa,aa,aa,aa,vB (decide (((2 ^ j:Nat):Int)=2)),aa,aa,aa,aa,vB (decide (((2 ^ j:Nat):Int)=4)),aa,aa,aa,aa,aa,aa,aa,vB (decide (((2 ^ j:Nat):Int)=8)),aa,aa,aa,aa,aa,aa,aa,aa,vB (decide (((2 ^ j:Nat):Int)=16))]
abbrev Zcs:List HS:=[Zbi,Zbv,(Zcp b j),.live (.box 78 [(Zbx b j),(Zby b j),(Zbz b j),(Zc0 b j),(Zc1 b j),(Zc2 b j),.own 5 kU8.sz 0 (Zcn b j).length,(Zc4 b j),(Zc5 b j),(Zc6 b j),(Zc7 b j),(Zc8 b j)]),(Zbr b),.live (Xc 5 kU8 (Zcn b j))]
abbrev Zct:HS:=.live (.box 78 [(Zbx b j),(Zby b j),(Zbz b j),(Zc0 b j),(Zc1 b j),(Zc2 b j),dU (Zcn b j),(Zc4 b j),(Zc5 b j),(Zc6 b j),(Zc7 b j),(Zc8 b j)])
abbrev Zcu:=(Hu 16777216 (Zbw b j).rest (Zbw b j).e)
abbrev Zcv:=(X36 16777216 (Zbw b j).rest (Zbw b j).e)
abbrev Zcw:List AV:=[slV tb nb kU8 b,aa,pv 0 0,vI 12,pv 1 0,pv 3 0,pv 4 0,(Zbn b),(Zbu j),aa,aa,aa,aa,aa,aa,aa,aa,aa,aa,aa,aa,aa,aa,aa,aa,aa,aa,aa,aa,(Zbn b),aa,aa,aa,aa,aa,aa,aa,aa,aa,aa,aa,aa,aa,aa,aa,aa,aa,aa,aa,aa,aa,aa,aa,aa,aa,aa,aa,aa,aa,aa,aa,aa,aa,aa,aa,aa,aa,aa,aa,aa,aa,aa,aa,aa,aa,aa,aa,aa,aa,aa,aa,aa,aa,aa,aa,aa,aa,aa,aa,aa,aa,aa,aa,aa,aa,aa,aa,aa,aa,aa,aa,aa,aa,aa,aa,aa,aa,aa,aa,aa,aa,aa,aa,vB true]
abbrev Zcx:HS:=.live (.box 195 [dU (Zbw b j).rest,dI (rdX (Zbw b j).rest (Zbw b j).e)])
abbrev Zcy:List HS:=[Zbi,Zbv,(Zcx b j),.live (.box 78 (Zc9 b j)),(Zbr b)]
abbrev Zcz:List HS:=[.live (.box 78 Zbm),Zbv,(Zcx b j),.live (.box 78 (Zc9 b j)),(Zbr b)]
abbrev Zd0:TV:=.one (dI 12)
abbrev Zd1:List AV:=[slV tb nb kU8 b,aa,pv 0 0,vI 12,pv 1 0,pv 3 0,pv 4 0,(Zbn b),(Zbu j),aa,aa,aa,aa,aa,aa,aa,aa,aa,aa,aa,aa,aa,aa,aa,aa,aa,aa,aa,aa,vB false,aa,aa,aa,aa,aa,aa,aa,aa,aa,aa,aa,aa,aa,aa,aa,aa,aa,aa,aa,aa,aa,aa,aa,aa,aa,aa,aa,aa,aa,aa,aa,aa,aa,aa,aa,aa,aa,aa,aa,aa,aa,aa,aa,aa,aa,aa,aa,aa,aa,aa,aa,aa,aa,aa,aa,aa,aa,aa,aa,aa,aa,aa,aa,aa,aa,aa,aa,aa,aa,aa,aa,aa,aa,aa,aa,aa,aa,aa,aa,aa,aa,aa,aa,vB true]
abbrev Zd2:List AV:=[slV tb nb kU8 b,aa,pv 0 0,vI 12,pv 1 0,pv 3 0,pv 4 0,(Zbn b),(Zbu j),aa,aa,aa,aa,aa,aa,aa,aa,aa,aa,aa,aa,aa,aa,aa,aa,aa,aa,aa,aa,vB false,aa,aa,aa,aa,aa,aa,aa,aa,aa,aa,aa,aa,aa,aa,aa,aa,aa,aa,aa,aa,aa,aa,aa,aa,aa,aa,aa,aa,aa,aa,aa,aa,aa,aa,aa,aa,aa,aa,aa,aa,aa,aa,aa,aa,aa,aa,aa,aa,aa,aa,aa,aa,aa,aa,aa,aa,aa,aa,aa,aa,aa,aa,aa,aa,aa,aa,aa,aa,aa,aa,aa,aa,aa,aa,aa,aa,aa,aa,aa,aa,aa,aa,aa,vB (decide ((chkM (Zbw b j).m)≠0))]
end
theorem Xho (tb:Bool) (nb:Bool) (b:List UInt8) (hb:b.length≤140737488355328):Holds Tryz.prog 187 ⟨[slV tb nb kU8 b],[],.tup [.agg [dI (Vr b).X0,dI (Vr b).Y9,dI (Vr b).Xu,dI (Vr b).Xr,dI (Vr b).W0,dS (Vr b).Xe,dU (Vr b).Xd,dI (Vr b).X3.Y0,dI (Vr b).X3.Xq,.d (dsl false false (kE false) (Vr b).Xt),.d (dsl false false (kE false) (Vr b).Y8),.d (dsl false false (kC false) (Vr b).X5)],.one (dI (X75 b))],[]⟩:=by
 refine Holds.of Tryz.func187 rfl (N:=116) Tryz.ntmps187 rfl fun w0 B0 S0 U0=>?_
 show T _ (Y2 116 0 w0 S0 U0 B0) ⟨[slV tb nb kU8 b],[]⟩ _ _
 have hr1:=Uh b 0 8 0
 refine sR [] (T.seq (sR [] ?_))
 by_cases hq1:((b.length:Nat):Int)>16777216
 ·have hd9:=dec_long (M:=((b.length:Nat):Int)) (N:=16777216) (b:=b) (by omega)
  refine cT (dT hq1) (sR [] (T.ret (rT ?_)))
  refine eN ⟨(Zbg tb nb b),[Zbi]⟩ ?_
  refine Xa (s':=⟨(Zbg tb nb b),[.live (.box 78 Zbm)]⟩) (fun _ _ hG=>W1 (s:=⟨(Zbg tb nb b),[Zbi]⟩) p3x ⟨pZr,trivial⟩ hG) ?_
  exact eX [.c 2 0 78 0 78 [dI 0,dI 0,dI 0,dI 0,dI 0,dS [],Zbj,dI 0,dI 0,Zbk,Zbk,Zbl] (.agg Zbm),.t 3 (.one (dI 11))] ⟨⟨rfl,rfl,by kernel_rfl,by kernel_rfl,.inl ⟨12,Up,rfl,Nat.le_of_ble_eq_true rfl⟩⟩,⟨⟨rfl,by kernel_rfl⟩,trivial⟩⟩ [] pd trivial
 have hbl:¬b.length>16777216:=(by omega)
 refine cF (dF hq1) (T.skip (nT (sR [hR 1 rfl rfl (rCa (Xe0 tb nb b ‹_›) Tryz.func104 [1] [(.tmp 13,slV tb nb kU8 b)] 0 1)] (sR [hR 1 rfl rfl (rCa (Ic b 0 (by omega)) Tryz.func194 [1] [(.tmp 16,.tv (.agg [.ptr 1 0]))] 1 1)] (sR [hR 2 rfl rfl (rCa (X6t (rdI b 0) ) Tryz.func195 [] [(.tmp 21,vI (rdI b 0))] 0 0)] (T.seq (sR [] (T.block ?_))))))))
 refine tN ⟨(Zbo tb nb b),(Zbs b)⟩ ?_
 refine Wy (s':=⟨(Zbo tb nb b),[Zbi,(Zbp b),Zbq,(Zbt b),(Zbr b)]⟩) (fun _ _ hG=>W1 (s:=⟨(Zbo tb nb b),(Zbs b)⟩) p3x ⟨.inl rfl,pZ27⟩ hG) ?_
 refine T.loop (ι:=Nat) (fun (j:Nat)=>⟨[slV tb nb kU8 b,aa,pv 0 0,aa,pv 1 0,pv 3 0,pv 4 0,(Zbn b),(Zbu j)],(Zca b j)⟩) (fun (j:Nat)=>(j≤9)) (fun (j:Nat)=>9-j) (0) (by omega) (fun _ _ hG=>Wf [0,2,1,3,4] (bm 9 501) (t1:=[slV tb nb kU8 b,aa,pv 0 0,aa,pv 2 0,pv 3 0,pv 4 0,(Zbn b),vI ((2 ^ 0:Nat):Int)]) (t2:=[slV tb nb kU8 b,aa,pv 0 0,aa,pv 2 0,pv 3 0,pv 4 0,(Zbn b),vI 1]) (h1:=[Zbi,Zbq,(Zcc b),(Zcd b),(Zbr b)]) (h2:=[Zbi,Zbq,(Zbp b),(Zbt b),(Zbr b)]) (congrArg (fun (q1:Int)=>([slV tb nb kU8 b,aa,pv 0 0,aa,pv 2 0,pv 3 0,pv 4 0,(Zbn b),vI q1]:List AV)) (by rfl)) (cg14 (fun (q1:List UInt8) (q2:Int) (q3:Int) (q4:Int) (q5:Int) (q6:Int) (q7:Int) (q8:List UInt8) (q9:List UInt8) (q10:Int) (q11:Int) (q12:List aE) (q13:List aE) (q14:List aC)=>([Zbi,Zbq,.live (.box 195 [dU q1,dI q2]),.live (.box 78 [dI q3,dI q4,dI q5,dI q6,dI q7,dS q8,dU q9,dI q10,dI q11,.d (dsl false false (kE false) q12),.d (dsl false false (kE false) q13),.d (dsl false false (kC false) q14)]),(Zbr b)]:List HS)) (by rfl) (by rfl) (by rfl) (by rfl) (by rfl) (by rfl) (by rfl) (by rfl) (by rfl) (by rfl) (by rfl) (by rfl) (by rfl) (by rfl)) hG) ?_
 rintro j hj
 show T _ _ ⟨[slV tb nb kU8 b,aa,pv 0 0,aa,pv 1 0,pv 3 0,pv 4 0,(Zbn b),(Zbu j)],(Zca b j)⟩ _ _
 replace hj:j≤9:=hj
 have hp9:=pow_le9 hj
 have hrl:=X1d ((b.length:Nat):Int) 16777216 (rdR b 0 8 0) (rdE b 0 8 0) (rdI b 0) j
 have hr2:=Uh (Wq ((b.length:Nat):Int) 16777216 (rdR b 0 8 0) (rdE b 0 8 0) (rdI b 0) j).rest (Wq ((b.length:Nat):Int) 16777216 (rdR b 0 8 0) (rdE b 0 8 0) (rdI b 0) j).e 8 0
 have hr3:=X0i (Wq ((b.length:Nat):Int) 16777216 (rdR b 0 8 0) (rdE b 0 8 0) (rdI b 0) j).rest (Wq ((b.length:Nat):Int) 16777216 (rdR b 0 8 0) (rdE b 0 8 0) (rdI b 0) j).e ((b.length:Nat):Int)
 obtain ⟨hf1,hf2,hf3,hf4,hf5⟩:=X8p ((b.length:Nat):Int) 16777216 (rdR b 0 8 0) (rdE b 0 8 0) (rdI b 0) j
 refine T.seq ?_
 by_cases hq2:((2 ^ j:Nat):Int)≤256
 rotate_left
 ·have hj9:j=9:=(by have h9:¬j≤8:=fun q=>hq2 ((pow_le hj).2 q);omega)
  refine sR [hN 3 true (dF hq2),hP 4 (dF hq2)] (cF (b:=false) rfl (T.exit (xT (xT (xH (nT (T.seq (sR [hR 2 rfl rfl (rCa (Xhc (Wq ((b.length:Nat):Int) 16777216 (rdR b 0 8 0) (rdE b 0 8 0) (rdI b 0) j).rest (Wq ((b.length:Nat):Int) 16777216 (rdR b 0 8 0) (rdE b 0 8 0) (rdI b 0) j).e (by omega)) Tryz.func107 [2] [(.tmp 99,pv 2 0)] 1 1)] ?_))))))))
  by_cases hq14:okK (rdI b 0)
  rotate_left
  ·have hd9:=Xa0 (M:=((b.length:Nat):Int)) (N:=16777216) (fun q=>hq14 q.2.1) hbl
   refine sR (Xl (hN · false (cn (dF hq14))) [3,4,5,6] (hP 7 (cn (dF hq14))::(Xl hN0 [9,10,11] (hP1 12::[])))) (cT (b:=true) rfl (sR [] (T.ret (rT ?_))))
   refine eN ⟨(Zd1 tb nb b j),(Zcy b j)⟩ ?_
   refine Xa (s':=⟨(Zd1 tb nb b j),(Zcz b j)⟩) (fun _ _ hG=>W1 (s:=⟨(Zd1 tb nb b j),(Zcy b j)⟩) (kk2 p47) ⟨pZr,(kk4 trivial)⟩ hG) ?_
   exact eX [.c 2 0 78 0 78 [dI 0,dI 0,dI 0,dI 0,dI 0,dS [],Zbj,dI 0,dI 0,Zbk,Zbk,Zbl] (.agg Zbm),.t 3 (Zd0)] ⟨⟨rfl,rfl,by kernel_rfl,by kernel_rfl,.inl ⟨12,Up,rfl,Nat.le_of_ble_eq_true rfl⟩⟩,⟨⟨rfl,by kernel_rfl⟩,trivial⟩⟩ [] pd trivial
  by_cases hq15:(rdX (Wq ((b.length:Nat):Int) 16777216 (rdR b 0 8 0) (rdE b 0 8 0) (rdI b 0) j).rest (Wq ((b.length:Nat):Int) 16777216 (rdR b 0 8 0) (rdE b 0 8 0) (rdI b 0) j).e)≠0
  ·have hF:(Wq ((b.length:Nat):Int) 16777216 (rdR b 0 8 0) (rdE b 0 8 0) (rdI b 0) j)=finM ((b.length:Nat):Int) 16777216 b:=(by rw [hj9];rfl);have hd9:=Xa0 (M:=((b.length:Nat):Int)) (N:=16777216) (fun q=>hq15 (by rw [hF];exact q.2.2.1)) hbl
   refine sR (hY 3 (cn (dT hq14))::(hY 4 (cn (dT hq14))::(hS 5 (oY rfl rfl rfl rfl (X2 rfl) (cn (dT hq14)) (rCa (X94 (Wq ((b.length:Nat):Int) 16777216 (rdR b 0 8 0) (rdE b 0 8 0) (rdI b 0) j).rest (rdX (Wq ((b.length:Nat):Int) 16777216 (rdR b 0 8 0) (rdE b 0 8 0) (rdI b 0) j).rest (Wq ((b.length:Nat):Int) 16777216 (rdR b 0 8 0) (rdE b 0 8 0) (rdI b 0) j).e) ) Tryz.func108 [2] [(.tmp 105,pv 2 0)] 1 1))::(hY 6 (cn (dT hq14))::(hP 7 (cn (dT hq14))::(Xl (hN · false (dT hq15)) [9,10,11] (hP 12 (dT hq15)::[]))))))) (cT (b:=true) rfl (sR [] (T.ret (rT ?_))))
   refine eN ⟨(Zd1 tb nb b j),(Zcy b j)⟩ ?_
   refine Xa (s':=⟨(Zd1 tb nb b j),(Zcz b j)⟩) (fun _ _ hG=>W1 (s:=⟨(Zd1 tb nb b j),(Zcy b j)⟩) (kk2 p47) ⟨pZr,(kk4 trivial)⟩ hG) ?_
   exact eX [.c 2 0 78 0 78 [dI 0,dI 0,dI 0,dI 0,dI 0,dS [],Zbj,dI 0,dI 0,Zbk,Zbk,Zbl] (.agg Zbm),.t 3 (Zd0)] ⟨⟨rfl,rfl,by kernel_rfl,by kernel_rfl,.inl ⟨12,Up,rfl,Nat.le_of_ble_eq_true rfl⟩⟩,⟨⟨rfl,by kernel_rfl⟩,trivial⟩⟩ [] pd trivial
  refine sR [hY 3 (cn (dT hq14)),hY 4 (cn (dT hq14)),hS 5 (oY rfl rfl rfl rfl (X2 rfl) (cn (dT hq14)) (rCa (X94 (Wq ((b.length:Nat):Int) 16777216 (rdR b 0 8 0) (rdE b 0 8 0) (rdI b 0) j).rest (rdX (Wq ((b.length:Nat):Int) 16777216 (rdR b 0 8 0) (rdE b 0 8 0) (rdI b 0) j).rest (Wq ((b.length:Nat):Int) 16777216 (rdR b 0 8 0) (rdE b 0 8 0) (rdI b 0) j).e) ) Tryz.func108 [2] [(.tmp 105,pv 2 0)] 1 1)),hY 6 (cn (dT hq14)),hP 7 (cn (dT hq14)),hY 9 (dF hq15),hS 10 (oY rfl rfl rfl rfl (X2 rfl) (dF hq15) (rCa (Xl0 false (Wq ((b.length:Nat):Int) 16777216 (rdR b 0 8 0) (rdE b 0 8 0) (rdI b 0) j).m (by omega) (by omega) (by omega) (by omega) (by omega)) Tryz.func198 [] [(.tmp 110,.tv (.agg (Zc9 b j)))] 0 0)),hY 11 (dF hq15),hP 12 (dF hq15)] ?_
  by_cases hq16:(chkM (Wq ((b.length:Nat):Int) 16777216 (rdR b 0 8 0) (rdE b 0 8 0) (rdI b 0) j).m)≠0
  ·have hF:(Wq ((b.length:Nat):Int) 16777216 (rdR b 0 8 0) (rdE b 0 8 0) (rdI b 0) j)=finM ((b.length:Nat):Int) 16777216 b:=(by rw [hj9];rfl);have hd9:=Xa0 (M:=((b.length:Nat):Int)) (N:=16777216) (fun q=>hq16 (by rw [hF];exact chk0.2 q.2.2.2)) hbl
   refine cT (dT hq16) (sR [] (T.ret (rT ?_)))
   refine eN ⟨(Zd2 tb nb b j),(Zcy b j)⟩ ?_
   refine Xa (s':=⟨(Zd2 tb nb b j),(Zcz b j)⟩) (fun _ _ hG=>W1 (s:=⟨(Zd2 tb nb b j),(Zcy b j)⟩) (kk2 p47) ⟨pZr,(kk4 trivial)⟩ hG) ?_
   exact eX [.c 2 0 78 0 78 [dI 0,dI 0,dI 0,dI 0,dI 0,dS [],Zbj,dI 0,dI 0,Zbk,Zbk,Zbl] (.agg Zbm),.t 3 (Zd0)] ⟨⟨rfl,rfl,by kernel_rfl,by kernel_rfl,.inl ⟨12,Up,rfl,Nat.le_of_ble_eq_true rfl⟩⟩,⟨⟨rfl,by kernel_rfl⟩,trivial⟩⟩ [] pd trivial
  have hF:(Wq ((b.length:Nat):Int) 16777216 (rdR b 0 8 0) (rdE b 0 8 0) (rdI b 0) j)=finM ((b.length:Nat):Int) 16777216 b:=(by rw [hj9];rfl);have hd9:=Xjp (M:=((b.length:Nat):Int)) (N:=16777216) (b:=b) ⟨by omega,by assumption,by rw [← hF];exact Classical.not_not.1 ‹_›,chk0.1 (by rw [← hF];exact Classical.not_not.1 hq16)⟩;rw [← hF] at hd9
  refine cF (dF hq16) (T.skip (nT (sR [] (T.ret ?_))))
  exact eX [.c 2 0 78 0 78 [(Zbx b j),(Zby b j),(Zbz b j),(Zc0 b j),(Zc1 b j),(Zc2 b j),(Zc3 b j),(Zc4 b j),(Zc5 b j),(Zc6 b j),(Zc7 b j),(Zc8 b j)] (.agg (Zc9 b j)),.t 3 (.one (dI 0))] ⟨⟨rfl,rfl,by kernel_rfl,by kernel_rfl,.inl ⟨12,Up,rfl,Nat.le_of_ble_eq_true rfl⟩⟩,⟨⟨rfl,by kernel_rfl⟩,trivial⟩⟩ [] pd trivial
 have hj8:j≤8:=(pow_le hj).1 hq2
 refine sR [hY 3 (dT hq2),hP 4 (dT hq2)] ?_
 by_cases hq3:okK (rdI b 0)
 rotate_left
 ·have hd9:=Xa0 (M:=((b.length:Nat):Int)) (N:=16777216) (fun q=>hq3 q.2.1) hbl
  refine cF (dF hq3) (T.exit (xT (xT (xH (nT (T.seq (sR [hR 2 rfl rfl (rCa (Xhc (Wq ((b.length:Nat):Int) 16777216 (rdR b 0 8 0) (rdE b 0 8 0) (rdI b 0) j).rest (Wq ((b.length:Nat):Int) 16777216 (rdR b 0 8 0) (rdE b 0 8 0) (rdI b 0) j).e (by omega)) Tryz.func107 [2] [(.tmp 99,pv 2 0)] 1 1)] (sR (Xl (hN · false (cn (dF hq3))) [3,4,5,6] (hP 7 (cn (dF hq3))::(Xl hN0 [9,10,11] (hP1 12::[])))) (cT (b:=true) rfl (sR [] (T.ret (rT ?_))))))))))))
  refine eN ⟨(Zcw tb nb b j),(Zcy b j)⟩ ?_
  refine Xa (s':=⟨(Zcw tb nb b j),(Zcz b j)⟩) (fun _ _ hG=>W1 (s:=⟨(Zcw tb nb b j),(Zcy b j)⟩) (kk2 p47) ⟨pZr,(kk4 trivial)⟩ hG) ?_
  exact eX [.c 2 0 78 0 78 [dI 0,dI 0,dI 0,dI 0,dI 0,dS [],Zbj,dI 0,dI 0,Zbk,Zbk,Zbl] (.agg Zbm),.t 3 (Zd0)] ⟨⟨rfl,rfl,by kernel_rfl,by kernel_rfl,.inl ⟨12,Up,rfl,Nat.le_of_ble_eq_true rfl⟩⟩,⟨⟨rfl,by kernel_rfl⟩,trivial⟩⟩ [] pd trivial
 refine cT (dT hq3) (T.skip (nT (T.seq (T.block (T.seq (sR [hR 3 rfl rfl (Yb (u1:=.int .i64 (Yh (rdI b 0)).Vp) (u2:=.int .i64 ((2 ^ j:Nat):Int)) (v:=.int .i64 (I8 (Yh (rdI b 0)).Vp ((2 ^ j:Nat):Int))) (Xdr rfl) (X2 rfl) trivial)] ?_))))))
 by_cases hq4:(I8 (Yh (rdI b 0)).Vp ((2 ^ j:Nat):Int))=0
 ·have hbt:=(Xjz hj8).1 hq4;have hst:(Wq ((b.length:Nat):Int) 16777216 (rdR b 0 8 0) (rdE b 0 8 0) (rdI b 0) (j+1))=(Wq ((b.length:Nat):Int) 16777216 (rdR b 0 8 0) (rdE b 0 8 0) (rdI b 0) j):=run_no hbt
  refine cT (dT hq4) (T.exit (xT (xH (nT (xK [hR 1 rfl rfl (Yb (u1:=.int .i64 ((2 ^ j:Nat):Int)) (u2:=.int .u64 1) (v:=.int .i64 (((2 ^ j)*2 ^ 1:Nat):Int)) (Ff (n:=1) rfl pn pZ9) (X2 rfl) ⟨rfl,trivial⟩)] ?_)))))
  refine nL (j+1) (show (j+1)≤9 from (by omega)) (show (9-(j+1):Nat)<9-j from (by omega)) (fun _ _ hG=>Yu [0,1,2,3,4] (bm 9 501) (t2:=(Zci tb nb b j)) (h2:=(Zca b j)) pZl pZ5 hG)
 have hbt:Ix (Xk (rdI b 0)) j=true:=Classical.byContradiction fun q=>hq4 ((Xjz hj8).2 q)
 refine cF (dF hq4) (T.skip (nT (sR [] (T.block (sR [] ?_)))))
 by_cases hq5:((2 ^ j:Nat):Int)=1
 ·have hji:j=0:=X0j (i:=0) hj hq5;have hst:(Wq ((b.length:Nat):Int) 16777216 (rdR b 0 8 0) (rdE b 0 8 0) (rdI b 0) (j+1))=Ud ((b.length:Nat):Int) 16777216 (Wq ((b.length:Nat):Int) 16777216 (rdR b 0 8 0) (rdE b 0 8 0) (rdI b 0) j) 0:=F9 hji hbt;simp only [Ud] at hst
  refine cT (dT hq5) (xK [hR 1 rfl rfl (rCa (Ic (Wq ((b.length:Nat):Int) 16777216 (rdR b 0 8 0) (rdE b 0 8 0) (rdI b 0) j).rest (Wq ((b.length:Nat):Int) 16777216 (rdR b 0 8 0) (rdE b 0 8 0) (rdI b 0) j).e (by omega)) Tryz.func194 [2] [(.tmp 40,.tv (.agg [.ptr 2 0]))] 1 1)] (nB (nB (nT (xK [hR 1 rfl rfl (Yb (u1:=.int .i64 ((2 ^ j:Nat):Int)) (u2:=.int .u64 1) (v:=.int .i64 (((2 ^ j)*2 ^ 1:Nat):Int)) (Ff (n:=1) rfl pn pZ9) (X2 rfl) ⟨rfl,trivial⟩)] ?_)))))
  refine nL (j+1) (show (j+1)≤9 from (by omega)) (show (9-(j+1):Nat)<9-j from (by omega)) (fun _ _ hG=>Yu [0,1,2,3,4] (bm 9 501) (t2:=(Zci tb nb b j)) (h2:=[Zbi,Zbv,.live (.box 195 [dU (Zcj b j),dI (Zck b j)]),.live (.box 78 [(Zbx b j),(Zcl b j),(Zbz b j),(Zc0 b j),(Zc1 b j),(Zc2 b j),(Zc3 b j),(Zc4 b j),(Zc5 b j),(Zc6 b j),(Zc7 b j),(Zc8 b j)]),(Zbr b)]) pZl pZ5 hG)
 have hn0:j≠0:=(fun q=>hq5 p49)
 refine cF (dF hq5) (sR [] ?_)
 by_cases hq6:((2 ^ j:Nat):Int)=2
 ·have hji:j=1:=X0j (i:=1) hj hq6;have hst:(Wq ((b.length:Nat):Int) 16777216 (rdR b 0 8 0) (rdE b 0 8 0) (rdI b 0) (j+1))=Ud ((b.length:Nat):Int) 16777216 (Wq ((b.length:Nat):Int) 16777216 (rdR b 0 8 0) (rdE b 0 8 0) (rdI b 0) j) 1:=F9 hji hbt;simp only [Ud] at hst
  refine cT (dT hq6) (xK [hR 1 rfl rfl (rCa (Ic (Wq ((b.length:Nat):Int) 16777216 (rdR b 0 8 0) (rdE b 0 8 0) (rdI b 0) j).rest (Wq ((b.length:Nat):Int) 16777216 (rdR b 0 8 0) (rdE b 0 8 0) (rdI b 0) j).e (by omega)) Tryz.func194 [2] [(.tmp 45,.tv (.agg [.ptr 2 0]))] 1 1)] (nB (nB (nT (xK [hR 1 rfl rfl (Yb (u1:=.int .i64 ((2 ^ j:Nat):Int)) (u2:=.int .u64 1) (v:=.int .i64 (((2 ^ j)*2 ^ 1:Nat):Int)) (Ff (n:=1) rfl pn pZ9) (X2 rfl) ⟨rfl,trivial⟩)] ?_)))))
  refine nL (j+1) (show (j+1)≤9 from (by omega)) (show (9-(j+1):Nat)<9-j from (by omega)) (fun _ _ hG=>Yu [0,1,2,3,4] (bm 9 501) (t2:=(Zci tb nb b j)) (h2:=[Zbi,Zbv,.live (.box 195 [dU (Zcj b j),dI (Zck b j)]),.live (.box 78 [(Zbx b j),(Zby b j),(Zcl b j),(Zc0 b j),(Zc1 b j),(Zc2 b j),(Zc3 b j),(Zc4 b j),(Zc5 b j),(Zc6 b j),(Zc7 b j),(Zc8 b j)]),(Zbr b)]) pZl pZ5 hG)
 have hn1:j≠1:=(fun q=>hq6 p49)
 refine cF (dF hq6) (sR [] ?_)
 by_cases hq7:((2 ^ j:Nat):Int)=4
 ·have hji:j=2:=X0j (i:=2) hj hq7;have hst:(Wq ((b.length:Nat):Int) 16777216 (rdR b 0 8 0) (rdE b 0 8 0) (rdI b 0) (j+1))=Ud ((b.length:Nat):Int) 16777216 (Wq ((b.length:Nat):Int) 16777216 (rdR b 0 8 0) (rdE b 0 8 0) (rdI b 0) j) 2:=F9 hji hbt;simp only [Ud] at hst
  refine cT (dT hq7) (sR [hR 1 rfl rfl (rCa (Ic (Wq ((b.length:Nat):Int) 16777216 (rdR b 0 8 0) (rdE b 0 8 0) (rdI b 0) j).rest (Wq ((b.length:Nat):Int) 16777216 (rdR b 0 8 0) (rdE b 0 8 0) (rdI b 0) j).e (by omega)) Tryz.func194 [2] [(.tmp 50,.tv (.agg [.ptr 2 0]))] 1 1)] (xK [hR 1 rfl rfl (rCa (Ic (rdR (Wq ((b.length:Nat):Int) 16777216 (rdR b 0 8 0) (rdE b 0 8 0) (rdI b 0) j).rest (Wq ((b.length:Nat):Int) 16777216 (rdR b 0 8 0) (rdE b 0 8 0) (rdI b 0) j).e 8 0) (rdE (Wq ((b.length:Nat):Int) 16777216 (rdR b 0 8 0) (rdE b 0 8 0) (rdI b 0) j).rest (Wq ((b.length:Nat):Int) 16777216 (rdR b 0 8 0) (rdE b 0 8 0) (rdI b 0) j).e 8 0) (by omega)) Tryz.func194 [2] [(.tmp 53,.tv (.agg [.ptr 2 0]))] 1 1)] (nB (nB (nT ?_)))))
  refine xK [hR 1 rfl rfl (Yb (u1:=.int .i64 ((2 ^ j:Nat):Int)) (u2:=.int .u64 1) (v:=.int .i64 (((2 ^ j)*2 ^ 1:Nat):Int)) (Ff (n:=1) rfl pn pZ9) (X2 rfl) ⟨rfl,trivial⟩)] ?_
  refine nL (j+1) (show (j+1)≤9 from (by omega)) (show (9-(j+1):Nat)<9-j from (by omega)) (fun _ _ hG=>Yu [0,1,2,3,4] (bm 9 501) (t2:=(Zci tb nb b j)) (h2:=[Zbi,Zbv,(Zcm b j),.live (.box 78 [(Zbx b j),(Zby b j),(Zbz b j),(Zcl b j),dI (rdI (Zcj b j) (Zck b j)),(Zc2 b j),(Zc3 b j),(Zc4 b j),(Zc5 b j),(Zc6 b j),(Zc7 b j),(Zc8 b j)]),(Zbr b)]) pZl pZ5 hG)
 have hn2:j≠2:=(fun q=>hq7 p49)
 refine cF (dF hq7) (sR [] ?_)
 by_cases hq8:((2 ^ j:Nat):Int)=8
 ·have hji:j=3:=X0j (i:=3) hj hq8;have hst:(Wq ((b.length:Nat):Int) 16777216 (rdR b 0 8 0) (rdE b 0 8 0) (rdI b 0) (j+1))=Ud ((b.length:Nat):Int) 16777216 (Wq ((b.length:Nat):Int) 16777216 (rdR b 0 8 0) (rdE b 0 8 0) (rdI b 0) j) 3:=F9 hji hbt;simp only [Ud] at hst
  refine cT (dT hq8) ?_
  refine xR [hR 4 rfl rfl (rCa (X1l (Wq ((b.length:Nat):Int) 16777216 (rdR b 0 8 0) (rdE b 0 8 0) (rdI b 0) j).rest (Wq ((b.length:Nat):Int) 16777216 (rdR b 0 8 0) (rdE b 0 8 0) (rdI b 0) j).e ((b.length:Nat):Int) (by omega)) Tryz.func106 [2,5] [(.tmp 59,pv 2 0),(.tmp 61,vI ((b.length:Nat):Int))] 1 2),hR 5 rfl rfl (Fj () (rdY (Wq ((b.length:Nat):Int) 16777216 (rdR b 0 8 0) (rdE b 0 8 0) (rdI b 0) j).rest (Wq ((b.length:Nat):Int) 16777216 (rdR b 0 8 0) (rdE b 0 8 0) (rdI b 0) j).e ((b.length:Nat):Int)) (ys:=(.own 5 kU8.sz 0 (Zcn b j).length)) (rhs:=[(5,.live (Xc 5 kU8 (Zcn b j)))]) Tryz.underlying25 Tryz.underlying5 Tryz.underlying60 (V0 5 5 kU8 (rdY (Wq ((b.length:Nat):Int) 16777216 (rdR b 0 8 0) (rdE b 0 8 0) (rdI b 0) j).rest (Wq ((b.length:Nat):Int) 16777216 (rdR b 0 8 0) (rdE b 0 8 0) (rdI b 0) j).e ((b.length:Nat):Int))) (X2 rfl) trivial)] pZ4 pZ4 ?_
  refine nB (nB (nT ?_))
  refine tN ⟨(Zco tb nb b j),[Zbi,Zbv,(Zcp b j),(Zcq b j),(Zbr b),.live (Xc 5 kU8 (Zcn b j))]⟩ ?_
  refine Wy (s':=⟨(Zco tb nb b j),[Zbi,Zbv,(Zcp b j),(Zcq b j),(Zbr b),.dead]⟩) (fun _ _ hG=>Gs.freeze (s:=⟨(Zco tb nb b j),[Zbi,Zbv,(Zcp b j),(Zcq b j),(Zbr b),.live (Xc 5 kU8 (Zcn b j))]⟩) 5 (el:=W5 kU8 (rdY (Wq ((b.length:Nat):Int) 16777216 (rdR b 0 8 0) (rdE b 0 8 0) (rdI b 0) j).rest (Wq ((b.length:Nat):Int) 16777216 (rdR b 0 8 0) (rdE b 0 8 0) (rdI b 0) j).e ((b.length:Nat):Int))) (sz:=kU8.sz) (n:=(rdY (Wq ((b.length:Nat):Int) 16777216 (rdR b 0 8 0) (rdE b 0 8 0) (rdI b 0) j).rest (Wq ((b.length:Nat):Int) 16777216 (rdR b 0 8 0) (rdE b 0 8 0) (rdI b 0) j).e ((b.length:Nat):Int)).length) rfl ⟨.inl rfl,(kk8 p3c)⟩ ⟨pZ7,⟨pZ7,⟨pZ7,⟨pZ7,⟨pZ7,⟨(.inl ⟨rfl,rfl⟩),trivial⟩⟩⟩⟩⟩⟩ hG) ?_
  refine xK [hR 1 rfl rfl (Yb (u1:=.int .i64 ((2 ^ j:Nat):Int)) (u2:=.int .u64 1) (v:=.int .i64 (((2 ^ j)*2 ^ 1:Nat):Int)) (Ff (n:=1) rfl pn pZ9) (X2 rfl) ⟨rfl,trivial⟩)] ?_
  refine nL (j+1) (show (j+1)≤9 from (by omega)) (show (9-(j+1):Nat)<9-j from (by omega)) (fun _ _ hG=>Yu [0,1,2,3,4] (bm 9 501) (t2:=(Zci tb nb b j)) (h2:=[Zbi,Zbv,(Zcp b j),(Zcq b j),(Zbr b)]) pZl pZ5 hG)
 have hn3:j≠3:=(fun q=>hq8 p49)
 refine cF (dF hq8) (sR [] ?_)
 by_cases hq9:((2 ^ j:Nat):Int)=16
 ·have hji:j=4:=X0j (i:=4) hj hq9;have hst:(Wq ((b.length:Nat):Int) 16777216 (rdR b 0 8 0) (rdE b 0 8 0) (rdI b 0) (j+1))=Ud ((b.length:Nat):Int) 16777216 (Wq ((b.length:Nat):Int) 16777216 (rdR b 0 8 0) (rdE b 0 8 0) (rdI b 0) j) 4:=F9 hji hbt;simp only [Ud] at hst
  refine cT (dT hq9) (xK [hR 4 rfl rfl (rCa (X1l (Wq ((b.length:Nat):Int) 16777216 (rdR b 0 8 0) (rdE b 0 8 0) (rdI b 0) j).rest (Wq ((b.length:Nat):Int) 16777216 (rdR b 0 8 0) (rdE b 0 8 0) (rdI b 0) j).e ((b.length:Nat):Int) (by omega)) Tryz.func106 [2,5] [(.tmp 68,pv 2 0),(.tmp 70,vI ((b.length:Nat):Int))] 1 2)] (nB (nB (nT ?_))))
  refine tN ⟨(Zcr tb nb b j),(Zcs b j)⟩ ?_
  refine Wy (s':=⟨(Zcr tb nb b j),[Zbi,Zbv,(Zcp b j),(Zct b j),(Zbr b),.dead]⟩) (fun _ _ hG=>Gs.freeze (s:=⟨(Zcr tb nb b j),(Zcs b j)⟩) 5 (el:=W5 kU8 (rdY (Wq ((b.length:Nat):Int) 16777216 (rdR b 0 8 0) (rdE b 0 8 0) (rdI b 0) j).rest (Wq ((b.length:Nat):Int) 16777216 (rdR b 0 8 0) (rdE b 0 8 0) (rdI b 0) j).e ((b.length:Nat):Int))) (sz:=kU8.sz) (n:=(rdY (Wq ((b.length:Nat):Int) 16777216 (rdR b 0 8 0) (rdE b 0 8 0) (rdI b 0) j).rest (Wq ((b.length:Nat):Int) 16777216 (rdR b 0 8 0) (rdE b 0 8 0) (rdI b 0) j).e ((b.length:Nat):Int)).length) rfl (kk2 pZ25) ⟨pZ7,⟨pZ7,⟨pZ7,⟨(.inr ⟨by decide,.inr ⟨rfl,(kk2 (kk4 ⟨pZ0,⟨.inl rfl,(kk4 trivial)⟩⟩))⟩⟩),⟨pZ7,⟨(.inl ⟨rfl,rfl⟩),trivial⟩⟩⟩⟩⟩⟩ hG) ?_
  refine xK [hR 1 rfl rfl (Yb (u1:=.int .i64 ((2 ^ j:Nat):Int)) (u2:=.int .u64 1) (v:=.int .i64 (((2 ^ j)*2 ^ 1:Nat):Int)) (Ff (n:=1) rfl pn pZ9) (X2 rfl) ⟨rfl,trivial⟩)] ?_
  refine nL (j+1) (show (j+1)≤9 from (by omega)) (show (9-(j+1):Nat)<9-j from (by omega)) (fun _ _ hG=>Yu [0,1,2,3,4] (bm 9 501) (t2:=(Zci tb nb b j)) (h2:=[Zbi,Zbv,(Zcp b j),(Zct b j),(Zbr b)]) pZl pZ5 hG)
 have hn4:j≠4:=(fun q=>hq9 p49)
 refine cF (dF hq9) (sR [] ?_)
 by_cases hq10:((2 ^ j:Nat):Int)=32
 ·have hji:j=5:=X0j (i:=5) hj hq10;have hst:(Wq ((b.length:Nat):Int) 16777216 (rdR b 0 8 0) (rdE b 0 8 0) (rdI b 0) (j+1))=Ud ((b.length:Nat):Int) 16777216 (Wq ((b.length:Nat):Int) 16777216 (rdR b 0 8 0) (rdE b 0 8 0) (rdI b 0) j) 5:=F9 hji hbt;simp only [Ud] at hst
  refine cT (dT hq10) (sR [hR 1 rfl rfl (rCa (Ic (Wq ((b.length:Nat):Int) 16777216 (rdR b 0 8 0) (rdE b 0 8 0) (rdI b 0) j).rest (Wq ((b.length:Nat):Int) 16777216 (rdR b 0 8 0) (rdE b 0 8 0) (rdI b 0) j).e (by omega)) Tryz.func194 [2] [(.tmp 75,.tv (.agg [.ptr 2 0]))] 1 1)] (xK [hR 1 rfl rfl (rCa (Ic (rdR (Wq ((b.length:Nat):Int) 16777216 (rdR b 0 8 0) (rdE b 0 8 0) (rdI b 0) j).rest (Wq ((b.length:Nat):Int) 16777216 (rdR b 0 8 0) (rdE b 0 8 0) (rdI b 0) j).e 8 0) (rdE (Wq ((b.length:Nat):Int) 16777216 (rdR b 0 8 0) (rdE b 0 8 0) (rdI b 0) j).rest (Wq ((b.length:Nat):Int) 16777216 (rdR b 0 8 0) (rdE b 0 8 0) (rdI b 0) j).e 8 0) (by omega)) Tryz.func194 [2] [(.tmp 79,.tv (.agg [.ptr 2 0]))] 1 1)] (nB (nB (nT ?_)))))
  refine xK [hR 1 rfl rfl (Yb (u1:=.int .i64 ((2 ^ j:Nat):Int)) (u2:=.int .u64 1) (v:=.int .i64 (((2 ^ j)*2 ^ 1:Nat):Int)) (Ff (n:=1) rfl pn pZ9) (X2 rfl) ⟨rfl,trivial⟩)] ?_
  refine nL (j+1) (show (j+1)≤9 from (by omega)) (show (9-(j+1):Nat)<9-j from (by omega)) (fun _ _ hG=>Yu [0,1,2,3,4] (bm 9 501) (t2:=(Zci tb nb b j)) (h2:=[Zbi,Zbv,(Zcm b j),.live (.box 78 [(Zbx b j),(Zby b j),(Zbz b j),(Zc0 b j),(Zc1 b j),(Zc2 b j),(Zc3 b j),(Zcl b j),dI (rdI (Zcj b j) (Zck b j)),(Zc6 b j),(Zc7 b j),(Zc8 b j)]),(Zbr b)]) pZl pZ5 hG)
 have hn5:j≠5:=(fun q=>hq10 p49)
 refine cF (dF hq10) (sR [] ?_)
 by_cases hq11:((2 ^ j:Nat):Int)=64
 ·have hji:j=6:=X0j (i:=6) hj hq11;have hst:(Wq ((b.length:Nat):Int) 16777216 (rdR b 0 8 0) (rdE b 0 8 0) (rdI b 0) (j+1))=Ud ((b.length:Nat):Int) 16777216 (Wq ((b.length:Nat):Int) 16777216 (rdR b 0 8 0) (rdE b 0 8 0) (rdI b 0) j) 6:=F9 hji hbt;simp only [Ud] at hst
  refine cT (dT hq11) (xK [hR 1 rfl rfl (rCa (X8f (Wq ((b.length:Nat):Int) 16777216 (rdR b 0 8 0) (rdE b 0 8 0) (rdI b 0) j).rest (Wq ((b.length:Nat):Int) 16777216 (rdR b 0 8 0) (rdE b 0 8 0) (rdI b 0) j).e (by omega)) Tryz.func196 [2] [(.tmp 85,.tv (.agg [.ptr 2 0]))] 1 1)] (nB (nB (nT (xK [hR 1 rfl rfl (Yb (u1:=.int .i64 ((2 ^ j:Nat):Int)) (u2:=.int .u64 1) (v:=.int .i64 (((2 ^ j)*2 ^ 1:Nat):Int)) (Ff (n:=1) rfl pn pZ9) (X2 rfl) ⟨rfl,trivial⟩)] ?_)))))
  refine nL (j+1) (show (j+1)≤9 from (by omega)) (show (9-(j+1):Nat)<9-j from (by omega)) (fun _ _ hG=>Yu [0,1,2,3,4] (bm 9 501) (t2:=(Zci tb nb b j)) (h2:=[Zbi,Zbv,.live (.box 195 [dU (Zcu b j).rest,dI (Zcu b j).e]),.live (.box 78 [(Zbx b j),(Zby b j),(Zbz b j),(Zc0 b j),(Zc1 b j),(Zc2 b j),(Zc3 b j),(Zc4 b j),(Zc5 b j),.d (dsl false false (kE false) (Zcu b j).l),(Zc7 b j),(Zc8 b j)]),(Zbr b)]) pZl pZ5 hG)
 have hn6:j≠6:=(fun q=>hq11 p49)
 refine cF (dF hq11) (sR [] ?_)
 by_cases hq12:((2 ^ j:Nat):Int)=128
 ·have hji:j=7:=X0j (i:=7) hj hq12;have hst:(Wq ((b.length:Nat):Int) 16777216 (rdR b 0 8 0) (rdE b 0 8 0) (rdI b 0) (j+1))=Ud ((b.length:Nat):Int) 16777216 (Wq ((b.length:Nat):Int) 16777216 (rdR b 0 8 0) (rdE b 0 8 0) (rdI b 0) j) 7:=F9 hji hbt;simp only [Ud] at hst
  refine cT (dT hq12) (xK [hR 1 rfl rfl (rCa (X8f (Wq ((b.length:Nat):Int) 16777216 (rdR b 0 8 0) (rdE b 0 8 0) (rdI b 0) j).rest (Wq ((b.length:Nat):Int) 16777216 (rdR b 0 8 0) (rdE b 0 8 0) (rdI b 0) j).e (by omega)) Tryz.func196 [2] [(.tmp 90,.tv (.agg [.ptr 2 0]))] 1 1)] (nB (nB (nT (xK [hR 1 rfl rfl (Yb (u1:=.int .i64 ((2 ^ j:Nat):Int)) (u2:=.int .u64 1) (v:=.int .i64 (((2 ^ j)*2 ^ 1:Nat):Int)) (Ff (n:=1) rfl pn pZ9) (X2 rfl) ⟨rfl,trivial⟩)] ?_)))))
  refine nL (j+1) (show (j+1)≤9 from (by omega)) (show (9-(j+1):Nat)<9-j from (by omega)) (fun _ _ hG=>Yu [0,1,2,3,4] (bm 9 501) (t2:=(Zci tb nb b j)) (h2:=[Zbi,Zbv,.live (.box 195 [dU (Zcu b j).rest,dI (Zcu b j).e]),.live (.box 78 [(Zbx b j),(Zby b j),(Zbz b j),(Zc0 b j),(Zc1 b j),(Zc2 b j),(Zc3 b j),(Zc4 b j),(Zc5 b j),(Zc6 b j),.d (dsl false false (kE false) (Zcu b j).l),(Zc8 b j)]),(Zbr b)]) pZl pZ5 hG)
 have hn7:j≠7:=(fun q=>hq12 p49)
 refine cF (dF hq12) (sR [] ?_)
 by_cases hq13:((2 ^ j:Nat):Int)=256
 ·have hji:j=8:=X0j (i:=8) hj hq13;have hst:(Wq ((b.length:Nat):Int) 16777216 (rdR b 0 8 0) (rdE b 0 8 0) (rdI b 0) (j+1))=Ud ((b.length:Nat):Int) 16777216 (Wq ((b.length:Nat):Int) 16777216 (rdR b 0 8 0) (rdE b 0 8 0) (rdI b 0) j) 8:=F9 hji hbt;simp only [Ud] at hst
  refine cT (dT hq13) (xK [hR 1 rfl rfl (rCa (Xk9 (Wq ((b.length:Nat):Int) 16777216 (rdR b 0 8 0) (rdE b 0 8 0) (rdI b 0) j).rest (Wq ((b.length:Nat):Int) 16777216 (rdR b 0 8 0) (rdE b 0 8 0) (rdI b 0) j).e (by omega)) Tryz.func197 [2] [(.tmp 95,.tv (.agg [.ptr 2 0]))] 1 1)] (nB (nB (nT (xK [hR 1 rfl rfl (Yb (u1:=.int .i64 ((2 ^ j:Nat):Int)) (u2:=.int .u64 1) (v:=.int .i64 (((2 ^ j)*2 ^ 1:Nat):Int)) (Ff (n:=1) rfl pn pZ9) (X2 rfl) ⟨rfl,trivial⟩)] ?_)))))
  refine nL (j+1) (show (j+1)≤9 from (by omega)) (show (9-(j+1):Nat)<9-j from (by omega)) (fun _ _ hG=>Yu [0,1,2,3,4] (bm 9 501) (t2:=(Zci tb nb b j)) (h2:=[Zbi,Zbv,.live (.box 195 [dU (Zcv b j).rest,dI (Zcv b j).e]),.live (.box 78 [(Zbx b j),(Zby b j),(Zbz b j),(Zc0 b j),(Zc1 b j),(Zc2 b j),(Zc3 b j),(Zc4 b j),(Zc5 b j),(Zc6 b j),(Zc7 b j),.d (dsl false false (kC false) (Zcv b j).l)]),(Zbr b)]) pZl pZ5 hG)
 exact absurd (show j=8 by omega) (fun q=>hq13 p49)
section
variable (B:List UInt8) (r:List UInt8) (e:Int) (k:Nat)
end
section
variable (B:List UInt8) (r:List UInt8) (e:Int) (k:Int) (h:aH) (k2:Nat)
end
section
variable (b:List UInt8)
end
end Go.Proofs.YtnaopgohccacmaaGreat.Q
namespace Go.Proofs.YtnaopgohccacmaaGreat.Q
set_option linter.unusedVariables false
set_option linter.unusedSimpArgs false
set_option maxRecDepth 100000
def okEv (N:Int) (e:aE):Prop:=Wm e.f_Signer∧e.Xh.length≤4294967295∧((e.Xh.length:Nat):Int)≤N
theorem Xjm {N:Int} {e:aE} (h:okEv N e) (r:List UInt8):evV N (Ja e++r) 0=e∧evR N (Ja e++r) 0=r∧evE N (Ja e++r) 0=0:=by
  obtain ⟨h1,h2,h3⟩:=h
  obtain ⟨a1,a2,a3⟩:=I5 h1 (Yo e.Xh++r)
  obtain ⟨b1,b2,b3⟩:=Hb h2 r h3
  unfold evV evR evE Ja
  rw [List.append_assoc,a1,a2,a3,b1,b2,b3]
  exact ⟨rfl,rfl,rfl⟩
theorem X68 {n:Nat} (h:n≤15):Fe ((n:Nat):Int)=n:=by unfold Fe;omega
theorem Xbe {N:Int} {l:List aE} (hl:l.length≤15) (h:∀ e,e∈l→okEv N e) (r:List UInt8):∀ k,k≤l.length→Id N (V5 l++r) 0 k=⟨It (l.drop k)++r,0,l.take k⟩
  | 0,_=>by
    obtain ⟨a1,a2,a3⟩:=X0c (most:=15) ((l.length:Nat):Int) (It l++r) (by rw [X68 hl];omega)
    unfold Id V5
    rw [List.append_assoc,a2,a3]
    rfl
  | k+1,hk=>by
    rw [Id,Xbe hl h r k (by omega)]
    have e0:l.drop k=l.getD k zE::l.drop (k+1):=by rw [List.drop_eq_getElem_cons (by omega),List.getD_eq_getElem?_getD,List.getElem?_eq_getElem (by omega)];rfl
    have e1:It (l.drop k)++r=Ja (l.getD k zE)++(It (l.drop (k+1))++r):=by rw [e0,show It (l.getD k zE::l.drop (k+1))=Ja (l.getD k zE)++It (l.drop (k+1)) from rfl,List.append_assoc]
    obtain ⟨b1,b2,b3⟩:=Xjm (h _ (Vc (z:=zE) (by omega:k<l.length))) (It (l.drop (k+1))++r)
    unfold stepL
    simp only [e1,b1,b2,b3]
    rw [← Uf (z:=zE) (by omega)]
theorem X65 {N:Int} {l:List aE} (hl:l.length≤15) (h:∀ e,e∈l→okEv N e) (r:List UInt8):Hu N (V5 l++r) 0=⟨r,0,l⟩:=by
  obtain ⟨a1,a2,a3⟩:=X0c (most:=15) ((l.length:Nat):Int) (It l++r) (by rw [X68 hl];omega)
  have e:rdC (V5 l++r) 0 15=l.length:=by unfold V5;rw [List.append_assoc,a1,X68 hl]
  unfold Hu
  rw [e,Xbe hl h r l.length (Nat.le_refl _),List.drop_of_length_le (Nat.le_refl _),List.take_of_length_le (Nat.le_refl _)]
  rfl
def okCt (N:Int) (c:aC):Prop:=okEv N c.Uu∧c.Xi.length≤15∧∀ e,e∈c.Xi→okEv N e
theorem Xbf {N:Int} {l:List aC} (hl:l.length≤8) (h:∀ c,c∈l→okCt N c) (r:List UInt8):∀ k,k≤l.length→U3 N (H4 l++r) 0 k=⟨Fh (l.drop k)++r,0,l.take k⟩
  | 0,_=>by
    obtain ⟨a1,a2,a3⟩:=X0c (most:=8) ((l.length:Nat):Int) (Fh l++r) (by rw [X68 (by omega)];omega)
    unfold U3 H4
    rw [List.append_assoc,a2,a3]
    rfl
  | k+1,hk=>by
    rw [U3,Xbf hl h r k (by omega)]
    have e0:l.drop k=l.getD k zC::l.drop (k+1):=by rw [List.drop_eq_getElem_cons (by omega),List.getD_eq_getElem?_getD,List.getElem?_eq_getElem (by omega)];rfl
    have e1:Fh (l.drop k)++r=Ja (l.getD k zC).Uu++(V5 (l.getD k zC).Xi++(Fh (l.drop (k+1))++r)):=by rw [e0,show Fh (l.getD k zC::l.drop (k+1))=(Ja (l.getD k zC).Uu++V5 (l.getD k zC).Xi)++Fh (l.drop (k+1)) from rfl,List.append_assoc,List.append_assoc]
    obtain ⟨h1,h2,h3⟩:=h _ (Vc (z:=zC) (by omega:k<l.length))
    obtain ⟨b1,b2,b3⟩:=Xjm h1 (V5 (l.getD k zC).Xi++(Fh (l.drop (k+1))++r))
    have c1:=X65 h2 h3 (Fh (l.drop (k+1))++r)
    unfold stepC
    simp only [e1,b1,b2,b3,c1]
    rw [← show l.take (k+1)=l.take k++[⟨(l.getD k zC).Uu,(l.getD k zC).Xi⟩] from Uf (z:=zC) (by omega)]
theorem Xl5 {N:Int} {l:List aC} (hl:l.length≤8) (h:∀ c,c∈l→okCt N c) (r:List UInt8):X36 N (H4 l++r) 0=⟨r,0,l⟩:=by
  obtain ⟨a1,a2,a3⟩:=X0c (most:=8) ((l.length:Nat):Int) (Fh l++r) (by rw [X68 (by omega)];omega)
  have e:rdC (H4 l++r) 0 8=l.length:=by unfold H4;rw [List.append_assoc,a1,X68 (by omega)]
  unfold X36
  rw [e,Xbf hl h r l.length (Nat.le_refl _),List.drop_of_length_le (Nat.le_refl _),List.take_of_length_le (Nat.le_refl _)]
  rfl
structure rngM (M N:Int) (m:aM):Prop where
  vw:Wm m.Y9
  sq:Wm m.Xu
  cl:Wm m.Xr
  st:Wm m.W0
  co:Wm m.X3.Y0
  sg:Wm m.X3.Xq
  dg:m.Xe.length≤4294967295∧((m.Xe.length:Nat):Int)≤M
  da:m.Xd.length≤4294967295∧((m.Xd.length:Nat):Int)≤M
  ba:m.Xt.length≤15∧∀ e,e∈m.Xt→okEv N e
  pr:m.Y8.length≤15∧∀ e,e∈m.Y8→okEv N e
  ce:m.X5.length≤8∧∀ c,c∈m.X5→okCt N c
def X4h (m:aM) (j:Nat):aM:=⟨m.X0,if 0<j then m.Y9 else 0,if 1<j then m.Xu else 0,if 2<j then m.Xr else 0,if 2<j then m.W0 else 0,if 3<j then m.Xe else [],if 4<j then m.Xd else [],if 5<j then m.X3 else ⟨0,0⟩,if 6<j then m.Xt else [],if 7<j then m.Y8 else [],if 8<j then m.X5 else []⟩
theorem Xk5 {M N:Int} {m:aM} (h:rngM M N m) (r:List UInt8) {j:Nat} (hj:j≤8):Ud M N ⟨Jv m j++r,0,X4h m j⟩ j=⟨r,0,X4h m (j+1)⟩:=by
  rcases (by omega:j=0∨j=1∨j=2∨j=3∨j=4∨j=5∨j=6∨j=7∨j=8) with q|q|q|q|q|q|q|q|q<;>subst q
  · obtain ⟨a1,a2,a3⟩:=I5 h.vw r
    simp only [Ud,Jv,a1,a2,a3];rfl
  · obtain ⟨a1,a2,a3⟩:=I5 h.sq r
    simp only [Ud,Jv,a1,a2,a3];rfl
  · obtain ⟨a1,a2,a3⟩:=I5 h.cl (Yp m.W0++r)
    obtain ⟨b1,b2,b3⟩:=I5 h.st r
    simp only [Ud,Jv,List.append_assoc,a1,a2,a3,b1,b2,b3];rfl
  · obtain ⟨a1,a2,a3⟩:=Hb h.dg.1 r h.dg.2
    simp only [Ud,Jv,a1,a2,a3];rfl
  · obtain ⟨a1,a2,a3⟩:=Hb h.da.1 r h.da.2
    simp only [Ud,Jv,a1,a2,a3];rfl
  · obtain ⟨a1,a2,a3⟩:=I5 h.co (Yp m.X3.Xq++r)
    obtain ⟨b1,b2,b3⟩:=I5 h.sg r
    simp only [Ud,Jv,List.append_assoc,a1,a2,a3,b1,b2,b3];rfl
  · have a:=X65 h.ba.1 h.ba.2 r
    simp only [Ud,Jv,a];rfl
  · have a:=X65 h.pr.1 h.pr.2 r
    simp only [Ud,Jv,a];rfl
  · have a:=Xl5 h.ce.1 h.ce.2 r
    simp only [Ud,Jv,a];rfl
def X8d (m:aM):Nat→List UInt8
  | 0=>[]
  | d+1=>(if Ix (Xk m.X0) (8-d)=true then Jv m (8-d) else [])++X8d m d
theorem Xcc (m:aM):∀ d,d≤9→Y4 m (9-d)++X8d m d=Y4 m 9
  | 0,_=>List.append_nil _
  | d+1,hd=>by
    have h:=Xcc m d (by omega)
    rw [show 9-d=(8-d)+1 by omega,Y4] at h
    rw [show 9-(d+1)=8-d by omega,X8d,← List.append_assoc,h]
theorem num_0 {n lo:Int} {b:Bool} (h:Fu n b lo) (hb:¬b=true):n=0:=by unfold Fu at h;rwa [if_neg hb] at h
theorem suf_at (m:aM) {j:Nat} (hj:j≤8):X8d m (9-j)=(if Ix (Xk m.X0) j=true then Jv m j else [])++X8d m (8-j):=by
  obtain ⟨d,hd⟩:∃ d,8-j=d:=⟨_,rfl⟩
  rw [show 9-j=d+1 by omega,X8d,show 8-d=j by omega,hd]
theorem sel_skip {m:aM} (h:Fg m) {j:Nat} (hj:j≤8) (hb:¬Ix (Xk m.X0) j=true):X4h m (j+1)=X4h m j:=by
  obtain ⟨a1,a2,a3,a4,a5,a6,a7,a8,a9,b1,b2,b3,b4,b5,b6⟩:=(Wx m).1 h
  obtain ⟨_,_,l3,l4⟩:=lo_is m.X0
  rcases (by omega:j=0∨j=1∨j=2∨j=3∨j=4∨j=5∨j=6∨j=7∨j=8) with q|q|q|q|q|q|q|q|q<;>subst q
  · have e:m.Y9=0:=num_0 a2 hb
    unfold X4h;rw [e];rfl
  · have e:m.Xu=0:=num_0 a3 hb
    unfold X4h;rw [e];rfl
  · have e:m.Xr=0:=num_0 a4 hb
    have e':m.W0=0:=num_0 a5 hb
    unfold X4h;rw [e,e'];rfl
  · have e:m.Xe=[]:=Classical.byContradiction fun q=>a7 ⟨hb,q⟩
    unfold X4h;rw [e];rfl
  · have e:m.Xd=[]:=List.eq_nil_of_length_eq_zero (by have:=mt (fun q=>(⟨hb,q⟩:¬(Xk m.X0).Xd=true∧_)) a8;omega)
    unfold X4h;rw [e];rfl
  · have e:m.X3=Ya:=Classical.byContradiction fun q=>a9 ⟨hb,q⟩
    unfold X4h;rw [e];rfl
  · have e:m.Xt=[]:=List.eq_nil_of_length_eq_zero (by rw [l4 hb] at b1;omega)
    unfold X4h;rw [e];rfl
  · have e:m.Y8=[]:=List.eq_nil_of_length_eq_zero (by have:maxP (Xk m.X0)=0:=if_neg hb;rw [this] at b2;omega)
    unfold X4h;rw [e];rfl
  · have e:m.X5=[]:=List.eq_nil_of_length_eq_zero (by have:=mt (fun q=>(⟨hb,q⟩:¬(Xk m.X0).X5=true∧_)) b4;omega)
    unfold X4h;rw [e];rfl
theorem Xed {M N:Int} {m:aM} (h:rngM M N m) (hw:Fg m):∀ j,j≤9→Wq M N (X8d m 9) 0 m.X0 j=⟨X8d m (9-j),0,X4h m j⟩
  | 0,_=>rfl
  | j+1,hj=>by
    have ih:=Xed h hw j (by omega)
    rw [suf_at m (by omega)] at ih
    rw [show 9-(j+1)=8-j by omega]
    by_cases hb:Ix (Xk m.X0) j=true
    · rw [F9 rfl hb,ih,if_pos hb,Xk5 h _ (by omega)]
    · rw [run_no hb,ih,if_neg hb,List.nil_append,sel_skip hw (by omega) hb]
theorem fin_back {M N:Int} {m:aM} (h:rngM M N m) (hw:Fg m):finM M N (Y4 m 9)=⟨[],0,m⟩:=by
  have hk:Wm m.X0:=by have:=hw.1;unfold okK at this;unfold Wm;omega
  have e:=Xcc m 9 (Nat.le_refl _)
  have e:Yp m.X0++X8d m 9=Y4 m 9:=e
  obtain ⟨a1,a2,a3⟩:=I5 hk (X8d m 9)
  unfold finM
  rw [← e,a1,a2,a3,Xed h hw 9 (Nat.le_refl _)]
  cases m;rfl
theorem dec_back {m:aM} (hw:Fg m) (hl:(Y4 m 9).length≤16777216) (h:rngM (((Y4 m 9).length:Nat):Int) 16777216 m):Vr (Jm m)=m∧X75 (Jm m)=0:=by
  have hk:Wm m.X0:=by have:=hw.1;unfold okK at this;unfold Wm;omega
  have e:=fin_back h hw
  have hi:rdI (Y4 m 9) 0=m.X0:=by
    have e:=Xcc m 9 (Nat.le_refl _)
    have e:Yp m.X0++X8d m 9=Y4 m 9:=e
    rw [← e];exact (I5 hk _).1
  have ho:okD (((Y4 m 9).length:Nat):Int) 16777216 (Y4 m 9):=⟨hl,by rw [hi];exact hw.1,by rw [e];rfl,by rw [e];exact hw⟩
  have eb:Jm m=Y4 m 9:=if_pos hw
  rw [eb]
  obtain ⟨d1,d2⟩:=Xjp ho
  exact ⟨d1.trans (by rw [e]),d2⟩
theorem dec_nil:X75 []=12∧Vr []=zM:=by
  have h:¬okD ((([]:List UInt8).length:Nat):Int) 16777216 []:=fun q=>by
    have:=q.2.1
    rw [show rdI [] 0=0 from rfl] at this
    exact absurd this (by decide)
  have:=Xa0 h (by simp)
  exact ⟨this.2,this.1⟩
theorem enc_bad {m:aM} (hw:¬Fg m):X75 (Jm m)=12∧Vr (Jm m)=zM:=by
  rw [show Jm m=[] from if_neg hw];exact dec_nil
theorem Xi0 (m:aM):(Y4 m 9).length≤80+m.Xe.length+m.Xd.length+(V5 m.Xt).length+(V5 m.Y8).length+(H4 m.X5).length:=by
  have s:∀ j,(Y4 m (j+1)).length≤(Y4 m j).length+(Jv m j).length:=fun j=>by
    rw [Y4,List.length_append]
    split
    · exact Nat.le_refl _
    · simp
  have h0:(Y4 m 0).length=8:=Wd _
  have f0:(Jv m 0).length=8:=Wd _
  have f1:(Jv m 1).length=8:=Wd _
  have f2:(Jv m 2).length=16:=by simp only [Jv,List.length_append,Wd]
  have f3:(Jv m 3).length=4+m.Xe.length:=(V7 _).trans (Nat.add_comm _ _)
  have f4:(Jv m 4).length=4+m.Xd.length:=(V7 _).trans (Nat.add_comm _ _)
  have f5:(Jv m 5).length=16:=by simp only [Jv,List.length_append,Wd]
  have f6:(Jv m 6).length=(V5 m.Xt).length:=rfl
  have f7:(Jv m 7).length=(V5 m.Y8).length:=rfl
  have f8:(Jv m 8).length=(H4 m.X5).length:=rfl
  have s0:=s 0
  have s1:=s 1
  have s2:=s 2
  have s3:=s 3
  have s4:=s 4
  have s5:=s 5
  have s6:=s 6
  have s7:=s 7
  have s8:=s 8
  simp only [Nat.reduceAdd] at s0 s1 s2 s3 s4 s5 s6 s7 s8
  omega
theorem X7x {n lo:Int} {b:Bool} (h:Fu n b lo) (hl:0≤lo):Wm n:=by
  unfold Fu at h
  unfold Wm
  split at h<;>omega
theorem fst_0 (k:Int):0≤X26 k∧0≤X14 k:=by
  unfold X26 X14
  constructor
  · split
    · omega
    · split<;>omega
  · split
    · omega
    · split
      · omega
      · split<;>omega
theorem rng_of {m:aM} (hw:Fg m) (h1:Wm m.X3.Y0) (h2:Wm m.X3.Xq) (hl:(Y4 m 9).length≤16777216) (hb:∀ e,e∈m.Xt→Wm e.f_Signer∧e.Xh.length≤16777216) (hp:∀ e,e∈m.Y8→Wm e.f_Signer∧e.Xh.length≤16777216) (hc:∀ c,c∈m.X5→(Wm c.Uu.f_Signer∧c.Uu.Xh.length≤16777216)∧∀ e,e∈c.Xi→Wm e.f_Signer∧e.Xh.length≤16777216):rngM (((Y4 m 9).length:Nat):Int) 16777216 m:=by
  obtain ⟨a1,a2,a3,a4,a5,a6,a7,a8,a9,b1,b2,b3,b4,b5,b6⟩:=(Wx m).1 hw
  have hf:=fst_0 m.X0
  have ev:∀ e:aE,Wm e.f_Signer∧e.Xh.length≤16777216→okEv 16777216 e:=fun e h=>⟨h.1,by omega,by omega⟩
  have hB:maxB m.X0 (Xk m.X0)≤7:=by
    unfold maxB;split
    · omega
    · split<;>omega
  have hP:maxP (Xk m.X0)≤8:=by unfold maxP;split<;>omega
  refine ⟨X7x a2 hf.1,X7x a3 hf.2,X7x a4 (by omega),X7x a5 (by omega),h1,h2,?_,?_,⟨by omega,fun e he=>ev e (hb e he)⟩,⟨by omega,fun e he=>ev e (hp e he)⟩,⟨by omega,fun c h=>⟨ev _ (hc c h).1,?_,fun e he=>ev e ((hc c h).2 e he)⟩⟩⟩
  · by_cases hbit:Ix (Xk m.X0) 3=true
    · have:=Il (m:=m) rfl hbit (by decide)
      rw [show (Jv m 3).length=4+m.Xe.length from (V7 _).trans (Nat.add_comm _ _)] at this
      exact ⟨by omega,by omega⟩
    · have e:m.Xe=[]:=Classical.byContradiction fun q=>a7 ⟨hbit,q⟩
      rw [e];exact ⟨Nat.zero_le _,Int.natCast_nonneg _⟩
  · by_cases hbit:Ix (Xk m.X0) 4=true
    · have:=Il (m:=m) rfl hbit (by decide)
      rw [show (Jv m 4).length=4+m.Xd.length from (V7 _).trans (Nat.add_comm _ _)] at this
      exact ⟨by omega,by omega⟩
    · have e:m.Xd=[]:=List.eq_nil_of_length_eq_zero (by have:=mt (fun q=>(⟨hbit,q⟩:¬(Xk m.X0).Xd=true∧_)) a8;omega)
      rw [e];exact ⟨Nat.zero_le _,Int.natCast_nonneg _⟩
  · exact Nat.le_trans (b6 c h) (by decide)
end Go.Proofs.YtnaopgohccacmaaGreat.Q
namespace Go.Proofs.YtnaopgohccacmaaGreat.Q
set_option linter.unusedVariables false
set_option linter.unusedSimpArgs false
set_option maxRecDepth 100000
def Hp (h:Nat→Int):Nat→Int
  | 0=>0
  | n+1=>if Hp h n≠0 then Hp h n else h n
theorem Xdf {h:Nat→Int}:∀ {n:Nat},(∀ j,j<n→h j=0)→Hp h n=0
  | 0,_=>rfl
  | n+1,q=>by
    have:=Xdf (h:=h) (n:=n) fun j hj=>q j (by omega)
    rw [Hp,this]
    simp only [ne_eq,not_true,if_false]
    exact q n (by omega)
theorem Xfs {h:Nat→Int} {k:Nat} (q:∀ j,j<k→h j=0) (hk:h k≠0):∀ {n:Nat},k<n→Hp h n=h k
  | 0,hn=>absurd hn (Nat.not_lt_zero _)
  | n+1,hn=>by
    by_cases e:k=n
    · subst e
      rw [Hp,Xdf q]
      simp
    · have:=Xfs q hk (n:=n) (by omega)
      rw [Hp,this,if_pos hk]
section
variable (C:aE→Int) (f:Int)
def opE (e:aE) (k:Int):Int:=if C e≠0 then C e else if X75 e.Xh≠0 then 120 else if (Vr e.Xh).X0≠k then 120 else 0
def opV (e:aE) (k:Int):aM:=if opE C e k=0 then Vr e.Xh else zM
def vtE (e:aE) (k:Int):Int:=if opE C e k≠0 then opE C e k else if k≠3∧k≠4∧k≠5 then 120 else if ¬Yz f e.f_Signer then 30 else 0
def vtV (e:aE) (k:Int):aM:=if vtE C f e k=0 then Vr e.Xh else zM
end
section
variable {C:aE→Int} {f:Int} {e:aE} {k:Int}
theorem op_of {x:Int} (h:opE C e k=x) (hx:x≠0):opV C e k=zM∧opE C e k=x:=⟨if_neg (by rw [h];exact hx),h⟩
theorem op_c (h:C e≠0):opV C e k=zM∧opE C e k=C e:=op_of (if_pos h) h
theorem op_d (h:¬C e≠0) (h1:X75 e.Xh≠0):opV C e k=zM∧opE C e k=120:=op_of ((if_neg h).trans (if_pos h1)) (by decide)
theorem op_k (h:¬C e≠0) (h1:¬X75 e.Xh≠0) (h2:(Vr e.Xh).X0≠k):opV C e k=zM∧opE C e k=120:=op_of ((if_neg h).trans ((if_neg h1).trans (if_pos h2))) (by decide)
theorem op_ok (h:¬C e≠0) (h1:¬X75 e.Xh≠0) (h2:¬(Vr e.Xh).X0≠k):opV C e k=Vr e.Xh∧opE C e k=0:=by
  have:opE C e k=0:=(if_neg h).trans ((if_neg h1).trans (if_neg h2))
  exact ⟨if_pos this,this⟩
end
section
variable {C:aE→Int} {f:Int} {e:aE} {k:Int}
theorem op_val (h:¬opE C e k≠0):opV C e k=Vr e.Xh:=if_pos (Classical.not_not.1 h)
theorem vt_of {x:Int} (h:vtE C f e k=x) (hx:x≠0):vtV C f e k=zM∧vtE C f e k=x:=⟨if_neg (by rw [h];exact hx),h⟩
theorem vt_o (h:opE C e k≠0):vtV C f e k=zM∧vtE C f e k=opE C e k:=vt_of (if_pos h) h
theorem vt_k (h:¬opE C e k≠0) (h1:k≠3) (h2:k≠4) (h3:k≠5):vtV C f e k=zM∧vtE C f e k=120:=vt_of ((if_neg h).trans (if_pos ⟨h1,h2,h3⟩)) (by decide)
theorem vt_s (h:¬opE C e k≠0) (h1:¬(k≠3∧k≠4∧k≠5)) (h2:¬Yz f e.f_Signer):vtV C f e k=zM∧vtE C f e k=30:=vt_of ((if_neg h).trans ((if_neg h1).trans (if_pos h2))) (by decide)
theorem vt_ok (h:¬opE C e k≠0) (h1:¬(k≠3∧k≠4∧k≠5)) (h2:Yz f e.f_Signer):vtV C f e k=Vr e.Xh∧vtE C f e k=0:=by
  have:vtE C f e k=0:=(if_neg h).trans ((if_neg h1).trans (if_neg (fun q=>q h2)))
  exact ⟨if_pos this,this⟩
end
def X0d (l:List aE) (j:Nat):Prop:=∃ i,i<j∧(l.getD i zE).f_Signer=(l.getD j zE).f_Signer
instance (l:List aE) (j:Nat):Decidable (X0d l j):=inferInstanceAs (Decidable (∃ i,i<j∧_))
def Ea (l:List aE) (k:Nat):List (Int×Bool):=(l.take k).foldl (fun t e=>mput t e.f_Signer true) []
def X33 (g:aE→Int) (l:List aE) (j:Nat):Int:=if g (l.getD j zE)≠0 then g (l.getD j zE) else if X0d l j then 33 else 0
def X3p (g:aE→Int) (l:List aE) (need:Int):Int:=if Hp (X33 g l) l.length≠0 then Hp (X33 g l) l.length else if ((l.length:Nat):Int)<need then 32 else 0
def X1v (seq:Int) (d:List UInt8) (m:aM):Int:=if m.Xu≠seq then 131 else if m.Xe≠d then 132 else 0
def gS (C:aE→Int) (f:Int) (seq:Int) (d:List UInt8) (e:aE):Int:=if vtE C f e 5≠0 then vtE C f e 5 else X1v seq d (Vr e.Xh)
def Hq (l:List aE):List UInt8:=(Vr (l.getD 0 zE).Xh).Xe
def stE (C:aE→Int) (f:Int) (seq:Int) (l:List aE):Int:=if seq=0 then (if ((l.length:Nat):Int)>0 then 120 else 0) else X3p (gS C f seq (Hq l)) l (max 1 (2*f+1))
def stD (C:aE→Int) (f:Int) (seq:Int) (l:List aE):List UInt8:=if seq≠0∧stE C f seq l=0 then Hq l else []
section
variable {g:aE→Int} {x:List aE} {k:Nat} {need:Int}
theorem vot_1 (h:g (x.getD k zE)≠0):X33 g x k=g (x.getD k zE):=if_pos h
theorem vot_2 (h:¬g (x.getD k zE)≠0) (h2:X0d x k):X33 g x k=33:=(if_neg h).trans (if_pos h2)
theorem vot_3 (h:¬g (x.getD k zE)≠0) (h2:¬X0d x k):X33 g x k=0:=(if_neg h).trans (if_neg h2)
theorem Xgt {E:Int} (need:Int) (hb:∀ i,i<k→X33 g x i=0) (h:X33 g x k=E) (hE:E≠0) (hk:k<x.length):X3p g x need=E:=by
  have e:=Xfs hb (by rw [h];exact hE) hk
  unfold X3p
  rw [e,h,if_pos hE]
theorem tly_0 (need:Int) (hb:∀ i,i<k→X33 g x i=0) (hk:x.length≤k):X3p g x need=if ((x.length:Nat):Int)<need then 32 else 0:=by
  have e:Hp (X33 g x) x.length=0:=Xdf fun i hi=>hb i (by omega)
  unfold X3p
  rw [e,if_neg (by simp)]
end
section
variable {C:aE→Int} {f:Int} {e:aE} {p:aM} {kind pre:Int}
theorem vt_val (h:¬vtE C f e kind≠0):vtV C f e kind=Vr e.Xh:=if_pos (Classical.not_not.1 h)
theorem gS_1 {seq:Int} {d:List UInt8} (h:vtE C f e 5≠0):gS C f seq d e=vtE C f e 5:=if_pos h
theorem gS_2 {seq:Int} {d:List UInt8} (h:¬vtE C f e 5≠0):gS C f seq d e=X1v seq d (vtV C f e 5):=by rw [vt_val h];exact if_neg h
end
section
variable {C:aE→Int} {f:Int} {c:aC} {kind need:Int}
end
def X9z (C:aE→Int) (f:Int) (x:List aE):List UInt8:=if 0<x.length∧vtE C f (x.getD 0 zE) 5=0 then Hq x else []
def fstF (C:aE→Int) (f:Int) (x:List aE):Bool:=!decide (0<x.length∧vtE C f (x.getD 0 zE) 5=0)
section
variable {C:aE→Int} {f seq:Int} {d:List UInt8} {x:List aE} {k:Nat}
def X16 (x:List aE) (k:Nat):List UInt8:=if k=0 then [] else Hq x
def X15 (k:Nat):Bool:=decide (k=0)
theorem Xgr (hb:∀ i,i<k→X33 (gS C f seq d) x i=0) (hk:0<k):vtE C f (x.getD 0 zE) 5=0:=by
  have h:=hb 0 hk
  refine Classical.byContradiction fun q=>?_
  have hg:=gS_1 (seq:=seq) (d:=d) q
  rw [vot_1 (by rw [hg];exact q),hg] at h
  exact q h
theorem dig_at (hb:∀ i,i<k→X33 (gS C f seq d) x i=0) (hk:k≤x.length) (h:x.length≤k∨vtE C f (x.getD k zE) 5≠0):X16 x k=X9z C f x∧X15 k=fstF C f x:=by
  unfold X16 X9z X15 fstF
  by_cases h0:k=0
  · subst h0
    have hn:¬(0<x.length∧vtE C f (x.getD 0 zE) 5=0):=fun q=>h.elim (fun w=>by omega) (fun w=>w q.2)
    rw [if_pos rfl,if_neg hn]
    exact ⟨rfl,by simp only [decide_eq_false hn];rfl⟩
  · have hy:0<x.length∧vtE C f (x.getD 0 zE) 5=0:=⟨by omega,Xgr hb (by omega)⟩
    rw [if_neg h0,if_pos hy]
    exact ⟨rfl,by rw [decide_eq_false h0,decide_eq_true hy];rfl⟩
def digN (C:aE→Int) (f:Int) (x:List aE) (k:Nat):List UInt8:=if X15 k=true then (vtV C f (x.getD k zE) 5).Xe else X16 x k
theorem dig_next (hb:∀ i,i<k→X33 (gS C f seq d) x i=0) (hk:k<x.length) (h:¬vtE C f (x.getD k zE) 5≠0):digN C f x k=Hq x∧X9z C f x=Hq x∧fstF C f x=false∧X16 x (k+1)=Hq x∧X15 (k+1)=false:=by
  have h0:vtE C f (x.getD 0 zE) 5=0:=by
    by_cases q:k=0
    · subst q;exact Classical.not_not.1 h
    · exact Xgr hb (by omega)
  have hy:0<x.length∧vtE C f (x.getD 0 zE) 5=0:=⟨by omega,h0⟩
  refine ⟨?_,if_pos hy,?_,if_neg (by omega),decide_eq_false (by omega)⟩
  · unfold digN X15 X16
    by_cases q:k=0
    · subst q
      rw [if_pos (by decide),vt_val h];rfl
    · rw [if_neg (by simp [q]),if_neg q]
  · unfold fstF;rw [decide_eq_true hy];rfl
end
theorem Xjk {h:Nat→Int}:∀ {n:Nat},Hp h n=0→∀ j,j<n→h j=0
  | 0,_,j,hj=>absurd hj (Nat.not_lt_zero _)
  | n+1,q,j,hj=>by
    rw [Hp] at q
    split at q
    · rename_i w;exact absurd q w
    · rename_i w
      rcases Nat.lt_or_ge j n with hlt|hge
      · exact Xjk (Classical.not_not.1 w) j hlt
      · rw [show j=n by omega];exact q
section
variable {C:aE→Int} {f seq:Int} {x:List aE}
theorem st_0 (h:seq=0) (h1:((x.length:Nat):Int)>0):stD C f seq x=[]∧stE C f seq x=120:=⟨if_neg (fun q=>q.1 h),(if_pos h).trans (if_pos h1)⟩
theorem st_1 (h:seq=0) (h1:¬((x.length:Nat):Int)>0):stD C f seq x=[]∧stE C f seq x=0:=⟨if_neg (fun q=>q.1 h),(if_pos h).trans (if_neg h1)⟩
theorem st_t {E:Int} (h:¬seq=0) (h1:X3p (gS C f seq (Hq x)) x (max 1 (2*f+1))=E) (hE:E≠0):stD C f seq x=[]∧stE C f seq x=E:=by
  have e:stE C f seq x=E:=(if_neg h).trans h1
  exact ⟨if_neg (fun q=>hE (e ▸ q.2)),e⟩
theorem st_ok (h:¬seq=0) (h1:X3p (gS C f seq (Hq x)) x (max 1 (2*f+1))=0):stD C f seq x=X9z C f x∧stE C f seq x=0∧X9z C f x=Hq x:=by
  have e:stE C f seq x=0:=(if_neg h).trans h1
  have hd:stD C f seq x=Hq x:=if_pos ⟨h,e⟩
  unfold X3p at h1
  split at h1
  · rename_i w;exact absurd h1 w
  · rename_i w
    split at h1
    · cases h1
    · rename_i w2
      have hl:0<x.length:=by omega
      have h0:=Xgr (k:=x.length) (Xjk (Classical.not_not.1 w)) hl
      have hf:X9z C f x=Hq x:=if_pos ⟨hl,h0⟩
      exact ⟨hd.trans hf.symm,e,hf⟩
end
def okEnv (e:aE):Prop:=Wm e.f_Signer∧e.Xh.length≤16777216
def X1t (l:List aE):Prop:=l.length≤31∧∀ e,e∈l→okEnv e
theorem Xis (M:Int) (r:List UInt8) (e:Int):∀ k,∀ x,x∈(Id M r e k).l→Wm x.f_Signer∧x.Xh.length≤r.length
  | 0=>fun x hx=>by cases hx
  | k+1=>fun x hx=>by
    have hl:=(X1e M r e k).1
    have hx:x∈(Id M r e k).l++[evV M (Id M r e k).rest (Id M r e k).e]:=hx
    rw [List.mem_append,List.mem_singleton] at hx
    rcases hx with h|h
    · exact Xis M r e k x h
    · subst h
      exact ⟨Xkm _ _,Nat.le_trans (X0i _ _ _) (Nat.le_trans (Uh _ _ _ _) hl)⟩
def okEn (n:Nat) (l:List aE):Prop:=l.length≤15∧∀ e,e∈l→Wm e.f_Signer∧e.Xh.length≤n
theorem finL_ok {M:Int} {r:List UInt8} {e:Int} {n:Nat} (h:r.length≤n):okEn n (Hu M r e).l:=⟨(X09 M r e).2,fun x hx=>by have:=Xis M r e _ x hx;exact ⟨this.1,by omega⟩⟩
theorem Xk8 {M N:Int} {n:Nat} {s:RdM} (h:okEn n s.m.Xt) (hl:s.rest.length≤n) (j:Nat):okEn n (Ud M N s j).m.Xt:=by
  rcases (by omega:j=0∨j=1∨j=2∨j=3∨j=4∨j=5∨j=6∨j=7∨j=8∨9≤j) with q|q|q|q|q|q|q|q|q|q
  case inr.inr.inr.inr.inr.inr.inl=>subst q;exact finL_ok hl
  case inr.inr.inr.inr.inr.inr.inr.inr.inr=>obtain ⟨i,rfl⟩:∃ i,j=i+9:=⟨j-9,by omega⟩;exact h
  all_goals (subst q;exact h)
theorem X8q (M N:Int) (r:List UInt8) (e k:Int):∀ j,okEn r.length (Wq M N r e k j).m.Xt
  | 0=>⟨Nat.zero_le _,fun x hx=>by cases hx⟩
  | j+1=>by
    rw [Wq]
    split
    · exact Xk8 (X8q M N r e k j) (X1d _ _ _ _ _ _) j
    · exact X8q M N r e k j
theorem decV_bat (b:List UInt8):X1t (Vr b).Xt:=by
  unfold Vr decW
  split
  · rename_i h
    have hl:=h.1
    have hr:=Uh b 0 8 0
    obtain ⟨h1,h2⟩:=X8q ((b.length:Nat):Int) 16777216 (rdR b 0 8 0) (rdE b 0 8 0) (rdI b 0) 9
    exact ⟨Nat.le_trans h1 (by decide),fun e he=>⟨(h2 e he).1,by have:=(h2 e he).2;omega⟩⟩
  · exact ⟨Nat.zero_le _,fun x hx=>by cases hx⟩
theorem envs_le {l:List aE} {n:Nat} (h:∀ e,e∈l→e.Xh.length≤n):(It l).length≤l.length*(12+n):=by
  induction l with
  | nil=>simp [It]
  | cons e r ih =>
    have h1:=ih fun x hx=>h x (List.mem_cons_of_mem _ hx)
    have h2:=h e (List.mem_cons_self ..)
    rw [show It (e::r)=Ja e++It r from rfl,List.length_append,Xdk,List.length_cons,Nat.succ_mul]
    omega
theorem okEs_le {l:List aE} (h:X1t l):(It l).length≤520094068:=by
  have h1:=envs_le fun e he=>(h.2 e he).2
  have h2:=Nat.mul_le_mul_right (12+16777216) h.1
  omega
theorem Xf1 {l:List aE} (h:X1t l) {k:Nat} (hk:k<l.length):okEnv (l.getD k zE):=h.2 _ (Vc hk)
theorem mget_put {l:List (Int×Bool)} {k k':Int} {v z:Bool}:mget (mput l k v) k' z=if k=k' then v else mget l k' z:=by
  induction l with
  | nil=>simp only [mput,mget]
  | cons e r ih =>
    simp only [mput]
    by_cases h:e.1=k
    · subst h
      simp only [if_pos,mget]
      split<;>rfl
    · simp only [if_neg h,mget,ih]
      by_cases h2:e.1=k'
      · subst h2
        rw [if_pos rfl,if_pos rfl,if_neg (fun q=>h q.symm)]
      · rw [if_neg h2,if_neg h2]
theorem Xba {l:List aE} {k:Nat} (hk:k<l.length):Ea l (k+1)=mput (Ea l k) (l.getD k zE).f_Signer true:=by
  unfold Ea
  rw [Uf (z:=zE) hk,List.foldl_append]
  rfl
theorem Xeb {l:List aE} {s:Int}:∀ {k:Nat},k≤l.length→(mget (Ea l k) s false=true↔∃ i,i<k∧(l.getD i zE).f_Signer=s)
  | 0,_=>⟨pZs,fun ⟨i,h,_⟩=>absurd h (Nat.not_lt_zero _)⟩
  | k+1,hk=>by
    rw [Xba (by omega),mget_put]
    split
    · rename_i h;exact ⟨fun _=>⟨k,by omega,h⟩,fun _=>rfl⟩
    · rename_i h
      rw [Xeb (k:=k) (by omega)]
      exact ⟨fun ⟨i,h1,h2⟩=>⟨i,by omega,h2⟩,fun ⟨i,h1,h2⟩=>⟨i,by rcases Nat.lt_or_ge i k with q|q;exact q;exact absurd (by rw [← h2,show i=k by omega]) h,h2⟩⟩
theorem X8j {l:List aE} {k:Nat} (hk:k≤l.length):mget (Ea l k) (l.getD k zE).f_Signer false=true↔X0d l k:=Xeb hk
end Go.Proofs.YtnaopgohccacmaaGreat.Q
namespace Go.Proofs.YtnaopgohccacmaaGreat.Q
open Go Go.RowKit
set_option linter.unusedVariables false
set_option linter.unusedSimpArgs false
set_option maxRecDepth 100000
set_option maxHeartbeats 4000000
section
variable (f:Int) (u:Int) (rows:List (Yg×Bool)) (te:Bool) (e:aE) (k:Int)
abbrev Zgd:List SV:=[dI e.f_Signer,.d (dsl te false kU8 e.Xh)]
abbrev Zge:HS:=.live (.box 130 [dI (3*f+1),dI u,.mref 1])
abbrev Zgf:HS:=.live (mpK Xp Yc rows)
abbrev Zgg:List AV:=[pv 0 0,.tv (.agg (Zgd te e)),vI k,aa,pv 2 0,aa,pv 3 0,vI (Xz f u rows e),vI (Xz f u rows e),aa,aa,aa,aa,aa,aa,vB (decide ((Xz f u rows e)≠0))]
abbrev Zgh:SV:=.d (.val (.slice none 0 0))
abbrev Zgi:HS:=.live (.box 78 [dI 0,dI 0,dI 0,dI 0,dI 0,dS [],Zgh,dI 0,dI 0,Zgh,Zgh,Zgh])
abbrev Zgj:SV:=dU ([]:List UInt8)
abbrev Zgk:SV:=.d (dsl false false (kE false) ([]:List aE))
abbrev Zgl:SV:=.d (dsl false false (kC false) ([]:List aC))
abbrev Zgm:List SV:=[dI 0,dI 0,dI 0,dI 0,dI 0,dS [],Zgj,dI 0,dI 0,Zgk,Zgk,Zgl]
abbrev Zgn:List AV:=[pv 0 0,.tv (.agg (Zgd te e)),vI k,aa,pv 2 0,aa,pv 3 0,vI 120,vI (Xz f u rows e),pv 4 0,vI (X75 e.Xh),aa,aa,aa,aa,vB (decide ((Xz f u rows e)≠0)),aa,aa,aa,aa,aa,aa,aa,aa,aa,aa,aa,aa,aa,aa,aa,vB true]
abbrev Zgo:List SV:=[dI (Vr e.Xh).X0,dI (Vr e.Xh).Y9,dI (Vr e.Xh).Xu,dI (Vr e.Xh).Xr,dI (Vr e.Xh).W0,dS (Vr e.Xh).Xe,dU (Vr e.Xh).Xd,dI (Vr e.Xh).X3.Y0,dI (Vr e.Xh).X3.Xq,.d (dsl false false (kE false) (Vr e.Xh).Xt),.d (dsl false false (kE false) (Vr e.Xh).Y8),.d (dsl false false (kC false) (Vr e.Xh).X5)]
abbrev Zgp:List HS:=[(Zge f u),(Zgf rows),.live (.box 43 (Zgd te e)),Zgi,.live (.box 78 (Zgo e))]
abbrev Zgq:List AV:=[pv 0 0,.tv (.agg (Zgd te e)),vI k,aa,pv 2 0,aa,pv 3 0,vI 120,vI (Xz f u rows e),pv 4 0,vI (X75 e.Xh),aa,aa,aa,aa,vB (decide ((Xz f u rows e)≠0)),aa,aa,aa,aa,aa,aa,aa,aa,aa,aa,aa,aa,aa,aa,aa,vB (decide ((Vr e.Xh).X0≠k))]
end
theorem Xlg (f:Int) (u:Int) (rows:List (Yg×Bool)) (te:Bool) (e:aE) (k:Int) (hf:0≤f∧f≤2) (hu:0≤u∧u≤8) (hs:-9223372036854775808≤e.f_Signer∧e.f_Signer≤9223372036854775807) (hb:e.Xh.length≤100000000):Holds Tryz.prog 173 ⟨[pv 0 0,.tv (.agg [dI e.f_Signer,.d (dsl te false kU8 e.Xh)]),vI k],[.box 130 [dI (3*f+1),dI u,.mref 1],mpK Xp Yc rows],.tup [.agg [dI (opV (Xz f u rows) e k).X0,dI (opV (Xz f u rows) e k).Y9,dI (opV (Xz f u rows) e k).Xu,dI (opV (Xz f u rows) e k).Xr,dI (opV (Xz f u rows) e k).W0,dS (opV (Xz f u rows) e k).Xe,dU (opV (Xz f u rows) e k).Xd,dI (opV (Xz f u rows) e k).X3.Y0,dI (opV (Xz f u rows) e k).X3.Xq,.d (dsl false false (kE false) (opV (Xz f u rows) e k).Xt),.d (dsl false false (kE false) (opV (Xz f u rows) e k).Y8),.d (dsl false false (kC false) (opV (Xz f u rows) e k).X5)],.one (dI (opE (Xz f u rows) e k))],[.live (.box 130 [dI (3*f+1),dI u,.mref 1]),.live (mpK Xp Yc rows)]⟩:=by
 refine Holds.of Tryz.func173 rfl (N:=34) Tryz.ntmps173 rfl fun w0 B0 S0 U0=>?_
 show T _ (Y2 34 2 w0 S0 U0 B0) ⟨[pv 0 0,.tv (.agg (Zgd te e)),vI k],[(Zge f u),(Zgf rows)]⟩ _ _
 refine sR [] (T.seq (sR [hR 2 rfl rfl (rCa (Xgi f u rows te e ‹_› ‹_› ‹_›) Tryz.func186 [0,1] [(.tmp 11,pv 0 0),(.tmp 12,.tv (.agg (Zgd te e)))] 2 2)] (sR [] ?_)))
 by_cases hq1:(Xz f u rows e)≠0
 ·have hx9:=op_c (C:=(Xz f u rows)) (k:=k) hq1
  refine cT (dT hq1) (sR [] (T.ret (rT ?_)))
  refine eN ⟨(Zgg f u rows te e k),[(Zge f u),(Zgf rows),.live (.box 43 (Zgd te e)),Zgi]⟩ ?_
  refine Xa (s':=⟨(Zgg f u rows te e k),[(Zge f u),(Zgf rows),.live (.box 43 (Zgd te e)),.live (.box 78 Zgm)]⟩) (fun _ _ hG=>W1 (s:=⟨(Zgg f u rows te e k),[(Zge f u),(Zgf rows),.live (.box 43 (Zgd te e)),Zgi]⟩) (X1z trivial) ⟨.inl rfl,(kk2 ⟨pZr,trivial⟩)⟩ hG) ?_
  exact eX [.c 6 3 78 0 78 [dI 0,dI 0,dI 0,dI 0,dI 0,dS [],Zgj,dI 0,dI 0,Zgk,Zgk,Zgl] (.agg Zgm),.t 7 (.one (dI (Xz f u rows e)))] ⟨⟨rfl,rfl,by kernel_rfl,by kernel_rfl,.inl ⟨12,Up,rfl,Nat.le_of_ble_eq_true rfl⟩⟩,⟨⟨rfl,by kernel_rfl⟩,trivial⟩⟩ [0,1] pa (ix (ix trivial))
 refine cF (dF hq1) (T.skip (nT (sR [hR 2 rfl rfl (rCa (Xho te false e.Xh (by omega)) Tryz.func187 [] [(.tmp 20,slV te false kU8 e.Xh)] 0 0)] (T.seq ?_))))
 by_cases hq2:(X75 e.Xh)≠0
 ·have hx9:=op_d (C:=(Xz f u rows)) (k:=k) ‹_› hq2
  refine sR (Xl (hN · false (dT hq2)) [3,4,5,6] (hP 7 (dT hq2)::[])) (cT (b:=true) rfl (sR [] (T.ret (rT ?_))))
  refine eN ⟨(Zgn f u rows te e k),(Zgp f u rows te e)⟩ ?_
  refine Xa (s':=⟨(Zgn f u rows te e k),[(Zge f u),(Zgf rows),.live (.box 43 (Zgd te e)),.live (.box 78 Zgm),.live (.box 78 (Zgo e))]⟩) (fun _ _ hG=>W1 (s:=⟨(Zgn f u rows te e k),(Zgp f u rows te e)⟩) (X12 trivial) ⟨.inl rfl,pZ27⟩ hG) ?_
  exact eX [.c 6 3 78 0 78 [dI 0,dI 0,dI 0,dI 0,dI 0,dS [],Zgj,dI 0,dI 0,Zgk,Zgk,Zgl] (.agg Zgm),.t 7 (.one (dI 120))] ⟨⟨rfl,rfl,by kernel_rfl,by kernel_rfl,.inl ⟨12,Up,rfl,Nat.le_of_ble_eq_true rfl⟩⟩,⟨⟨rfl,by kernel_rfl⟩,trivial⟩⟩ [0,1] pa (ix (ix trivial))
 refine sR (Xl (hY · (dF hq2)) [3,4,5,6] (hP 7 (dF hq2)::[])) ?_
 by_cases hq3:(Vr e.Xh).X0≠k
 ·have hx9:=op_k (C:=(Xz f u rows)) ‹_› ‹_› hq3
  refine cT (dT hq3) (sR [] (T.ret (rT ?_)))
  refine eN ⟨(Zgq f u rows te e k),(Zgp f u rows te e)⟩ ?_
  refine Xa (s':=⟨(Zgq f u rows te e k),[(Zge f u),(Zgf rows),.live (.box 43 (Zgd te e)),.live (.box 78 Zgm),.live (.box 78 (Zgo e))]⟩) (fun _ _ hG=>W1 (s:=⟨(Zgq f u rows te e k),(Zgp f u rows te e)⟩) (X12 trivial) ⟨.inl rfl,pZ27⟩ hG) ?_
  exact eX [.c 6 3 78 0 78 [dI 0,dI 0,dI 0,dI 0,dI 0,dS [],Zgj,dI 0,dI 0,Zgk,Zgk,Zgl] (.agg Zgm),.t 7 (.one (dI 120))] ⟨⟨rfl,rfl,by kernel_rfl,by kernel_rfl,.inl ⟨12,Up,rfl,Nat.le_of_ble_eq_true rfl⟩⟩,⟨⟨rfl,by kernel_rfl⟩,trivial⟩⟩ [0,1] pa (ix (ix trivial))
 have hx9:=op_ok (C:=(Xz f u rows)) ‹_› ‹_› hq3
 refine cF (dF hq3) (T.skip (nT (sR [] (T.ret ?_))))
 exact eX [.c 6 3 78 0 78 [dI (Vr e.Xh).X0,dI (Vr e.Xh).Y9,dI (Vr e.Xh).Xu,dI (Vr e.Xh).Xr,dI (Vr e.Xh).W0,dS (Vr e.Xh).Xe,dU (Vr e.Xh).Xd,dI (Vr e.Xh).X3.Y0,dI (Vr e.Xh).X3.Xq,.d (dsl false false (kE false) (Vr e.Xh).Xt),.d (dsl false false (kE false) (Vr e.Xh).Y8),.d (dsl false false (kC false) (Vr e.Xh).X5)] (.agg (Zgo e)),.t 7 (.one (dI 0))] ⟨⟨rfl,rfl,by kernel_rfl,by kernel_rfl,.inl ⟨12,Up,rfl,Nat.le_of_ble_eq_true rfl⟩⟩,⟨⟨rfl,by kernel_rfl⟩,trivial⟩⟩ [0,1] pa (ix (ix trivial))
section
variable (f:Int) (u:Int) (l:List aE) (e:aE)
end
section
variable (tl:Bool) (nl:Bool) (sl_:Bool) (l:List aE) (k:Nat)
end
section
variable (tl:Bool) (nl:Bool) (sl_:Bool) (l:List aE) (k:Nat)
end
section
variable (f:Int) (u:Int) (rows:List (Yg×Bool)) (te:Bool) (e:aE)
end
section
variable (f:Int) (u:Int) (l:List aE) (e:aE)
end
section
variable (f:Int) (u:Int) (rows:List (Yg×Bool)) (tx:Bool) (nx:Bool) (sx:Bool) (x:List aE) (k:Nat)
end
section
variable (x:List aE) (f:Int) (u:Int) (l:List aE) (k:Nat)
end
section
variable (f:Int) (u:Int) (rows:List (Yg×Bool)) (te:Bool) (e:aE)
end
section
variable (f:Int) (u:Int) (rows:List (Yg×Bool)) (te:Bool) (e:aE) (k:Int)
abbrev Ziz:List SV:=[dI e.f_Signer,.d (dsl te false kU8 e.Xh)]
abbrev Zj0:HS:=.live (.box 130 [dI (3*f+1),dI u,.mref 1])
abbrev Zj1:List AV:=[pv 0 0,.tv (.agg (Ziz te e)),vI k,aa,pv 2 0,aa,pv 3 0,vI (opE (Xz f u rows) e k),pv 4 0,vI (opE (Xz f u rows) e k),aa,aa,aa,aa,aa,aa,aa,vB (decide ((opE (Xz f u rows) e k)≠0))]
abbrev Zj2:SV:=.d (.val (.slice none 0 0))
abbrev Zj3:=(opV (Xz f u rows) e k)
abbrev Zj4:List SV:=[dI (Zj3 f u rows e k).X0,dI (Zj3 f u rows e k).Y9,dI (Zj3 f u rows e k).Xu,dI (Zj3 f u rows e k).Xr,dI (Zj3 f u rows e k).W0,dS (Zj3 f u rows e k).Xe,dU (Zj3 f u rows e k).Xd,dI (Zj3 f u rows e k).X3.Y0,dI (Zj3 f u rows e k).X3.Xq,.d (dsl false false (kE false) (Zj3 f u rows e k).Xt),.d (dsl false false (kE false) (Zj3 f u rows e k).Y8),.d (dsl false false (kC false) (Zj3 f u rows e k).X5)]
abbrev Zj5:List HS:=[(Zj0 f u),.live (mpK Xp Yc rows),.live (.box 43 (Ziz te e)),.live (.box 78 [dI 0,dI 0,dI 0,dI 0,dI 0,dS [],Zj2,dI 0,dI 0,Zj2,Zj2,Zj2]),.live (.box 78 (Zj4 f u rows e k))]
abbrev Zj6:SV:=dU ([]:List UInt8)
abbrev Zj7:SV:=.d (dsl false false (kE false) ([]:List aE))
abbrev Zj8:SV:=.d (dsl false false (kC false) ([]:List aC))
abbrev Zj9:List SV:=[dI 0,dI 0,dI 0,dI 0,dI 0,dS [],Zj6,dI 0,dI 0,Zj7,Zj7,Zj8]
abbrev Zja:List HS:=[(Zj0 f u),.live (mpK Xp Yc rows),.live (.box 43 (Ziz te e)),.live (.box 78 Zj9),.live (.box 78 (Zj4 f u rows e k))]
abbrev Zjb:List AV:=[pv 0 0,.tv (.agg (Ziz te e)),vI k,aa,pv 2 0,aa,pv 3 0,vI 120,pv 4 0,vI (opE (Xz f u rows) e k),aa,aa,aa,aa,aa,aa,aa,vB (decide ((opE (Xz f u rows) e k)≠0)),aa,aa,aa,aa,vB (decide (k≠5))]
abbrev Zjc:TV:=.one (dI 0)
abbrev Zjd:List AV:=[pv 0 0,.tv (.agg (Ziz te e)),vI k,aa,pv 2 0,aa,pv 3 0,vI 30,pv 4 0,vI (opE (Xz f u rows) e k),aa,aa,aa,aa,aa,aa,aa,vB (decide ((opE (Xz f u rows) e k)≠0)),aa,aa,aa,aa,vB (decide (k≠5)),aa,aa,aa,aa,aa,aa,aa,aa,aa,aa,aa,vB (!(decide (Yz f e.f_Signer)))]
abbrev Zje:List AV:=[pv 0 0,.tv (.agg (Ziz te e)),vI k,aa,pv 2 0,aa,pv 3 0,vI 30,pv 4 0,vI (opE (Xz f u rows) e k),aa,aa,aa,aa,aa,aa,aa,vB (decide ((opE (Xz f u rows) e k)≠0)),aa,aa,aa,aa,vB false,aa,aa,aa,aa,aa,aa,aa,aa,aa,aa,aa,vB (!(decide (Yz f e.f_Signer)))]
end
theorem Xlh (f:Int) (u:Int) (rows:List (Yg×Bool)) (te:Bool) (e:aE) (k:Int) (hf:0≤f∧f≤2) (hu:0≤u∧u≤8) (hs:-9223372036854775808≤e.f_Signer∧e.f_Signer≤9223372036854775807) (hb:e.Xh.length≤100000000):Holds Tryz.prog 151 ⟨[pv 0 0,.tv (.agg [dI e.f_Signer,.d (dsl te false kU8 e.Xh)]),vI k],[.box 130 [dI (3*f+1),dI u,.mref 1],mpK Xp Yc rows],.tup [.agg [dI (vtV (Xz f u rows) f e k).X0,dI (vtV (Xz f u rows) f e k).Y9,dI (vtV (Xz f u rows) f e k).Xu,dI (vtV (Xz f u rows) f e k).Xr,dI (vtV (Xz f u rows) f e k).W0,dS (vtV (Xz f u rows) f e k).Xe,dU (vtV (Xz f u rows) f e k).Xd,dI (vtV (Xz f u rows) f e k).X3.Y0,dI (vtV (Xz f u rows) f e k).X3.Xq,.d (dsl false false (kE false) (vtV (Xz f u rows) f e k).Xt),.d (dsl false false (kE false) (vtV (Xz f u rows) f e k).Y8),.d (dsl false false (kC false) (vtV (Xz f u rows) f e k).X5)],.one (dI (vtE (Xz f u rows) f e k))],[.live (.box 130 [dI (3*f+1),dI u,.mref 1]),.live (mpK Xp Yc rows)]⟩:=by
 refine Holds.of Tryz.func151 rfl (N:=42) Tryz.ntmps151 rfl fun w0 B0 S0 U0=>?_
 show T _ (Y2 42 2 w0 S0 U0 B0) ⟨[pv 0 0,.tv (.agg (Ziz te e)),vI k],[(Zj0 f u),.live (mpK Xp Yc rows)]⟩ _ _
 refine sR [] (sR [hR 3 rfl rfl (rCa (Xlg f u rows te e k ‹_› ‹_› ‹_› ‹_›) Tryz.func173 [0,1] [(.tmp 11,pv 0 0),(.tmp 12,.tv (.agg (Ziz te e))),(.tmp 13,vI k)] 2 2)] (T.seq (T.block (sR [] ?_))))
 by_cases hq1:(opE (Xz f u rows) e k)≠0
 ·have ho9:=hq1;have hx9:=vt_o (f:=f) ho9
  refine cT (dT hq1) (sR [] (T.ret (rB (rT ?_))))
  refine eN ⟨(Zj1 f u rows te e k),(Zj5 f u rows te e k)⟩ ?_
  refine Xa (s':=⟨(Zj1 f u rows te e k),(Zja f u rows te e k)⟩) (fun _ _ hG=>W1 (s:=⟨(Zj1 f u rows te e k),(Zj5 f u rows te e k)⟩) (kk2 (X1z trivial)) ⟨.inl rfl,pZ27⟩ hG) ?_
  exact eX [.c 6 3 78 0 78 [dI 0,dI 0,dI 0,dI 0,dI 0,dS [],Zj6,dI 0,dI 0,Zj7,Zj7,Zj8] (.agg Zj9),.t 7 (.one (dI (opE (Xz f u rows) e k)))] ⟨⟨rfl,rfl,by kernel_rfl,by kernel_rfl,.inl ⟨12,Up,rfl,Nat.le_of_ble_eq_true rfl⟩⟩,⟨⟨rfl,by kernel_rfl⟩,trivial⟩⟩ [0,1] pa (ix (ix trivial))
 have ho9:¬opE (Xz f u rows) e k≠0:=hq1;have hv9:=op_val ho9;have hbo:=decV_bat e.Xh;rw [← hv9] at hbo;have hbl:=okEs_le hbo
 refine cF (dF hq1) ?_
 by_cases hq2:k≠3
 rotate_left
 ·have hk3:¬(k≠3∧k≠4∧k≠5):=(fun q=>hq2 q.1)
  refine sR [hN 3 true (dF hq2),hN 4 true (dF hq2),hP 5 (dF hq2),hN1 7,hN1 8,hP0 9] (cF (b:=false) rfl (sR [hR 3 rfl rfl (rCa (I6 f u rows e.f_Signer ‹_› ‹_›) Tryz.func79 [0,1] [(.tmp 35,pv 0 0),(.tmp 37,vI e.f_Signer)] 2 2)] ?_))
  by_cases hq7:Yz f e.f_Signer
  ·have hx9:=vt_ok ho9 hk3 hq7
   refine cF (cn (dT hq7)) (T.skip (nB (nT (sR [] (T.ret ?_)))))
   exact eX [.c 6 3 78 0 78 [dI (Zj3 f u rows e k).X0,dI (Zj3 f u rows e k).Y9,dI (Zj3 f u rows e k).Xu,dI (Zj3 f u rows e k).Xr,dI (Zj3 f u rows e k).W0,dS (Zj3 f u rows e k).Xe,dU (Zj3 f u rows e k).Xd,dI (Zj3 f u rows e k).X3.Y0,dI (Zj3 f u rows e k).X3.Xq,.d (dsl false false (kE false) (Zj3 f u rows e k).Xt),.d (dsl false false (kE false) (Zj3 f u rows e k).Y8),.d (dsl false false (kC false) (Zj3 f u rows e k).X5)] (.agg (Zj4 f u rows e k)),.t 7 (Zjc)] ⟨⟨rfl,rfl,by kernel_rfl,by kernel_rfl,.inl ⟨12,Up,rfl,Nat.le_of_ble_eq_true rfl⟩⟩,⟨⟨rfl,by kernel_rfl⟩,trivial⟩⟩ [0,1] pZ6 (ix (ix trivial))
  have hx9:=vt_s ho9 hk3 hq7
  refine cT (cn (dF hq7)) (sR [] (T.ret (rB (rT ?_))))
  refine eN ⟨(Zje f u rows te e k),(Zj5 f u rows te e k)⟩ ?_
  refine Xa (s':=⟨(Zje f u rows te e k),(Zja f u rows te e k)⟩) (fun _ _ hG=>W1 (s:=⟨(Zje f u rows te e k),(Zj5 f u rows te e k)⟩) ⟨.inl rfl,(kk2 (X12 trivial))⟩ ⟨.inl rfl,pZ27⟩ hG) ?_
  exact eX [.c 6 3 78 0 78 [dI 0,dI 0,dI 0,dI 0,dI 0,dS [],Zj6,dI 0,dI 0,Zj7,Zj7,Zj8] (.agg Zj9),.t 7 (.one (dI 30))] ⟨⟨rfl,rfl,by kernel_rfl,by kernel_rfl,.inl ⟨12,Up,rfl,Nat.le_of_ble_eq_true rfl⟩⟩,⟨⟨rfl,by kernel_rfl⟩,trivial⟩⟩ [0,1] pa (ix (ix trivial))
 by_cases hq3:k≠4
 ·refine sR [hY 3 (dT hq2),hY 4 (dT hq2),hP 5 (dT hq2),hY 7 (dT hq3),hY 8 (dT hq3),hP 9 (dT hq3)] ?_
  by_cases hq4:k≠5
  ·have hx9:=vt_k (f:=f) ho9 ‹_› ‹_› hq4
   refine cT (dT hq4) (sR [] (T.ret (rB (rT ?_))))
   refine eN ⟨(Zjb f u rows te e k),(Zj5 f u rows te e k)⟩ ?_
   refine Xa (s':=⟨(Zjb f u rows te e k),(Zja f u rows te e k)⟩) (fun _ _ hG=>W1 (s:=⟨(Zjb f u rows te e k),(Zj5 f u rows te e k)⟩) ⟨.inl rfl,p3v⟩ ⟨.inl rfl,pZ27⟩ hG) ?_
   exact eX [.c 6 3 78 0 78 [dI 0,dI 0,dI 0,dI 0,dI 0,dS [],Zj6,dI 0,dI 0,Zj7,Zj7,Zj8] (.agg Zj9),.t 7 (.one (dI 120))] ⟨⟨rfl,rfl,by kernel_rfl,by kernel_rfl,.inl ⟨12,Up,rfl,Nat.le_of_ble_eq_true rfl⟩⟩,⟨⟨rfl,by kernel_rfl⟩,trivial⟩⟩ [0,1] pa (ix (ix trivial))
  have hk3:¬(k≠3∧k≠4∧k≠5):=(fun q=>hq4 q.2.2)
  refine cF (dF hq4) (sR [hR 3 rfl rfl (rCa (I6 f u rows e.f_Signer ‹_› ‹_›) Tryz.func79 [0,1] [(.tmp 35,pv 0 0),(.tmp 37,vI e.f_Signer)] 2 2)] ?_)
  by_cases hq5:Yz f e.f_Signer
  ·have hx9:=vt_ok ho9 hk3 hq5
   refine cF (cn (dT hq5)) (T.skip (nB (nT (sR [] (T.ret ?_)))))
   exact eX [.c 6 3 78 0 78 [dI (Zj3 f u rows e k).X0,dI (Zj3 f u rows e k).Y9,dI (Zj3 f u rows e k).Xu,dI (Zj3 f u rows e k).Xr,dI (Zj3 f u rows e k).W0,dS (Zj3 f u rows e k).Xe,dU (Zj3 f u rows e k).Xd,dI (Zj3 f u rows e k).X3.Y0,dI (Zj3 f u rows e k).X3.Xq,.d (dsl false false (kE false) (Zj3 f u rows e k).Xt),.d (dsl false false (kE false) (Zj3 f u rows e k).Y8),.d (dsl false false (kC false) (Zj3 f u rows e k).X5)] (.agg (Zj4 f u rows e k)),.t 7 (Zjc)] ⟨⟨rfl,rfl,by kernel_rfl,by kernel_rfl,.inl ⟨12,Up,rfl,Nat.le_of_ble_eq_true rfl⟩⟩,⟨⟨rfl,by kernel_rfl⟩,trivial⟩⟩ [0,1] pZ6 (ix (ix trivial))
  have hx9:=vt_s ho9 hk3 hq5
  refine cT (cn (dF hq5)) (sR [] (T.ret (rB (rT ?_))))
  refine eN ⟨(Zjd f u rows te e k),(Zj5 f u rows te e k)⟩ ?_
  refine Xa (s':=⟨(Zjd f u rows te e k),(Zja f u rows te e k)⟩) (fun _ _ hG=>W1 (s:=⟨(Zjd f u rows te e k),(Zj5 f u rows te e k)⟩) ⟨.inl rfl,(kk2 (X12 trivial))⟩ ⟨.inl rfl,pZ27⟩ hG) ?_
  exact eX [.c 6 3 78 0 78 [dI 0,dI 0,dI 0,dI 0,dI 0,dS [],Zj6,dI 0,dI 0,Zj7,Zj7,Zj8] (.agg Zj9),.t 7 (.one (dI 30))] ⟨⟨rfl,rfl,by kernel_rfl,by kernel_rfl,.inl ⟨12,Up,rfl,Nat.le_of_ble_eq_true rfl⟩⟩,⟨⟨rfl,by kernel_rfl⟩,trivial⟩⟩ [0,1] pa (ix (ix trivial))
 have hk3:¬(k≠3∧k≠4∧k≠5):=(fun q=>hq3 q.2.1)
 refine sR [hY 3 (dT hq2),hY 4 (dT hq2),hP 5 (dT hq2),hN 7 true (dF hq3),hN 8 true (dF hq3),hP 9 (dF hq3)] (cF (b:=false) rfl (sR [hR 3 rfl rfl (rCa (I6 f u rows e.f_Signer ‹_› ‹_›) Tryz.func79 [0,1] [(.tmp 35,pv 0 0),(.tmp 37,vI e.f_Signer)] 2 2)] ?_))
 by_cases hq6:Yz f e.f_Signer
 ·have hx9:=vt_ok ho9 hk3 hq6
  refine cF (cn (dT hq6)) (T.skip (nB (nT (sR [] (T.ret ?_)))))
  exact eX [.c 6 3 78 0 78 [dI (Zj3 f u rows e k).X0,dI (Zj3 f u rows e k).Y9,dI (Zj3 f u rows e k).Xu,dI (Zj3 f u rows e k).Xr,dI (Zj3 f u rows e k).W0,dS (Zj3 f u rows e k).Xe,dU (Zj3 f u rows e k).Xd,dI (Zj3 f u rows e k).X3.Y0,dI (Zj3 f u rows e k).X3.Xq,.d (dsl false false (kE false) (Zj3 f u rows e k).Xt),.d (dsl false false (kE false) (Zj3 f u rows e k).Y8),.d (dsl false false (kC false) (Zj3 f u rows e k).X5)] (.agg (Zj4 f u rows e k)),.t 7 (Zjc)] ⟨⟨rfl,rfl,by kernel_rfl,by kernel_rfl,.inl ⟨12,Up,rfl,Nat.le_of_ble_eq_true rfl⟩⟩,⟨⟨rfl,by kernel_rfl⟩,trivial⟩⟩ [0,1] pZ6 (ix (ix trivial))
 have hx9:=vt_s ho9 hk3 hq6
 refine cT (cn (dF hq6)) (sR [] (T.ret (rB (rT ?_))))
 refine eN ⟨(Zje f u rows te e k),(Zj5 f u rows te e k)⟩ ?_
 refine Xa (s':=⟨(Zje f u rows te e k),(Zja f u rows te e k)⟩) (fun _ _ hG=>W1 (s:=⟨(Zje f u rows te e k),(Zj5 f u rows te e k)⟩) ⟨.inl rfl,(kk2 (X12 trivial))⟩ ⟨.inl rfl,pZ27⟩ hG) ?_
 exact eX [.c 6 3 78 0 78 [dI 0,dI 0,dI 0,dI 0,dI 0,dS [],Zj6,dI 0,dI 0,Zj7,Zj7,Zj8] (.agg Zj9),.t 7 (.one (dI 30))] ⟨⟨rfl,rfl,by kernel_rfl,by kernel_rfl,.inl ⟨12,Up,rfl,Nat.le_of_ble_eq_true rfl⟩⟩,⟨⟨rfl,by kernel_rfl⟩,trivial⟩⟩ [0,1] pa (ix (ix trivial))
section
variable (f:Int) (u:Int) (l:List aE) (e:aE)
end
section
variable (f:Int) (u:Int) (l:List aE) (e:aE) (k:Int)
end
section
variable (f:Int) (u:Int) (rows:List (Yg×Bool)) (tp:Bool) (p:aM) (tc:Bool) (c:aC) (tx:Bool) (nx:Bool) (sx:Bool) (x:List aE) (need:Int) (kind:Int) (k:Nat)
end
section
variable (f:Int) (u:Int) (rows:List (Yg×Bool)) (tc:Bool) (c:aC) (kind:Int) (need:Int)
end
theorem Xi4 (tm:Bool) (m:aM) (s:Int) (fst:Bool) (d:List UInt8) (seq:Int):Holds Tryz.prog 117 ⟨[.tv (.agg [dI m.X0,dI m.Y9,dI m.Xu,dI m.Xr,dI m.W0,dS m.Xe,.d (dsl tm false kU8 m.Xd),dI m.X3.Y0,dI m.X3.Xq,.d (dsl tm false (kE tm) m.Xt),.d (dsl tm false (kE tm) m.Y8),.d (dsl tm false (kC tm) m.X5)]),vI s,pv 0 0,pv 1 0,pv 2 0],[.box 4 [dB fst],.box 60 [dS d],.box 3 [dI seq]],vI (X1v seq (if fst=true then m.Xe else d) m),[.live (.box 4 [dB false]),.live (.box 60 [dS (if fst=true then m.Xe else d)]),.live (.box 3 [dI seq])]⟩:=by
 refine Holds.of Tryz.func117 rfl (N:=21) Tryz.ntmps117 rfl fun w0 B0 S0 U0=>?_
 show T _ (Y2 21 3 w0 S0 U0 B0) ⟨[.tv (.agg [dI m.X0,dI m.Y9,dI m.Xu,dI m.Xr,dI m.W0,dS m.Xe,.d (dsl tm false kU8 m.Xd),dI m.X3.Y0,dI m.X3.Xq,.d (dsl tm false (kE tm) m.Xt),.d (dsl tm false (kE tm) m.Y8),.d (dsl tm false (kC tm) m.X5)]),vI s,pv 0 0,pv 1 0,pv 2 0],[.live (.box 4 [dB fst]),.live (.box 60 [dS d]),.live (.box 3 [dI seq])]⟩ _ _
 refine sR [] (T.seq (sR [] ?_))
 by_cases hq1:fst=true
 ·refine cT hq1 (xK [] (nT (T.seq (T.block (sR [] ?_)))))
  by_cases hq2:m.Xu≠seq
  ·refine cT (dT hq2) (sR [] (T.ret (rB (rT ?_))))
   exact eRt 7 (.one (dI 131)) [0,1,2] p3h (ix ⟨⟨rfl,p2k⟩,(ix trivial)⟩)
  refine cF (dF hq2) (sR [] (cF (show decide (m.Xe≠m.Xe)=false from dF (fun h=>h rfl)) (T.skip (nB (nT (sR [] (T.ret ?_)))))))
  exact eRt 7 (.one (dI 0)) [0,1,2] p3j (ix ⟨⟨rfl,p2k⟩,(ix trivial)⟩)
 replace hq1:=Bool.eq_false_iff.2 hq1
 refine cF hq1 (T.skip (nT (T.seq (T.block (sR [] ?_)))))
 by_cases hq3:m.Xu≠seq
 ·refine cT (dT hq3) (sR [] (T.ret (rB (rT ?_))))
  exact eRt 7 (.one (dI 131)) [0,1,2] p3h ⟨⟨rfl,p1s⟩,⟨⟨rfl,p1e⟩,(ix trivial)⟩⟩
 refine cF (dF hq3) (sR [] ?_)
 by_cases hq4:m.Xe≠d
 ·refine cT (dT hq4) (sR [] (T.ret (rB (rT ?_))))
  exact eRt 7 (.one (dI 132)) [0,1,2] (by have e1:((X1v seq (if fst=true then m.Xe else d) m):Int)=132:=(by (simp [X1v, *];done));have hE:=cI e1;exact hE) ⟨⟨rfl,p1s⟩,⟨⟨rfl,p1e⟩,(ix trivial)⟩⟩
 refine cF (dF hq4) (T.skip (nB (nT (sR [] (T.ret ?_)))))
 exact eRt 7 (.one (dI 0)) [0,1,2] p3j ⟨⟨rfl,p1s⟩,⟨⟨rfl,p1e⟩,(ix trivial)⟩⟩
section
variable (f:Int) (u:Int) (rows:List (Yg×Bool)) (seq:Int) (tx:Bool) (nx:Bool) (sx:Bool) (x:List aE) (need:Int) (k:Nat)
abbrev Zl4:HS:=.live (.box 130 [dI (3*f+1),dI u,.mref 1])
abbrev Zl5:HS:=.live (mpK Xp Yc rows)
abbrev Zl6:HS:=.live (.box 3 [dI seq])
abbrev Zl7:List AV:=[pv 0 0,slV tx nx (kE sx) x,vI 5,vI need,sv (.clo 117 [2,3,4]),aa,aa,aa,aa,aa,aa,sv (.mref 5),aa,aa,aa,aa,aa,slV tx nx (kE sx) x,vI ((x.length:Nat):Int),vI ((k:Nat):Int)]
abbrev Zl9:=(vtV (Xz f u rows) f (x.getD k zE) 5)
abbrev Zla:AV:=vI (x.getD k zE).f_Signer
end
theorem Xga (f:Int) (u:Int) (rows:List (Yg×Bool)) (tx:Bool) (nx:Bool) (sx:Bool) (x:List aE) (need:Int) (seq:Int) (hf:0≤f∧f≤2) (hu:0≤u∧u≤8) (hx:X1t x):Holds Tryz.prog 116 ⟨[pv 0 0,slV tx nx (kE sx) x,vI 5,vI need,sv (.clo 117 [2,3,4])],[.box 130 [dI (3*f+1),dI u,.mref 1],mpK Xp Yc rows,.box 4 [dB true],.box 60 [dS []],.box 3 [dI seq]],vI (X3p (gS (Xz f u rows) f seq (Hq x)) x need),[.live (.box 130 [dI (3*f+1),dI u,.mref 1]),.live (mpK Xp Yc rows),.live (.box 4 [dB (fstF (Xz f u rows) f x)]),.live (.box 60 [dS (X9z (Xz f u rows) f x)]),.live (.box 3 [dI seq])]⟩:=by
 refine Holds.of Tryz.func116 rfl (N:=56) Tryz.ntmps116 rfl fun w0 B0 S0 U0=>?_
 show T _ (Y2 56 5 w0 S0 U0 B0) ⟨[pv 0 0,slV tx nx (kE sx) x,vI 5,vI need,sv (.clo 117 [2,3,4])],[(Zl4 f u),(Zl5 rows),.live (.box 4 [dB true]),.live (.box 60 [dS []]),(Zl6 seq)]⟩ _ _
 have hx1:=hx.1
 refine sR [] (sR [hR 0 rfl rfl (Xbi 5 (fInt .i64) Yc (X2 rfl))] (T.seq (sR [] (T.block ?_))))
 refine T.loop (ι:=Nat) (fun (k:Nat)=>⟨(Zl7 tx nx sx x need k),[(Zl4 f u),(Zl5 rows),.live (.box 4 [dB (X15 k)]),.live (.box 60 [dS (X16 x k)]),(Zl6 seq),.live (mpK (fInt .i64) Yc (Ea x k))]⟩) (fun (k:Nat)=>(k≤x.length)∧(∀ i,i<k→X33 (gS (Xz f u rows) f seq (Hq x)) x i=0)) (fun (k:Nat)=>x.length-k) (0) ⟨(Nat.zero_le _),(fun j hj=>absurd hj (Nat.not_lt_zero _))⟩ (fun _ _ hG=>Yu [0,1,2,3,4,5] (bm 20 919583) (h2:=[(Zl4 f u),(Zl5 rows),.live (.box 4 [dB true]),.live (.box 60 [dS []]),(Zl6 seq),.live (mpK (fInt .i64) Yc ([]:List (Int×Bool)))]) rfl (cg3 (fun (q1:Bool) (q2:List UInt8) (q3:List (Int×Bool))=>([(Zl4 f u),(Zl5 rows),.live (.box 4 [dB q1]),.live (.box 60 [dS q2]),(Zl6 seq),.live (mpK (fInt .i64) Yc q3)]:List HS)) (by rfl) (by rfl) (by rfl)) hG) ?_
 rintro k ⟨hk,hb⟩
 show T _ _ ⟨(Zl7 tx nx sx x need k),[(Zl4 f u),(Zl5 rows),.live (.box 4 [dB (X15 k)]),.live (.box 60 [dS (X16 x k)]),(Zl6 seq),.live (mpK (fInt .i64) Yc (Ea x k))]⟩ _ _
 replace hk:k≤x.length:=hk
 replace hb:∀ i,i<k→X33 (gS (Xz f u rows) f seq (Hq x)) x i=0:=hb
 refine sR [] (T.seq ?_)
 by_cases hq1:((k:Nat):Int)<((x.length:Nat):Int)
 rotate_left
 ·have hz9:=tly_0 (g:=gS (Xz f u rows) f seq (Hq x)) need hb (by omega);have hda:=dig_at hb hk (.inl (by omega))
  refine cF (dF hq1) (T.exit (xT (xT (xH (nT (T.seq (sR [] ?_)))))))
  by_cases hq8:((x.length:Nat):Int)<need
  ·refine cT (dT hq8) (sR [] (T.ret (rT ?_)))
   exact eRt 10 (.one (dI 32)) [0,1,2,3,4] (by have e1:((X3p (gS (Xz f u rows) f seq (Hq x)) x need):Int)=32:=(by (rw [hz9,if_pos ‹_›]));have hE:=cI e1;exact hE) (ix (ix ⟨⟨rfl,p1m⟩,⟨⟨rfl,p1i⟩,(ix trivial)⟩⟩))
  refine cF (dF hq8) (T.skip (nT (sR [] (T.ret ?_))))
  exact eRt 10 (.one (dI 0)) [0,1,2,3,4] (by have e1:((X3p (gS (Xz f u rows) f seq (Hq x)) x need):Int)=0:=(by (rw [hz9,if_neg ‹_›]));have hE:=cI e1;exact hE) (ix (ix ⟨⟨rfl,p1m⟩,⟨⟨rfl,p1i⟩,(ix trivial)⟩⟩))
 have hgk:=Xf1 hx (k:=k) (by omega);have hgk1:=hgk.1.1;have hgk2:=hgk.1.2;have hgk3:=hgk.2
 refine cT (dT hq1) (T.skip (nT (T.seq (T.block (sR [hR 0 rfl rfl (Wi tx nx (kE sx) x k (k:=.i64) (i:=((k:Nat):Int)) Tryz.underlying37 Vv rfl rfl (by omega) (X2 rfl) trivial)] (sR [hR 3 rfl rfl (rCa (Xlh f u rows sx (x.getD k zE) 5 ‹_› ‹_› (by omega) (by omega)) Tryz.func151 [0,1] [(.tmp 24,pv 0 0),(.tmp 25,.tv (.agg [dI (x.getD k zE).f_Signer,.d (dsl sx false kU8 (x.getD k zE).Xh)])),(.tmp 26,vI 5)] 2 2)] (T.seq (sR [] ?_))))))))
 by_cases hq2:(vtE (Xz f u rows) f (x.getD k zE) 5)=0
 rotate_left
 ·have hg9:=gS_1 (seq:=seq) (d:=Hq x) hq2;have hda:=dig_at hb (by omega) (.inr hq2)
  refine cF (dF hq2) (T.skip (nT (T.seq (sR (Xl (hN · true (dF hq2)) [3,4,5,6] (hP 7 (dF hq2)::[])) (cF (b:=false) rfl (T.skip (nT (T.seq (sR [] ?_)))))))))
  by_cases hq7:(vtE (Xz f u rows) f (x.getD k zE) 5)≠0
  ·have hz9:=Xgt (g:=gS (Xz f u rows) f seq (Hq x)) need hb ((vot_1 (by rw [hg9];exact hq7)).trans hg9) hq7 (by omega)
   refine cT (dT hq7) (sR [] (T.ret (rT (rB (rT (rT (rB (rT ?_))))))))
   exact eRt 10 (.one (dI (vtE (Xz f u rows) f (x.getD k zE) 5))) [0,1,2,3,4] p3d (ix (ix ⟨⟨rfl,p1m⟩,⟨⟨rfl,p1i⟩,(ix trivial)⟩⟩))
  exact absurd hq2 hq7
 have hv9:¬vtE (Xz f u rows) f (x.getD k zE) 5≠0:=(fun q=>q hq2);have hdn:=dig_next hb (by omega) hv9;have hg9:gS (Xz f u rows) f seq (Hq x) (x.getD k zE)=X1v seq (if X15 k=true then (vtV (Xz f u rows) f (x.getD k zE) 5).Xe else X16 x k) (vtV (Xz f u rows) f (x.getD k zE) 5):=((gS_2 hv9).trans (by rw [← hdn.1];rfl))
 refine cT (dT hq2) ?_
 refine xK [hR 4 rfl rfl (Xcq (ls:=[2,3,4]) (Xi4 false (vtV (Xz f u rows) f (x.getD k zE) 5) (x.getD k zE).f_Signer (X15 k) (X16 x k) seq ) Tryz.func117 rfl (by decide) [2,3,4] [] (l:=[(.tmp 33,.tv (.agg [dI (Zl9 f u rows x k).X0,dI (Zl9 f u rows x k).Y9,dI (Zl9 f u rows x k).Xu,dI (Zl9 f u rows x k).Xr,dI (Zl9 f u rows x k).W0,dS (Zl9 f u rows x k).Xe,dU (Zl9 f u rows x k).Xd,dI (Zl9 f u rows x k).X3.Y0,dI (Zl9 f u rows x k).X3.Xq,.d (dsl false false (kE false) (Zl9 f u rows x k).Xt),.d (dsl false false (kE false) (Zl9 f u rows x k).Y8),.d (dsl false false (kC false) (Zl9 f u rows x k).X5)])),(.tmp 35,(Zla x k))]) [] rfl 3 3 rfl rfl rfl rfl rfl rfl rfl rfl rfl ⟨⟨.inl ⟨rfl,rfl⟩,⟨.inl ⟨rfl,rfl⟩,⟨.inl ⟨rfl,rfl⟩,⟨.inl ⟨rfl,rfl⟩,⟨.inl ⟨rfl,rfl⟩,⟨.inl ⟨rfl,rfl⟩,⟨.inl ⟨rfl,rfl⟩,⟨.inl ⟨rfl,rfl⟩,⟨.inl ⟨rfl,rfl⟩,⟨.inl ⟨rfl,rfl⟩,⟨.inl ⟨rfl,rfl⟩,⟨.inl ⟨rfl,rfl⟩,trivial⟩⟩⟩⟩⟩⟩⟩⟩⟩⟩⟩⟩,⟨.inl ⟨rfl,rfl⟩,⟨.inl ⟨rfl,rfl⟩,⟨.inl ⟨rfl,rfl⟩,⟨.inl ⟨rfl,rfl⟩,trivial⟩⟩⟩⟩⟩ rfl p3k (.inl rfl) (X2 rfl) trivial)] ?_
 refine nT (T.seq ?_)
 by_cases hq3:(X1v seq (if (X15 k)=true then (vtV (Xz f u rows) f (x.getD k zE) 5).Xe else (X16 x k)) (vtV (Xz f u rows) f (x.getD k zE) 5))=0
 ·have hn9:¬(gS (Xz f u rows) f seq (Hq x)) (x.getD k zE)≠0:=(by rw [hg9];exact fun q=>q hq3)
  refine sR (Xl (hY · (dT hq3)) [3,4,5] (hS 6 (oY rfl rfl rfl rfl (X2 rfl) (dT hq3) (r_lookup 5 (Ea x k) (x.getD k zE).f_Signer (.one (dB (mget (Ea x k) (x.getD k zE).f_Signer false))) (ak:=(Zla x k)) (kd:=Yc) Tryz.underlying201 (Xf7 Tryz.underlying3) rfl Xif ⟨.inl rfl,trivial⟩ rfl (X2 rfl) p1h))::(hP 7 (dT hq3)::[]))) ?_
  by_cases hq4:(mget (Ea x k) (x.getD k zE).f_Signer false)=true
  ·have ht9:=(X8j (l:=x) (k:=k) (by omega)).1 hq4;have hz9:=Xgt (g:=gS (Xz f u rows) f seq (Hq x)) need hb (vot_2 hn9 ht9) (by decide) (by omega)
   refine cT hq4 (xK [] (nT (T.seq (sR [] (cT (b:=true) rfl (sR [] (T.ret (rT (rB (rT (rT (rB (rT ?_)))))))))))))
   exact eRt 10 (.one (dI 33)) [0,1,2,3,4] p3d (ix (ix ⟨⟨rfl,p2x⟩,⟨⟨rfl,pZ21⟩,(ix trivial)⟩⟩))
  have ht9:¬X0d x k:=(fun q=>absurd ((X8j (by omega)).2 q) ‹_›)
  replace hq4:=Bool.eq_false_iff.2 hq4
  refine cF hq4 (T.skip (nT (T.seq (sR [] ?_))))
  by_cases hq5:(X1v seq (if (X15 k)=true then (vtV (Xz f u rows) f (x.getD k zE) 5).Xe else (X16 x k)) (vtV (Xz f u rows) f (x.getD k zE) 5))≠0
  ·exact absurd hq3 hq5
  refine cF (dF hq5) (T.skip (nT (xK [hR 3 rfl rfl (X6r 5 (Ea x k) (x.getD k zE).f_Signer true (kd:=Yc) (ak:=(Zla x k)) (tv:=.one (dB true)) Tryz.underlying201 (Xf7 Tryz.underlying3) rfl rfl ⟨.inl rfl,trivial⟩ ⟨rfl,trivial⟩)] (nB (nT (xK [hR 0 rfl rfl (Yb (u1:=.int .i64 ((k:Nat):Int)) (u2:=.int .i64 1) (v:=.int .i64 ((k+1:Nat):Int)) (Wb pZ9) (X2 rfl) ⟨rfl,trivial⟩)] ?_))))))
  refine nL (k+1) ⟨(show (k+1)≤x.length from (by omega)),(show ∀ i,i<(k+1)→X33 (gS (Xz f u rows) f seq (Hq x)) x i=0 from (Im hb (vot_3 hn9 ht9)))⟩ (show (x.length-(k+1):Nat)<x.length-k from (by omega)) (fun _ _ hG=>Yu [0,1,2,3,4,5] (bm 20 919583) (h2:=[(Zl4 f u),(Zl5 rows),.live (.box 4 [dB false]),.live (.box 60 [dS (if (X15 k)=true then (Zl9 f u rows x k).Xe else (X16 x k))]),(Zl6 seq),.live (mpK (fInt .i64) Yc (mput (Ea x k) (x.getD k zE).f_Signer true))]) rfl (by have e1:((X15 (k+1)):Bool)=false:=(by rfl);have e2:((X16 x (k+1)):List UInt8)=(if (X15 k)=true then (vtV (Xz f u rows) f (x.getD k zE) 5).Xe else (X16 x k)):=(by exact (hdn.1.trans hdn.2.2.2.1.symm).symm);have e3:((Ea x (k+1)):List (Int×Bool))=(mput (Ea x k) (x.getD k zE).f_Signer true):=(by (rw [Xba (by omega)]));have hE:=congr (congr (congrArg (fun (q1:Bool) (q2:List UInt8) (q3:List (Int×Bool))=>([(Zl4 f u),(Zl5 rows),.live (.box 4 [dB q1]),.live (.box 60 [dS q2]),(Zl6 seq),.live (mpK (fInt .i64) Yc q3)]:List HS)) e1) e2) e3;exact hE) hG)
 refine sR (Xl (hN · true (dF hq3)) [3,4,5,6] (hP 7 (dF hq3)::[])) (cF (b:=false) rfl (T.skip (nT (T.seq (sR [] ?_)))))
 by_cases hq6:(X1v seq (if (X15 k)=true then (vtV (Xz f u rows) f (x.getD k zE) 5).Xe else (X16 x k)) (vtV (Xz f u rows) f (x.getD k zE) 5))≠0
 ·have hz9:=Xgt (g:=gS (Xz f u rows) f seq (Hq x)) need hb ((vot_1 (by rw [hg9];exact hq6)).trans hg9) hq6 (by omega)
  refine cT (dT hq6) (sR [] (T.ret (rT (rB (rT (rT (rB (rT ?_))))))))
  exact eRt 10 (.one (dI (X1v seq (if (X15 k)=true then (Zl9 f u rows x k).Xe else (X16 x k)) (Zl9 f u rows x k)))) [0,1,2,3,4] p3d (ix (ix ⟨⟨rfl,p2x⟩,⟨⟨rfl,pZ21⟩,(ix trivial)⟩⟩))
 exact absurd hq3 hq6
abbrev Zlc:TV:=.one (dS [])
theorem Xgb (f:Int) (u:Int) (rows:List (Yg×Bool)) (seq:Int) (tx:Bool) (nx:Bool) (sx:Bool) (x:List aE) (hf:0≤f∧f≤2) (hu:0≤u∧u≤8) (hx:X1t x):Holds Tryz.prog 59 ⟨[pv 0 0,vI seq,slV tx nx (kE sx) x],[.box 130 [dI (3*f+1),dI u,.mref 1],mpK Xp Yc rows],.tup [.one (dS (stD (Xz f u rows) f seq x)),.one (dI (stE (Xz f u rows) f seq x))],[.live (.box 130 [dI (3*f+1),dI u,.mref 1]),.live (mpK Xp Yc rows)]⟩:=by
 refine Holds.of Tryz.func59 rfl (N:=25) Tryz.ntmps59 rfl fun w0 B0 S0 U0=>?_
 show T _ (Y2 25 2 w0 S0 U0 B0) ⟨[pv 0 0,vI seq,slV tx nx (kE sx) x],[.live (.box 130 [dI (3*f+1),dI u,.mref 1]),.live (mpK Xp Yc rows)]⟩ _ _
 refine sR [] (T.seq (sR [] ?_))
 by_cases hq1:seq=0
 ·refine cT (dT hq1) (T.seq (sR [] ?_))
  by_cases hq2:((x.length:Nat):Int)>0
  ·have hx9:=st_0 (C:=(Xz f u rows)) (f:=f) ‹_› hq2
   refine cT (dT hq2) (sR [] (T.ret (rT (rT ?_))))
   exact eX [.c 6 3 60 0 60 [dS []] (Zlc),.t 7 (.one (dI 120))] ⟨⟨rfl,rfl,by kernel_rfl,by kernel_rfl,.inr ⟨X2l,_,rfl,rfl⟩⟩,⟨⟨rfl,by kernel_rfl⟩,trivial⟩⟩ [0,1] (cg2 (fun (q1:List UInt8) (q2:Int)=>(.tup [.one (dS q1),.one (dI q2)]:AV)) p3u (by exact hx9.2)) (ix (ix trivial))
  have hx9:=st_1 (C:=(Xz f u rows)) (f:=f) ‹_› hq2
  refine cF (dF hq2) (T.skip (nT (sR [] (T.ret (rT ?_)))))
  exact eX [.c 6 3 60 0 60 [dS []] (Zlc),.t 7 (.one (dI 0))] ⟨⟨rfl,rfl,by kernel_rfl,by kernel_rfl,.inr ⟨X2l,_,rfl,rfl⟩⟩,⟨⟨rfl,by kernel_rfl⟩,trivial⟩⟩ [0,1] (cg2 (fun (q1:List UInt8) (q2:Int)=>(.tup [.one (dS q1),.one (dI q2)]:AV)) p3u (by exact hx9.2)) (ix (ix trivial))
 have hs0:=hq1
 refine cF (dF hq1) (T.skip (nT (sR [] (sR [hR 3 rfl rfl (rCa (X5h f u rows ‹_› ‹_›) Tryz.func33 [0,1] [(.tmp 16,pv 0 0)] 2 2),hR 4 rfl rfl (X3h (k:=.i64) (a:=1) (b:=2*f+1) (X2 rfl) ⟨rfl,trivial⟩),hR 5 rfl rfl (Xbj (f:=117) (ls:=[(.tmp 8,4),(.tmp 6,3),(.tmp 4,2)]) rfl (X2 rfl) trivial),hR 6 rfl rfl (rCa (Xga f u rows tx nx sx x (max 1 (2*f+1)) seq ‹_› ‹_› ‹_›) Tryz.func116 [0,1,4,3,2] [(.tmp 14,pv 0 0),(.tmp 15,slV tx nx (kE sx) x),(.const (.int .i64 5),vI 5),(.tmp 18,vI (max 1 (2*f+1))),(.tmp 19,sv (.clo 117 [4,3,2]))] 5 5)] (T.seq (sR [] ?_))))))
 by_cases hq3:(X3p (gS (Xz f u rows) f seq (Hq x)) x (max 1 (2*f+1)))≠0
 ·have hx9:=st_t hs0 rfl hq3
  refine cT (dT hq3) (sR [] (T.ret (rT ?_)))
  exact eX [.c 6 3 60 0 60 [dS []] (Zlc),.t 7 (.one (dI (X3p (gS (Xz f u rows) f seq (Hq x)) x (max 1 (2*f+1)))))] ⟨⟨rfl,rfl,by kernel_rfl,by kernel_rfl,.inr ⟨X2l,_,rfl,rfl⟩⟩,⟨⟨rfl,by kernel_rfl⟩,trivial⟩⟩ [0,1] (cg2 (fun (q1:List UInt8) (q2:Int)=>(.tup [.one (dS q1),.one (dI q2)]:AV)) p3u (by exact hx9.2)) (ix (ix trivial))
 have hx9:=st_ok hs0 (Classical.not_not.1 hq3)
 refine cF (dF hq3) (T.skip (nT (sR [] (T.ret ?_))))
 exact eX [.c 6 3 60 0 60 [dS (X9z (Xz f u rows) f x)] (.one (dS (X9z (Xz f u rows) f x))),.t 7 (.one (dI 0))] ⟨⟨rfl,rfl,by kernel_rfl,by kernel_rfl,.inr ⟨X2l,_,rfl,rfl⟩⟩,⟨⟨rfl,by kernel_rfl⟩,trivial⟩⟩ [0,1] (cg2 (fun (q1:List UInt8) (q2:Int)=>(.tup [.one (dS q1),.one (dI q2)]:AV)) p3u p4j) (ix (ix trivial))
section
variable (f:Int) (u:Int) (l:List aE) (seq:Int) (x:List aE) (k:Nat)
end
end Go.Proofs.YtnaopgohccacmaaGreat.Q
namespace Go.Proofs.YtnaopgohccacmaaGreat.Q
open Go Go.RowKit
set_option linter.unusedVariables false
section
variable (f:Int) (u:Int) (l:List aE) (c:aC) (kind:Int) (need:Int) (k:Nat)
end
end Go.Proofs.YtnaopgohccacmaaGreat.Q
