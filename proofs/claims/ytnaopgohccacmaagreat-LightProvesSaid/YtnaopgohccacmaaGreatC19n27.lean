import Derived.Test.YtnaopgohccacmaaGreatC19n23
namespace Go.Proofs.YtnaopgohccacmaaGreat.Q
open Go Go.RowKit
set_option linter.unusedVariables false
set_option linter.unusedSimpArgs false
set_option maxRecDepth 100000
set_option maxHeartbeats 4000000
theorem cells_60:Cells Tryz.prog 60 1:=⟨_,iat_60,rfl⟩
section
variable (tb:Bool) (nb:Bool) (b:List UInt8) (j:Nat)
abbrev Zbg:List AV:=[slV tb nb kU8 b,aa,pv 0 0,vI 11,aa,aa,aa,aa,aa,aa,aa,vB (decide (((b.length:Nat):Int)>16777216))]
abbrev Zbh:SV:=.d (.val (.slice none 0 0))
abbrev Zbi:HS:=.live (.box 78 [dI 0,dI 0,dI 0,dI 0,dI 0,dS [],Zbh,dI 0,dI 0,Zbh,Zbh,Zbh])
abbrev Zbj:SV:=dU ([]:List UInt8)
abbrev Zbk:SV:=.d (dsl false false (kE false) ([]:List aE))
abbrev Zbl:SV:=.d (dsl false false (kC false) ([]:List aC))
abbrev Zbm:List SV:=[dI 0,dI 0,dI 0,dI 0,dI 0,dS [],Zbj,dI 0,dI 0,Zbk,Zbk,Zbl]
abbrev Zbn:AV:=vB (decide (okK (rdI b 0)))
abbrev Zbo:List AV:=[slV tb nb kU8 b,aa,pv 0 0,vI 0,pv 2 0,pv 3 0,pv 4 0,(Zbn b),vI 1,aa,aa,vB (decide (((b.length:Nat):Int)>16777216))]
abbrev Zbp:HS:=.live (.box 195 [dU (rdR b 0 8 0),dI (rdE b 0 8 0)])
abbrev Zbq:HS:=.live (.box 240 [.ptr 1 0])
abbrev Zbr:HS:=.live (.box 242 [dI (Yi (rdI b 0)).Vy,dI (Yi (rdI b 0)).Wt,dI (Yi (rdI b 0)).V7,dI (Yi (rdI b 0)).Vs])
abbrev Zbs:List HS:=[Zbi,(Zbp b),Zbq,.live (.box 78 [dI (rdI b 0),dI 0,dI 0,dI 0,dI 0,dS [],Zbh,dI 0,dI 0,Zbh,Zbh,Zbh]),(Zbr b)]
abbrev Zbt:HS:=.live (.box 78 [dI (rdI b 0),dI 0,dI 0,dI 0,dI 0,dS [],Zbj,dI 0,dI 0,Zbk,Zbk,Zbl])
abbrev Zbu:AV:=vI ((2 ^ j:Nat):Int)
abbrev Zbv:HS:=.live (.box 240 [.ptr 2 0])
abbrev Zbw:=(Xv ((b.length:Nat):Int) 16777216 (rdR b 0 8 0) (rdE b 0 8 0) (rdI b 0) j)
abbrev Zbx:SV:=dI (Zbw b j).m.X1
abbrev Zby:SV:=dI (Zbw b j).m.Y1
abbrev Zbz:SV:=dI (Zbw b j).m.Xs
abbrev Zc0:SV:=dI (Zbw b j).m.Xh
abbrev Zc1:SV:=dI (Zbw b j).m.Yh
abbrev Zc2:SV:=dS (Zbw b j).m.X9
abbrev Zc3:SV:=dU (Zbw b j).m.Xc
abbrev Zc4:SV:=dI (Zbw b j).m.X0.Xt
abbrev Zc5:SV:=dI (Zbw b j).m.X0.Xn
abbrev Zc6:SV:=.d (dsl false false (kE false) (Zbw b j).m.Xp)
abbrev Zc7:SV:=.d (dsl false false (kE false) (Zbw b j).m.Y4)
abbrev Zc8:SV:=.d (dsl false false (kC false) (Zbw b j).m.X6)
abbrev Zc9:List SV:=[(Zbx b j),(Zby b j),(Zbz b j),(Zc0 b j),(Zc1 b j),(Zc2 b j),(Zc3 b j),(Zc4 b j),(Zc5 b j),(Zc6 b j),(Zc7 b j),(Zc8 b j)]
abbrev Zca:List HS:=[Zbi,Zbv,.live (.box 195 [dU (Zbw b j).rest,dI (Zbw b j).e]),.live (.box 78 (Zc9 b j)),(Zbr b)]
abbrev Zcb:=(Xv ((b.length:Nat):Int) 16777216 (rdR b 0 8 0) (rdE b 0 8 0) (rdI b 0) 0)
abbrev Zcc:HS:=.live (.box 195 [dU (Zcb b).rest,dI (Zcb b).e])
abbrev Zcd:HS:=.live (.box 78 [dI (Zcb b).m.X1,dI (Zcb b).m.Y1,dI (Zcb b).m.Xs,dI (Zcb b).m.Xh,dI (Zcb b).m.Yh,dS (Zcb b).m.X9,dU (Zcb b).m.Xc,dI (Zcb b).m.X0.Xt,dI (Zcb b).m.X0.Xn,.d (dsl false false (kE false) (Zcb b).m.Xp),.d (dsl false false (kE false) (Zcb b).m.Y4),.d (dsl false false (kC false) (Zcb b).m.X6)])
abbrev Zci:List AV:=[slV tb nb kU8 b,aa,pv 0 0,aa,pv 1 0,pv 3 0,pv 4 0,(Zbn b),vI (((2 ^ j)*2 ^ 1:Nat):Int)]
abbrev Zcj:=(rdR (Zbw b j).rest (Zbw b j).e 8 0)
abbrev Zck:=(rdE (Zbw b j).rest (Zbw b j).e 8 0)
abbrev Zcl:SV:=dI (rdI (Zbw b j).rest (Zbw b j).e)
abbrev Zcm:HS:=.live (.box 195 [dU (rdR (Zcj b j) (Zck b j) 8 0),dI (rdE (Zcj b j) (Zck b j) 8 0)])
abbrev Zcn:=(rdY (Zbw b j).rest (Zbw b j).e ((b.length:Nat):Int))
abbrev Zco:List AV:=[slV tb nb kU8 b,aa,pv 0 0,aa,pv 1 0,pv 3 0,pv 4 0,(Zbn b),(Zbu j),aa,aa,aa,aa,aa,aa,aa,aa,aa,aa,aa,aa,aa,aa,aa,aa,aa,aa,aa,aa,(Zbn b),aa,aa,aa,aa,aa,aa,vB (decide ((I3 (Yi (rdI b 0)).Vy ((2 ^ j:Nat):Int))=0)),(Zbu j),vB (decide (((2 ^ j:Nat):Int)=1)),aa,aa,aa,aa,vB (decide (((2 ^ j:Nat):Int)=2)),aa,aa,aa,aa,vB (decide (((2 ^ j:Nat):Int)=4)),aa,aa,aa,aa,aa,aa,aa,vB (decide (((2 ^ j:Nat):Int)=8))]
abbrev Zcp:HS:=.live (.box 195 [dU (Vt (Zbw b j).rest (Zbw b j).e ((b.length:Nat):Int)),dI (V3 (Zbw b j).rest (Zbw b j).e ((b.length:Nat):Int))])
abbrev Zcq:HS:=.live (.box 78 [(Zbx b j),(Zby b j),(Zbz b j),(Zc0 b j),(Zc1 b j),dS (Zcn b j),(Zc3 b j),(Zc4 b j),(Zc5 b j),(Zc6 b j),(Zc7 b j),(Zc8 b j)])
abbrev Zcr:List AV:=[slV tb nb kU8 b,aa,pv 0 0,aa,pv 1 0,pv 3 0,pv 4 0,(Zbn b),(Zbu j),aa,aa,aa,aa,aa,aa,aa,aa,aa,aa,aa,aa,aa,aa,aa,aa,aa,aa,aa,aa,(Zbn b),aa,aa,aa,aa,aa,aa,vB (decide ((I3 (Yi (rdI b 0)).Vy ((2 ^ j:Nat):Int))=0)),(Zbu j),vB (decide (((2 ^ j:Nat):Int)=1)),aa,aa,aa,aa,vB (decide (((2 ^ j:Nat):Int)=2)),aa,aa,aa,aa,vB (decide (((2 ^ j:Nat):Int)=4)),aa,aa,aa,aa,aa,aa,aa,vB (decide (((2 ^ j:Nat):Int)=8)),aa,aa,aa,aa,aa,aa,aa,aa,vB (decide (((2 ^ j:Nat):Int)=16))]
abbrev Zcs:List HS:=[Zbi,Zbv,(Zcp b j),.live (.box 78 [(Zbx b j),(Zby b j),(Zbz b j),(Zc0 b j),(Zc1 b j),(Zc2 b j),.own 5 kU8.sz 0 (Zcn b j).length,(Zc4 b j),(Zc5 b j),(Zc6 b j),(Zc7 b j),(Zc8 b j)]),(Zbr b),.live (Xf 5 kU8 (Zcn b j))]
abbrev Zct:HS:=.live (.box 78 [(Zbx b j),(Zby b j),(Zbz b j),(Zc0 b j),(Zc1 b j),(Zc2 b j),dU (Zcn b j),(Zc4 b j),(Zc5 b j),(Zc6 b j),(Zc7 b j),(Zc8 b j)])
abbrev Zcu:=(Up 16777216 (Zbw b j).rest (Zbw b j).e)
abbrev Zcv:=(Ey 16777216 (Zbw b j).rest (Zbw b j).e)
abbrev Zcw:List AV:=[slV tb nb kU8 b,aa,pv 0 0,vI 12,pv 1 0,pv 3 0,pv 4 0,(Zbn b),(Zbu j),aa,aa,aa,aa,aa,aa,aa,aa,aa,aa,aa,aa,aa,aa,aa,aa,aa,aa,aa,aa,(Zbn b),aa,aa,aa,aa,aa,aa,aa,aa,aa,aa,aa,aa,aa,aa,aa,aa,aa,aa,aa,aa,aa,aa,aa,aa,aa,aa,aa,aa,aa,aa,aa,aa,aa,aa,aa,aa,aa,aa,aa,aa,aa,aa,aa,aa,aa,aa,aa,aa,aa,aa,aa,aa,aa,aa,aa,aa,aa,aa,aa,aa,aa,aa,aa,aa,aa,aa,aa,aa,aa,aa,aa,aa,aa,aa,aa,aa,aa,aa,aa,aa,aa,aa,aa,vB true]
abbrev Zcx:HS:=.live (.box 195 [dU (Zbw b j).rest,dI (rdX (Zbw b j).rest (Zbw b j).e)])
abbrev Zcy:List HS:=[Zbi,Zbv,(Zcx b j),.live (.box 78 (Zc9 b j)),(Zbr b)]
abbrev Zcz:List HS:=[.live (.box 78 Zbm),Zbv,(Zcx b j),.live (.box 78 (Zc9 b j)),(Zbr b)]
abbrev Zd0:TV:=.one (dI 12)
abbrev Zd1:List AV:=[slV tb nb kU8 b,aa,pv 0 0,vI 12,pv 1 0,pv 3 0,pv 4 0,(Zbn b),(Zbu j),aa,aa,aa,aa,aa,aa,aa,aa,aa,aa,aa,aa,aa,aa,aa,aa,aa,aa,aa,aa,vB false,aa,aa,aa,aa,aa,aa,aa,aa,aa,aa,aa,aa,aa,aa,aa,aa,aa,aa,aa,aa,aa,aa,aa,aa,aa,aa,aa,aa,aa,aa,aa,aa,aa,aa,aa,aa,aa,aa,aa,aa,aa,aa,aa,aa,aa,aa,aa,aa,aa,aa,aa,aa,aa,aa,aa,aa,aa,aa,aa,aa,aa,aa,aa,aa,aa,aa,aa,aa,aa,aa,aa,aa,aa,aa,aa,aa,aa,aa,aa,aa,aa,aa,aa,vB true]
abbrev Zd2:List AV:=[slV tb nb kU8 b,aa,pv 0 0,vI 12,pv 1 0,pv 3 0,pv 4 0,(Zbn b),(Zbu j),aa,aa,aa,aa,aa,aa,aa,aa,aa,aa,aa,aa,aa,aa,aa,aa,aa,aa,aa,aa,vB false,aa,aa,aa,aa,aa,aa,aa,aa,aa,aa,aa,aa,aa,aa,aa,aa,aa,aa,aa,aa,aa,aa,aa,aa,aa,aa,aa,aa,aa,aa,aa,aa,aa,aa,aa,aa,aa,aa,aa,aa,aa,aa,aa,aa,aa,aa,aa,aa,aa,aa,aa,aa,aa,aa,aa,aa,aa,aa,aa,aa,aa,aa,aa,aa,aa,aa,aa,aa,aa,aa,aa,aa,aa,aa,aa,aa,aa,aa,aa,aa,aa,aa,aa,vB (decide ((X75 (Zbw b j).m)≠0))]
end
theorem Xgp (tb:Bool) (nb:Bool) (b:List UInt8) (hb:b.length≤140737488355328):Holds Tryz.prog 187 ⟨[slV tb nb kU8 b],[],.tup [.agg [dI (Wn b).X1,dI (Wn b).Y1,dI (Wn b).Xs,dI (Wn b).Xh,dI (Wn b).Yh,dS (Wn b).X9,dU (Wn b).Xc,dI (Wn b).X0.Xt,dI (Wn b).X0.Xn,.d (dsl false false (kE false) (Wn b).Xp),.d (dsl false false (kE false) (Wn b).Y4),.d (dsl false false (kC false) (Wn b).X6)],.one (dI (X0o b))],[]⟩:=by
 refine Holds.of Tryz.func187 rfl (N:=116) Tryz.ntmps187 rfl fun w0 B0 S0 U0=>?_
 show T _ (Y2 116 0 w0 S0 U0 B0) ⟨[slV tb nb kU8 b],[]⟩ _ _
 have hr1:=U3 b 0 8 0
 refine sR [] (T.seq (sR [] ?_))
 by_cases hq1:((b.length:Nat):Int)>16777216
 ·have hd9:=Xf4 (M:=((b.length:Nat):Int)) (N:=16777216) (b:=b) (by omega)
  refine cT (dT hq1) (sR [] (T.ret (rT ?_)))
  refine eN ⟨(Zbg tb nb b),[Zbi]⟩ ?_
  refine X7 (s':=⟨(Zbg tb nb b),[.live (.box 78 Zbm)]⟩) (fun _ _ hG=>Yt (s:=⟨(Zbg tb nb b),[Zbi]⟩) p3o ⟨pp,trivial⟩ hG) ?_
  exact eX [.c 2 0 78 0 78 [dI 0,dI 0,dI 0,dI 0,dI 0,dS [],Zbj,dI 0,dI 0,Zbk,Zbk,Zbl] (.agg Zbm),.t 3 (.one (dI 11))] ⟨⟨rfl,rfl,by kernel_rfl,by kernel_rfl,.inl ⟨12,Ws,rfl,Nat.le_of_ble_eq_true rfl⟩⟩,⟨⟨rfl,by kernel_rfl⟩,trivial⟩⟩ [] pg trivial
 have hbl:¬b.length>16777216:=(by omega)
 refine cF (dF hq1) (T.skip (nT (sR [hR 1 rfl rfl (rCa (Xd4 tb nb b ‹_›) Tryz.func104 [1] [(.tmp 13,slV tb nb kU8 b)] 0 1)] (sR [hR 1 rfl rfl (rCa (I8 b 0 (by omega)) Tryz.func194 [1] [(.tmp 16,.tv (.agg [.ptr 1 0]))] 1 1)] (sR [hR 2 rfl rfl (rCa (X6q (rdI b 0) ) Tryz.func195 [] [(.tmp 21,vI (rdI b 0))] 0 0)] (T.seq (sR [] (T.block ?_))))))))
 refine tN ⟨(Zbo tb nb b),(Zbs b)⟩ ?_
 refine Wx (s':=⟨(Zbo tb nb b),[Zbi,(Zbp b),Zbq,(Zbt b),(Zbr b)]⟩) (fun _ _ hG=>Yt (s:=⟨(Zbo tb nb b),(Zbs b)⟩) p3o ⟨.inl rfl,p1k⟩ hG) ?_
 refine T.loop (ι:=Nat) (fun (j:Nat)=>⟨[slV tb nb kU8 b,aa,pv 0 0,aa,pv 1 0,pv 3 0,pv 4 0,(Zbn b),(Zbu j)],(Zca b j)⟩) (fun (j:Nat)=>(j≤9)) (fun (j:Nat)=>9-j) (0) (by omega) (fun _ _ hG=>Wf [0,2,1,3,4] (bm 9 501) (t1:=[slV tb nb kU8 b,aa,pv 0 0,aa,pv 2 0,pv 3 0,pv 4 0,(Zbn b),vI ((2 ^ 0:Nat):Int)]) (t2:=[slV tb nb kU8 b,aa,pv 0 0,aa,pv 2 0,pv 3 0,pv 4 0,(Zbn b),vI 1]) (h1:=[Zbi,Zbq,(Zcc b),(Zcd b),(Zbr b)]) (h2:=[Zbi,Zbq,(Zbp b),(Zbt b),(Zbr b)]) (congrArg (fun (q1:Int)=>([slV tb nb kU8 b,aa,pv 0 0,aa,pv 2 0,pv 3 0,pv 4 0,(Zbn b),vI q1]:List AV)) (by rfl)) (cg14 (fun (q1:List UInt8) (q2:Int) (q3:Int) (q4:Int) (q5:Int) (q6:Int) (q7:Int) (q8:List UInt8) (q9:List UInt8) (q10:Int) (q11:Int) (q12:List aE) (q13:List aE) (q14:List aC)=>([Zbi,Zbq,.live (.box 195 [dU q1,dI q2]),.live (.box 78 [dI q3,dI q4,dI q5,dI q6,dI q7,dS q8,dU q9,dI q10,dI q11,.d (dsl false false (kE false) q12),.d (dsl false false (kE false) q13),.d (dsl false false (kC false) q14)]),(Zbr b)]:List HS)) (by rfl) (by rfl) (by rfl) (by rfl) (by rfl) (by rfl) (by rfl) (by rfl) (by rfl) (by rfl) (by rfl) (by rfl) (by rfl) (by rfl)) hG) ?_
 rintro j hj
 show T _ _ ⟨[slV tb nb kU8 b,aa,pv 0 0,aa,pv 1 0,pv 3 0,pv 4 0,(Zbn b),(Zbu j)],(Zca b j)⟩ _ _
 replace hj:j≤9:=hj
 have hp9:=pow_le9 hj
 have hrl:=Er ((b.length:Nat):Int) 16777216 (rdR b 0 8 0) (rdE b 0 8 0) (rdI b 0) j
 have hr2:=U3 (Xv ((b.length:Nat):Int) 16777216 (rdR b 0 8 0) (rdE b 0 8 0) (rdI b 0) j).rest (Xv ((b.length:Nat):Int) 16777216 (rdR b 0 8 0) (rdE b 0 8 0) (rdI b 0) j).e 8 0
 have hr3:=X0c (Xv ((b.length:Nat):Int) 16777216 (rdR b 0 8 0) (rdE b 0 8 0) (rdI b 0) j).rest (Xv ((b.length:Nat):Int) 16777216 (rdR b 0 8 0) (rdE b 0 8 0) (rdI b 0) j).e ((b.length:Nat):Int)
 obtain ⟨hf1,hf2,hf3,hf4,hf5⟩:=X43 ((b.length:Nat):Int) 16777216 (rdR b 0 8 0) (rdE b 0 8 0) (rdI b 0) j
 refine T.seq ?_
 by_cases hq2:((2 ^ j:Nat):Int)≤256
 rotate_left
 ·have hj9:j=9:=(by have h9:¬j≤8:=fun q=>hq2 ((pow_le hj).2 q);omega)
  refine sR [hN 3 true (dF hq2),hP 4 (dF hq2)] (cF (b:=false) rfl (T.exit (xT (xT (xH (nT (T.seq (sR [hR 2 rfl rfl (rCa (Xgd (Xv ((b.length:Nat):Int) 16777216 (rdR b 0 8 0) (rdE b 0 8 0) (rdI b 0) j).rest (Xv ((b.length:Nat):Int) 16777216 (rdR b 0 8 0) (rdE b 0 8 0) (rdI b 0) j).e (by omega)) Tryz.func107 [2] [(.tmp 99,pv 2 0)] 1 1)] ?_))))))))
  by_cases hq14:okK (rdI b 0)
  rotate_left
  ·have hd9:=X60 (M:=((b.length:Nat):Int)) (N:=16777216) (fun q=>hq14 q.2.1) hbl
   refine sR (Xm (hN · false (cn (dF hq14))) [3,4,5,6] (hP 7 (cn (dF hq14))::(Xm hN0 [9,10,11] (hP1 12::[])))) (cT (b:=true) rfl (sR [] (T.ret (rT ?_))))
   refine eN ⟨(Zd1 tb nb b j),(Zcy b j)⟩ ?_
   refine X7 (s':=⟨(Zd1 tb nb b j),(Zcz b j)⟩) (fun _ _ hG=>Yt (s:=⟨(Zd1 tb nb b j),(Zcy b j)⟩) (kk2 p4h) ⟨pp,(kk4 trivial)⟩ hG) ?_
   exact eX [.c 2 0 78 0 78 [dI 0,dI 0,dI 0,dI 0,dI 0,dS [],Zbj,dI 0,dI 0,Zbk,Zbk,Zbl] (.agg Zbm),.t 3 (Zd0)] ⟨⟨rfl,rfl,by kernel_rfl,by kernel_rfl,.inl ⟨12,Ws,rfl,Nat.le_of_ble_eq_true rfl⟩⟩,⟨⟨rfl,by kernel_rfl⟩,trivial⟩⟩ [] pg trivial
  by_cases hq15:(rdX (Xv ((b.length:Nat):Int) 16777216 (rdR b 0 8 0) (rdE b 0 8 0) (rdI b 0) j).rest (Xv ((b.length:Nat):Int) 16777216 (rdR b 0 8 0) (rdE b 0 8 0) (rdI b 0) j).e)≠0
  ·have hF:(Xv ((b.length:Nat):Int) 16777216 (rdR b 0 8 0) (rdE b 0 8 0) (rdI b 0) j)=X5x ((b.length:Nat):Int) 16777216 b:=(by rw [hj9];rfl);have hd9:=X60 (M:=((b.length:Nat):Int)) (N:=16777216) (fun q=>hq15 (by rw [hF];exact q.2.2.1)) hbl
   refine sR (hY 3 (cn (dT hq14))::(hY 4 (cn (dT hq14))::(hS 5 (oY rfl rfl rfl rfl (X3 rfl) (cn (dT hq14)) (rCa (X8q (Xv ((b.length:Nat):Int) 16777216 (rdR b 0 8 0) (rdE b 0 8 0) (rdI b 0) j).rest (rdX (Xv ((b.length:Nat):Int) 16777216 (rdR b 0 8 0) (rdE b 0 8 0) (rdI b 0) j).rest (Xv ((b.length:Nat):Int) 16777216 (rdR b 0 8 0) (rdE b 0 8 0) (rdI b 0) j).e) ) Tryz.func108 [2] [(.tmp 105,pv 2 0)] 1 1))::(hY 6 (cn (dT hq14))::(hP 7 (cn (dT hq14))::(Xm (hN · false (dT hq15)) [9,10,11] (hP 12 (dT hq15)::[]))))))) (cT (b:=true) rfl (sR [] (T.ret (rT ?_))))
   refine eN ⟨(Zd1 tb nb b j),(Zcy b j)⟩ ?_
   refine X7 (s':=⟨(Zd1 tb nb b j),(Zcz b j)⟩) (fun _ _ hG=>Yt (s:=⟨(Zd1 tb nb b j),(Zcy b j)⟩) (kk2 p4h) ⟨pp,(kk4 trivial)⟩ hG) ?_
   exact eX [.c 2 0 78 0 78 [dI 0,dI 0,dI 0,dI 0,dI 0,dS [],Zbj,dI 0,dI 0,Zbk,Zbk,Zbl] (.agg Zbm),.t 3 (Zd0)] ⟨⟨rfl,rfl,by kernel_rfl,by kernel_rfl,.inl ⟨12,Ws,rfl,Nat.le_of_ble_eq_true rfl⟩⟩,⟨⟨rfl,by kernel_rfl⟩,trivial⟩⟩ [] pg trivial
  refine sR [hY 3 (cn (dT hq14)),hY 4 (cn (dT hq14)),hS 5 (oY rfl rfl rfl rfl (X3 rfl) (cn (dT hq14)) (rCa (X8q (Xv ((b.length:Nat):Int) 16777216 (rdR b 0 8 0) (rdE b 0 8 0) (rdI b 0) j).rest (rdX (Xv ((b.length:Nat):Int) 16777216 (rdR b 0 8 0) (rdE b 0 8 0) (rdI b 0) j).rest (Xv ((b.length:Nat):Int) 16777216 (rdR b 0 8 0) (rdE b 0 8 0) (rdI b 0) j).e) ) Tryz.func108 [2] [(.tmp 105,pv 2 0)] 1 1)),hY 6 (cn (dT hq14)),hP 7 (cn (dT hq14)),hY 9 (dF hq15),hS 10 (oY rfl rfl rfl rfl (X3 rfl) (dF hq15) (rCa (Xk2 false (Xv ((b.length:Nat):Int) 16777216 (rdR b 0 8 0) (rdE b 0 8 0) (rdI b 0) j).m (by omega) (by omega) (by omega) (by omega) (by omega)) Tryz.func198 [] [(.tmp 110,.tv (.agg (Zc9 b j)))] 0 0)),hY 11 (dF hq15),hP 12 (dF hq15)] ?_
  by_cases hq16:(X75 (Xv ((b.length:Nat):Int) 16777216 (rdR b 0 8 0) (rdE b 0 8 0) (rdI b 0) j).m)≠0
  ·have hF:(Xv ((b.length:Nat):Int) 16777216 (rdR b 0 8 0) (rdE b 0 8 0) (rdI b 0) j)=X5x ((b.length:Nat):Int) 16777216 b:=(by rw [hj9];rfl);have hd9:=X60 (M:=((b.length:Nat):Int)) (N:=16777216) (fun q=>hq16 (by rw [hF];exact chk0.2 q.2.2.2)) hbl
   refine cT (dT hq16) (sR [] (T.ret (rT ?_)))
   refine eN ⟨(Zd2 tb nb b j),(Zcy b j)⟩ ?_
   refine X7 (s':=⟨(Zd2 tb nb b j),(Zcz b j)⟩) (fun _ _ hG=>Yt (s:=⟨(Zd2 tb nb b j),(Zcy b j)⟩) (kk2 p4h) ⟨pp,(kk4 trivial)⟩ hG) ?_
   exact eX [.c 2 0 78 0 78 [dI 0,dI 0,dI 0,dI 0,dI 0,dS [],Zbj,dI 0,dI 0,Zbk,Zbk,Zbl] (.agg Zbm),.t 3 (Zd0)] ⟨⟨rfl,rfl,by kernel_rfl,by kernel_rfl,.inl ⟨12,Ws,rfl,Nat.le_of_ble_eq_true rfl⟩⟩,⟨⟨rfl,by kernel_rfl⟩,trivial⟩⟩ [] pg trivial
  have hF:(Xv ((b.length:Nat):Int) 16777216 (rdR b 0 8 0) (rdE b 0 8 0) (rdI b 0) j)=X5x ((b.length:Nat):Int) 16777216 b:=(by rw [hj9];rfl);have hd9:=Xiq (M:=((b.length:Nat):Int)) (N:=16777216) (b:=b) ⟨by omega,by assumption,by rw [← hF];exact Classical.not_not.1 ‹_›,chk0.1 (by rw [← hF];exact Classical.not_not.1 hq16)⟩;rw [← hF] at hd9
  refine cF (dF hq16) (T.skip (nT (sR [] (T.ret ?_))))
  exact eX [.c 2 0 78 0 78 [(Zbx b j),(Zby b j),(Zbz b j),(Zc0 b j),(Zc1 b j),(Zc2 b j),(Zc3 b j),(Zc4 b j),(Zc5 b j),(Zc6 b j),(Zc7 b j),(Zc8 b j)] (.agg (Zc9 b j)),.t 3 (.one (dI 0))] ⟨⟨rfl,rfl,by kernel_rfl,by kernel_rfl,.inl ⟨12,Ws,rfl,Nat.le_of_ble_eq_true rfl⟩⟩,⟨⟨rfl,by kernel_rfl⟩,trivial⟩⟩ [] pg trivial
 have hj8:j≤8:=(pow_le hj).1 hq2
 refine sR [hY 3 (dT hq2),hP 4 (dT hq2)] ?_
 by_cases hq3:okK (rdI b 0)
 rotate_left
 ·have hd9:=X60 (M:=((b.length:Nat):Int)) (N:=16777216) (fun q=>hq3 q.2.1) hbl
  refine cF (dF hq3) (T.exit (xT (xT (xH (nT (T.seq (sR [hR 2 rfl rfl (rCa (Xgd (Xv ((b.length:Nat):Int) 16777216 (rdR b 0 8 0) (rdE b 0 8 0) (rdI b 0) j).rest (Xv ((b.length:Nat):Int) 16777216 (rdR b 0 8 0) (rdE b 0 8 0) (rdI b 0) j).e (by omega)) Tryz.func107 [2] [(.tmp 99,pv 2 0)] 1 1)] (sR (Xm (hN · false (cn (dF hq3))) [3,4,5,6] (hP 7 (cn (dF hq3))::(Xm hN0 [9,10,11] (hP1 12::[])))) (cT (b:=true) rfl (sR [] (T.ret (rT ?_))))))))))))
  refine eN ⟨(Zcw tb nb b j),(Zcy b j)⟩ ?_
  refine X7 (s':=⟨(Zcw tb nb b j),(Zcz b j)⟩) (fun _ _ hG=>Yt (s:=⟨(Zcw tb nb b j),(Zcy b j)⟩) (kk2 p4h) ⟨pp,(kk4 trivial)⟩ hG) ?_
  exact eX [.c 2 0 78 0 78 [dI 0,dI 0,dI 0,dI 0,dI 0,dS [],Zbj,dI 0,dI 0,Zbk,Zbk,Zbl] (.agg Zbm),.t 3 (Zd0)] ⟨⟨rfl,rfl,by kernel_rfl,by kernel_rfl,.inl ⟨12,Ws,rfl,Nat.le_of_ble_eq_true rfl⟩⟩,⟨⟨rfl,by kernel_rfl⟩,trivial⟩⟩ [] pg trivial
 refine cT (dT hq3) (T.skip (nT (T.seq (T.block (T.seq (sR [hR 3 rfl rfl (Yd (u1:=.int .i64 (Yi (rdI b 0)).Vy) (u2:=.int .i64 ((2 ^ j:Nat):Int)) (v:=.int .i64 (I3 (Yi (rdI b 0)).Vy ((2 ^ j:Nat):Int))) (Xct rfl) (X3 rfl) trivial)] ?_))))))
 by_cases hq4:(I3 (Yi (rdI b 0)).Vy ((2 ^ j:Nat):Int))=0
 ·have hbt:=(Xiz hj8).1 hq4;have hst:(Xv ((b.length:Nat):Int) 16777216 (rdR b 0 8 0) (rdE b 0 8 0) (rdI b 0) (j+1))=(Xv ((b.length:Nat):Int) 16777216 (rdR b 0 8 0) (rdE b 0 8 0) (rdI b 0) j):=Ef hbt
  refine cT (dT hq4) (T.exit (xT (xH (nT (xK [hR 1 rfl rfl (Yd (u1:=.int .i64 ((2 ^ j:Nat):Int)) (u2:=.int .u64 1) (v:=.int .i64 (((2 ^ j)*2 ^ 1:Nat):Int)) (F3 (n:=1) rfl pw pc) (X3 rfl) ⟨rfl,trivial⟩)] ?_)))))
  refine nL (j+1) (show (j+1)≤9 from (by omega)) (show (9-(j+1):Nat)<9-j from (by omega)) (fun _ _ hG=>Yv [0,1,2,3,4] (bm 9 501) (t2:=(Zci tb nb b j)) (h2:=(Zca b j)) pt pZ7 hG)
 have hbt:Ux (Xi (rdI b 0)) j=true:=Classical.byContradiction fun q=>hq4 ((Xiz hj8).2 q)
 refine cF (dF hq4) (T.skip (nT (sR [] (T.block (sR [] ?_)))))
 by_cases hq5:((2 ^ j:Nat):Int)=1
 ·have hji:j=0:=X0d (i:=0) hj hq5;have hst:(Xv ((b.length:Nat):Int) 16777216 (rdR b 0 8 0) (rdE b 0 8 0) (rdI b 0) (j+1))=V5 ((b.length:Nat):Int) 16777216 (Xv ((b.length:Nat):Int) 16777216 (rdR b 0 8 0) (rdE b 0 8 0) (rdI b 0) j) 0:=Uu hji hbt;simp only [V5] at hst
  refine cT (dT hq5) (xK [hR 1 rfl rfl (rCa (I8 (Xv ((b.length:Nat):Int) 16777216 (rdR b 0 8 0) (rdE b 0 8 0) (rdI b 0) j).rest (Xv ((b.length:Nat):Int) 16777216 (rdR b 0 8 0) (rdE b 0 8 0) (rdI b 0) j).e (by omega)) Tryz.func194 [2] [(.tmp 40,.tv (.agg [.ptr 2 0]))] 1 1)] (nB (nB (nT (xK [hR 1 rfl rfl (Yd (u1:=.int .i64 ((2 ^ j:Nat):Int)) (u2:=.int .u64 1) (v:=.int .i64 (((2 ^ j)*2 ^ 1:Nat):Int)) (F3 (n:=1) rfl pw pc) (X3 rfl) ⟨rfl,trivial⟩)] ?_)))))
  refine nL (j+1) (show (j+1)≤9 from (by omega)) (show (9-(j+1):Nat)<9-j from (by omega)) (fun _ _ hG=>Yv [0,1,2,3,4] (bm 9 501) (t2:=(Zci tb nb b j)) (h2:=[Zbi,Zbv,.live (.box 195 [dU (Zcj b j),dI (Zck b j)]),.live (.box 78 [(Zbx b j),(Zcl b j),(Zbz b j),(Zc0 b j),(Zc1 b j),(Zc2 b j),(Zc3 b j),(Zc4 b j),(Zc5 b j),(Zc6 b j),(Zc7 b j),(Zc8 b j)]),(Zbr b)]) pt pZ7 hG)
 have hn0:j≠0:=(fun q=>hq5 p4c)
 refine cF (dF hq5) (sR [] ?_)
 by_cases hq6:((2 ^ j:Nat):Int)=2
 ·have hji:j=1:=X0d (i:=1) hj hq6;have hst:(Xv ((b.length:Nat):Int) 16777216 (rdR b 0 8 0) (rdE b 0 8 0) (rdI b 0) (j+1))=V5 ((b.length:Nat):Int) 16777216 (Xv ((b.length:Nat):Int) 16777216 (rdR b 0 8 0) (rdE b 0 8 0) (rdI b 0) j) 1:=Uu hji hbt;simp only [V5] at hst
  refine cT (dT hq6) (xK [hR 1 rfl rfl (rCa (I8 (Xv ((b.length:Nat):Int) 16777216 (rdR b 0 8 0) (rdE b 0 8 0) (rdI b 0) j).rest (Xv ((b.length:Nat):Int) 16777216 (rdR b 0 8 0) (rdE b 0 8 0) (rdI b 0) j).e (by omega)) Tryz.func194 [2] [(.tmp 45,.tv (.agg [.ptr 2 0]))] 1 1)] (nB (nB (nT (xK [hR 1 rfl rfl (Yd (u1:=.int .i64 ((2 ^ j:Nat):Int)) (u2:=.int .u64 1) (v:=.int .i64 (((2 ^ j)*2 ^ 1:Nat):Int)) (F3 (n:=1) rfl pw pc) (X3 rfl) ⟨rfl,trivial⟩)] ?_)))))
  refine nL (j+1) (show (j+1)≤9 from (by omega)) (show (9-(j+1):Nat)<9-j from (by omega)) (fun _ _ hG=>Yv [0,1,2,3,4] (bm 9 501) (t2:=(Zci tb nb b j)) (h2:=[Zbi,Zbv,.live (.box 195 [dU (Zcj b j),dI (Zck b j)]),.live (.box 78 [(Zbx b j),(Zby b j),(Zcl b j),(Zc0 b j),(Zc1 b j),(Zc2 b j),(Zc3 b j),(Zc4 b j),(Zc5 b j),(Zc6 b j),(Zc7 b j),(Zc8 b j)]),(Zbr b)]) pt pZ7 hG)
 have hn1:j≠1:=(fun q=>hq6 p4c)
 refine cF (dF hq6) (sR [] ?_)
 by_cases hq7:((2 ^ j:Nat):Int)=4
 ·have hji:j=2:=X0d (i:=2) hj hq7;have hst:(Xv ((b.length:Nat):Int) 16777216 (rdR b 0 8 0) (rdE b 0 8 0) (rdI b 0) (j+1))=V5 ((b.length:Nat):Int) 16777216 (Xv ((b.length:Nat):Int) 16777216 (rdR b 0 8 0) (rdE b 0 8 0) (rdI b 0) j) 2:=Uu hji hbt;simp only [V5] at hst
  refine cT (dT hq7) (sR [hR 1 rfl rfl (rCa (I8 (Xv ((b.length:Nat):Int) 16777216 (rdR b 0 8 0) (rdE b 0 8 0) (rdI b 0) j).rest (Xv ((b.length:Nat):Int) 16777216 (rdR b 0 8 0) (rdE b 0 8 0) (rdI b 0) j).e (by omega)) Tryz.func194 [2] [(.tmp 50,.tv (.agg [.ptr 2 0]))] 1 1)] (xK [hR 1 rfl rfl (rCa (I8 (rdR (Xv ((b.length:Nat):Int) 16777216 (rdR b 0 8 0) (rdE b 0 8 0) (rdI b 0) j).rest (Xv ((b.length:Nat):Int) 16777216 (rdR b 0 8 0) (rdE b 0 8 0) (rdI b 0) j).e 8 0) (rdE (Xv ((b.length:Nat):Int) 16777216 (rdR b 0 8 0) (rdE b 0 8 0) (rdI b 0) j).rest (Xv ((b.length:Nat):Int) 16777216 (rdR b 0 8 0) (rdE b 0 8 0) (rdI b 0) j).e 8 0) (by omega)) Tryz.func194 [2] [(.tmp 53,.tv (.agg [.ptr 2 0]))] 1 1)] (nB (nB (nT ?_)))))
  refine xK [hR 1 rfl rfl (Yd (u1:=.int .i64 ((2 ^ j:Nat):Int)) (u2:=.int .u64 1) (v:=.int .i64 (((2 ^ j)*2 ^ 1:Nat):Int)) (F3 (n:=1) rfl pw pc) (X3 rfl) ⟨rfl,trivial⟩)] ?_
  refine nL (j+1) (show (j+1)≤9 from (by omega)) (show (9-(j+1):Nat)<9-j from (by omega)) (fun _ _ hG=>Yv [0,1,2,3,4] (bm 9 501) (t2:=(Zci tb nb b j)) (h2:=[Zbi,Zbv,(Zcm b j),.live (.box 78 [(Zbx b j),(Zby b j),(Zbz b j),(Zcl b j),dI (rdI (Zcj b j) (Zck b j)),(Zc2 b j),(Zc3 b j),(Zc4 b j),(Zc5 b j),(Zc6 b j),(Zc7 b j),(Zc8 b j)]),(Zbr b)]) pt pZ7 hG)
 have hn2:j≠2:=(fun q=>hq7 p4c)
 refine cF (dF hq7) (sR [] ?_)
 by_cases hq8:((2 ^ j:Nat):Int)=8
 ·have hji:j=3:=X0d (i:=3) hj hq8;have hst:(Xv ((b.length:Nat):Int) 16777216 (rdR b 0 8 0) (rdE b 0 8 0) (rdI b 0) (j+1))=V5 ((b.length:Nat):Int) 16777216 (Xv ((b.length:Nat):Int) 16777216 (rdR b 0 8 0) (rdE b 0 8 0) (rdI b 0) j) 3:=Uu hji hbt;simp only [V5] at hst
  refine cT (dT hq8) ?_
  refine xR [hR 4 rfl rfl (rCa (X1j (Xv ((b.length:Nat):Int) 16777216 (rdR b 0 8 0) (rdE b 0 8 0) (rdI b 0) j).rest (Xv ((b.length:Nat):Int) 16777216 (rdR b 0 8 0) (rdE b 0 8 0) (rdI b 0) j).e ((b.length:Nat):Int) (by omega)) Tryz.func106 [2,5] [(.tmp 59,pv 2 0),(.tmp 61,vI ((b.length:Nat):Int))] 1 2),hR 5 rfl rfl (Hp () (rdY (Xv ((b.length:Nat):Int) 16777216 (rdR b 0 8 0) (rdE b 0 8 0) (rdI b 0) j).rest (Xv ((b.length:Nat):Int) 16777216 (rdR b 0 8 0) (rdE b 0 8 0) (rdI b 0) j).e ((b.length:Nat):Int)) (ys:=(.own 5 kU8.sz 0 (Zcn b j).length)) (rhs:=[(5,.live (Xf 5 kU8 (Zcn b j)))]) Tryz.underlying25 Tryz.underlying5 Tryz.underlying60 (Wv 5 5 kU8 (rdY (Xv ((b.length:Nat):Int) 16777216 (rdR b 0 8 0) (rdE b 0 8 0) (rdI b 0) j).rest (Xv ((b.length:Nat):Int) 16777216 (rdR b 0 8 0) (rdE b 0 8 0) (rdI b 0) j).e ((b.length:Nat):Int))) (X3 rfl) trivial)] pZ8 pZ8 ?_
  refine nB (nB (nT ?_))
  refine tN ⟨(Zco tb nb b j),[Zbi,Zbv,(Zcp b j),(Zcq b j),(Zbr b),.live (Xf 5 kU8 (Zcn b j))]⟩ ?_
  refine Wx (s':=⟨(Zco tb nb b j),[Zbi,Zbv,(Zcp b j),(Zcq b j),(Zbr b),.dead]⟩) (fun _ _ hG=>Gs.freeze (s:=⟨(Zco tb nb b j),[Zbi,Zbv,(Zcp b j),(Zcq b j),(Zbr b),.live (Xf 5 kU8 (Zcn b j))]⟩) 5 (el:=W7 kU8 (rdY (Xv ((b.length:Nat):Int) 16777216 (rdR b 0 8 0) (rdE b 0 8 0) (rdI b 0) j).rest (Xv ((b.length:Nat):Int) 16777216 (rdR b 0 8 0) (rdE b 0 8 0) (rdI b 0) j).e ((b.length:Nat):Int))) (sz:=kU8.sz) (n:=(rdY (Xv ((b.length:Nat):Int) 16777216 (rdR b 0 8 0) (rdE b 0 8 0) (rdI b 0) j).rest (Xv ((b.length:Nat):Int) 16777216 (rdR b 0 8 0) (rdE b 0 8 0) (rdI b 0) j).e ((b.length:Nat):Int)).length) rfl ⟨.inl rfl,(kk8 p37)⟩ ⟨pZ9,⟨pZ9,⟨pZ9,⟨pZ9,⟨pZ9,⟨(.inl ⟨rfl,rfl⟩),trivial⟩⟩⟩⟩⟩⟩ hG) ?_
  refine xK [hR 1 rfl rfl (Yd (u1:=.int .i64 ((2 ^ j:Nat):Int)) (u2:=.int .u64 1) (v:=.int .i64 (((2 ^ j)*2 ^ 1:Nat):Int)) (F3 (n:=1) rfl pw pc) (X3 rfl) ⟨rfl,trivial⟩)] ?_
  refine nL (j+1) (show (j+1)≤9 from (by omega)) (show (9-(j+1):Nat)<9-j from (by omega)) (fun _ _ hG=>Yv [0,1,2,3,4] (bm 9 501) (t2:=(Zci tb nb b j)) (h2:=[Zbi,Zbv,(Zcp b j),(Zcq b j),(Zbr b)]) pt pZ7 hG)
 have hn3:j≠3:=(fun q=>hq8 p4c)
 refine cF (dF hq8) (sR [] ?_)
 by_cases hq9:((2 ^ j:Nat):Int)=16
 ·have hji:j=4:=X0d (i:=4) hj hq9;have hst:(Xv ((b.length:Nat):Int) 16777216 (rdR b 0 8 0) (rdE b 0 8 0) (rdI b 0) (j+1))=V5 ((b.length:Nat):Int) 16777216 (Xv ((b.length:Nat):Int) 16777216 (rdR b 0 8 0) (rdE b 0 8 0) (rdI b 0) j) 4:=Uu hji hbt;simp only [V5] at hst
  refine cT (dT hq9) (xK [hR 4 rfl rfl (rCa (X1j (Xv ((b.length:Nat):Int) 16777216 (rdR b 0 8 0) (rdE b 0 8 0) (rdI b 0) j).rest (Xv ((b.length:Nat):Int) 16777216 (rdR b 0 8 0) (rdE b 0 8 0) (rdI b 0) j).e ((b.length:Nat):Int) (by omega)) Tryz.func106 [2,5] [(.tmp 68,pv 2 0),(.tmp 70,vI ((b.length:Nat):Int))] 1 2)] (nB (nB (nT ?_))))
  refine tN ⟨(Zcr tb nb b j),(Zcs b j)⟩ ?_
  refine Wx (s':=⟨(Zcr tb nb b j),[Zbi,Zbv,(Zcp b j),(Zct b j),(Zbr b),.dead]⟩) (fun _ _ hG=>Gs.freeze (s:=⟨(Zcr tb nb b j),(Zcs b j)⟩) 5 (el:=W7 kU8 (rdY (Xv ((b.length:Nat):Int) 16777216 (rdR b 0 8 0) (rdE b 0 8 0) (rdI b 0) j).rest (Xv ((b.length:Nat):Int) 16777216 (rdR b 0 8 0) (rdE b 0 8 0) (rdI b 0) j).e ((b.length:Nat):Int))) (sz:=kU8.sz) (n:=(rdY (Xv ((b.length:Nat):Int) 16777216 (rdR b 0 8 0) (rdE b 0 8 0) (rdI b 0) j).rest (Xv ((b.length:Nat):Int) 16777216 (rdR b 0 8 0) (rdE b 0 8 0) (rdI b 0) j).e ((b.length:Nat):Int)).length) rfl (kk2 p2b) ⟨pZ9,⟨pZ9,⟨pZ9,⟨p4q,⟨pZ9,⟨(.inl ⟨rfl,rfl⟩),trivial⟩⟩⟩⟩⟩⟩ hG) ?_
  refine xK [hR 1 rfl rfl (Yd (u1:=.int .i64 ((2 ^ j:Nat):Int)) (u2:=.int .u64 1) (v:=.int .i64 (((2 ^ j)*2 ^ 1:Nat):Int)) (F3 (n:=1) rfl pw pc) (X3 rfl) ⟨rfl,trivial⟩)] ?_
  refine nL (j+1) (show (j+1)≤9 from (by omega)) (show (9-(j+1):Nat)<9-j from (by omega)) (fun _ _ hG=>Yv [0,1,2,3,4] (bm 9 501) (t2:=(Zci tb nb b j)) (h2:=[Zbi,Zbv,(Zcp b j),(Zct b j),(Zbr b)]) pt pZ7 hG)
 have hn4:j≠4:=(fun q=>hq9 p4c)
 refine cF (dF hq9) (sR [] ?_)
 by_cases hq10:((2 ^ j:Nat):Int)=32
 ·have hji:j=5:=X0d (i:=5) hj hq10;have hst:(Xv ((b.length:Nat):Int) 16777216 (rdR b 0 8 0) (rdE b 0 8 0) (rdI b 0) (j+1))=V5 ((b.length:Nat):Int) 16777216 (Xv ((b.length:Nat):Int) 16777216 (rdR b 0 8 0) (rdE b 0 8 0) (rdI b 0) j) 5:=Uu hji hbt;simp only [V5] at hst
  refine cT (dT hq10) (sR [hR 1 rfl rfl (rCa (I8 (Xv ((b.length:Nat):Int) 16777216 (rdR b 0 8 0) (rdE b 0 8 0) (rdI b 0) j).rest (Xv ((b.length:Nat):Int) 16777216 (rdR b 0 8 0) (rdE b 0 8 0) (rdI b 0) j).e (by omega)) Tryz.func194 [2] [(.tmp 75,.tv (.agg [.ptr 2 0]))] 1 1)] (xK [hR 1 rfl rfl (rCa (I8 (rdR (Xv ((b.length:Nat):Int) 16777216 (rdR b 0 8 0) (rdE b 0 8 0) (rdI b 0) j).rest (Xv ((b.length:Nat):Int) 16777216 (rdR b 0 8 0) (rdE b 0 8 0) (rdI b 0) j).e 8 0) (rdE (Xv ((b.length:Nat):Int) 16777216 (rdR b 0 8 0) (rdE b 0 8 0) (rdI b 0) j).rest (Xv ((b.length:Nat):Int) 16777216 (rdR b 0 8 0) (rdE b 0 8 0) (rdI b 0) j).e 8 0) (by omega)) Tryz.func194 [2] [(.tmp 79,.tv (.agg [.ptr 2 0]))] 1 1)] (nB (nB (nT ?_)))))
  refine xK [hR 1 rfl rfl (Yd (u1:=.int .i64 ((2 ^ j:Nat):Int)) (u2:=.int .u64 1) (v:=.int .i64 (((2 ^ j)*2 ^ 1:Nat):Int)) (F3 (n:=1) rfl pw pc) (X3 rfl) ⟨rfl,trivial⟩)] ?_
  refine nL (j+1) (show (j+1)≤9 from (by omega)) (show (9-(j+1):Nat)<9-j from (by omega)) (fun _ _ hG=>Yv [0,1,2,3,4] (bm 9 501) (t2:=(Zci tb nb b j)) (h2:=[Zbi,Zbv,(Zcm b j),.live (.box 78 [(Zbx b j),(Zby b j),(Zbz b j),(Zc0 b j),(Zc1 b j),(Zc2 b j),(Zc3 b j),(Zcl b j),dI (rdI (Zcj b j) (Zck b j)),(Zc6 b j),(Zc7 b j),(Zc8 b j)]),(Zbr b)]) pt pZ7 hG)
 have hn5:j≠5:=(fun q=>hq10 p4c)
 refine cF (dF hq10) (sR [] ?_)
 by_cases hq11:((2 ^ j:Nat):Int)=64
 ·have hji:j=6:=X0d (i:=6) hj hq11;have hst:(Xv ((b.length:Nat):Int) 16777216 (rdR b 0 8 0) (rdE b 0 8 0) (rdI b 0) (j+1))=V5 ((b.length:Nat):Int) 16777216 (Xv ((b.length:Nat):Int) 16777216 (rdR b 0 8 0) (rdE b 0 8 0) (rdI b 0) j) 6:=Uu hji hbt;simp only [V5] at hst
  refine cT (dT hq11) (xK [hR 1 rfl rfl (rCa (X7x (Xv ((b.length:Nat):Int) 16777216 (rdR b 0 8 0) (rdE b 0 8 0) (rdI b 0) j).rest (Xv ((b.length:Nat):Int) 16777216 (rdR b 0 8 0) (rdE b 0 8 0) (rdI b 0) j).e (by omega)) Tryz.func196 [2] [(.tmp 85,.tv (.agg [.ptr 2 0]))] 1 1)] (nB (nB (nT (xK [hR 1 rfl rfl (Yd (u1:=.int .i64 ((2 ^ j:Nat):Int)) (u2:=.int .u64 1) (v:=.int .i64 (((2 ^ j)*2 ^ 1:Nat):Int)) (F3 (n:=1) rfl pw pc) (X3 rfl) ⟨rfl,trivial⟩)] ?_)))))
  refine nL (j+1) (show (j+1)≤9 from (by omega)) (show (9-(j+1):Nat)<9-j from (by omega)) (fun _ _ hG=>Yv [0,1,2,3,4] (bm 9 501) (t2:=(Zci tb nb b j)) (h2:=[Zbi,Zbv,.live (.box 195 [dU (Zcu b j).rest,dI (Zcu b j).e]),.live (.box 78 [(Zbx b j),(Zby b j),(Zbz b j),(Zc0 b j),(Zc1 b j),(Zc2 b j),(Zc3 b j),(Zc4 b j),(Zc5 b j),.d (dsl false false (kE false) (Zcu b j).l),(Zc7 b j),(Zc8 b j)]),(Zbr b)]) pt pZ7 hG)
 have hn6:j≠6:=(fun q=>hq11 p4c)
 refine cF (dF hq11) (sR [] ?_)
 by_cases hq12:((2 ^ j:Nat):Int)=128
 ·have hji:j=7:=X0d (i:=7) hj hq12;have hst:(Xv ((b.length:Nat):Int) 16777216 (rdR b 0 8 0) (rdE b 0 8 0) (rdI b 0) (j+1))=V5 ((b.length:Nat):Int) 16777216 (Xv ((b.length:Nat):Int) 16777216 (rdR b 0 8 0) (rdE b 0 8 0) (rdI b 0) j) 7:=Uu hji hbt;simp only [V5] at hst
  refine cT (dT hq12) (xK [hR 1 rfl rfl (rCa (X7x (Xv ((b.length:Nat):Int) 16777216 (rdR b 0 8 0) (rdE b 0 8 0) (rdI b 0) j).rest (Xv ((b.length:Nat):Int) 16777216 (rdR b 0 8 0) (rdE b 0 8 0) (rdI b 0) j).e (by omega)) Tryz.func196 [2] [(.tmp 90,.tv (.agg [.ptr 2 0]))] 1 1)] (nB (nB (nT (xK [hR 1 rfl rfl (Yd (u1:=.int .i64 ((2 ^ j:Nat):Int)) (u2:=.int .u64 1) (v:=.int .i64 (((2 ^ j)*2 ^ 1:Nat):Int)) (F3 (n:=1) rfl pw pc) (X3 rfl) ⟨rfl,trivial⟩)] ?_)))))
  refine nL (j+1) (show (j+1)≤9 from (by omega)) (show (9-(j+1):Nat)<9-j from (by omega)) (fun _ _ hG=>Yv [0,1,2,3,4] (bm 9 501) (t2:=(Zci tb nb b j)) (h2:=[Zbi,Zbv,.live (.box 195 [dU (Zcu b j).rest,dI (Zcu b j).e]),.live (.box 78 [(Zbx b j),(Zby b j),(Zbz b j),(Zc0 b j),(Zc1 b j),(Zc2 b j),(Zc3 b j),(Zc4 b j),(Zc5 b j),(Zc6 b j),.d (dsl false false (kE false) (Zcu b j).l),(Zc8 b j)]),(Zbr b)]) pt pZ7 hG)
 have hn7:j≠7:=(fun q=>hq12 p4c)
 refine cF (dF hq12) (sR [] ?_)
 by_cases hq13:((2 ^ j:Nat):Int)=256
 ·have hji:j=8:=X0d (i:=8) hj hq13;have hst:(Xv ((b.length:Nat):Int) 16777216 (rdR b 0 8 0) (rdE b 0 8 0) (rdI b 0) (j+1))=V5 ((b.length:Nat):Int) 16777216 (Xv ((b.length:Nat):Int) 16777216 (rdR b 0 8 0) (rdE b 0 8 0) (rdI b 0) j) 8:=Uu hji hbt;simp only [V5] at hst
  refine cT (dT hq13) (xK [hR 1 rfl rfl (rCa (Xjb (Xv ((b.length:Nat):Int) 16777216 (rdR b 0 8 0) (rdE b 0 8 0) (rdI b 0) j).rest (Xv ((b.length:Nat):Int) 16777216 (rdR b 0 8 0) (rdE b 0 8 0) (rdI b 0) j).e (by omega)) Tryz.func197 [2] [(.tmp 95,.tv (.agg [.ptr 2 0]))] 1 1)] (nB (nB (nT (xK [hR 1 rfl rfl (Yd (u1:=.int .i64 ((2 ^ j:Nat):Int)) (u2:=.int .u64 1) (v:=.int .i64 (((2 ^ j)*2 ^ 1:Nat):Int)) (F3 (n:=1) rfl pw pc) (X3 rfl) ⟨rfl,trivial⟩)] ?_)))))
  refine nL (j+1) (show (j+1)≤9 from (by omega)) (show (9-(j+1):Nat)<9-j from (by omega)) (fun _ _ hG=>Yv [0,1,2,3,4] (bm 9 501) (t2:=(Zci tb nb b j)) (h2:=[Zbi,Zbv,.live (.box 195 [dU (Zcv b j).rest,dI (Zcv b j).e]),.live (.box 78 [(Zbx b j),(Zby b j),(Zbz b j),(Zc0 b j),(Zc1 b j),(Zc2 b j),(Zc3 b j),(Zc4 b j),(Zc5 b j),(Zc6 b j),(Zc7 b j),.d (dsl false false (kC false) (Zcv b j).l)]),(Zbr b)]) pt pZ7 hG)
 exact absurd (show j=8 by omega) (fun q=>hq13 p4c)
abbrev Zd3 (B:List UInt8) (r:List UInt8) (e:Int):HS:=.live (.box 156 [dU B,dI ((V9 B (Vt (rdR r e 8 0) (rdE r e 8 0) 1099511627776):Nat):Int),dI (V3 (rdR r e 8 0) (rdE r e 8 0) 1099511627776)])
abbrev Zd4 (r:List UInt8) (e:Int):=(rdY (rdR r e 8 0) (rdE r e 8 0) 1099511627776)
abbrev Zd5 (B:List UInt8) (r:List UInt8) (e:Int):St:=⟨[pv 0 0,aa,pv 1 0],[(Zd3 B r e),.live (.box 43 [dI (rdI r e),.own 2 kU8.sz 0 (Zd4 r e).length]),.live (Xf 5 kU8 (Zd4 r e))]⟩
theorem X1f (B:List UInt8) (r:List UInt8) (e:Int) (hs:r <:+ B) (hB:B.length≤100000000):Holds Tryz.prog 193 ⟨[pv 0 0],[.box 156 [dU B,dI ((V9 B r:Nat):Int),dI e]],.tv (.agg [dI (evV 1099511627776 r e).X5,dU (evV 1099511627776 r e).Xd]),[.live (.box 156 [dU B,dI ((V9 B (evR 1099511627776 r e):Nat):Int),dI (evE 1099511627776 r e)])]⟩:=by
 refine Holds.of Tryz.func193 rfl (N:=8) Tryz.ntmps193 rfl fun w0 B0 S0 U0=>?_
 show T _ (Y2 8 1 w0 S0 U0 B0) ⟨[pv 0 0],[.live (.box 156 [dU B,dI ((V9 B r:Nat):Int),dI e])]⟩ _ _
 refine sR [] (sR [hR 1 rfl rfl (rCa (I9 B r e (by repeat assumption) (by omega)) Tryz.func94 [0] [(.tmp 3,pv 0 0)] 1 1),hR 3 rfl rfl (rCa (X07 B (rdR r e 8 0) (rdE r e 8 0) 1099511627776 pf (by omega)) Tryz.func95 [0,2] [(.tmp 5,pv 0 0),(.const (.int .i64 1099511627776),vI 1099511627776)] 1 2)] (T.ret ?_))
 refine eN (Zd5 B r e) ?_
 refine X7 (s':=⟨[pv 0 0,aa,pv 1 0],[(Zd3 B r e),.live (.box 43 [dI (rdI r e),dU (Zd4 r e)]),.dead]⟩) (fun _ _ hG=>Gs.freeze (s:=(Zd5 B r e)) 2 (el:=W7 kU8 (rdY (rdR r e 8 0) (rdE r e 8 0) 1099511627776)) (sz:=kU8.sz) (n:=(rdY (rdR r e 8 0) (rdE r e 8 0) 1099511627776).length) rfl ⟨.inl rfl,(kk2 trivial)⟩ ⟨pZ9,⟨p2t,⟨(.inl ⟨rfl,rfl⟩),trivial⟩⟩⟩ hG) ?_
 exact eX [.c 2 1 43 0 43 [dI (rdI r e),dU (Zd4 r e)] (.agg [dI (rdI r e),dU (Zd4 r e)])] ⟨⟨rfl,rfl,by kernel_rfl,by kernel_rfl,.inl ⟨2,F5,rfl,Nat.le_of_ble_eq_true rfl⟩⟩,trivial⟩ [0] (cg2 (fun (q1:Int) (q2:List UInt8)=>(.tv (.agg [dI q1,dU q2]):AV)) (by rfl) (by rfl)) ⟨⟨rfl,(by have e1:(((V9 B (Vt (rdR r e 8 0) (rdE r e 8 0) 1099511627776):Nat):Int):Int)=((V9 B (evR 1099511627776 r e):Nat):Int):=(by rfl);have e2:((V3 (rdR r e 8 0) (rdE r e 8 0) 1099511627776):Int)=(evE 1099511627776 r e):=(by rfl);have hE:=congr p2d e2;exact Eq.trans pZ8 hE)⟩,trivial⟩
section
variable (B:List UInt8) (r:List UInt8) (e:Int) (k:Nat)
abbrev Zd6:SV:=dU B
abbrev Zd7:AV:=vI ((rdC r e 15:Nat):Int)
abbrev Zd8:HS:=.live (.box 156 [(Zd6 B),dI ((V9 B (rdR r e 4 (Yw 15 (r.take 4))):Nat):Int),dI (rdE r e 4 (Yw 15 (r.take 4)))])
abbrev Zd9:=(Vl 1099511627776 r e k)
abbrev Zda:AV:=Y8 1 (kE false) 0 (Zd9 r e k).l.length
abbrev Zdb:List HS:=[.live (.box 156 [(Zd6 B),dI ((V9 B (Zd9 r e k).rest:Nat):Int),dI (Zd9 r e k).e]),.live (Xf 43 (kE false) (Zd9 r e k).l)]
abbrev Zde:=(evV 1099511627776 (Zd9 r e k).rest (Zd9 r e k).e)
abbrev Zdf:AV:=vI ((k+1:Nat):Int)
abbrev Zdg:List HS:=[.live (.box 156 [(Zd6 B),dI ((V9 B (Vl 1099511627776 r e (k+1)).rest:Nat):Int),dI (Vl 1099511627776 r e (k+1)).e]),.live (Xf 43 (kE false) (Vl 1099511627776 r e (k+1)).l)]
abbrev Zdh:List AV:=[pv 0 0,aa,(Zda r e k),(Zda r e k),(Zd7 r e),vI ((k:Nat):Int),aa,aa,aa,aa,vB (decide (((k:Nat):Int)<((rdC r e 15:Nat):Int)))]
end
theorem Eg (B:List UInt8) (r:List UInt8) (e:Int) (hs:r <:+ B) (hB:B.length≤100000000):Holds Tryz.prog 192 ⟨[pv 0 0],[.box 156 [dU B,dI ((V9 B r:Nat):Int),dI e]],slV false false (kE false) (Up 1099511627776 r e).l,[.live (.box 156 [dU B,dI ((V9 B (Up 1099511627776 r e).rest:Nat):Int),dI (Up 1099511627776 r e).e])]⟩:=by
 refine Holds.of Tryz.func192 rfl (N:=19) Tryz.ntmps192 rfl fun w0 B0 S0 U0=>?_
 show T _ (Y2 19 1 w0 S0 U0 B0) ⟨[pv 0 0],[.live (.box 156 [(Zd6 B),dI ((V9 B r:Nat):Int),dI e])]⟩ _ _
 refine sR [] (sR [] (sR [hR 1 rfl rfl (rCa (X49 B r e 15 (by repeat assumption) (by omega)) Tryz.func137 [0] [(.tmp 6,pv 0 0),(.const (.int .i64 15),vI 15)] 1 1)] (T.seq (sR [] (T.block ?_)))))
 refine tN ⟨[pv 0 0,aa,dv (.slice none 0 0),dv (.slice none 0 0),(Zd7 r e),vI 0],[(Zd8 B r e)]⟩ ?_
 refine Wx (s':=⟨[pv 0 0,aa,dv (.slice none 0 0),Y8 1 (kE false) 0 0,(Zd7 r e),vI 0],[(Zd8 B r e),.live (Xf 43 (kE false) ([]:List aE))]⟩) (fun _ _ hG=>U5 1 3 43 (kE false) rfl rfl hG) ?_
 refine T.loop (ι:=Nat) (fun (k:Nat)=>⟨[pv 0 0,aa,aa,(Zda r e k),(Zd7 r e),vI ((k:Nat):Int)],(Zdb B r e k)⟩) (fun (k:Nat)=>(k≤rdC r e 15)) (fun (k:Nat)=>rdC r e 15-k) (0) (Nat.zero_le _) (fun _ _ hG=>Yv [0,1] (bm 6 57) (t2:=[pv 0 0,aa,aa,Y8 1 (kE false) 0 0,(Zd7 r e),vI 0]) (h2:=[(Zd8 B r e),.live (Xf 43 (kE false) ([]:List aE))]) (congrArg (fun (q1:Nat)=>([pv 0 0,aa,aa,Y8 1 (kE false) 0 q1,(Zd7 r e),vI 0]:List AV)) (by rfl)) (cg3 (fun (q1:Int) (q2:Int) (q3:List aE)=>([.live (.box 156 [(Zd6 B),dI q1,dI q2]),.live (Xf 43 (kE false) q3)]:List HS)) (by rfl) (by rfl) (by rfl)) hG) ?_
 rintro k hk
 show T _ _ ⟨[pv 0 0,aa,aa,(Zda r e k),(Zd7 r e),vI ((k:Nat):Int)],(Zdb B r e k)⟩ _ _
 replace hk:k≤rdC r e 15:=hk
 have hg:=Fh 1099511627776 r e k
 have hg1:=hg.1
 have hg2:=hg.2
 have hcm:rdC r e 15≤15:=X2j r e 15
 refine T.seq (sR [] ?_)
 by_cases hq1:((k:Nat):Int)<((rdC r e 15:Nat):Int)
 ·refine cT (dT hq1) (T.skip (nT (T.seq (T.block ?_))))
  refine xR [hR 2 rfl rfl (rCa (X1f B (Vl 1099511627776 r e k).rest (Vl 1099511627776 r e k).e pf ‹_›) Tryz.func193 [0] [(.tmp 14,pv 0 0)] 1 1),hR 3 rfl rfl (Yc 2 43 (kE false) (W4 false) [(evV 1099511627776 (Vl 1099511627776 r e k).rest (Vl 1099511627776 r e k).e)] [⟨0,.tmp 15,.agg [dI (Zde r e k).X5,dU (Zde r e k).Xd],0⟩] (cs:=[dI (Zde r e k).X5,dU (Zde r e k).Xd]) Tryz.underlying37 Vi rfl F4 rfl rfl rfl pd (Yr rfl rfl pd W5) pZ8 (V4 pZ8) (X3 rfl) trivial),hR 4 rfl rfl (W2 1 3 43 32 (kE false) (W4 false) (Vl 1099511627776 r e k).l [(evV 1099511627776 (Vl 1099511627776 r e k).rest (Vl 1099511627776 r e k).e)] ((Vl 1099511627776 r e k).l++[(evV 1099511627776 (Vl 1099511627776 r e k).rest (Vl 1099511627776 r e k).e)]) (Vl 1099511627776 r e k).l.length (sy:=(.own 2 (kE false).sz 0 [(Zde r e k)].length)) (rhs:=[(2,.live (Xf 43 (kE false) [(Zde r e k)]))]) F9 (by omega) (Wv 2 43 (kE false) [(evV 1099511627776 (Vl 1099511627776 r e k).rest (Vl 1099511627776 r e k).e)]) Jy (by (simp [maxLen,-List.getD_eq_getElem?_getD]<;>omega)) (by (simp [maxLen,-List.getD_eq_getElem?_getD]<;>omega)) (X3 rfl) trivial)] pZ8 pZ8 ?_
  refine nB (nT (xK [hR 1 rfl rfl (Yd (u1:=.int .i64 ((k:Nat):Int)) (u2:=.int .i64 1) (v:=.int .i64 ((k+1:Nat):Int)) (Wb pc) (X3 rfl) ⟨rfl,trivial⟩)] ?_))
  refine nL (k+1) (show (k+1)≤rdC r e 15 from (by omega)) (show (rdC r e 15-(k+1):Nat)<rdC r e 15-k from (by omega)) (fun _ _ hG=>Wf [0,3] (bm 6 57) (t1:=[pv 0 0,aa,aa,Y8 3 (kE false) 0 (Vl 1099511627776 r e (k+1)).l.length,(Zd7 r e),(Zdf k)]) (t2:=[pv 0 0,aa,aa,Y8 3 (kE false) 0 ((Zd9 r e k).l++[(Zde r e k)]).length,(Zd7 r e),(Zdf k)]) (h1:=(Zdg B r e k)) (h2:=[.live (.box 156 [(Zd6 B),dI ((V9 B (evR 1099511627776 (Zd9 r e k).rest (Zd9 r e k).e):Nat):Int),dI (evE 1099511627776 (Zd9 r e k).rest (Zd9 r e k).e)]),.live (Xf 43 (kE false) ((Zd9 r e k).l++[(Zde r e k)]))]) (congrArg (fun (q1:Nat)=>([pv 0 0,aa,aa,Y8 3 (kE false) 0 q1,(Zd7 r e),(Zdf k)]:List AV)) (by rfl)) (cg3 (fun (q1:Int) (q2:Int) (q3:List aE)=>([.live (.box 156 [(Zd6 B),dI q1,dI q2]),.live (Xf 43 (kE false) q3)]:List HS)) (by rfl) (by rfl) (by rfl)) hG)
 refine cF (dF hq1) (T.exit (xT (xT (xH (nT (sR [] (T.ret ?_)))))))
 refine eN ⟨(Zdh r e k),(Zdb B r e k)⟩ ?_
 refine X7 (s':=⟨[pv 0 0,aa,slV false false (kE false) (Zd9 r e k).l,slV false false (kE false) (Zd9 r e k).l,(Zd7 r e),vI ((k:Nat):Int),aa,aa,aa,aa,vB (decide (((k:Nat):Int)<((rdC r e 15:Nat):Int)))],[.live (.box 156 [(Zd6 B),dI ((V9 B (Zd9 r e k).rest:Nat):Int),dI (Zd9 r e k).e]),.dead]⟩) (fun _ _ hG=>Gs.freeze (s:=⟨(Zdh r e k),(Zdb B r e k)⟩) 1 (el:=W7 (kE false) (Vl 1099511627776 r e k).l) (sz:=(kE false).sz) (n:=(Vl 1099511627776 r e k).l.length) rfl (kk2 ⟨(.inr pZ0),⟨(.inr pZ0),⟨.inl rfl,p4k⟩⟩⟩) ⟨pZ9,⟨(.inl ⟨rfl,rfl⟩),trivial⟩⟩ hG) ?_
 exact eRt 2 (.one (.d (dsl false false (kE false) (Zd9 r e k).l))) [0] (by have e1:((Up 1099511627776 r e).l:List aE)=(Vl 1099511627776 r e k).l:=p4j;have hE:=congrArg (fun (q1:List aE)=>(slV false false (kE false) q1:AV)) e1;exact hE) ⟨⟨rfl,(by have e1:(((V9 B (Vl 1099511627776 r e k).rest:Nat):Int):Int)=((V9 B (Up 1099511627776 r e).rest:Nat):Int):=p4j;have e2:((Vl 1099511627776 r e k).e:Int)=(Up 1099511627776 r e).e:=p4j;have hE:=congr (congrArg (fun (q1:Int) (q2:Int)=>(.live (.box 156 [(Zd6 B),dI q1,dI q2]):HS)) e1) e2;exact Eq.trans pZ8 hE)⟩,trivial⟩
section
variable (B:List UInt8) (r:List UInt8) (e:Int) (k:Int) (h:aH) (k2:Nat)
abbrev Zdi:SV:=.d (.val (.slice none 0 0))
abbrev Zdj:List SV:=[dI k,dI 0,dI 0,dI 0,dI 0,dS [],Zdi,dI 0,dI 0,Zdi,Zdi,Zdi]
abbrev Zdk:List SV:=[dB h.Y1,dB h.Xs,dB h.Xh,dB h.X9,dB h.Xc,dB h.X0,dB h.Xp,dB h.Y4,dB h.X6]
abbrev Zdl:SV:=dU B
abbrev Zdm:HS:=.live (.box 156 [(Zdl B),dI ((V9 B r:Nat):Int),dI e])
abbrev Zdn:List AV:=[pv 0 0,aa,aa,aa,pv 1 0,pv 2 0,pv 3 0]
abbrev Zdo:=(Xv 1099511627776 1099511627776 r e k 1)
abbrev Zdp:HS:=.live (.box 119 (Zdk h))
abbrev Zdq:HS:=.live (.box 78 [dI 0,dI 0,dI 0,dI 0,dI 0,dS [],Zdi,dI 0,dI 0,Zdi,Zdi,Zdi])
abbrev Zdr:List HS:=[.live (.box 156 [(Zdl B),dI ((V9 B (Zdo r e k).rest:Nat):Int),dI (Zdo r e k).e]),.live (.box 78 [dI (Zdo r e k).m.X1,dI (Zdo r e k).m.Y1,dI (Zdo r e k).m.Xs,dI (Zdo r e k).m.Xh,dI (Zdo r e k).m.Yh,dS (Zdo r e k).m.X9,dU (Zdo r e k).m.Xc,dI (Zdo r e k).m.X0.Xt,dI (Zdo r e k).m.X0.Xn,.d (dsl false false (kE false) (Zdo r e k).m.Xp),.d (dsl false false (kE false) (Zdo r e k).m.Y4),Zdi]),(Zdp h),Zdq]
abbrev Zds:List AV:=[pv 0 0,.tv (.agg (Zdj k)),.tv (.agg (Zdk h)),aa,pv 1 0,pv 2 0,pv 3 0]
abbrev Zdt:List HS:=[(Zdm B r e),.live (.box 78 [dI k,dI 0,dI 0,dI 0,dI 0,dS [],dU ([]:List UInt8),dI 0,dI 0,.d (dsl false false (kE false) ([]:List aE)),.d (dsl false false (kE false) ([]:List aE)),Zdi]),(Zdp h),Zdq]
abbrev Zdu:=(Xv 1099511627776 1099511627776 r e k 0)
abbrev Zdv:List HS:=[.live (.box 156 [(Zdl B),dI ((V9 B (Zdu r e k).rest:Nat):Int),dI (Zdu r e k).e]),.live (.box 78 [dI (Zdu r e k).m.X1,dI (Zdu r e k).m.Y1,dI (Zdu r e k).m.Xs,dI (Zdu r e k).m.Xh,dI (Zdu r e k).m.Yh,dS (Zdu r e k).m.X9,dU (Zdu r e k).m.Xc,dI (Zdu r e k).m.X0.Xt,dI (Zdu r e k).m.X0.Xn,.d (dsl false false (kE false) (Zdu r e k).m.Xp),.d (dsl false false (kE false) (Zdu r e k).m.Y4),Zdi]),(Zdp h),Zdq]
abbrev Zdw:List AV:=[pv 0 0,aa,aa,aa,pv 1 0,pv 2 0,pv 3 0,aa,aa,aa,vB h.Y1]
abbrev Zdx:List HS:=[.live (.box 156 [(Zdl B),dI ((V9 B (rdR (Zdu r e k).rest (Zdu r e k).e 8 0):Nat):Int),dI (rdE (Zdu r e k).rest (Zdu r e k).e 8 0)]),.live (.box 78 [dI (Zdu r e k).m.X1,dI (rdI (Zdu r e k).rest (Zdu r e k).e),dI (Zdu r e k).m.Xs,dI (Zdu r e k).m.Xh,dI (Zdu r e k).m.Yh,dS (Zdu r e k).m.X9,dU (Zdu r e k).m.Xc,dI (Zdu r e k).m.X0.Xt,dI (Zdu r e k).m.X0.Xn,.d (dsl false false (kE false) (Zdu r e k).m.Xp),.d (dsl false false (kE false) (Zdu r e k).m.Y4),Zdi]),(Zdp h),Zdq]
abbrev Zdy:=(Xv 1099511627776 1099511627776 r e k 2)
abbrev Zdz:List HS:=[.live (.box 156 [(Zdl B),dI ((V9 B (Zdy r e k).rest:Nat):Int),dI (Zdy r e k).e]),.live (.box 78 [dI (Zdy r e k).m.X1,dI (Zdy r e k).m.Y1,dI (Zdy r e k).m.Xs,dI (Zdy r e k).m.Xh,dI (Zdy r e k).m.Yh,dS (Zdy r e k).m.X9,dU (Zdy r e k).m.Xc,dI (Zdy r e k).m.X0.Xt,dI (Zdy r e k).m.X0.Xn,.d (dsl false false (kE false) (Zdy r e k).m.Xp),.d (dsl false false (kE false) (Zdy r e k).m.Y4),Zdi]),(Zdp h),Zdq]
abbrev Ze0:List AV:=[pv 0 0,aa,aa,aa,pv 1 0,pv 2 0,pv 3 0,aa,aa,aa,aa,aa,aa,aa,aa,vB h.Xs]
abbrev Ze1:List HS:=[.live (.box 156 [(Zdl B),dI ((V9 B (rdR (Zdo r e k).rest (Zdo r e k).e 8 0):Nat):Int),dI (rdE (Zdo r e k).rest (Zdo r e k).e 8 0)]),.live (.box 78 [dI (Zdo r e k).m.X1,dI (Zdo r e k).m.Y1,dI (rdI (Zdo r e k).rest (Zdo r e k).e),dI (Zdo r e k).m.Xh,dI (Zdo r e k).m.Yh,dS (Zdo r e k).m.X9,dU (Zdo r e k).m.Xc,dI (Zdo r e k).m.X0.Xt,dI (Zdo r e k).m.X0.Xn,.d (dsl false false (kE false) (Zdo r e k).m.Xp),.d (dsl false false (kE false) (Zdo r e k).m.Y4),Zdi]),(Zdp h),Zdq]
abbrev Ze2:=(Xv 1099511627776 1099511627776 r e k 3)
abbrev Ze3:List HS:=[.live (.box 156 [(Zdl B),dI ((V9 B (Ze2 r e k).rest:Nat):Int),dI (Ze2 r e k).e]),.live (.box 78 [dI (Ze2 r e k).m.X1,dI (Ze2 r e k).m.Y1,dI (Ze2 r e k).m.Xs,dI (Ze2 r e k).m.Xh,dI (Ze2 r e k).m.Yh,dS (Ze2 r e k).m.X9,dU (Ze2 r e k).m.Xc,dI (Ze2 r e k).m.X0.Xt,dI (Ze2 r e k).m.X0.Xn,.d (dsl false false (kE false) (Ze2 r e k).m.Xp),.d (dsl false false (kE false) (Ze2 r e k).m.Y4),Zdi]),(Zdp h),Zdq]
abbrev Ze4:List AV:=[pv 0 0,aa,aa,aa,pv 1 0,pv 2 0,pv 3 0,aa,aa,aa,aa,aa,aa,aa,aa,aa,aa,aa,aa,aa,vB h.Xh]
abbrev Ze5:List HS:=[.live (.box 156 [(Zdl B),dI ((V9 B (rdR (rdR (Zdy r e k).rest (Zdy r e k).e 8 0) (rdE (Zdy r e k).rest (Zdy r e k).e 8 0) 8 0):Nat):Int),dI (rdE (rdR (Zdy r e k).rest (Zdy r e k).e 8 0) (rdE (Zdy r e k).rest (Zdy r e k).e 8 0) 8 0)]),.live (.box 78 [dI (Zdy r e k).m.X1,dI (Zdy r e k).m.Y1,dI (Zdy r e k).m.Xs,dI (rdI (Zdy r e k).rest (Zdy r e k).e),dI (rdI (rdR (Zdy r e k).rest (Zdy r e k).e 8 0) (rdE (Zdy r e k).rest (Zdy r e k).e 8 0)),dS (Zdy r e k).m.X9,dU (Zdy r e k).m.Xc,dI (Zdy r e k).m.X0.Xt,dI (Zdy r e k).m.X0.Xn,.d (dsl false false (kE false) (Zdy r e k).m.Xp),.d (dsl false false (kE false) (Zdy r e k).m.Y4),Zdi]),(Zdp h),Zdq]
abbrev Ze6:=(Xv 1099511627776 1099511627776 r e k 4)
abbrev Ze7:SV:=.d (dsl false false (kE false) (Ze6 r e k).m.Xp)
abbrev Ze8:List HS:=[.live (.box 156 [(Zdl B),dI ((V9 B (Ze6 r e k).rest:Nat):Int),dI (Ze6 r e k).e]),.live (.box 78 [dI (Ze6 r e k).m.X1,dI (Ze6 r e k).m.Y1,dI (Ze6 r e k).m.Xs,dI (Ze6 r e k).m.Xh,dI (Ze6 r e k).m.Yh,dS (Ze6 r e k).m.X9,dU (Ze6 r e k).m.Xc,dI (Ze6 r e k).m.X0.Xt,dI (Ze6 r e k).m.X0.Xn,(Ze7 r e k),.d (dsl false false (kE false) (Ze6 r e k).m.Y4),Zdi]),(Zdp h),Zdq]
abbrev Ze9:=(rdY (Ze2 r e k).rest (Ze2 r e k).e 1099511627776)
abbrev Zea:List AV:=[pv 0 0,aa,aa,aa,pv 1 0,pv 2 0,pv 3 0,aa,aa,aa,aa,aa,aa,aa,aa,aa,aa,aa,aa,aa,aa,aa,aa,aa,aa,aa,aa,aa,vB h.X9]
abbrev Zeb:HS:=.live (.box 156 [(Zdl B),dI ((V9 B (Vt (Ze2 r e k).rest (Ze2 r e k).e 1099511627776):Nat):Int),dI (V3 (Ze2 r e k).rest (Ze2 r e k).e 1099511627776)])
abbrev Zec:HS:=.live (.box 78 [dI (Ze2 r e k).m.X1,dI (Ze2 r e k).m.Y1,dI (Ze2 r e k).m.Xs,dI (Ze2 r e k).m.Xh,dI (Ze2 r e k).m.Yh,dS (Ze9 r e k),dU (Ze2 r e k).m.Xc,dI (Ze2 r e k).m.X0.Xt,dI (Ze2 r e k).m.X0.Xn,.d (dsl false false (kE false) (Ze2 r e k).m.Xp),.d (dsl false false (kE false) (Ze2 r e k).m.Y4),Zdi])
abbrev Zed:=(Xv 1099511627776 1099511627776 r e k 5)
abbrev Zee:List HS:=[.live (.box 156 [(Zdl B),dI ((V9 B (Zed r e k).rest:Nat):Int),dI (Zed r e k).e]),.live (.box 78 [dI (Zed r e k).m.X1,dI (Zed r e k).m.Y1,dI (Zed r e k).m.Xs,dI (Zed r e k).m.Xh,dI (Zed r e k).m.Yh,dS (Zed r e k).m.X9,dU (Zed r e k).m.Xc,dI (Zed r e k).m.X0.Xt,dI (Zed r e k).m.X0.Xn,.d (dsl false false (kE false) (Zed r e k).m.Xp),.d (dsl false false (kE false) (Zed r e k).m.Y4),Zdi]),(Zdp h),Zdq]
abbrev Zef:List AV:=[pv 0 0,aa,aa,aa,pv 1 0,pv 2 0,pv 3 0,aa,aa,aa,aa,aa,aa,aa,aa,aa,aa,aa,aa,aa,aa,aa,aa,aa,aa,aa,aa,aa,aa,aa,aa,aa,aa,aa,vB h.Xc]
abbrev Zeg:HS:=.live (.box 156 [(Zdl B),dI ((V9 B (Vt (Ze6 r e k).rest (Ze6 r e k).e 1099511627776):Nat):Int),dI (V3 (Ze6 r e k).rest (Ze6 r e k).e 1099511627776)])
abbrev Zeh:=(rdY (Ze6 r e k).rest (Ze6 r e k).e 1099511627776)
abbrev Zei:St:=⟨(Zef h),[(Zeg B r e k),.live (.box 78 [dI (Ze6 r e k).m.X1,dI (Ze6 r e k).m.Y1,dI (Ze6 r e k).m.Xs,dI (Ze6 r e k).m.Xh,dI (Ze6 r e k).m.Yh,dS (Ze6 r e k).m.X9,.own 4 kU8.sz 0 (Zeh r e k).length,dI (Ze6 r e k).m.X0.Xt,dI (Ze6 r e k).m.X0.Xn,(Ze7 r e k),.d (dsl false false (kE false) (Ze6 r e k).m.Y4),Zdi]),(Zdp h),Zdq,.live (Xf 5 kU8 (Zeh r e k))]⟩
abbrev Zej:HS:=.live (.box 78 [dI (Ze6 r e k).m.X1,dI (Ze6 r e k).m.Y1,dI (Ze6 r e k).m.Xs,dI (Ze6 r e k).m.Xh,dI (Ze6 r e k).m.Yh,dS (Ze6 r e k).m.X9,dU (Zeh r e k),dI (Ze6 r e k).m.X0.Xt,dI (Ze6 r e k).m.X0.Xn,(Ze7 r e k),.d (dsl false false (kE false) (Ze6 r e k).m.Y4),Zdi])
abbrev Zek:=(Xv 1099511627776 1099511627776 r e k 6)
abbrev Zel:List HS:=[.live (.box 156 [(Zdl B),dI ((V9 B (Zek r e k).rest:Nat):Int),dI (Zek r e k).e]),.live (.box 78 [dI (Zek r e k).m.X1,dI (Zek r e k).m.Y1,dI (Zek r e k).m.Xs,dI (Zek r e k).m.Xh,dI (Zek r e k).m.Yh,dS (Zek r e k).m.X9,dU (Zek r e k).m.Xc,dI (Zek r e k).m.X0.Xt,dI (Zek r e k).m.X0.Xn,.d (dsl false false (kE false) (Zek r e k).m.Xp),.d (dsl false false (kE false) (Zek r e k).m.Y4),Zdi]),(Zdp h),Zdq]
abbrev Zem:List AV:=[pv 0 0,aa,aa,aa,pv 1 0,pv 2 0,pv 3 0,aa,aa,aa,aa,aa,aa,aa,aa,aa,aa,aa,aa,aa,aa,aa,aa,aa,aa,aa,aa,aa,aa,aa,aa,aa,aa,aa,aa,aa,aa,aa,aa,vB h.X0]
abbrev Zen:List HS:=[.live (.box 156 [(Zdl B),dI ((V9 B (rdR (rdR (Zed r e k).rest (Zed r e k).e 8 0) (rdE (Zed r e k).rest (Zed r e k).e 8 0) 8 0):Nat):Int),dI (rdE (rdR (Zed r e k).rest (Zed r e k).e 8 0) (rdE (Zed r e k).rest (Zed r e k).e 8 0) 8 0)]),.live (.box 78 [dI (Zed r e k).m.X1,dI (Zed r e k).m.Y1,dI (Zed r e k).m.Xs,dI (Zed r e k).m.Xh,dI (Zed r e k).m.Yh,dS (Zed r e k).m.X9,dU (Zed r e k).m.Xc,dI (rdI (Zed r e k).rest (Zed r e k).e),dI (rdI (rdR (Zed r e k).rest (Zed r e k).e 8 0) (rdE (Zed r e k).rest (Zed r e k).e 8 0)),.d (dsl false false (kE false) (Zed r e k).m.Xp),.d (dsl false false (kE false) (Zed r e k).m.Y4),Zdi]),(Zdp h),Zdq]
abbrev Zeo:=(Xv 1099511627776 1099511627776 r e k 7)
abbrev Zep:List HS:=[.live (.box 156 [(Zdl B),dI ((V9 B (Zeo r e k).rest:Nat):Int),dI (Zeo r e k).e]),.live (.box 78 [dI (Zeo r e k).m.X1,dI (Zeo r e k).m.Y1,dI (Zeo r e k).m.Xs,dI (Zeo r e k).m.Xh,dI (Zeo r e k).m.Yh,dS (Zeo r e k).m.X9,dU (Zeo r e k).m.Xc,dI (Zeo r e k).m.X0.Xt,dI (Zeo r e k).m.X0.Xn,.d (dsl false false (kE false) (Zeo r e k).m.Xp),.d (dsl false false (kE false) (Zeo r e k).m.Y4),Zdi]),(Zdp h),Zdq]
abbrev Zeq:List AV:=[pv 0 0,aa,aa,aa,pv 1 0,pv 2 0,pv 3 0,aa,aa,aa,aa,aa,aa,aa,aa,aa,aa,aa,aa,aa,aa,aa,aa,aa,aa,aa,aa,aa,aa,aa,aa,aa,aa,aa,aa,aa,aa,aa,aa,aa,aa,aa,aa,aa,aa,aa,aa,vB h.Xp]
abbrev Zer:=(Up 1099511627776 (Zek r e k).rest (Zek r e k).e)
abbrev Zes:List HS:=[.live (.box 156 [(Zdl B),dI ((V9 B (Zer r e k).rest:Nat):Int),dI (Zer r e k).e]),.live (.box 78 [dI (Zek r e k).m.X1,dI (Zek r e k).m.Y1,dI (Zek r e k).m.Xs,dI (Zek r e k).m.Xh,dI (Zek r e k).m.Yh,dS (Zek r e k).m.X9,dU (Zek r e k).m.Xc,dI (Zek r e k).m.X0.Xt,dI (Zek r e k).m.X0.Xn,.d (dsl false false (kE false) (Zer r e k).l),.d (dsl false false (kE false) (Zek r e k).m.Y4),Zdi]),(Zdp h),Zdq]
abbrev Zet:=(Xv 1099511627776 1099511627776 r e k 8)
abbrev Zeu:SV:=dI (Zet r e k).m.X1
abbrev Zev:SV:=dI (Zet r e k).m.Y1
abbrev Zew:SV:=dI (Zet r e k).m.Xs
abbrev Zex:SV:=dI (Zet r e k).m.Xh
abbrev Zey:SV:=dI (Zet r e k).m.Yh
abbrev Zez:SV:=dS (Zet r e k).m.X9
abbrev Zf0:SV:=dU (Zet r e k).m.Xc
abbrev Zf1:SV:=dI (Zet r e k).m.X0.Xt
abbrev Zf2:SV:=dI (Zet r e k).m.X0.Xn
abbrev Zf3:SV:=.d (dsl false false (kE false) (Zet r e k).m.Xp)
abbrev Zf4:SV:=.d (dsl false false (kE false) (Zet r e k).m.Y4)
abbrev Zf5:HS:=.live (.box 78 [(Zeu r e k),(Zev r e k),(Zew r e k),(Zex r e k),(Zey r e k),(Zez r e k),(Zf0 r e k),(Zf1 r e k),(Zf2 r e k),(Zf3 r e k),(Zf4 r e k),Zdi])
abbrev Zf6:List HS:=[.live (.box 156 [(Zdl B),dI ((V9 B (Zet r e k).rest:Nat):Int),dI (Zet r e k).e]),(Zf5 r e k),(Zdp h),Zdq]
abbrev Zf7:List AV:=[pv 0 0,aa,aa,aa,pv 1 0,pv 2 0,pv 3 0,aa,aa,aa,aa,aa,aa,aa,aa,aa,aa,aa,aa,aa,aa,aa,aa,aa,aa,aa,aa,aa,aa,aa,aa,aa,aa,aa,aa,aa,aa,aa,aa,aa,aa,aa,aa,aa,aa,aa,aa,aa,aa,aa,aa,aa,vB h.Y4]
abbrev Zf8:=(Up 1099511627776 (Zeo r e k).rest (Zeo r e k).e)
abbrev Zf9:List HS:=[.live (.box 156 [(Zdl B),dI ((V9 B (Zf8 r e k).rest:Nat):Int),dI (Zf8 r e k).e]),.live (.box 78 [dI (Zeo r e k).m.X1,dI (Zeo r e k).m.Y1,dI (Zeo r e k).m.Xs,dI (Zeo r e k).m.Xh,dI (Zeo r e k).m.Yh,dS (Zeo r e k).m.X9,dU (Zeo r e k).m.Xc,dI (Zeo r e k).m.X0.Xt,dI (Zeo r e k).m.X0.Xn,.d (dsl false false (kE false) (Zeo r e k).m.Xp),.d (dsl false false (kE false) (Zf8 r e k).l),Zdi]),(Zdp h),Zdq]
abbrev Zfa:=(Xv 1099511627776 1099511627776 r e k 9)
abbrev Zfb:List SV:=[dI (Zfa r e k).m.X1,dI (Zfa r e k).m.Y1,dI (Zfa r e k).m.Xs,dI (Zfa r e k).m.Xh,dI (Zfa r e k).m.Yh,dS (Zfa r e k).m.X9,dU (Zfa r e k).m.Xc,dI (Zfa r e k).m.X0.Xt,dI (Zfa r e k).m.X0.Xn,.d (dsl false false (kE false) (Zfa r e k).m.Xp),.d (dsl false false (kE false) (Zfa r e k).m.Y4),.d (dsl false false (kC false) (Zfa r e k).m.X6)]
abbrev Zfc:List HS:=[.live (.box 156 [(Zdl B),dI ((V9 B (Zfa r e k).rest:Nat):Int),dI (Zfa r e k).e]),.live (.box 78 (Zfb r e k)),(Zdp h),Zdq]
abbrev Zfd:AV:=vI ((rdC (Zet r e k).rest (Zet r e k).e 8:Nat):Int)
abbrev Zfe:List AV:=[pv 0 0,aa,aa,aa,pv 1 0,pv 2 0,pv 3 0,(Zfd r e k),vI 0,aa,aa,aa,aa,aa,aa,aa,aa,aa,aa,aa,aa,aa,aa,aa,aa,aa,aa,aa,aa,aa,aa,aa,aa,aa,aa,aa,aa,aa,aa,aa,aa,aa,aa,aa,aa,aa,aa,aa,aa,aa,aa,aa,aa,aa,aa,aa,aa,vB h.X6]
abbrev Zff:HS:=.live (.box 156 [(Zdl B),dI ((V9 B (rdR (Zet r e k).rest (Zet r e k).e 4 (Yw 8 ((Zet r e k).rest.take 4))):Nat):Int),dI (rdE (Zet r e k).rest (Zet r e k).e 4 (Yw 8 ((Zet r e k).rest.take 4)))])
abbrev Zfg:List HS:=[(Zff B r e k),.live (.box 78 [(Zeu r e k),(Zev r e k),(Zew r e k),(Zex r e k),(Zey r e k),(Zez r e k),(Zf0 r e k),(Zf1 r e k),(Zf2 r e k),(Zf3 r e k),(Zf4 r e k),.own 4 (kC false).sz 0 0]),(Zdp h),Zdq,.live (Xf 86 (kC false) ([]:List aC))]
abbrev Zfh:=(Wa 1099511627776 (Zet r e k).rest (Zet r e k).e k2)
abbrev Zfi:HS:=.live (.box 156 [(Zdl B),dI ((V9 B (Zfh r e k k2).rest:Nat):Int),dI (Zfh r e k k2).e])
abbrev Zfj:List HS:=[(Zfi B r e k k2),.live (.box 78 [(Zeu r e k),(Zev r e k),(Zew r e k),(Zex r e k),(Zey r e k),(Zez r e k),(Zf0 r e k),(Zf1 r e k),(Zf2 r e k),(Zf3 r e k),(Zf4 r e k),.own 4 (kC false).sz 0 (Zfh r e k k2).l.length]),(Zdp h),Zdq,.live (Xf 86 (kC false) (Zfh r e k k2).l)]
abbrev Zfm:=(evV 1099511627776 (Zfh r e k k2).rest (Zfh r e k k2).e)
abbrev Zfn:=(Up 1099511627776 (evR 1099511627776 (Zfh r e k k2).rest (Zfh r e k k2).e) (evE 1099511627776 (Zfh r e k k2).rest (Zfh r e k k2).e))
abbrev Zfo:=(aC.mk (Zfm r e k k2) (Zfn r e k k2).l)
abbrev Zfp:=(Wa 1099511627776 (Zet r e k).rest (Zet r e k).e (k2+1))
abbrev Zfq:List AV:=[pv 0 0,aa,aa,aa,pv 1 0,pv 2 0,pv 3 0,(Zfd r e k),vI ((k2:Nat):Int),aa,aa,aa,aa,aa,aa,aa,aa,aa,aa,aa,aa,aa,aa,aa,aa,aa,aa,aa,aa,aa,aa,aa,aa,aa,aa,aa,aa,aa,aa,aa,aa,aa,aa,aa,aa,aa,aa,aa,aa,aa,aa,aa,aa,aa,aa,aa,aa,aa,aa,aa,aa,aa,vB (decide (((k2:Nat):Int)<((rdC (Zet r e k).rest (Zet r e k).e 8:Nat):Int)))]
abbrev Zfr:HS:=.live (.box 78 [(Zeu r e k),(Zev r e k),(Zew r e k),(Zex r e k),(Zey r e k),(Zez r e k),(Zf0 r e k),(Zf1 r e k),(Zf2 r e k),(Zf3 r e k),(Zf4 r e k),.d (dsl false false (kC false) (Zfh r e k k2).l)])
abbrev Zfs:List AV:=[pv 0 0,aa,aa,aa,pv 1 0,pv 2 0,pv 3 0,aa,aa,aa,aa,aa,aa,aa,aa,aa,aa,aa,aa,aa,aa,aa,aa,aa,aa,aa,aa,aa,aa,aa,aa,aa,aa,aa,aa,aa,aa,aa,aa,aa,aa,aa,aa,aa,aa,aa,aa,aa,aa,aa,aa,aa,aa,aa,aa,aa,aa,vB h.X6]
abbrev Zft:List HS:=[.live (.box 156 [(Zdl B),dI ((V9 B (Zet r e k).rest:Nat):Int),dI (Zet r e k).e]),.live (.box 78 [(Zeu r e k),(Zev r e k),(Zew r e k),(Zex r e k),(Zey r e k),(Zez r e k),(Zf0 r e k),(Zf1 r e k),(Zf2 r e k),(Zf3 r e k),(Zf4 r e k),.d (dsl false false (kC false) ([]:List aC))]),(Zdp h),Zdq]
end
theorem Xji (B:List UInt8) (r:List UInt8) (e:Int) (k:Int) (h:aH) (hs:r <:+ B) (hB:B.length≤100000000) (hh:h=Xi k):Holds Tryz.prog 185 ⟨[pv 0 0,.tv (.agg [dI k,dI 0,dI 0,dI 0,dI 0,dS [],.d (.val (.slice none 0 0)),dI 0,dI 0,.d (.val (.slice none 0 0)),.d (.val (.slice none 0 0)),.d (.val (.slice none 0 0))]),.tv (.agg [dB h.Y1,dB h.Xs,dB h.Xh,dB h.X9,dB h.Xc,dB h.X0,dB h.Xp,dB h.Y4,dB h.X6])],[.box 156 [dU B,dI ((V9 B r:Nat):Int),dI e]],.tv (.agg [dI (Xv 1099511627776 1099511627776 r e k 9).m.X1,dI (Xv 1099511627776 1099511627776 r e k 9).m.Y1,dI (Xv 1099511627776 1099511627776 r e k 9).m.Xs,dI (Xv 1099511627776 1099511627776 r e k 9).m.Xh,dI (Xv 1099511627776 1099511627776 r e k 9).m.Yh,dS (Xv 1099511627776 1099511627776 r e k 9).m.X9,dU (Xv 1099511627776 1099511627776 r e k 9).m.Xc,dI (Xv 1099511627776 1099511627776 r e k 9).m.X0.Xt,dI (Xv 1099511627776 1099511627776 r e k 9).m.X0.Xn,.d (dsl false false (kE false) (Xv 1099511627776 1099511627776 r e k 9).m.Xp),.d (dsl false false (kE false) (Xv 1099511627776 1099511627776 r e k 9).m.Y4),.d (dsl false false (kC false) (Xv 1099511627776 1099511627776 r e k 9).m.X6)]),[.live (.box 156 [dU B,dI ((V9 B (Xv 1099511627776 1099511627776 r e k 9).rest:Nat):Int),dI (Xv 1099511627776 1099511627776 r e k 9).e])]⟩:=by
 refine Holds.of Tryz.func185 rfl (N:=76) Tryz.ntmps185 rfl fun w0 B0 S0 U0=>?_
 show T _ (Y2 76 1 w0 S0 U0 B0) ⟨[pv 0 0,.tv (.agg (Zdj k)),.tv (.agg (Zdk h))],[(Zdm B r e)]⟩ _ _
 refine sR [] ?_
 refine Um ⟨Zdn,(Zdr B r e k h)⟩ ?_ ?_
 ·refine tN ⟨(Zds k h),[(Zdm B r e),.live (.box 78 (Zdj k)),(Zdp h),Zdq]⟩ ?_
  refine Wx (s':=⟨(Zds k h),(Zdt B r e k h)⟩) (fun _ _ hG=>Yt (s:=⟨(Zds k h),[(Zdm B r e),.live (.box 78 (Zdj k)),(Zdp h),Zdq]⟩) ⟨.inl rfl,p4k⟩ ⟨.inl rfl,⟨(.inr ⟨rfl,(kk2 (kk4 ⟨pZ5,(kk2 ⟨pZ5,⟨pZ5,⟨.inl rfl,trivial⟩⟩⟩)⟩))⟩),(kk2 trivial)⟩⟩ hG) ?_
  refine Wx (s':=⟨Zdn,(Zdv B r e k h)⟩) (fun _ _ hG=>Yv [0,1,2,3] (bm 7 113) (h2:=(Zdt B r e k h)) rfl (cg13 (fun (q1:Int) (q2:Int) (q3:Int) (q4:Int) (q5:Int) (q6:Int) (q7:Int) (q8:List UInt8) (q9:List UInt8) (q10:Int) (q11:Int) (q12:List aE) (q13:List aE)=>([.live (.box 156 [(Zdl B),dI q1,dI q2]),.live (.box 78 [dI q3,dI q4,dI q5,dI q6,dI q7,dS q8,dU q9,dI q10,dI q11,.d (dsl false false (kE false) q12),.d (dsl false false (kE false) q13),Zdi]),(Zdp h),Zdq]:List HS)) (by rfl) (by rfl) (by rfl) (by rfl) (by rfl) (by rfl) (by rfl) (by rfl) (by rfl) (by rfl) (by rfl) (by rfl) (by rfl)) hG) (sR [] ?_)
  by_cases hq1:h.Y1=true
  ·have hbt:Ux (Xi k) 0=true:=(by subst hh;exact hq1);have hst:(Xv 1099511627776 1099511627776 r e k 1)=V5 1099511627776 1099511627776 (Xv 1099511627776 1099511627776 r e k 0) 0:=Uu rfl hbt;simp only [V5] at hst
   refine cT hq1 (xK [hR 1 rfl rfl (rCa (I9 B (Xv 1099511627776 1099511627776 r e k 0).rest (Xv 1099511627776 1099511627776 r e k 0).e (by repeat assumption) (by omega)) Tryz.func94 [0] [(.tmp 11,pv 0 0)] 1 1)] ?_)
   refine eN ⟨(Zdw h),(Zdx B r e k h)⟩ ?_
   refine X7 (s':=⟨Zdn,(Zdr B r e k h)⟩) (fun _ _ hG=>Yv [0,1,2,3] (bm 7 113) (h2:=(Zdx B r e k h)) rfl pZ1 hG) ?_
   exact nJ
  have hbt:¬Ux (Xi k) 0=true:=(by subst hh;exact hq1);have hst:(Xv 1099511627776 1099511627776 r e k 1)=(Xv 1099511627776 1099511627776 r e k 0):=Ef hbt
  replace hq1:=Bool.eq_false_iff.2 hq1
  refine cF hq1 (T.skip ?_)
  refine eN ⟨(Zdw h),(Zdv B r e k h)⟩ ?_
  refine X7 (s':=⟨Zdn,(Zdr B r e k h)⟩) (fun _ _ hG=>Yv [0,1,2,3] (bm 7 113) (h2:=(Zdv B r e k h)) rfl pZ1 hG) ?_
  exact nJ
 refine Um ⟨Zdn,(Zdz B r e k h)⟩ ?_ ?_
 ·refine sR [] ?_
  by_cases hq2:h.Xs=true
  ·have hbt:Ux (Xi k) 1=true:=(by subst hh;exact hq2);have hst:(Xv 1099511627776 1099511627776 r e k 2)=V5 1099511627776 1099511627776 (Xv 1099511627776 1099511627776 r e k 1) 1:=Uu rfl hbt;simp only [V5] at hst
   refine cT hq2 (xK [hR 1 rfl rfl (rCa (I9 B (Xv 1099511627776 1099511627776 r e k 1).rest (Xv 1099511627776 1099511627776 r e k 1).e pf (by omega)) Tryz.func94 [0] [(.tmp 16,pv 0 0)] 1 1)] ?_)
   refine eN ⟨(Ze0 h),(Ze1 B r e k h)⟩ ?_
   refine X7 (s':=⟨Zdn,(Zdz B r e k h)⟩) (fun _ _ hG=>Yv [0,1,2,3] (bm 7 113) (h2:=(Ze1 B r e k h)) rfl pZ1 hG) ?_
   exact nJ
  have hbt:¬Ux (Xi k) 1=true:=(by subst hh;exact hq2);have hst:(Xv 1099511627776 1099511627776 r e k 2)=(Xv 1099511627776 1099511627776 r e k 1):=Ef hbt
  replace hq2:=Bool.eq_false_iff.2 hq2
  refine cF hq2 (T.skip ?_)
  refine eN ⟨(Ze0 h),(Zdr B r e k h)⟩ ?_
  refine X7 (s':=⟨Zdn,(Zdz B r e k h)⟩) (fun _ _ hG=>Yv [0,1,2,3] (bm 7 113) (h2:=(Zdr B r e k h)) rfl pZ1 hG) ?_
  exact nJ
 refine Um ⟨Zdn,(Ze3 B r e k h)⟩ ?_ ?_
 ·refine sR [] ?_
  by_cases hq3:h.Xh=true
  ·have hbt:Ux (Xi k) 2=true:=(by subst hh;exact hq3);have hst:(Xv 1099511627776 1099511627776 r e k 3)=V5 1099511627776 1099511627776 (Xv 1099511627776 1099511627776 r e k 2) 2:=Uu rfl hbt;simp only [V5] at hst
   refine cT hq3 (sR [hR 1 rfl rfl (rCa (I9 B (Xv 1099511627776 1099511627776 r e k 2).rest (Xv 1099511627776 1099511627776 r e k 2).e pf (by omega)) Tryz.func94 [0] [(.tmp 21,pv 0 0)] 1 1)] (xK [hR 1 rfl rfl (rCa (I9 B (rdR (Xv 1099511627776 1099511627776 r e k 2).rest (Xv 1099511627776 1099511627776 r e k 2).e 8 0) (rdE (Xv 1099511627776 1099511627776 r e k 2).rest (Xv 1099511627776 1099511627776 r e k 2).e 8 0) pf (by omega)) Tryz.func94 [0] [(.tmp 24,pv 0 0)] 1 1)] ?_))
   refine eN ⟨(Ze4 h),(Ze5 B r e k h)⟩ ?_
   refine X7 (s':=⟨Zdn,(Ze3 B r e k h)⟩) (fun _ _ hG=>Yv [0,1,2,3] (bm 7 113) (h2:=(Ze5 B r e k h)) rfl pZ1 hG) ?_
   exact nJ
  have hbt:¬Ux (Xi k) 2=true:=(by subst hh;exact hq3);have hst:(Xv 1099511627776 1099511627776 r e k 3)=(Xv 1099511627776 1099511627776 r e k 2):=Ef hbt
  replace hq3:=Bool.eq_false_iff.2 hq3
  refine cF hq3 (T.skip ?_)
  refine eN ⟨(Ze4 h),(Zdz B r e k h)⟩ ?_
  refine X7 (s':=⟨Zdn,(Ze3 B r e k h)⟩) (fun _ _ hG=>Yv [0,1,2,3] (bm 7 113) (h2:=(Zdz B r e k h)) rfl pZ1 hG) ?_
  exact nJ
 refine Um ⟨Zdn,(Ze8 B r e k h)⟩ ?_ ?_
 ·refine sR [] ?_
  by_cases hq4:h.X9=true
  ·have hbt:Ux (Xi k) 3=true:=(by subst hh;exact hq4);have hst:(Xv 1099511627776 1099511627776 r e k 4)=V5 1099511627776 1099511627776 (Xv 1099511627776 1099511627776 r e k 3) 3:=Uu rfl hbt;simp only [V5] at hst
   refine cT hq4 ?_
   refine xR [hR 1 rfl rfl (rCa (X07 B (Xv 1099511627776 1099511627776 r e k 3).rest (Xv 1099511627776 1099511627776 r e k 3).e 1099511627776 pf (by omega)) Tryz.func95 [0,4] [(.tmp 29,pv 0 0),(.const (.int .i64 1099511627776),vI 1099511627776)] 1 2),hR 2 rfl rfl (Hp () (rdY (Xv 1099511627776 1099511627776 r e k 3).rest (Xv 1099511627776 1099511627776 r e k 3).e 1099511627776) (ys:=(.own 4 kU8.sz 0 (Ze9 r e k).length)) (rhs:=[(4,.live (Xf 5 kU8 (Ze9 r e k)))]) Tryz.underlying25 Tryz.underlying5 Tryz.underlying60 (Wv 4 5 kU8 (rdY (Xv 1099511627776 1099511627776 r e k 3).rest (Xv 1099511627776 1099511627776 r e k 3).e 1099511627776)) (X3 rfl) trivial)] pZ8 pZ8 ?_
   refine eN ⟨(Zea h),[(Zeb B r e k),(Zec r e k),(Zdp h),Zdq,.live (Xf 5 kU8 (Ze9 r e k))]⟩ ?_
   refine X7 (s':=⟨Zdn,(Ze8 B r e k h)⟩) (fun _ _ hG=>Yv [0,1,2,3] (bm 7 113) (h2:=[(Zeb B r e k),(Zec r e k),(Zdp h),Zdq]) rfl pZ1 hG) ?_
   exact nJ
  have hbt:¬Ux (Xi k) 3=true:=(by subst hh;exact hq4);have hst:(Xv 1099511627776 1099511627776 r e k 4)=(Xv 1099511627776 1099511627776 r e k 3):=Ef hbt
  replace hq4:=Bool.eq_false_iff.2 hq4
  refine cF hq4 (T.skip ?_)
  refine eN ⟨(Zea h),(Ze3 B r e k h)⟩ ?_
  refine X7 (s':=⟨Zdn,(Ze8 B r e k h)⟩) (fun _ _ hG=>Yv [0,1,2,3] (bm 7 113) (h2:=(Ze3 B r e k h)) rfl pZ1 hG) ?_
  exact nJ
 refine Um ⟨Zdn,(Zee B r e k h)⟩ ?_ ?_
 ·refine sR [] ?_
  by_cases hq5:h.Xc=true
  ·have hbt:Ux (Xi k) 4=true:=(by subst hh;exact hq5);have hst:(Xv 1099511627776 1099511627776 r e k 5)=V5 1099511627776 1099511627776 (Xv 1099511627776 1099511627776 r e k 4) 4:=Uu rfl hbt;simp only [V5] at hst
   refine cT hq5 (xK [hR 1 rfl rfl (rCa (X07 B (Xv 1099511627776 1099511627776 r e k 4).rest (Xv 1099511627776 1099511627776 r e k 4).e 1099511627776 pf (by omega)) Tryz.func95 [0,4] [(.tmp 35,pv 0 0),(.const (.int .i64 1099511627776),vI 1099511627776)] 1 2)] ?_)
   refine eN (Zei B r e k h) ?_
   refine X7 (s':=⟨(Zef h),[(Zeg B r e k),(Zej r e k),(Zdp h),Zdq,.dead]⟩) (fun _ _ hG=>Gs.freeze (s:=(Zei B r e k h)) 4 (el:=W7 kU8 (rdY (Xv 1099511627776 1099511627776 r e k 4).rest (Xv 1099511627776 1099511627776 r e k 4).e 1099511627776)) (sz:=kU8.sz) (n:=(rdY (Xv 1099511627776 1099511627776 r e k 4).rest (Xv 1099511627776 1099511627776 r e k 4).e 1099511627776).length) rfl ⟨.inl rfl,(kk2 (X3n trivial))⟩ ⟨pZ9,⟨p4q,⟨pZ9,⟨pZ9,⟨(.inl ⟨rfl,rfl⟩),trivial⟩⟩⟩⟩⟩ hG) ?_
   refine X7 (s':=⟨Zdn,(Zee B r e k h)⟩) (fun _ _ hG=>Yv [0,1,2,3] (bm 7 113) (h2:=[(Zeg B r e k),(Zej r e k),(Zdp h),Zdq]) rfl pZ1 hG) ?_
   exact nJ
  have hbt:¬Ux (Xi k) 4=true:=(by subst hh;exact hq5);have hst:(Xv 1099511627776 1099511627776 r e k 5)=(Xv 1099511627776 1099511627776 r e k 4):=Ef hbt
  replace hq5:=Bool.eq_false_iff.2 hq5
  refine cF hq5 (T.skip ?_)
  refine eN ⟨(Zef h),(Ze8 B r e k h)⟩ ?_
  refine X7 (s':=⟨Zdn,(Zee B r e k h)⟩) (fun _ _ hG=>Yv [0,1,2,3] (bm 7 113) (h2:=(Ze8 B r e k h)) rfl pZ1 hG) ?_
  exact nJ
 refine Um ⟨Zdn,(Zel B r e k h)⟩ ?_ ?_
 ·refine sR [] ?_
  by_cases hq6:h.X0=true
  ·have hbt:Ux (Xi k) 5=true:=(by subst hh;exact hq6);have hst:(Xv 1099511627776 1099511627776 r e k 6)=V5 1099511627776 1099511627776 (Xv 1099511627776 1099511627776 r e k 5) 5:=Uu rfl hbt;simp only [V5] at hst
   refine cT hq6 ?_
   refine xR [hR 1 rfl rfl (rCa (I9 B (Xv 1099511627776 1099511627776 r e k 5).rest (Xv 1099511627776 1099511627776 r e k 5).e pf (by omega)) Tryz.func94 [0] [(.tmp 40,pv 0 0)] 1 1),hR 3 rfl rfl (rCa (I9 B (rdR (Xv 1099511627776 1099511627776 r e k 5).rest (Xv 1099511627776 1099511627776 r e k 5).e 8 0) (rdE (Xv 1099511627776 1099511627776 r e k 5).rest (Xv 1099511627776 1099511627776 r e k 5).e 8 0) pf (by omega)) Tryz.func94 [0] [(.tmp 42,pv 0 0)] 1 1)] pZ8 pZ8 ?_
   refine eN ⟨(Zem h),(Zen B r e k h)⟩ ?_
   refine X7 (s':=⟨Zdn,(Zel B r e k h)⟩) (fun _ _ hG=>Yv [0,1,2,3] (bm 7 113) (h2:=(Zen B r e k h)) rfl pZ1 hG) ?_
   exact nJ
  have hbt:¬Ux (Xi k) 5=true:=(by subst hh;exact hq6);have hst:(Xv 1099511627776 1099511627776 r e k 6)=(Xv 1099511627776 1099511627776 r e k 5):=Ef hbt
  replace hq6:=Bool.eq_false_iff.2 hq6
  refine cF hq6 (T.skip ?_)
  refine eN ⟨(Zem h),(Zee B r e k h)⟩ ?_
  refine X7 (s':=⟨Zdn,(Zel B r e k h)⟩) (fun _ _ hG=>Yv [0,1,2,3] (bm 7 113) (h2:=(Zee B r e k h)) rfl pZ1 hG) ?_
  exact nJ
 refine Um ⟨Zdn,(Zep B r e k h)⟩ ?_ ?_
 ·refine sR [] ?_
  by_cases hq7:h.Xp=true
  ·have hbt:Ux (Xi k) 6=true:=(by subst hh;exact hq7);have hst:(Xv 1099511627776 1099511627776 r e k 7)=V5 1099511627776 1099511627776 (Xv 1099511627776 1099511627776 r e k 6) 6:=Uu rfl hbt;simp only [V5] at hst
   refine cT hq7 (xK [hR 1 rfl rfl (rCa (Eg B (Xv 1099511627776 1099511627776 r e k 6).rest (Xv 1099511627776 1099511627776 r e k 6).e pf (by omega)) Tryz.func192 [0] [(.tmp 48,pv 0 0)] 1 1)] ?_)
   refine eN ⟨(Zeq h),(Zes B r e k h)⟩ ?_
   refine X7 (s':=⟨Zdn,(Zep B r e k h)⟩) (fun _ _ hG=>Yv [0,1,2,3] (bm 7 113) (h2:=(Zes B r e k h)) rfl pZ1 hG) ?_
   exact nJ
  have hbt:¬Ux (Xi k) 6=true:=(by subst hh;exact hq7);have hst:(Xv 1099511627776 1099511627776 r e k 7)=(Xv 1099511627776 1099511627776 r e k 6):=Ef hbt
  replace hq7:=Bool.eq_false_iff.2 hq7
  refine cF hq7 (T.skip ?_)
  refine eN ⟨(Zeq h),(Zel B r e k h)⟩ ?_
  refine X7 (s':=⟨Zdn,(Zep B r e k h)⟩) (fun _ _ hG=>Yv [0,1,2,3] (bm 7 113) (h2:=(Zel B r e k h)) rfl pZ1 hG) ?_
  exact nJ
 refine Um ⟨Zdn,(Zf6 B r e k h)⟩ ?_ ?_
 ·refine sR [] ?_
  by_cases hq8:h.Y4=true
  ·have hbt:Ux (Xi k) 7=true:=(by subst hh;exact hq8);have hst:(Xv 1099511627776 1099511627776 r e k 8)=V5 1099511627776 1099511627776 (Xv 1099511627776 1099511627776 r e k 7) 7:=Uu rfl hbt;simp only [V5] at hst
   refine cT hq8 (xK [hR 1 rfl rfl (rCa (Eg B (Xv 1099511627776 1099511627776 r e k 7).rest (Xv 1099511627776 1099511627776 r e k 7).e pf (by omega)) Tryz.func192 [0] [(.tmp 53,pv 0 0)] 1 1)] ?_)
   refine eN ⟨(Zf7 h),(Zf9 B r e k h)⟩ ?_
   refine X7 (s':=⟨Zdn,(Zf6 B r e k h)⟩) (fun _ _ hG=>Yv [0,1,2,3] (bm 7 113) (h2:=(Zf9 B r e k h)) rfl pZ1 hG) ?_
   exact nJ
  have hbt:¬Ux (Xi k) 7=true:=(by subst hh;exact hq8);have hst:(Xv 1099511627776 1099511627776 r e k 8)=(Xv 1099511627776 1099511627776 r e k 7):=Ef hbt
  replace hq8:=Bool.eq_false_iff.2 hq8
  refine cF hq8 (T.skip ?_)
  refine eN ⟨(Zf7 h),(Zep B r e k h)⟩ ?_
  refine X7 (s':=⟨Zdn,(Zf6 B r e k h)⟩) (fun _ _ hG=>Yv [0,1,2,3] (bm 7 113) (h2:=(Zep B r e k h)) rfl pZ1 hG) ?_
  exact nJ
 refine Um ⟨Zdn,(Zfc B r e k h)⟩ ?_ ?_
 ·refine sR [] ?_
  by_cases hq9:h.X6=true
  rotate_left
  ·have hbt:¬Ux (Xi k) 8=true:=(by subst hh;exact hq9);have hst:(Xv 1099511627776 1099511627776 r e k 9)=(Xv 1099511627776 1099511627776 r e k 8):=Ef hbt
   replace hq9:=Bool.eq_false_iff.2 hq9
   refine cF hq9 (T.skip ?_)
   refine eN ⟨(Zfs h),(Zf6 B r e k h)⟩ ?_
   refine X7 (s':=⟨(Zfs h),(Zft B r e k h)⟩) (fun _ _ hG=>Yt (s:=⟨(Zfs h),(Zf6 B r e k h)⟩) (kk2 (kk8 p37)) ⟨.inl rfl,⟨(.inr ⟨rfl,⟨.inl rfl,(kk2 (kk8 ⟨pZ5,trivial⟩))⟩⟩),(kk2 trivial)⟩⟩ hG) ?_
   refine X7 (s':=⟨Zdn,(Zfc B r e k h)⟩) (fun _ _ hG=>Yv [0,1,2,3] (bm 7 113) (h2:=(Zft B r e k h)) rfl (by have e1:(((V9 B (Xv 1099511627776 1099511627776 r e k 9).rest:Nat):Int):Int)=((V9 B (Xv 1099511627776 1099511627776 r e k 8).rest:Nat):Int):=Ur;have e2:((Xv 1099511627776 1099511627776 r e k 9).e:Int)=(Xv 1099511627776 1099511627776 r e k 8).e:=Ur;have e3:((Xv 1099511627776 1099511627776 r e k 9).m.X1:Int)=(Xv 1099511627776 1099511627776 r e k 8).m.X1:=Ur;have e4:((Xv 1099511627776 1099511627776 r e k 9).m.Y1:Int)=(Xv 1099511627776 1099511627776 r e k 8).m.Y1:=Ur;have e5:((Xv 1099511627776 1099511627776 r e k 9).m.Xs:Int)=(Xv 1099511627776 1099511627776 r e k 8).m.Xs:=Ur;have e6:((Xv 1099511627776 1099511627776 r e k 9).m.Xh:Int)=(Xv 1099511627776 1099511627776 r e k 8).m.Xh:=Ur;have e7:((Xv 1099511627776 1099511627776 r e k 9).m.Yh:Int)=(Xv 1099511627776 1099511627776 r e k 8).m.Yh:=Ur;have e8:((Xv 1099511627776 1099511627776 r e k 9).m.X9:List UInt8)=(Xv 1099511627776 1099511627776 r e k 8).m.X9:=Ur;have e9:((Xv 1099511627776 1099511627776 r e k 9).m.Xc:List UInt8)=(Xv 1099511627776 1099511627776 r e k 8).m.Xc:=Ur;have e10:((Xv 1099511627776 1099511627776 r e k 9).m.X0.Xt:Int)=(Xv 1099511627776 1099511627776 r e k 8).m.X0.Xt:=Ur;have e11:((Xv 1099511627776 1099511627776 r e k 9).m.X0.Xn:Int)=(Xv 1099511627776 1099511627776 r e k 8).m.X0.Xn:=Ur;have e12:((Xv 1099511627776 1099511627776 r e k 9).m.Xp:List aE)=(Xv 1099511627776 1099511627776 r e k 8).m.Xp:=Ur;have e13:((Xv 1099511627776 1099511627776 r e k 9).m.Y4:List aE)=(Xv 1099511627776 1099511627776 r e k 8).m.Y4:=Ur;have e14:((Xv 1099511627776 1099511627776 r e k 9).m.X6:List aC)=([]:List aC):=(by (rw [hst,X84 8 (by decide)];done));have hE:=congr (congr (congr (congr (congr (congr (congr (congr (congr (congr (congr (congr (congr (congrArg (fun (q1:Int) (q2:Int) (q3:Int) (q4:Int) (q5:Int) (q6:Int) (q7:Int) (q8:List UInt8) (q9:List UInt8) (q10:Int) (q11:Int) (q12:List aE) (q13:List aE) (q14:List aC)=>([.live (.box 156 [(Zdl B),dI q1,dI q2]),.live (.box 78 [dI q3,dI q4,dI q5,dI q6,dI q7,dS q8,dU q9,dI q10,dI q11,.d (dsl false false (kE false) q12),.d (dsl false false (kE false) q13),.d (dsl false false (kC false) q14)]),(Zdp h),Zdq]:List HS)) e1) e2) e3) e4) e5) e6) e7) e8) e9) e10) e11) e12) e13) e14;exact hE) hG) ?_
   exact nJ
  have hbt:Ux (Xi k) 8=true:=(by subst hh;exact hq9);have hst:(Xv 1099511627776 1099511627776 r e k 9)=V5 1099511627776 1099511627776 (Xv 1099511627776 1099511627776 r e k 8) 8:=Uu rfl hbt;simp only [V5] at hst
  refine cT hq9 (sR [hR 1 rfl rfl (rCa (X49 B (Xv 1099511627776 1099511627776 r e k 8).rest (Xv 1099511627776 1099511627776 r e k 8).e 8 pf (by omega)) Tryz.func137 [0] [(.tmp 58,pv 0 0),(.const (.int .i64 8),vI 8)] 1 1)] (sR [] (T.block ?_)))
  refine tN ⟨(Zfe r e k h),[(Zff B r e k),(Zf5 r e k),(Zdp h),Zdq]⟩ ?_
  refine Wx (s':=⟨(Zfe r e k h),(Zfg B r e k h)⟩) (fun _ _ hG=>J7 4 1 11 86 (kC false) (Tb:=78) (cs:=[(Zeu r e k),(Zev r e k),(Zew r e k),(Zex r e k),(Zey r e k),(Zez r e k),(Zf0 r e k),(Zf1 r e k),(Zf2 r e k),(Zf3 r e k),(Zf4 r e k),Zdi]) rfl rfl rfl hG) ?_
  refine T.loop (ι:=Nat) (fun (k2:Nat)=>⟨[pv 0 0,aa,aa,aa,pv 1 0,pv 2 0,pv 3 0,(Zfd r e k),vI ((k2:Nat):Int)],(Zfj B r e k h k2)⟩) (fun (k2:Nat)=>(k2≤rdC (Xv 1099511627776 1099511627776 r e k 8).rest (Xv 1099511627776 1099511627776 r e k 8).e 8)) (fun (k2:Nat)=>rdC (Xv 1099511627776 1099511627776 r e k 8).rest (Xv 1099511627776 1099511627776 r e k 8).e 8-k2) (0) (Nat.zero_le _) (fun _ _ hG=>Yv [0,1,2,3,4] (bm 9 497) (h2:=(Zfg B r e k h)) rfl (cg4 (fun (q1:Int) (q2:Int) (q3:Nat) (q4:List aC)=>([.live (.box 156 [(Zdl B),dI q1,dI q2]),.live (.box 78 [(Zeu r e k),(Zev r e k),(Zew r e k),(Zex r e k),(Zey r e k),(Zez r e k),(Zf0 r e k),(Zf1 r e k),(Zf2 r e k),(Zf3 r e k),(Zf4 r e k),.own 4 (kC false).sz 0 q3]),(Zdp h),Zdq,.live (Xf 86 (kC false) q4)]:List HS)) (by rfl) (by rfl) (by rfl) (by rfl)) hG) ?_
  rintro k2 hk2
  show T _ _ ⟨[pv 0 0,aa,aa,aa,pv 1 0,pv 2 0,pv 3 0,(Zfd r e k),vI ((k2:Nat):Int)],(Zfj B r e k h k2)⟩ _ _
  replace hk2:k2≤rdC (Xv 1099511627776 1099511627776 r e k 8).rest (Xv 1099511627776 1099511627776 r e k 8).e 8:=hk2
  have hg:=Hu 1099511627776 (Xv 1099511627776 1099511627776 r e k 8).rest (Xv 1099511627776 1099511627776 r e k 8).e k2
  have hg2:=hg.2
  have hcm:rdC (Xv 1099511627776 1099511627776 r e k 8).rest (Xv 1099511627776 1099511627776 r e k 8).e 8≤8:=X2j (Xv 1099511627776 1099511627776 r e k 8).rest (Xv 1099511627776 1099511627776 r e k 8).e 8
  refine T.seq (sR [] ?_)
  by_cases hq10:((k2:Nat):Int)<((rdC (Xv 1099511627776 1099511627776 r e k 8).rest (Xv 1099511627776 1099511627776 r e k 8).e 8:Nat):Int)
  ·refine cT (dT hq10) (T.skip (nT (T.seq (T.block ?_))))
   refine xD [[],[0],[],[2],[],[2,3,4],[2,3,4,5],[2,3,4,5,6],[0,1,2,3,4,5,6,7],[0,1,2,3,4,5,6,7,8],[0,1,2,3,4,5,6,7,8,9]] [hR 3 rfl rfl (rCa (X1f B (Wa 1099511627776 (Xv 1099511627776 1099511627776 r e k 8).rest (Xv 1099511627776 1099511627776 r e k 8).e k2).rest (Wa 1099511627776 (Xv 1099511627776 1099511627776 r e k 8).rest (Xv 1099511627776 1099511627776 r e k 8).e k2).e pf (by omega)) Tryz.func193 [0] [(.tmp 67,pv 0 0)] 1 1),hR 5 rfl rfl (rCa (Eg B (evR 1099511627776 (Wa 1099511627776 (Xv 1099511627776 1099511627776 r e k 8).rest (Xv 1099511627776 1099511627776 r e k 8).e k2).rest (Wa 1099511627776 (Xv 1099511627776 1099511627776 r e k 8).rest (Xv 1099511627776 1099511627776 r e k 8).e k2).e) (evE 1099511627776 (Wa 1099511627776 (Xv 1099511627776 1099511627776 r e k 8).rest (Xv 1099511627776 1099511627776 r e k 8).e k2).rest (Wa 1099511627776 (Xv 1099511627776 1099511627776 r e k 8).rest (Xv 1099511627776 1099511627776 r e k 8).e k2).e) pf (by omega)) Tryz.func192 [0] [(.tmp 69,pv 0 0)] 1 1),hR 7 rfl rfl (Yc 5 86 (kC false) (Hq false) [(aC.mk (evV 1099511627776 (Wa 1099511627776 (Xv 1099511627776 1099511627776 r e k 8).rest (Xv 1099511627776 1099511627776 r e k 8).e k2).rest (Wa 1099511627776 (Xv 1099511627776 1099511627776 r e k 8).rest (Xv 1099511627776 1099511627776 r e k 8).e k2).e) (Up 1099511627776 (evR 1099511627776 (Wa 1099511627776 (Xv 1099511627776 1099511627776 r e k 8).rest (Xv 1099511627776 1099511627776 r e k 8).e k2).rest (Wa 1099511627776 (Xv 1099511627776 1099511627776 r e k 8).rest (Xv 1099511627776 1099511627776 r e k 8).e k2).e) (evE 1099511627776 (Wa 1099511627776 (Xv 1099511627776 1099511627776 r e k 8).rest (Xv 1099511627776 1099511627776 r e k 8).e k2).rest (Wa 1099511627776 (Xv 1099511627776 1099511627776 r e k 8).rest (Xv 1099511627776 1099511627776 r e k 8).e k2).e)).l)] [⟨0,.tmp 71,.agg [dI (Zfm r e k k2).X5,dU (Zfm r e k k2).Xd,.d (dsl false false (kE false) (Zfn r e k k2).l)],0⟩] (cs:=[dI (Zfm r e k k2).X5,dU (Zfm r e k k2).Xd,.d (dsl false false (kE false) (Zfn r e k k2).l)]) Tryz.underlying76 Fp rfl Xhi rfl rfl rfl pd (Yr rfl rfl pd W5) pZ8 (V4 pZ8) (X3 rfl) trivial),hR 8 rfl rfl (W2 4 6 86 56 (kC false) (Hq false) (Wa 1099511627776 (Xv 1099511627776 1099511627776 r e k 8).rest (Xv 1099511627776 1099511627776 r e k 8).e k2).l [(aC.mk (evV 1099511627776 (Wa 1099511627776 (Xv 1099511627776 1099511627776 r e k 8).rest (Xv 1099511627776 1099511627776 r e k 8).e k2).rest (Wa 1099511627776 (Xv 1099511627776 1099511627776 r e k 8).rest (Xv 1099511627776 1099511627776 r e k 8).e k2).e) (Up 1099511627776 (evR 1099511627776 (Wa 1099511627776 (Xv 1099511627776 1099511627776 r e k 8).rest (Xv 1099511627776 1099511627776 r e k 8).e k2).rest (Wa 1099511627776 (Xv 1099511627776 1099511627776 r e k 8).rest (Xv 1099511627776 1099511627776 r e k 8).e k2).e) (evE 1099511627776 (Wa 1099511627776 (Xv 1099511627776 1099511627776 r e k 8).rest (Xv 1099511627776 1099511627776 r e k 8).e k2).rest (Wa 1099511627776 (Xv 1099511627776 1099511627776 r e k 8).rest (Xv 1099511627776 1099511627776 r e k 8).e k2).e)).l)] ((Wa 1099511627776 (Xv 1099511627776 1099511627776 r e k 8).rest (Xv 1099511627776 1099511627776 r e k 8).e k2).l++[(aC.mk (evV 1099511627776 (Wa 1099511627776 (Xv 1099511627776 1099511627776 r e k 8).rest (Xv 1099511627776 1099511627776 r e k 8).e k2).rest (Wa 1099511627776 (Xv 1099511627776 1099511627776 r e k 8).rest (Xv 1099511627776 1099511627776 r e k 8).e k2).e) (Up 1099511627776 (evR 1099511627776 (Wa 1099511627776 (Xv 1099511627776 1099511627776 r e k 8).rest (Xv 1099511627776 1099511627776 r e k 8).e k2).rest (Wa 1099511627776 (Xv 1099511627776 1099511627776 r e k 8).rest (Xv 1099511627776 1099511627776 r e k 8).e k2).e) (evE 1099511627776 (Wa 1099511627776 (Xv 1099511627776 1099511627776 r e k 8).rest (Xv 1099511627776 1099511627776 r e k 8).e k2).rest (Wa 1099511627776 (Xv 1099511627776 1099511627776 r e k 8).rest (Xv 1099511627776 1099511627776 r e k 8).e k2).e)).l)]) (Wa 1099511627776 (Xv 1099511627776 1099511627776 r e k 8).rest (Xv 1099511627776 1099511627776 r e k 8).e k2).l.length (sy:=(.own 5 (kC false).sz 0 [(Zfo r e k k2)].length)) (rhs:=[(5,.live (Xf 86 (kC false) [(Zfo r e k k2)]))]) Xip (by omega) (Wv 5 86 (kC false) [(aC.mk (evV 1099511627776 (Wa 1099511627776 (Xv 1099511627776 1099511627776 r e k 8).rest (Xv 1099511627776 1099511627776 r e k 8).e k2).rest (Wa 1099511627776 (Xv 1099511627776 1099511627776 r e k 8).rest (Xv 1099511627776 1099511627776 r e k 8).e k2).e) (Up 1099511627776 (evR 1099511627776 (Wa 1099511627776 (Xv 1099511627776 1099511627776 r e k 8).rest (Xv 1099511627776 1099511627776 r e k 8).e k2).rest (Wa 1099511627776 (Xv 1099511627776 1099511627776 r e k 8).rest (Xv 1099511627776 1099511627776 r e k 8).e k2).e) (evE 1099511627776 (Wa 1099511627776 (Xv 1099511627776 1099511627776 r e k 8).rest (Xv 1099511627776 1099511627776 r e k 8).e k2).rest (Wa 1099511627776 (Xv 1099511627776 1099511627776 r e k 8).rest (Xv 1099511627776 1099511627776 r e k 8).e k2).e)).l)]) Jy X72 X72 (X3 rfl) trivial)] pZ8 pZ8 pZ8 pZ8 pZ8 pZ8 ?_
   refine nB (nT (xK [hR 1 rfl rfl (Yd (u1:=.int .i64 ((k2:Nat):Int)) (u2:=.int .i64 1) (v:=.int .i64 ((k2+1:Nat):Int)) (Wb pc) (X3 rfl) ⟨rfl,trivial⟩)] ?_))
   refine nL (k2+1) (show (k2+1)≤rdC (Xv 1099511627776 1099511627776 r e k 8).rest (Xv 1099511627776 1099511627776 r e k 8).e 8 from (by omega)) (show (rdC (Xv 1099511627776 1099511627776 r e k 8).rest (Xv 1099511627776 1099511627776 r e k 8).e 8-(k2+1):Nat)<rdC (Xv 1099511627776 1099511627776 r e k 8).rest (Xv 1099511627776 1099511627776 r e k 8).e 8-k2 from (by omega)) (fun _ _ hG=>Wf [0,1,2,3,6] (bm 9 497) (h1:=[.live (.box 156 [(Zdl B),dI ((V9 B (Zfp r e k k2).rest:Nat):Int),dI (Zfp r e k k2).e]),.live (.box 78 [(Zeu r e k),(Zev r e k),(Zew r e k),(Zex r e k),(Zey r e k),(Zez r e k),(Zf0 r e k),(Zf1 r e k),(Zf2 r e k),(Zf3 r e k),(Zf4 r e k),.own 6 (kC false).sz 0 (Zfp r e k k2).l.length]),(Zdp h),Zdq,.live (Xf 86 (kC false) (Zfp r e k k2).l)]) (h2:=[.live (.box 156 [(Zdl B),dI ((V9 B (Zfn r e k k2).rest:Nat):Int),dI (Zfn r e k k2).e]),.live (.box 78 [(Zeu r e k),(Zev r e k),(Zew r e k),(Zex r e k),(Zey r e k),(Zez r e k),(Zf0 r e k),(Zf1 r e k),(Zf2 r e k),(Zf3 r e k),(Zf4 r e k),.own 6 (kC false).sz 0 ((Zfh r e k k2).l++[(Zfo r e k k2)]).length]),(Zdp h),Zdq,.live (Xf 86 (kC false) ((Zfh r e k k2).l++[(Zfo r e k k2)]))]) (t1:=[pv 0 0,aa,aa,aa,pv 1 0,pv 2 0,pv 3 0,(Zfd r e k),vI ((k2+1:Nat):Int)]) rfl (by have e1:(((V9 B (Wa 1099511627776 (Xv 1099511627776 1099511627776 r e k 8).rest (Xv 1099511627776 1099511627776 r e k 8).e (k2+1)).rest:Nat):Int):Int)=((V9 B (Up 1099511627776 (evR 1099511627776 (Wa 1099511627776 (Xv 1099511627776 1099511627776 r e k 8).rest (Xv 1099511627776 1099511627776 r e k 8).e k2).rest (Wa 1099511627776 (Xv 1099511627776 1099511627776 r e k 8).rest (Xv 1099511627776 1099511627776 r e k 8).e k2).e) (evE 1099511627776 (Wa 1099511627776 (Xv 1099511627776 1099511627776 r e k 8).rest (Xv 1099511627776 1099511627776 r e k 8).e k2).rest (Wa 1099511627776 (Xv 1099511627776 1099511627776 r e k 8).rest (Xv 1099511627776 1099511627776 r e k 8).e k2).e)).rest:Nat):Int):=(by rfl);have e2:((Wa 1099511627776 (Xv 1099511627776 1099511627776 r e k 8).rest (Xv 1099511627776 1099511627776 r e k 8).e (k2+1)).e:Int)=(Up 1099511627776 (evR 1099511627776 (Wa 1099511627776 (Xv 1099511627776 1099511627776 r e k 8).rest (Xv 1099511627776 1099511627776 r e k 8).e k2).rest (Wa 1099511627776 (Xv 1099511627776 1099511627776 r e k 8).rest (Xv 1099511627776 1099511627776 r e k 8).e k2).e) (evE 1099511627776 (Wa 1099511627776 (Xv 1099511627776 1099511627776 r e k 8).rest (Xv 1099511627776 1099511627776 r e k 8).e k2).rest (Wa 1099511627776 (Xv 1099511627776 1099511627776 r e k 8).rest (Xv 1099511627776 1099511627776 r e k 8).e k2).e)).e:=(by rfl);have e3:((Wa 1099511627776 (Xv 1099511627776 1099511627776 r e k 8).rest (Xv 1099511627776 1099511627776 r e k 8).e (k2+1)).l.length:Nat)=((Wa 1099511627776 (Xv 1099511627776 1099511627776 r e k 8).rest (Xv 1099511627776 1099511627776 r e k 8).e k2).l++[(aC.mk (evV 1099511627776 (Wa 1099511627776 (Xv 1099511627776 1099511627776 r e k 8).rest (Xv 1099511627776 1099511627776 r e k 8).e k2).rest (Wa 1099511627776 (Xv 1099511627776 1099511627776 r e k 8).rest (Xv 1099511627776 1099511627776 r e k 8).e k2).e) (Up 1099511627776 (evR 1099511627776 (Wa 1099511627776 (Xv 1099511627776 1099511627776 r e k 8).rest (Xv 1099511627776 1099511627776 r e k 8).e k2).rest (Wa 1099511627776 (Xv 1099511627776 1099511627776 r e k 8).rest (Xv 1099511627776 1099511627776 r e k 8).e k2).e) (evE 1099511627776 (Wa 1099511627776 (Xv 1099511627776 1099511627776 r e k 8).rest (Xv 1099511627776 1099511627776 r e k 8).e k2).rest (Wa 1099511627776 (Xv 1099511627776 1099511627776 r e k 8).rest (Xv 1099511627776 1099511627776 r e k 8).e k2).e)).l)]).length:=(by (rw [(Hu 1099511627776 (Xv 1099511627776 1099511627776 r e k 8).rest (Xv 1099511627776 1099511627776 r e k 8).e (k2+1)).2,List.length_append,(Hu 1099511627776 (Xv 1099511627776 1099511627776 r e k 8).rest (Xv 1099511627776 1099511627776 r e k 8).e k2).2];rfl));have e4:((Wa 1099511627776 (Xv 1099511627776 1099511627776 r e k 8).rest (Xv 1099511627776 1099511627776 r e k 8).e (k2+1)).l:List aC)=(Wa 1099511627776 (Xv 1099511627776 1099511627776 r e k 8).rest (Xv 1099511627776 1099511627776 r e k 8).e k2).l++[(aC.mk (evV 1099511627776 (Wa 1099511627776 (Xv 1099511627776 1099511627776 r e k 8).rest (Xv 1099511627776 1099511627776 r e k 8).e k2).rest (Wa 1099511627776 (Xv 1099511627776 1099511627776 r e k 8).rest (Xv 1099511627776 1099511627776 r e k 8).e k2).e) (Up 1099511627776 (evR 1099511627776 (Wa 1099511627776 (Xv 1099511627776 1099511627776 r e k 8).rest (Xv 1099511627776 1099511627776 r e k 8).e k2).rest (Wa 1099511627776 (Xv 1099511627776 1099511627776 r e k 8).rest (Xv 1099511627776 1099511627776 r e k 8).e k2).e) (evE 1099511627776 (Wa 1099511627776 (Xv 1099511627776 1099511627776 r e k 8).rest (Xv 1099511627776 1099511627776 r e k 8).e k2).rest (Wa 1099511627776 (Xv 1099511627776 1099511627776 r e k 8).rest (Xv 1099511627776 1099511627776 r e k 8).e k2).e)).l)]:=(by rfl);have hE:=congr (congr (congr (congrArg (fun (q1:Int) (q2:Int) (q3:Nat) (q4:List aC)=>([.live (.box 156 [(Zdl B),dI q1,dI q2]),.live (.box 78 [(Zeu r e k),(Zev r e k),(Zew r e k),(Zex r e k),(Zey r e k),(Zez r e k),(Zf0 r e k),(Zf1 r e k),(Zf2 r e k),(Zf3 r e k),(Zf4 r e k),.own 6 (kC false).sz 0 q3]),(Zdp h),Zdq,.live (Xf 86 (kC false) q4)]:List HS)) e1) e2) e3) e4;exact hE) hG)
  have hfx:Ey 1099511627776 (Xv 1099511627776 1099511627776 r e k 8).rest (Xv 1099511627776 1099511627776 r e k 8).e=Wa 1099511627776 (Xv 1099511627776 1099511627776 r e k 8).rest (Xv 1099511627776 1099511627776 r e k 8).e k2:=(by rw [Ey,show rdC (Xv 1099511627776 1099511627776 r e k 8).rest (Xv 1099511627776 1099511627776 r e k 8).e 8=k2 by omega]);rw [hfx] at hst
  refine cF (dF hq10) (T.exit (xT (xT (xH ?_))))
  refine eN ⟨(Zfq r e k k2),(Zfj B r e k h k2)⟩ ?_
  refine X7 (s':=⟨(Zfq r e k k2),[(Zfi B r e k k2),(Zfr r e k k2),(Zdp h),Zdq,.dead]⟩) (fun _ _ hG=>Gs.freeze (s:=⟨(Zfq r e k k2),(Zfj B r e k h k2)⟩) 4 (el:=W7 (kC false) (Wa 1099511627776 (Xv 1099511627776 1099511627776 r e k 8).rest (Xv 1099511627776 1099511627776 r e k 8).e k2).l) (sz:=(kC false).sz) (n:=(Wa 1099511627776 (Xv 1099511627776 1099511627776 r e k 8).rest (Xv 1099511627776 1099511627776 r e k 8).e k2).l.length) rfl ⟨.inl rfl,(kk2 (kk4 (kk8 p37)))⟩ ⟨pZ9,⟨(.inr ⟨by decide,.inr ⟨rfl,⟨.inl rfl,(kk2 (kk8 ⟨pZ0,trivial⟩))⟩⟩⟩),⟨pZ9,⟨pZ9,⟨(.inl ⟨rfl,rfl⟩),trivial⟩⟩⟩⟩⟩ hG) ?_
  refine X7 (s':=⟨Zdn,(Zfc B r e k h)⟩) (fun _ _ hG=>Yv [0,1,2,3] (bm 7 113) (h2:=[(Zfi B r e k k2),(Zfr r e k k2),(Zdp h),Zdq]) rfl (by have hE:=congrArg (fun (qq0:RdM)=>([.live (.box 156 [(Zdl B),dI (((V9 B qq0.rest:Nat):Int)),dI (qq0.e)]),.live (.box 78 [dI (qq0.m.X1),dI (qq0.m.Y1),dI (qq0.m.Xs),dI (qq0.m.Xh),dI (qq0.m.Yh),dS (qq0.m.X9),dU (qq0.m.Xc),dI (qq0.m.X0.Xt),dI (qq0.m.X0.Xn),.d (dsl false false (kE false) (qq0.m.Xp)),.d (dsl false false (kE false) (qq0.m.Y4)),.d (dsl false false (kC false) (qq0.m.X6))]),(Zdp h),Zdq]:List HS)) hst;(try dsimp only at hE);exact hE) hG) ?_
  exact nJ
 refine sR [] (T.ret ?_)
 exact eX [.c 6 3 78 0 78 [dI (Zfa r e k).m.X1,dI (Zfa r e k).m.Y1,dI (Zfa r e k).m.Xs,dI (Zfa r e k).m.Xh,dI (Zfa r e k).m.Yh,dS (Zfa r e k).m.X9,dU (Zfa r e k).m.Xc,dI (Zfa r e k).m.X0.Xt,dI (Zfa r e k).m.X0.Xn,.d (dsl false false (kE false) (Zfa r e k).m.Xp),.d (dsl false false (kE false) (Zfa r e k).m.Y4),.d (dsl false false (kC false) (Zfa r e k).m.X6)] (.agg (Zfb r e k))] ⟨⟨rfl,rfl,by kernel_rfl,by kernel_rfl,.inl ⟨12,Ws,rfl,Nat.le_of_ble_eq_true rfl⟩⟩,trivial⟩ [0] rfl (ix trivial)
section
variable (b:List UInt8)
abbrev Zfu:AV:=vB (decide (((b.length:Nat):Int)>16777216))
abbrev Zfv:List AV:=[slV false false kU8 b,aa,pv 0 0,vI 11,aa,aa,aa,aa,aa,aa,aa,(Zfu b)]
abbrev Zfw:SV:=.d (.val (.slice none 0 0))
abbrev Zfx:HS:=.live (.box 78 [dI 0,dI 0,dI 0,dI 0,dI 0,dS [],Zfw,dI 0,dI 0,Zfw,Zfw,Zfw])
abbrev Zfy:SV:=dU ([]:List UInt8)
abbrev Zfz:SV:=.d (dsl false false (kE false) ([]:List aE))
abbrev Zg0:SV:=.d (dsl false false (kC false) ([]:List aC))
abbrev Zg1:List SV:=[dI 0,dI 0,dI 0,dI 0,dI 0,dS [],Zfy,dI 0,dI 0,Zfz,Zfz,Zg0]
abbrev Zg2:List AV:=[slV false false kU8 b,aa,pv 0 0,vI 0,pv 1 0,aa,aa,aa,aa,aa,aa,(Zfu b)]
abbrev Zg3:List HS:=[Zfx,.live (.box 156 [dU b,dI 0,dI 0])]
abbrev Zg4:List HS:=[Zfx,.live (.box 156 [dU b,dI ((V9 b b:Nat):Int),dI 0])]
abbrev Zg5:List SV:=[dB (Xi (rdI b 0)).Y1,dB (Xi (rdI b 0)).Xs,dB (Xi (rdI b 0)).Xh,dB (Xi (rdI b 0)).X9,dB (Xi (rdI b 0)).Xc,dB (Xi (rdI b 0)).X0,dB (Xi (rdI b 0)).Xp,dB (Xi (rdI b 0)).Y4,dB (Xi (rdI b 0)).X6]
abbrev Zg6:List AV:=[slV false false kU8 b,aa,pv 0 0,vI 12,pv 1 0,vI (rdI b 0),pv 2 0,vB (decide (okK (rdI b 0))),pv 3 0,aa,aa,(Zfu b),aa,aa,aa,aa,aa,aa,aa,aa,aa,aa,aa,aa,aa,aa,aa,aa,aa,aa,aa,aa,aa,aa,aa,aa,aa,aa,aa,aa,aa,aa,aa,vB true]
abbrev Zg7:=(Xv 1099511627776 1099511627776 (rdR b 0 8 0) (rdE b 0 8 0) (rdI b 0) 9)
abbrev Zg8:HS:=.live (.box 156 [dU b,dI ((V9 b (Zg7 b).rest:Nat):Int),dI (rdX (Zg7 b).rest (Zg7 b).e)])
abbrev Zg9:List SV:=[dI (Zg7 b).m.X1,dI (Zg7 b).m.Y1,dI (Zg7 b).m.Xs,dI (Zg7 b).m.Xh,dI (Zg7 b).m.Yh,dS (Zg7 b).m.X9,dU (Zg7 b).m.Xc,dI (Zg7 b).m.X0.Xt,dI (Zg7 b).m.X0.Xn,.d (dsl false false (kE false) (Zg7 b).m.Xp),.d (dsl false false (kE false) (Zg7 b).m.Y4),.d (dsl false false (kC false) (Zg7 b).m.X6)]
abbrev Zga:List HS:=[Zfx,(Zg8 b),.live (.box 119 (Zg5 b)),.live (.box 78 (Zg9 b))]
abbrev Zgb:List HS:=[.live (.box 78 Zg1),(Zg8 b),.live (.box 119 (Zg5 b)),.live (.box 78 (Zg9 b))]
abbrev Zgc:List AV:=[slV false false kU8 b,aa,pv 0 0,vI 12,pv 1 0,vI (rdI b 0),pv 2 0,vB (decide (okK (rdI b 0))),pv 3 0,aa,aa,(Zfu b),aa,aa,aa,aa,aa,aa,aa,aa,aa,aa,aa,aa,aa,aa,aa,aa,aa,aa,aa,aa,aa,aa,aa,aa,aa,aa,aa,aa,aa,aa,aa,vB (decide ((X75 (Zg7 b).m)≠0))]
end
theorem Xbv (b:List UInt8) (hb:b.length≤140737488350000):Holds Tryz.prog 172 ⟨[slV false false kU8 b],[],.tup [.agg [dI (Wn b).X1,dI (Wn b).Y1,dI (Wn b).Xs,dI (Wn b).Xh,dI (Wn b).Yh,dS (Wn b).X9,dU (Wn b).Xc,dI (Wn b).X0.Xt,dI (Wn b).X0.Xn,.d (dsl false false (kE false) (Wn b).Xp),.d (dsl false false (kE false) (Wn b).Y4),.d (dsl false false (kC false) (Wn b).X6)],.one (dI (X0o b))],[]⟩:=by
 refine Holds.of Tryz.func172 rfl (N:=46) Tryz.ntmps172 rfl fun w0 B0 S0 U0=>?_
 show T _ (Y2 46 0 w0 S0 U0 B0) ⟨[slV false false kU8 b],[]⟩ _ _
 obtain ⟨hf1,hf2,hf3,hf4,hf5⟩:=X43 1099511627776 1099511627776 (rdR b 0 8 0) (rdE b 0 8 0) (rdI b 0) 9
 have hr1:=U3 b 0 8 0
 refine sR [] (T.seq (sR [] ?_))
 by_cases hq1:((b.length:Nat):Int)>16777216
 ·have hd9:=Xf4 (M:=((b.length:Nat):Int)) (N:=16777216) (b:=b) (by omega)
  refine cT (dT hq1) (sR [] (T.ret (rT ?_)))
  refine eN ⟨(Zfv b),[Zfx]⟩ ?_
  refine X7 (s':=⟨(Zfv b),[.live (.box 78 Zg1)]⟩) (fun _ _ hG=>Yt (s:=⟨(Zfv b),[Zfx]⟩) p3o ⟨pp,trivial⟩ hG) ?_
  exact eX [.c 2 0 78 0 78 [dI 0,dI 0,dI 0,dI 0,dI 0,dS [],Zfy,dI 0,dI 0,Zfz,Zfz,Zg0] (.agg Zg1),.t 3 (.one (dI 11))] ⟨⟨rfl,rfl,by kernel_rfl,by kernel_rfl,.inl ⟨12,Ws,rfl,Nat.le_of_ble_eq_true rfl⟩⟩,⟨⟨rfl,by kernel_rfl⟩,trivial⟩⟩ [] pi trivial
 have hbl:¬b.length>16777216:=(by omega)
 refine cF (dF hq1) (T.skip (nT (sR [] ?_)))
 refine tN ⟨(Zg2 b),(Zg3 b)⟩ ?_
 refine Wx (s':=⟨(Zg2 b),(Zg4 b)⟩) (fun _ _ hG=>Yv [0,1] (bm 12 2077) (h2:=(Zg3 b)) rfl (by have e1:(((V9 b b:Nat):Int):Int)=0:=(by (rw [pos_0];rfl));have hE:=congrArg (fun (q1:Int)=>([Zfx,.live (.box 156 [dU b,dI q1,dI 0])]:List HS)) e1;exact hE) hG) (sR [hR 1 rfl rfl (rCa (I9 b b 0 (by repeat exact List.suffix_refl _) ‹_›) Tryz.func94 [1] [(.tmp 16,pv 1 0)] 1 1)] (sR [hR 1 rfl rfl (rCa (X06 (rdI b 0) ) Tryz.func62 [] [(.tmp 19,vI (rdI b 0))] 0 0)] ?_))
 refine sR [hR 4 rfl rfl (rCa (Xji b (rdR b 0 8 0) (rdE b 0 8 0) (rdI b 0) (aH.mk (Xi (rdI b 0)).Y1 (Xi (rdI b 0)).Xs (Xi (rdI b 0)).Xh (Xi (rdI b 0)).X9 (Xi (rdI b 0)).Xc (Xi (rdI b 0)).X0 (Xi (rdI b 0)).Xp (Xi (rdI b 0)).Y4 (Xi (rdI b 0)).X6) pf (by omega) rfl) Tryz.func185 [1] [(.tmp 23,pv 1 0),(.tmp 25,.tv (.agg [dI (rdI b 0),dI 0,dI 0,dI 0,dI 0,dS [],Zfw,dI 0,dI 0,Zfw,Zfw,Zfw])),(.tmp 26,.tv (.agg (Zg5 b)))] 1 1)] ?_
 refine sR [hR 1 rfl rfl (rCa (Xgc b (Xv 1099511627776 1099511627776 (rdR b 0 8 0) (rdE b 0 8 0) (rdI b 0) 9).rest (Xv 1099511627776 1099511627776 (rdR b 0 8 0) (rdE b 0 8 0) (rdI b 0) 9).e pf ‹_›) Tryz.func96 [1] [(.tmp 28,pv 1 0)] 1 1)] (T.seq ?_)
 by_cases hq2:okK (rdI b 0)
 rotate_left
 ·have hd9:=X60 (M:=((b.length:Nat):Int)) (N:=16777216) (fun q=>hq2 q.2.1) hbl
  refine sR (Xm (hN · false (cn (dF hq2))) [3,4,5,6,7] (hP 8 (cn (dF hq2))::(Xm hN0 [10,11,12] (hP1 13::[])))) (cT (b:=true) rfl (sR [] (T.ret (rT ?_))))
  refine eN ⟨(Zg6 b),(Zga b)⟩ ?_
  refine X7 (s':=⟨(Zg6 b),(Zgb b)⟩) (fun _ _ hG=>Yt (s:=⟨(Zg6 b),(Zga b)⟩) (kk4 p3m) ⟨pp,⟨.inl rfl,(kk2 trivial)⟩⟩ hG) ?_
  exact eX [.c 2 0 78 0 78 [dI 0,dI 0,dI 0,dI 0,dI 0,dS [],Zfy,dI 0,dI 0,Zfz,Zfz,Zg0] (.agg Zg1),.t 3 (.one (dI 12))] ⟨⟨rfl,rfl,by kernel_rfl,by kernel_rfl,.inl ⟨12,Ws,rfl,Nat.le_of_ble_eq_true rfl⟩⟩,⟨⟨rfl,by kernel_rfl⟩,trivial⟩⟩ [] pi trivial
 by_cases hq3:(rdX (Xv 1099511627776 1099511627776 (rdR b 0 8 0) (rdE b 0 8 0) (rdI b 0) 9).rest (Xv 1099511627776 1099511627776 (rdR b 0 8 0) (rdE b 0 8 0) (rdI b 0) 9).e)≠0
 ·have hd9:=X9l (b:=b) (fun q=>hq3 q.2.2.1) hbl
  refine sR (Xm (hY · (cn (dT hq2))) [3,4,5,6,7] (hP 8 (cn (dT hq2))::(Xm (hN · false (dT hq3)) [10,11,12] (hP 13 (dT hq3)::[])))) (cT (b:=true) rfl (sR [] (T.ret (rT ?_))))
  refine eN ⟨(Zg6 b),(Zga b)⟩ ?_
  refine X7 (s':=⟨(Zg6 b),(Zgb b)⟩) (fun _ _ hG=>Yt (s:=⟨(Zg6 b),(Zga b)⟩) (kk4 p3m) ⟨pp,⟨.inl rfl,(kk2 trivial)⟩⟩ hG) ?_
  exact eX [.c 2 0 78 0 78 [dI 0,dI 0,dI 0,dI 0,dI 0,dS [],Zfy,dI 0,dI 0,Zfz,Zfz,Zg0] (.agg Zg1),.t 3 (.one (dI 12))] ⟨⟨rfl,rfl,by kernel_rfl,by kernel_rfl,.inl ⟨12,Ws,rfl,Nat.le_of_ble_eq_true rfl⟩⟩,⟨⟨rfl,by kernel_rfl⟩,trivial⟩⟩ [] pi trivial
 refine sR (Xm (hY · (cn (dT hq2))) [3,4,5,6,7] (hP 8 (cn (dT hq2))::(hY 10 (dF hq3)::(hS 11 (oY rfl rfl rfl rfl (X3 rfl) (dF hq3) (rCa (X6k false (Xv 1099511627776 1099511627776 (rdR b 0 8 0) (rdE b 0 8 0) (rdI b 0) 9).m (by omega) (by omega) (by omega) (by omega) (by omega)) Tryz.func61 [] [(.tmp 40,.tv (.agg (Zg9 b)))] 0 0))::(hY 12 (dF hq3)::(hP 13 (dF hq3)::[])))))) ?_
 by_cases hq4:(X75 (Xv 1099511627776 1099511627776 (rdR b 0 8 0) (rdE b 0 8 0) (rdI b 0) 9).m)≠0
 ·have hd9:=X9l (b:=b) (fun q=>hq4 (chk0.2 q.2.2.2)) hbl
  refine cT (dT hq4) (sR [] (T.ret (rT ?_)))
  refine eN ⟨(Zgc b),(Zga b)⟩ ?_
  refine X7 (s':=⟨(Zgc b),(Zgb b)⟩) (fun _ _ hG=>Yt (s:=⟨(Zgc b),(Zga b)⟩) (kk4 p3m) ⟨pp,⟨.inl rfl,(kk2 trivial)⟩⟩ hG) ?_
  exact eX [.c 2 0 78 0 78 [dI 0,dI 0,dI 0,dI 0,dI 0,dS [],Zfy,dI 0,dI 0,Zfz,Zfz,Zg0] (.agg Zg1),.t 3 (.one (dI 12))] ⟨⟨rfl,rfl,by kernel_rfl,by kernel_rfl,.inl ⟨12,Ws,rfl,Nat.le_of_ble_eq_true rfl⟩⟩,⟨⟨rfl,by kernel_rfl⟩,trivial⟩⟩ [] pi trivial
 have hd9:=Xf5 (b:=b) ⟨by omega,by assumption,Classical.not_not.1 ‹_›,chk0.1 (Classical.not_not.1 hq4)⟩
 refine cF (dF hq4) (T.skip (nT (sR [] (T.ret ?_))))
 exact eX [.c 2 0 78 0 78 [dI (Zg7 b).m.X1,dI (Zg7 b).m.Y1,dI (Zg7 b).m.Xs,dI (Zg7 b).m.Xh,dI (Zg7 b).m.Yh,dS (Zg7 b).m.X9,dU (Zg7 b).m.Xc,dI (Zg7 b).m.X0.Xt,dI (Zg7 b).m.X0.Xn,.d (dsl false false (kE false) (Zg7 b).m.Xp),.d (dsl false false (kE false) (Zg7 b).m.Y4),.d (dsl false false (kC false) (Zg7 b).m.X6)] (.agg (Zg9 b)),.t 3 (.one (dI 0))] ⟨⟨rfl,rfl,by kernel_rfl,by kernel_rfl,.inl ⟨12,Ws,rfl,Nat.le_of_ble_eq_true rfl⟩⟩,⟨⟨rfl,by kernel_rfl⟩,trivial⟩⟩ [] pi trivial
end Go.Proofs.YtnaopgohccacmaaGreat.Q
namespace Go.Proofs.YtnaopgohccacmaaGreat.Q
set_option linter.unusedVariables false
set_option linter.unusedSimpArgs false
set_option maxRecDepth 100000
theorem Xh2 (m:aM):(Ya m 9).length≤80+m.X9.length+m.Xc.length+(Vq m.Xp).length+(Vq m.Y4).length+(Em m.X6).length:=by
  have s:∀ j,(Ya m (j+1)).length≤(Ya m j).length+(F8 m j).length:=fun j=>by
    rw [Ya,List.length_append]
    split
    · exact Nat.le_refl _
    · simp
  have h0:(Ya m 0).length=8:=Wk _
  have f0:(F8 m 0).length=8:=Wk _
  have f1:(F8 m 1).length=8:=Wk _
  have f2:(F8 m 2).length=16:=by simp only [F8,List.length_append,Wk]
  have f3:(F8 m 3).length=4+m.X9.length:=(Vf _).trans (Nat.add_comm _ _)
  have f4:(F8 m 4).length=4+m.Xc.length:=(Vf _).trans (Nat.add_comm _ _)
  have f5:(F8 m 5).length=16:=by simp only [F8,List.length_append,Wk]
  have f6:(F8 m 6).length=(Vq m.Xp).length:=rfl
  have f7:(F8 m 7).length=(Vq m.Y4).length:=rfl
  have f8:(F8 m 8).length=(Em m.X6).length:=rfl
  have s0:=s 0
  have s1:=s 1
  have s2:=s 2
  have s3:=s 3
  have s4:=s 4
  have s5:=s 5
  have s6:=s 6
  have s7:=s 7
  have s8:=s 8
  simp only [Nat.reduceAdd] at s0 s1 s2 s3 s4 s5 s6 s7 s8
  omega
end Go.Proofs.YtnaopgohccacmaaGreat.Q
