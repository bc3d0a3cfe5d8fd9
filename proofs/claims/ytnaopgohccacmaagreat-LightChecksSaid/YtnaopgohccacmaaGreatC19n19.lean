import Derived.Test.YtnaopgohccacmaaGreatC19n18
namespace Go.Proofs.YtnaopgohccacmaaGreat.Q
open Go Go.RowKit
set_option linter.unusedVariables false
set_option linter.unusedSimpArgs false
set_option maxRecDepth 100000
set_option maxHeartbeats 4000000
theorem iat_78:Tryz.prog.info? 78=some Tryz.t78:=by kernel_rfl
theorem Wp:Wide Tryz.prog 78 (some 12):=⟨_,_,Tryz.underlying78,.inl ⟨_,rfl⟩,iat_78,rfl⟩
section
variable (tm:Bool) (m:aM)
abbrev Z8b:AV:=.tv (.agg [dI m.X2,dI m.Y1,dI m.Xo,dI m.Xi,dI m.Yj,dS m.X8,.d (dsl tm false kU8 m.Xa),dI m.X1.Xw,dI m.X1.Xn,.d (dsl tm false (kE tm) m.Xp),.d (dsl tm false (kE tm) m.Y5),.d (dsl tm false (kC tm) m.X5)])
abbrev Z8c:AV:=vB (Xj m.X2).Y1
abbrev Z8d:AV:=vI (X3z m.X2)
abbrev Z8e:TV:=.one (dI 120)
abbrev Z8f:AV:=.tv (.agg [dB (Xj m.X2).Y1,dB (Xj m.X2).Xo,dB (Xj m.X2).Xi,dB (Xj m.X2).X8,dB (Xj m.X2).Xa,dB (Xj m.X2).X1,dB (Xj m.X2).Xp,dB (Xj m.X2).Y5,dB (Xj m.X2).X5])
abbrev Z8g:TV:=.one (dI 0)
abbrev Z8h:AV:=.tv (.agg [dI m.X1.Xw,dI m.X1.Xn])
abbrev Z8i:AV:=.tv (.agg [dI 0,dI 0])
abbrev Z8j:AV:=vB (decide (m.X1≠(Y6.mk 0 0)))
abbrev Z8k:AV:=vB (decide (((m.Xa.length:Nat):Int)>0))
end
theorem X6u (tm:Bool) (m:aM) (hq:m.Xp.length≤9223372036854775807) (hr:m.Y5.length≤9223372036854775807) (hc:m.X5.length≤9223372036854775807) (hd:m.Xa.length≤9223372036854775807) (hg:m.X8.length≤9223372036854775807):Holds Tryz.prog 61 ⟨[.tv (.agg [dI m.X2,dI m.Y1,dI m.Xo,dI m.Xi,dI m.Yj,dS m.X8,.d (dsl tm false kU8 m.Xa),dI m.X1.Xw,dI m.X1.Xn,.d (dsl tm false (kE tm) m.Xp),.d (dsl tm false (kE tm) m.Y5),.d (dsl tm false (kC tm) m.X5)])],[],vI (X7f m),[]⟩:=by
 refine Holds.of Tryz.func61 rfl (N:=100) Tryz.ntmps61 rfl fun w0 B0 S0 U0=>?_
 show T _ (Y2 100 0 w0 S0 U0 B0) ⟨[(Z8b tm m)],[]⟩ _ _
 refine sR [] ?_
 refine sR [hR 2 rfl rfl (rCa (X0c m.X2 ) Tryz.func62 [] [(.tmp 9,vI m.X2)] 0 0)] ?_
 refine sR [hR 2 rfl rfl (rCa (Xby m.X2 ) Tryz.func119 [] [(.tmp 15,vI m.X2)] 0 0)] ?_
 refine T.seq ?_
 by_cases hq1:okK m.X2
 rotate_left
 ·refine sR (Xm (hN · false (cn (dF hq1))) [3,4,5,6,7,8,9] (hP 10 (cn (dF hq1))::(Xm hN0 [12,13,14,15,16,17,18] (hP1 19::(Xm hN0 [21,22,23,24,25,26] (hP1 27::(Xm hN0 [29,30,31,32,33,34] (hP1 35::[])))))))) ?_
  refine cT (b:=true) rfl ?_
  refine sR [] ?_
  refine T.ret (rT ?_)
  exact eRt 2 (Z8e) [] (cI (by exact if_neg (fun h9=>by obtain ⟨q1,q2,q3,q4,q5,q6,q7,q8,q9,q10⟩:=(Wz m).1 h9;exact absurd q1 ‹_›))) trivial
 by_cases hq2:X0m m.Y1 (Xj m.X2).Y1 (X3z m.X2)
 rotate_left
 ·refine sR (Xm (hY · (cn (dT hq1))) [3,4,5,6,7] (hS 8 (oY rfl rfl rfl rfl (X3 rfl) (cn (dT hq1)) (rCa (U9 m.Y1 (Xj m.X2).Y1 (X3z m.X2) ) Tryz.func120 [] [(.tmp 23,vI m.Y1),(.tmp 25,(Z8c m)),(.tmp 26,(Z8d m))] 0 0))::(hY 9 (cn (dT hq1))::(hP 10 (cn (dT hq1))::(Xm (hN · false (cn (dF hq2))) [12,13,14,15,16,17,18] (hP 19 (cn (dF hq2))::(Xm hN0 [21,22,23,24,25,26] (hP1 27::(Xm hN0 [29,30,31,32,33,34] (hP1 35::[])))))))))) ?_
  refine cT (b:=true) rfl ?_
  refine sR [] ?_
  refine T.ret (rT ?_)
  exact eRt 2 (Z8e) [] (cI (by exact if_neg (fun h9=>by obtain ⟨q1,q2,q3,q4,q5,q6,q7,q8,q9,q10⟩:=(Wz m).1 h9;exact absurd q2 ‹_›))) trivial
 by_cases hq3:X0m m.Xo (Xj m.X2).Xo (X30 m.X2)
 rotate_left
 ·refine sR (Xm (hY · (cn (dT hq1))) [3,4,5,6,7] (hS 8 (oY rfl rfl rfl rfl (X3 rfl) (cn (dT hq1)) (rCa (U9 m.Y1 (Xj m.X2).Y1 (X3z m.X2) ) Tryz.func120 [] [(.tmp 23,vI m.Y1),(.tmp 25,(Z8c m)),(.tmp 26,(Z8d m))] 0 0))::(hY 9 (cn (dT hq1))::(hP 10 (cn (dT hq1))::(Xm (hY · (cn (dT hq2))) [12,13,14,15,16] (hS 17 (oY rfl rfl rfl rfl (X3 rfl) (cn (dT hq2)) (rCa (U9 m.Xo (Xj m.X2).Xo (X30 m.X2) ) Tryz.func120 [] [(.tmp 32,vI m.Xo),(.tmp 34,vB (Xj m.X2).Xo),(.tmp 35,vI (X30 m.X2))] 0 0))::(hY 18 (cn (dT hq2))::(hP 19 (cn (dT hq2))::(Xm (hN · false (cn (dF hq3))) [21,22,23,24,25,26] (hP 27 (cn (dF hq3))::(Xm hN0 [29,30,31,32,33,34] (hP1 35::[])))))))))))) ?_
  refine cT (b:=true) rfl ?_
  refine sR [] ?_
  refine T.ret (rT ?_)
  exact eRt 2 (Z8e) [] (cI (by exact if_neg (fun h9=>by obtain ⟨q1,q2,q3,q4,q5,q6,q7,q8,q9,q10⟩:=(Wz m).1 h9;exact absurd q3 ‹_›))) trivial
 by_cases hq4:X0m m.Xi (Xj m.X2).Xi 0
 rotate_left
 ·refine sR (Xm (hY · (cn (dT hq1))) [3,4,5,6,7] (hS 8 (oY rfl rfl rfl rfl (X3 rfl) (cn (dT hq1)) (rCa (U9 m.Y1 (Xj m.X2).Y1 (X3z m.X2) ) Tryz.func120 [] [(.tmp 23,vI m.Y1),(.tmp 25,(Z8c m)),(.tmp 26,(Z8d m))] 0 0))::(hY 9 (cn (dT hq1))::(hP 10 (cn (dT hq1))::(Xm (hY · (cn (dT hq2))) [12,13,14,15,16] (hS 17 (oY rfl rfl rfl rfl (X3 rfl) (cn (dT hq2)) (rCa (U9 m.Xo (Xj m.X2).Xo (X30 m.X2) ) Tryz.func120 [] [(.tmp 32,vI m.Xo),(.tmp 34,vB (Xj m.X2).Xo),(.tmp 35,vI (X30 m.X2))] 0 0))::(hY 18 (cn (dT hq2))::(hP 19 (cn (dT hq2))::(Xm (hY · (cn (dT hq3))) [21,22,23,24] (hS 25 (oY rfl rfl rfl rfl (X3 rfl) (cn (dT hq3)) (rCa (U9 m.Xi (Xj m.X2).Xi 0 ) Tryz.func120 [] [(.tmp 41,vI m.Xi),(.tmp 43,vB (Xj m.X2).Xi),(.const (.int .i64 0),vI 0)] 0 0))::(hY 26 (cn (dT hq3))::(hP 27 (cn (dT hq3))::(Xm (hN · false (cn (dF hq4))) [29,30,31,32,33,34] (hP 35 (cn (dF hq4))::[])))))))))))))) ?_
  refine cT (b:=true) rfl ?_
  refine sR [] ?_
  refine T.ret (rT ?_)
  exact eRt 2 (Z8e) [] (cI (by exact if_neg (fun h9=>by obtain ⟨q1,q2,q3,q4,q5,q6,q7,q8,q9,q10⟩:=(Wz m).1 h9;exact absurd q4 ‹_›))) trivial
 refine sR (Xm (hY · (cn (dT hq1))) [3,4,5,6,7] (hS 8 (oY rfl rfl rfl rfl (X3 rfl) (cn (dT hq1)) (rCa (U9 m.Y1 (Xj m.X2).Y1 (X3z m.X2) ) Tryz.func120 [] [(.tmp 23,vI m.Y1),(.tmp 25,(Z8c m)),(.tmp 26,(Z8d m))] 0 0))::(hY 9 (cn (dT hq1))::(hP 10 (cn (dT hq1))::(Xm (hY · (cn (dT hq2))) [12,13,14,15,16] (hS 17 (oY rfl rfl rfl rfl (X3 rfl) (cn (dT hq2)) (rCa (U9 m.Xo (Xj m.X2).Xo (X30 m.X2) ) Tryz.func120 [] [(.tmp 32,vI m.Xo),(.tmp 34,vB (Xj m.X2).Xo),(.tmp 35,vI (X30 m.X2))] 0 0))::(hY 18 (cn (dT hq2))::(hP 19 (cn (dT hq2))::(Xm (hY · (cn (dT hq3))) [21,22,23,24] (hS 25 (oY rfl rfl rfl rfl (X3 rfl) (cn (dT hq3)) (rCa (U9 m.Xi (Xj m.X2).Xi 0 ) Tryz.func120 [] [(.tmp 41,vI m.Xi),(.tmp 43,vB (Xj m.X2).Xi),(.const (.int .i64 0),vI 0)] 0 0))::(hY 26 (cn (dT hq3))::(hP 27 (cn (dT hq3))::(Xm (hY · (cn (dT hq4))) [29,30,31,32] (hS 33 (oY rfl rfl rfl rfl (X3 rfl) (cn (dT hq4)) (rCa (U9 m.Yj (Xj m.X2).Xi 1 ) Tryz.func120 [] [(.tmp 49,vI m.Yj),(.tmp 51,vB (Xj m.X2).Xi),(.const (.int .i64 1),vI 1)] 0 0))::(hY 34 (cn (dT hq4))::(hP 35 (cn (dT hq4))::[])))))))))))))))) ?_
 by_cases hq5:X0m m.Yj (Xj m.X2).Xi 1
 rotate_left
 ·refine cT (cn (dF hq5)) ?_
  refine sR [] ?_
  refine T.ret (rT ?_)
  exact eRt 2 (Z8e) [] (cI (by exact if_neg (fun h9=>by obtain ⟨q1,q2,q3,q4,q5,q6,q7,q8,q9,q10⟩:=(Wz m).1 h9;exact absurd q5 ‹_›))) trivial
 refine cF (cn (dT hq5)) ?_
 refine T.skip (nT (T.seq ?_))
 by_cases hq6:m.X2=1
 ·refine sR (Xm (hY · (dT hq6)) [4,5,6,7] (hP 8 (dT hq6)::[])) ?_
  by_cases hq7:((m.Xa.length:Nat):Int)>4096
  ·refine cT (dT hq7) ?_
   refine sR [] ?_
   refine T.ret (rT ?_)
   exact eRt 2 (Z8e) [] (cI (by exact if_neg (fun h9=>by obtain ⟨q1,q2,q3,q4,q5,q6,q7,q8,q9,q10⟩:=(Wz m).1 h9;exact q6 ⟨by assumption,by assumption⟩))) trivial
  refine cF (dF hq7) ?_
  refine T.skip (nT (T.seq ?_))
  by_cases hq8:(Xj m.X2).X8=true
  ·by_cases hq9:(Xj m.X2).Xa=true
   ·by_cases hq10:(Xj m.X2).X1=true
    ·refine sR (Xm (hN · true (cn hq8)) [4,5,6] (hP 7 (cn hq8)::(Xm hY0 [9,10,11,12] (Xm (hN · true (cn hq9)) [13,14,15,16] (hS 17 (oY (b:=false) rfl rfl rfl rfl (X3 rfl) rfl (Wi (b:=(!(Xj m.X2).Xa)) (av:=vB false) (X3 rfl) ⟨rfl,trivial⟩ (cn hq9)))::(hP0 18::(Xm hY0 [20,21,22,23] (Xm (hN · true (cn hq10)) [24,25,26,27] (hS 28 (oY (b:=false) rfl rfl rfl rfl (X3 rfl) rfl (Wi (b:=(!(Xj m.X2).X1)) (av:=vB false) (X3 rfl) ⟨rfl,trivial⟩ (cn hq10)))::(hP0 29::(hY0 31::(hY0 32::(hS 33 (oY (b:=false) rfl rfl rfl rfl (X3 rfl) rfl (rCa (Wx tm m (aH.mk (Xj m.X2).Y1 (Xj m.X2).Xo (Xj m.X2).Xi (Xj m.X2).X8 (Xj m.X2).Xa (Xj m.X2).X1 (Xj m.X2).Xp (Xj m.X2).Y5 (Xj m.X2).X5) ‹_› ‹_› ‹_›) Tryz.func121 [] [(.tmp 95,(Z8b tm m)),(.tmp 96,(Z8f m))] 0 0))::(hY0 34::(hP0 35::[]))))))))))))))) ?_
     by_cases hq11:Eo m (aH.mk (Xj m.X2).Y1 (Xj m.X2).Xo (Xj m.X2).Xi (Xj m.X2).X8 (Xj m.X2).Xa (Xj m.X2).X1 (Xj m.X2).Xp (Xj m.X2).Y5 (Xj m.X2).X5)
     ·refine cF (cn (dT hq11)) ?_
      refine T.skip (nT ?_)
      refine sR [] ?_
      refine T.ret ?_
      exact eRt 2 (Z8g) [] (cI (by exact if_pos ((Wz m).2 ⟨‹_›,‹_›,‹_›,‹_›,‹_›,(fun h8=>by exact absurd h8.2 ‹_›),(fun h8=>by exact absurd ‹_› h8.1),(fun h8=>by exact absurd ‹_› h8.1),(fun h8=>by exact absurd ‹_› h8.1),‹_›⟩))) trivial
     refine cT (cn (dF hq11)) ?_
     refine sR [] ?_
     refine T.ret (rT ?_)
     exact eRt 2 (Z8e) [] pg trivial
    replace hq10:=Bool.eq_false_iff.2 hq10
    by_cases hq12:m.X1≠(Y6.mk 0 0)
    ·refine sR (Xm (hN · true (cn hq8)) [4,5,6] (hP 7 (cn hq8)::(Xm hY0 [9,10,11,12] (Xm (hN · true (cn hq9)) [13,14,15,16] (hS 17 (oY (b:=false) rfl rfl rfl rfl (X3 rfl) rfl (Wi (b:=(!(Xj m.X2).Xa)) (av:=vB false) (X3 rfl) ⟨rfl,trivial⟩ (cn hq9)))::(hP0 18::(Xm hY0 [20,21,22,23] (Xm (hY · (cn hq10)) [24,25,26] (hS 27 (oY rfl rfl rfl rfl (X3 rfl) (cn hq10) (Ip (ax:=(Z8h m)) (ay:=Z8i) (a:=m.X1) (b:=(Y6.mk 0 0)) I7 ⟨[.int .i64 m.X1.Xw,.int .i64 m.X1.Xn],rfl,rfl⟩ ⟨[.int .i64 0,.int .i64 0],rfl,rfl⟩ (X3 rfl) F2))::(hS 28 (oY (b:=false) rfl rfl rfl rfl (X3 rfl) rfl (Wc (b:=(!(Xj m.X2).X1)) (av:=(Z8j m)) (X3 rfl) trivial (cn hq10)))::(hP0 29::(Xm (hN · false (dT hq12)) [31,32,33,34] (hP 35 (dT hq12)::[]))))))))))))) ?_
     refine cT (b:=true) rfl ?_
     refine sR [] ?_
     refine T.ret (rT ?_)
     exact eRt 2 (Z8e) [] pu trivial
    refine sR (Xm (hN · true (cn hq8)) [4,5,6] (hP 7 (cn hq8)::(Xm hY0 [9,10,11,12] (Xm (hN · true (cn hq9)) [13,14,15,16] (hS 17 (oY (b:=false) rfl rfl rfl rfl (X3 rfl) rfl (Wi (b:=(!(Xj m.X2).Xa)) (av:=vB false) (X3 rfl) ⟨rfl,trivial⟩ (cn hq9)))::(hP0 18::(Xm hY0 [20,21,22,23] (Xm (hY · (cn hq10)) [24,25,26] (hS 27 (oY rfl rfl rfl rfl (X3 rfl) (cn hq10) (Ip (ax:=(Z8h m)) (ay:=Z8i) (a:=m.X1) (b:=(Y6.mk 0 0)) I7 ⟨[.int .i64 m.X1.Xw,.int .i64 m.X1.Xn],rfl,rfl⟩ ⟨[.int .i64 0,.int .i64 0],rfl,rfl⟩ (X3 rfl) F2))::(hS 28 (oY (b:=false) rfl rfl rfl rfl (X3 rfl) rfl (Wc (b:=(!(Xj m.X2).X1)) (av:=(Z8j m)) (X3 rfl) trivial (cn hq10)))::(hP0 29::(hY 31 (dF hq12)::(hY 32 (dF hq12)::(hS 33 (oY rfl rfl rfl rfl (X3 rfl) (dF hq12) (rCa (Wx tm m (aH.mk (Xj m.X2).Y1 (Xj m.X2).Xo (Xj m.X2).Xi (Xj m.X2).X8 (Xj m.X2).Xa (Xj m.X2).X1 (Xj m.X2).Xp (Xj m.X2).Y5 (Xj m.X2).X5) ‹_› ‹_› ‹_›) Tryz.func121 [] [(.tmp 95,(Z8b tm m)),(.tmp 96,(Z8f m))] 0 0))::(hY 34 (dF hq12)::(hP 35 (dF hq12)::[])))))))))))))))) ?_
    by_cases hq13:Eo m (aH.mk (Xj m.X2).Y1 (Xj m.X2).Xo (Xj m.X2).Xi (Xj m.X2).X8 (Xj m.X2).Xa (Xj m.X2).X1 (Xj m.X2).Xp (Xj m.X2).Y5 (Xj m.X2).X5)
    ·refine cF (cn (dT hq13)) ?_
     refine T.skip (nT ?_)
     refine sR [] ?_
     refine T.ret ?_
     exact eRt 2 (Z8g) [] (cI (by exact if_pos ((Wz m).2 ⟨‹_›,‹_›,‹_›,‹_›,‹_›,(fun h8=>by exact absurd h8.2 ‹_›),(fun h8=>by exact absurd ‹_› h8.1),(fun h8=>by exact absurd ‹_› h8.1),(fun h8=>by exact absurd h8.2 ‹_›),‹_›⟩))) trivial
    refine cT (cn (dF hq13)) ?_
    refine sR [] ?_
    refine T.ret (rT ?_)
    exact eRt 2 (Z8e) [] pg trivial
   replace hq9:=Bool.eq_false_iff.2 hq9
   by_cases hq14:((m.Xa.length:Nat):Int)>0
   ·refine sR (Xm (hN · true (cn hq8)) [4,5,6] (hP 7 (cn hq8)::(Xm hY0 [9,10,11,12] (Xm (hY · (cn hq9)) [13,14,15,16] (hS 17 (oY (b:=false) rfl rfl rfl rfl (X3 rfl) rfl (Wc (b:=(!(Xj m.X2).Xa)) (av:=(Z8k m)) (X3 rfl) trivial (cn hq9)))::(hP0 18::(Xm (hN · false (dT hq14)) [20,21,22,23] (hU 24::(hU 25::(hU 26::(hU 27::(hN 28 false (dT hq14)::(hP 29 (dT hq14)::(Xm hN0 [31,32,33,34] (hP1 35::[]))))))))))))))) ?_
    refine cT (b:=true) rfl ?_
    refine sR [] ?_
    refine T.ret (rT ?_)
    exact eRt 2 (Z8e) [] p1j trivial
   by_cases hq15:(Xj m.X2).X1=true
   ·refine sR (Xm (hN · true (cn hq8)) [4,5,6] (hP 7 (cn hq8)::(Xm hY0 [9,10,11,12] (Xm (hY · (cn hq9)) [13,14,15,16] (hS 17 (oY (b:=false) rfl rfl rfl rfl (X3 rfl) rfl (Wc (b:=(!(Xj m.X2).Xa)) (av:=(Z8k m)) (X3 rfl) trivial (cn hq9)))::(hP0 18::(Xm (hY · (dF hq14)) [20,21,22,23] (Xm (hN · true (cn hq15)) [24,25,26,27] (hS 28 (oY rfl rfl rfl rfl (X3 rfl) (dF hq14) (Wi (b:=(!(Xj m.X2).X1)) (av:=vB false) (X3 rfl) ⟨rfl,trivial⟩ (cn hq15)))::(hP 29 (dF hq14)::(hY0 31::(hY0 32::(hS 33 (oY (b:=false) rfl rfl rfl rfl (X3 rfl) rfl (rCa (Wx tm m (aH.mk (Xj m.X2).Y1 (Xj m.X2).Xo (Xj m.X2).Xi (Xj m.X2).X8 (Xj m.X2).Xa (Xj m.X2).X1 (Xj m.X2).Xp (Xj m.X2).Y5 (Xj m.X2).X5) ‹_› ‹_› ‹_›) Tryz.func121 [] [(.tmp 95,(Z8b tm m)),(.tmp 96,(Z8f m))] 0 0))::(hY0 34::(hP0 35::[]))))))))))))))) ?_
    by_cases hq16:Eo m (aH.mk (Xj m.X2).Y1 (Xj m.X2).Xo (Xj m.X2).Xi (Xj m.X2).X8 (Xj m.X2).Xa (Xj m.X2).X1 (Xj m.X2).Xp (Xj m.X2).Y5 (Xj m.X2).X5)
    ·refine cF (cn (dT hq16)) ?_
     refine T.skip (nT ?_)
     refine sR [] ?_
     refine T.ret ?_
     exact eRt 2 (Z8g) [] (cI (by exact if_pos ((Wz m).2 ⟨‹_›,‹_›,‹_›,‹_›,‹_›,(fun h8=>by exact absurd h8.2 ‹_›),(fun h8=>by exact absurd ‹_› h8.1),(fun h8=>by exact absurd h8.2 ‹_›),(fun h8=>by exact absurd ‹_› h8.1),‹_›⟩))) trivial
    refine cT (cn (dF hq16)) ?_
    refine sR [] ?_
    refine T.ret (rT ?_)
    exact eRt 2 (Z8e) [] pg trivial
   replace hq15:=Bool.eq_false_iff.2 hq15
   by_cases hq17:m.X1≠(Y6.mk 0 0)
   ·refine sR (Xm (hN · true (cn hq8)) [4,5,6] (hP 7 (cn hq8)::(Xm hY0 [9,10,11,12] (Xm (hY · (cn hq9)) [13,14,15,16] (hS 17 (oY (b:=false) rfl rfl rfl rfl (X3 rfl) rfl (Wc (b:=(!(Xj m.X2).Xa)) (av:=(Z8k m)) (X3 rfl) trivial (cn hq9)))::(hP0 18::(Xm (hY · (dF hq14)) [20,21,22,23] (Xm (hY · (cn hq15)) [24,25,26] (hS 27 (oY rfl rfl rfl rfl (X3 rfl) (cn hq15) (Ip (ax:=(Z8h m)) (ay:=Z8i) (a:=m.X1) (b:=(Y6.mk 0 0)) I7 ⟨[.int .i64 m.X1.Xw,.int .i64 m.X1.Xn],rfl,rfl⟩ ⟨[.int .i64 0,.int .i64 0],rfl,rfl⟩ (X3 rfl) F2))::(hS 28 (oY rfl rfl rfl rfl (X3 rfl) (dF hq14) (Wc (b:=(!(Xj m.X2).X1)) (av:=(Z8j m)) (X3 rfl) trivial (cn hq15)))::(hP 29 (dF hq14)::(Xm (hN · false (dT hq17)) [31,32,33,34] (hP 35 (dT hq17)::[]))))))))))))) ?_
    refine cT (b:=true) rfl ?_
    refine sR [] ?_
    refine T.ret (rT ?_)
    exact eRt 2 (Z8e) [] pu trivial
   refine sR (Xm (hN · true (cn hq8)) [4,5,6] (hP 7 (cn hq8)::(Xm hY0 [9,10,11,12] (Xm (hY · (cn hq9)) [13,14,15,16] (hS 17 (oY (b:=false) rfl rfl rfl rfl (X3 rfl) rfl (Wc (b:=(!(Xj m.X2).Xa)) (av:=(Z8k m)) (X3 rfl) trivial (cn hq9)))::(hP0 18::(Xm (hY · (dF hq14)) [20,21,22,23] (Xm (hY · (cn hq15)) [24,25,26] (hS 27 (oY rfl rfl rfl rfl (X3 rfl) (cn hq15) (Ip (ax:=(Z8h m)) (ay:=Z8i) (a:=m.X1) (b:=(Y6.mk 0 0)) I7 ⟨[.int .i64 m.X1.Xw,.int .i64 m.X1.Xn],rfl,rfl⟩ ⟨[.int .i64 0,.int .i64 0],rfl,rfl⟩ (X3 rfl) F2))::(hS 28 (oY rfl rfl rfl rfl (X3 rfl) (dF hq14) (Wc (b:=(!(Xj m.X2).X1)) (av:=(Z8j m)) (X3 rfl) trivial (cn hq15)))::(hP 29 (dF hq14)::(hY 31 (dF hq17)::(hY 32 (dF hq17)::(hS 33 (oY rfl rfl rfl rfl (X3 rfl) (dF hq17) (rCa (Wx tm m (aH.mk (Xj m.X2).Y1 (Xj m.X2).Xo (Xj m.X2).Xi (Xj m.X2).X8 (Xj m.X2).Xa (Xj m.X2).X1 (Xj m.X2).Xp (Xj m.X2).Y5 (Xj m.X2).X5) ‹_› ‹_› ‹_›) Tryz.func121 [] [(.tmp 95,(Z8b tm m)),(.tmp 96,(Z8f m))] 0 0))::(hY 34 (dF hq17)::(hP 35 (dF hq17)::[])))))))))))))))) ?_
   by_cases hq18:Eo m (aH.mk (Xj m.X2).Y1 (Xj m.X2).Xo (Xj m.X2).Xi (Xj m.X2).X8 (Xj m.X2).Xa (Xj m.X2).X1 (Xj m.X2).Xp (Xj m.X2).Y5 (Xj m.X2).X5)
   ·refine cF (cn (dT hq18)) ?_
    refine T.skip (nT ?_)
    refine sR [] ?_
    refine T.ret ?_
    exact eRt 2 (Z8g) [] (cI (by exact if_pos ((Wz m).2 ⟨‹_›,‹_›,‹_›,‹_›,‹_›,(fun h8=>by exact absurd h8.2 ‹_›),(fun h8=>by exact absurd ‹_› h8.1),(fun h8=>by exact absurd h8.2 ‹_›),(fun h8=>by exact absurd h8.2 ‹_›),‹_›⟩))) trivial
   refine cT (cn (dF hq18)) ?_
   refine sR [] ?_
   refine T.ret (rT ?_)
   exact eRt 2 (Z8e) [] pg trivial
  replace hq8:=Bool.eq_false_iff.2 hq8
  by_cases hq19:m.X8≠[]
  ·refine sR (Xm (hY · (cn hq8)) [4,5,6] (hP 7 (cn hq8)::(Xm (hN · false (dT hq19)) [9,10,11,12] (hU 13::(hU 14::(hU 15::(hU 16::(hN 17 false (dT hq19)::(hP 18 (dT hq19)::(Xm hN0 [20,21,22,23] (hU 24::(hU 25::(hU 26::(hU 27::(hN0 28::(hP1 29::(Xm hN0 [31,32,33,34] (hP1 35::[])))))))))))))))))) ?_
   refine cT (b:=true) rfl ?_
   refine sR [] ?_
   refine T.ret (rT ?_)
   exact eRt 2 (Z8e) [] p3p trivial
  by_cases hq20:(Xj m.X2).Xa=true
  ·by_cases hq21:(Xj m.X2).X1=true
   ·refine sR (Xm (hY · (cn hq8)) [4,5,6] (hP 7 (cn hq8)::(Xm (hY · (dF hq19)) [9,10,11,12] (Xm (hN · true (cn hq20)) [13,14,15,16] (hS 17 (oY rfl rfl rfl rfl (X3 rfl) (dF hq19) (Wi (b:=(!(Xj m.X2).Xa)) (av:=vB false) (X3 rfl) ⟨rfl,trivial⟩ (cn hq20)))::(hP 18 (dF hq19)::(Xm hY0 [20,21,22,23] (Xm (hN · true (cn hq21)) [24,25,26,27] (hS 28 (oY (b:=false) rfl rfl rfl rfl (X3 rfl) rfl (Wi (b:=(!(Xj m.X2).X1)) (av:=vB false) (X3 rfl) ⟨rfl,trivial⟩ (cn hq21)))::(hP0 29::(hY0 31::(hY0 32::(hS 33 (oY (b:=false) rfl rfl rfl rfl (X3 rfl) rfl (rCa (Wx tm m (aH.mk (Xj m.X2).Y1 (Xj m.X2).Xo (Xj m.X2).Xi (Xj m.X2).X8 (Xj m.X2).Xa (Xj m.X2).X1 (Xj m.X2).Xp (Xj m.X2).Y5 (Xj m.X2).X5) ‹_› ‹_› ‹_›) Tryz.func121 [] [(.tmp 95,(Z8b tm m)),(.tmp 96,(Z8f m))] 0 0))::(hY0 34::(hP0 35::[]))))))))))))))) ?_
    by_cases hq22:Eo m (aH.mk (Xj m.X2).Y1 (Xj m.X2).Xo (Xj m.X2).Xi (Xj m.X2).X8 (Xj m.X2).Xa (Xj m.X2).X1 (Xj m.X2).Xp (Xj m.X2).Y5 (Xj m.X2).X5)
    ·refine cF (cn (dT hq22)) ?_
     refine T.skip (nT ?_)
     refine sR [] ?_
     refine T.ret ?_
     exact eRt 2 (Z8g) [] (cI (by exact if_pos ((Wz m).2 ⟨‹_›,‹_›,‹_›,‹_›,‹_›,(fun h8=>by exact absurd h8.2 ‹_›),(fun h8=>by exact absurd h8.2 ‹_›),(fun h8=>by exact absurd ‹_› h8.1),(fun h8=>by exact absurd ‹_› h8.1),‹_›⟩))) trivial
    refine cT (cn (dF hq22)) ?_
    refine sR [] ?_
    refine T.ret (rT ?_)
    exact eRt 2 (Z8e) [] pg trivial
   replace hq21:=Bool.eq_false_iff.2 hq21
   by_cases hq23:m.X1≠(Y6.mk 0 0)
   ·refine sR (Xm (hY · (cn hq8)) [4,5,6] (hP 7 (cn hq8)::(Xm (hY · (dF hq19)) [9,10,11,12] (Xm (hN · true (cn hq20)) [13,14,15,16] (hS 17 (oY rfl rfl rfl rfl (X3 rfl) (dF hq19) (Wi (b:=(!(Xj m.X2).Xa)) (av:=vB false) (X3 rfl) ⟨rfl,trivial⟩ (cn hq20)))::(hP 18 (dF hq19)::(Xm hY0 [20,21,22,23] (Xm (hY · (cn hq21)) [24,25,26] (hS 27 (oY rfl rfl rfl rfl (X3 rfl) (cn hq21) (Ip (ax:=(Z8h m)) (ay:=Z8i) (a:=m.X1) (b:=(Y6.mk 0 0)) I7 ⟨[.int .i64 m.X1.Xw,.int .i64 m.X1.Xn],rfl,rfl⟩ ⟨[.int .i64 0,.int .i64 0],rfl,rfl⟩ (X3 rfl) F2))::(hS 28 (oY (b:=false) rfl rfl rfl rfl (X3 rfl) rfl (Wc (b:=(!(Xj m.X2).X1)) (av:=(Z8j m)) (X3 rfl) trivial (cn hq21)))::(hP0 29::(Xm (hN · false (dT hq23)) [31,32,33,34] (hP 35 (dT hq23)::[]))))))))))))) ?_
    refine cT (b:=true) rfl ?_
    refine sR [] ?_
    refine T.ret (rT ?_)
    exact eRt 2 (Z8e) [] pu trivial
   refine sR (Xm (hY · (cn hq8)) [4,5,6] (hP 7 (cn hq8)::(Xm (hY · (dF hq19)) [9,10,11,12] (Xm (hN · true (cn hq20)) [13,14,15,16] (hS 17 (oY rfl rfl rfl rfl (X3 rfl) (dF hq19) (Wi (b:=(!(Xj m.X2).Xa)) (av:=vB false) (X3 rfl) ⟨rfl,trivial⟩ (cn hq20)))::(hP 18 (dF hq19)::(Xm hY0 [20,21,22,23] (Xm (hY · (cn hq21)) [24,25,26] (hS 27 (oY rfl rfl rfl rfl (X3 rfl) (cn hq21) (Ip (ax:=(Z8h m)) (ay:=Z8i) (a:=m.X1) (b:=(Y6.mk 0 0)) I7 ⟨[.int .i64 m.X1.Xw,.int .i64 m.X1.Xn],rfl,rfl⟩ ⟨[.int .i64 0,.int .i64 0],rfl,rfl⟩ (X3 rfl) F2))::(hS 28 (oY (b:=false) rfl rfl rfl rfl (X3 rfl) rfl (Wc (b:=(!(Xj m.X2).X1)) (av:=(Z8j m)) (X3 rfl) trivial (cn hq21)))::(hP0 29::(hY 31 (dF hq23)::(hY 32 (dF hq23)::(hS 33 (oY rfl rfl rfl rfl (X3 rfl) (dF hq23) (rCa (Wx tm m (aH.mk (Xj m.X2).Y1 (Xj m.X2).Xo (Xj m.X2).Xi (Xj m.X2).X8 (Xj m.X2).Xa (Xj m.X2).X1 (Xj m.X2).Xp (Xj m.X2).Y5 (Xj m.X2).X5) ‹_› ‹_› ‹_›) Tryz.func121 [] [(.tmp 95,(Z8b tm m)),(.tmp 96,(Z8f m))] 0 0))::(hY 34 (dF hq23)::(hP 35 (dF hq23)::[])))))))))))))))) ?_
   by_cases hq24:Eo m (aH.mk (Xj m.X2).Y1 (Xj m.X2).Xo (Xj m.X2).Xi (Xj m.X2).X8 (Xj m.X2).Xa (Xj m.X2).X1 (Xj m.X2).Xp (Xj m.X2).Y5 (Xj m.X2).X5)
   ·refine cF (cn (dT hq24)) ?_
    refine T.skip (nT ?_)
    refine sR [] ?_
    refine T.ret ?_
    exact eRt 2 (Z8g) [] (cI (by exact if_pos ((Wz m).2 ⟨‹_›,‹_›,‹_›,‹_›,‹_›,(fun h8=>by exact absurd h8.2 ‹_›),(fun h8=>by exact absurd h8.2 ‹_›),(fun h8=>by exact absurd ‹_› h8.1),(fun h8=>by exact absurd h8.2 ‹_›),‹_›⟩))) trivial
   refine cT (cn (dF hq24)) ?_
   refine sR [] ?_
   refine T.ret (rT ?_)
   exact eRt 2 (Z8e) [] pg trivial
  replace hq20:=Bool.eq_false_iff.2 hq20
  by_cases hq25:((m.Xa.length:Nat):Int)>0
  ·refine sR (Xm (hY · (cn hq8)) [4,5,6] (hP 7 (cn hq8)::(Xm (hY · (dF hq19)) [9,10,11,12] (Xm (hY · (cn hq20)) [13,14,15,16] (hS 17 (oY rfl rfl rfl rfl (X3 rfl) (dF hq19) (Wc (b:=(!(Xj m.X2).Xa)) (av:=(Z8k m)) (X3 rfl) trivial (cn hq20)))::(hP 18 (dF hq19)::(Xm (hN · false (dT hq25)) [20,21,22,23] (hU 24::(hU 25::(hU 26::(hU 27::(hN 28 false (dT hq25)::(hP 29 (dT hq25)::(Xm hN0 [31,32,33,34] (hP1 35::[]))))))))))))))) ?_
   refine cT (b:=true) rfl ?_
   refine sR [] ?_
   refine T.ret (rT ?_)
   exact eRt 2 (Z8e) [] p1j trivial
  by_cases hq26:(Xj m.X2).X1=true
  ·refine sR (Xm (hY · (cn hq8)) [4,5,6] (hP 7 (cn hq8)::(Xm (hY · (dF hq19)) [9,10,11,12] (Xm (hY · (cn hq20)) [13,14,15,16] (hS 17 (oY rfl rfl rfl rfl (X3 rfl) (dF hq19) (Wc (b:=(!(Xj m.X2).Xa)) (av:=(Z8k m)) (X3 rfl) trivial (cn hq20)))::(hP 18 (dF hq19)::(Xm (hY · (dF hq25)) [20,21,22,23] (Xm (hN · true (cn hq26)) [24,25,26,27] (hS 28 (oY rfl rfl rfl rfl (X3 rfl) (dF hq25) (Wi (b:=(!(Xj m.X2).X1)) (av:=vB false) (X3 rfl) ⟨rfl,trivial⟩ (cn hq26)))::(hP 29 (dF hq25)::(hY0 31::(hY0 32::(hS 33 (oY (b:=false) rfl rfl rfl rfl (X3 rfl) rfl (rCa (Wx tm m (aH.mk (Xj m.X2).Y1 (Xj m.X2).Xo (Xj m.X2).Xi (Xj m.X2).X8 (Xj m.X2).Xa (Xj m.X2).X1 (Xj m.X2).Xp (Xj m.X2).Y5 (Xj m.X2).X5) ‹_› ‹_› ‹_›) Tryz.func121 [] [(.tmp 95,(Z8b tm m)),(.tmp 96,(Z8f m))] 0 0))::(hY0 34::(hP0 35::[]))))))))))))))) ?_
   by_cases hq27:Eo m (aH.mk (Xj m.X2).Y1 (Xj m.X2).Xo (Xj m.X2).Xi (Xj m.X2).X8 (Xj m.X2).Xa (Xj m.X2).X1 (Xj m.X2).Xp (Xj m.X2).Y5 (Xj m.X2).X5)
   ·refine cF (cn (dT hq27)) ?_
    refine T.skip (nT ?_)
    refine sR [] ?_
    refine T.ret ?_
    exact eRt 2 (Z8g) [] (cI (by exact if_pos ((Wz m).2 ⟨‹_›,‹_›,‹_›,‹_›,‹_›,(fun h8=>by exact absurd h8.2 ‹_›),(fun h8=>by exact absurd h8.2 ‹_›),(fun h8=>by exact absurd h8.2 ‹_›),(fun h8=>by exact absurd ‹_› h8.1),‹_›⟩))) trivial
   refine cT (cn (dF hq27)) ?_
   refine sR [] ?_
   refine T.ret (rT ?_)
   exact eRt 2 (Z8e) [] pg trivial
  replace hq26:=Bool.eq_false_iff.2 hq26
  by_cases hq28:m.X1≠(Y6.mk 0 0)
  ·refine sR (Xm (hY · (cn hq8)) [4,5,6] (hP 7 (cn hq8)::(Xm (hY · (dF hq19)) [9,10,11,12] (Xm (hY · (cn hq20)) [13,14,15,16] (hS 17 (oY rfl rfl rfl rfl (X3 rfl) (dF hq19) (Wc (b:=(!(Xj m.X2).Xa)) (av:=(Z8k m)) (X3 rfl) trivial (cn hq20)))::(hP 18 (dF hq19)::(Xm (hY · (dF hq25)) [20,21,22,23] (Xm (hY · (cn hq26)) [24,25,26] (hS 27 (oY rfl rfl rfl rfl (X3 rfl) (cn hq26) (Ip (ax:=(Z8h m)) (ay:=Z8i) (a:=m.X1) (b:=(Y6.mk 0 0)) I7 ⟨[.int .i64 m.X1.Xw,.int .i64 m.X1.Xn],rfl,rfl⟩ ⟨[.int .i64 0,.int .i64 0],rfl,rfl⟩ (X3 rfl) F2))::(hS 28 (oY rfl rfl rfl rfl (X3 rfl) (dF hq25) (Wc (b:=(!(Xj m.X2).X1)) (av:=(Z8j m)) (X3 rfl) trivial (cn hq26)))::(hP 29 (dF hq25)::(Xm (hN · false (dT hq28)) [31,32,33,34] (hP 35 (dT hq28)::[]))))))))))))) ?_
   refine cT (b:=true) rfl ?_
   refine sR [] ?_
   refine T.ret (rT ?_)
   exact eRt 2 (Z8e) [] pu trivial
  refine sR (Xm (hY · (cn hq8)) [4,5,6] (hP 7 (cn hq8)::(Xm (hY · (dF hq19)) [9,10,11,12] (Xm (hY · (cn hq20)) [13,14,15,16] (hS 17 (oY rfl rfl rfl rfl (X3 rfl) (dF hq19) (Wc (b:=(!(Xj m.X2).Xa)) (av:=(Z8k m)) (X3 rfl) trivial (cn hq20)))::(hP 18 (dF hq19)::(Xm (hY · (dF hq25)) [20,21,22,23] (Xm (hY · (cn hq26)) [24,25,26] (hS 27 (oY rfl rfl rfl rfl (X3 rfl) (cn hq26) (Ip (ax:=(Z8h m)) (ay:=Z8i) (a:=m.X1) (b:=(Y6.mk 0 0)) I7 ⟨[.int .i64 m.X1.Xw,.int .i64 m.X1.Xn],rfl,rfl⟩ ⟨[.int .i64 0,.int .i64 0],rfl,rfl⟩ (X3 rfl) F2))::(hS 28 (oY rfl rfl rfl rfl (X3 rfl) (dF hq25) (Wc (b:=(!(Xj m.X2).X1)) (av:=(Z8j m)) (X3 rfl) trivial (cn hq26)))::(hP 29 (dF hq25)::(hY 31 (dF hq28)::(hY 32 (dF hq28)::(hS 33 (oY rfl rfl rfl rfl (X3 rfl) (dF hq28) (rCa (Wx tm m (aH.mk (Xj m.X2).Y1 (Xj m.X2).Xo (Xj m.X2).Xi (Xj m.X2).X8 (Xj m.X2).Xa (Xj m.X2).X1 (Xj m.X2).Xp (Xj m.X2).Y5 (Xj m.X2).X5) ‹_› ‹_› ‹_›) Tryz.func121 [] [(.tmp 95,(Z8b tm m)),(.tmp 96,(Z8f m))] 0 0))::(hY 34 (dF hq28)::(hP 35 (dF hq28)::[])))))))))))))))) ?_
  by_cases hq29:Eo m (aH.mk (Xj m.X2).Y1 (Xj m.X2).Xo (Xj m.X2).Xi (Xj m.X2).X8 (Xj m.X2).Xa (Xj m.X2).X1 (Xj m.X2).Xp (Xj m.X2).Y5 (Xj m.X2).X5)
  ·refine cF (cn (dT hq29)) ?_
   refine T.skip (nT ?_)
   refine sR [] ?_
   refine T.ret ?_
   exact eRt 2 (Z8g) [] (cI (by exact if_pos ((Wz m).2 ⟨‹_›,‹_›,‹_›,‹_›,‹_›,(fun h8=>by exact absurd h8.2 ‹_›),(fun h8=>by exact absurd h8.2 ‹_›),(fun h8=>by exact absurd h8.2 ‹_›),(fun h8=>by exact absurd h8.2 ‹_›),‹_›⟩))) trivial
  refine cT (cn (dF hq29)) ?_
  refine sR [] ?_
  refine T.ret (rT ?_)
  exact eRt 2 (Z8e) [] pg trivial
 refine sR (Xm (hN · true (dF hq6)) [4,5,6,7] (hP 8 (dF hq6)::[])) ?_
 refine cF (b:=false) rfl ?_
 refine T.skip (nT (T.seq ?_))
 by_cases hq30:(Xj m.X2).X8=true
 ·by_cases hq31:(Xj m.X2).Xa=true
  ·by_cases hq32:(Xj m.X2).X1=true
   ·refine sR (Xm (hN · true (cn hq30)) [4,5,6] (hP 7 (cn hq30)::(Xm hY0 [9,10,11,12] (Xm (hN · true (cn hq31)) [13,14,15,16] (hS 17 (oY (b:=false) rfl rfl rfl rfl (X3 rfl) rfl (Wi (b:=(!(Xj m.X2).Xa)) (av:=vB false) (X3 rfl) ⟨rfl,trivial⟩ (cn hq31)))::(hP0 18::(Xm hY0 [20,21,22,23] (Xm (hN · true (cn hq32)) [24,25,26,27] (hS 28 (oY (b:=false) rfl rfl rfl rfl (X3 rfl) rfl (Wi (b:=(!(Xj m.X2).X1)) (av:=vB false) (X3 rfl) ⟨rfl,trivial⟩ (cn hq32)))::(hP0 29::(hY0 31::(hY0 32::(hS 33 (oY (b:=false) rfl rfl rfl rfl (X3 rfl) rfl (rCa (Wx tm m (aH.mk (Xj m.X2).Y1 (Xj m.X2).Xo (Xj m.X2).Xi (Xj m.X2).X8 (Xj m.X2).Xa (Xj m.X2).X1 (Xj m.X2).Xp (Xj m.X2).Y5 (Xj m.X2).X5) ‹_› ‹_› ‹_›) Tryz.func121 [] [(.tmp 95,(Z8b tm m)),(.tmp 96,(Z8f m))] 0 0))::(hY0 34::(hP0 35::[]))))))))))))))) ?_
    by_cases hq33:Eo m (aH.mk (Xj m.X2).Y1 (Xj m.X2).Xo (Xj m.X2).Xi (Xj m.X2).X8 (Xj m.X2).Xa (Xj m.X2).X1 (Xj m.X2).Xp (Xj m.X2).Y5 (Xj m.X2).X5)
    ·refine cF (cn (dT hq33)) ?_
     refine T.skip (nT ?_)
     refine sR [] ?_
     refine T.ret ?_
     exact eRt 2 (Z8g) [] (cI (by exact if_pos ((Wz m).2 ⟨‹_›,‹_›,‹_›,‹_›,‹_›,(fun h8=>by exact absurd h8.1 ‹_›),(fun h8=>by exact absurd ‹_› h8.1),(fun h8=>by exact absurd ‹_› h8.1),(fun h8=>by exact absurd ‹_› h8.1),‹_›⟩))) trivial
    refine cT (cn (dF hq33)) ?_
    refine sR [] ?_
    refine T.ret (rT ?_)
    exact eRt 2 (Z8e) [] pg trivial
   replace hq32:=Bool.eq_false_iff.2 hq32
   by_cases hq34:m.X1≠(Y6.mk 0 0)
   ·refine sR (Xm (hN · true (cn hq30)) [4,5,6] (hP 7 (cn hq30)::(Xm hY0 [9,10,11,12] (Xm (hN · true (cn hq31)) [13,14,15,16] (hS 17 (oY (b:=false) rfl rfl rfl rfl (X3 rfl) rfl (Wi (b:=(!(Xj m.X2).Xa)) (av:=vB false) (X3 rfl) ⟨rfl,trivial⟩ (cn hq31)))::(hP0 18::(Xm hY0 [20,21,22,23] (Xm (hY · (cn hq32)) [24,25,26] (hS 27 (oY rfl rfl rfl rfl (X3 rfl) (cn hq32) (Ip (ax:=(Z8h m)) (ay:=Z8i) (a:=m.X1) (b:=(Y6.mk 0 0)) I7 ⟨[.int .i64 m.X1.Xw,.int .i64 m.X1.Xn],rfl,rfl⟩ ⟨[.int .i64 0,.int .i64 0],rfl,rfl⟩ (X3 rfl) F2))::(hS 28 (oY (b:=false) rfl rfl rfl rfl (X3 rfl) rfl (Wc (b:=(!(Xj m.X2).X1)) (av:=(Z8j m)) (X3 rfl) trivial (cn hq32)))::(hP0 29::(Xm (hN · false (dT hq34)) [31,32,33,34] (hP 35 (dT hq34)::[]))))))))))))) ?_
    refine cT (b:=true) rfl ?_
    refine sR [] ?_
    refine T.ret (rT ?_)
    exact eRt 2 (Z8e) [] pu trivial
   refine sR (Xm (hN · true (cn hq30)) [4,5,6] (hP 7 (cn hq30)::(Xm hY0 [9,10,11,12] (Xm (hN · true (cn hq31)) [13,14,15,16] (hS 17 (oY (b:=false) rfl rfl rfl rfl (X3 rfl) rfl (Wi (b:=(!(Xj m.X2).Xa)) (av:=vB false) (X3 rfl) ⟨rfl,trivial⟩ (cn hq31)))::(hP0 18::(Xm hY0 [20,21,22,23] (Xm (hY · (cn hq32)) [24,25,26] (hS 27 (oY rfl rfl rfl rfl (X3 rfl) (cn hq32) (Ip (ax:=(Z8h m)) (ay:=Z8i) (a:=m.X1) (b:=(Y6.mk 0 0)) I7 ⟨[.int .i64 m.X1.Xw,.int .i64 m.X1.Xn],rfl,rfl⟩ ⟨[.int .i64 0,.int .i64 0],rfl,rfl⟩ (X3 rfl) F2))::(hS 28 (oY (b:=false) rfl rfl rfl rfl (X3 rfl) rfl (Wc (b:=(!(Xj m.X2).X1)) (av:=(Z8j m)) (X3 rfl) trivial (cn hq32)))::(hP0 29::(hY 31 (dF hq34)::(hY 32 (dF hq34)::(hS 33 (oY rfl rfl rfl rfl (X3 rfl) (dF hq34) (rCa (Wx tm m (aH.mk (Xj m.X2).Y1 (Xj m.X2).Xo (Xj m.X2).Xi (Xj m.X2).X8 (Xj m.X2).Xa (Xj m.X2).X1 (Xj m.X2).Xp (Xj m.X2).Y5 (Xj m.X2).X5) ‹_› ‹_› ‹_›) Tryz.func121 [] [(.tmp 95,(Z8b tm m)),(.tmp 96,(Z8f m))] 0 0))::(hY 34 (dF hq34)::(hP 35 (dF hq34)::[])))))))))))))))) ?_
   by_cases hq35:Eo m (aH.mk (Xj m.X2).Y1 (Xj m.X2).Xo (Xj m.X2).Xi (Xj m.X2).X8 (Xj m.X2).Xa (Xj m.X2).X1 (Xj m.X2).Xp (Xj m.X2).Y5 (Xj m.X2).X5)
   ·refine cF (cn (dT hq35)) ?_
    refine T.skip (nT ?_)
    refine sR [] ?_
    refine T.ret ?_
    exact eRt 2 (Z8g) [] (cI (by exact if_pos ((Wz m).2 ⟨‹_›,‹_›,‹_›,‹_›,‹_›,(fun h8=>by exact absurd h8.1 ‹_›),(fun h8=>by exact absurd ‹_› h8.1),(fun h8=>by exact absurd ‹_› h8.1),(fun h8=>by exact absurd h8.2 ‹_›),‹_›⟩))) trivial
   refine cT (cn (dF hq35)) ?_
   refine sR [] ?_
   refine T.ret (rT ?_)
   exact eRt 2 (Z8e) [] pg trivial
  replace hq31:=Bool.eq_false_iff.2 hq31
  by_cases hq36:((m.Xa.length:Nat):Int)>0
  ·refine sR (Xm (hN · true (cn hq30)) [4,5,6] (hP 7 (cn hq30)::(Xm hY0 [9,10,11,12] (Xm (hY · (cn hq31)) [13,14,15,16] (hS 17 (oY (b:=false) rfl rfl rfl rfl (X3 rfl) rfl (Wc (b:=(!(Xj m.X2).Xa)) (av:=(Z8k m)) (X3 rfl) trivial (cn hq31)))::(hP0 18::(Xm (hN · false (dT hq36)) [20,21,22,23] (hU 24::(hU 25::(hU 26::(hU 27::(hN 28 false (dT hq36)::(hP 29 (dT hq36)::(Xm hN0 [31,32,33,34] (hP1 35::[]))))))))))))))) ?_
   refine cT (b:=true) rfl ?_
   refine sR [] ?_
   refine T.ret (rT ?_)
   exact eRt 2 (Z8e) [] p1j trivial
  by_cases hq37:(Xj m.X2).X1=true
  ·refine sR (Xm (hN · true (cn hq30)) [4,5,6] (hP 7 (cn hq30)::(Xm hY0 [9,10,11,12] (Xm (hY · (cn hq31)) [13,14,15,16] (hS 17 (oY (b:=false) rfl rfl rfl rfl (X3 rfl) rfl (Wc (b:=(!(Xj m.X2).Xa)) (av:=(Z8k m)) (X3 rfl) trivial (cn hq31)))::(hP0 18::(Xm (hY · (dF hq36)) [20,21,22,23] (Xm (hN · true (cn hq37)) [24,25,26,27] (hS 28 (oY rfl rfl rfl rfl (X3 rfl) (dF hq36) (Wi (b:=(!(Xj m.X2).X1)) (av:=vB false) (X3 rfl) ⟨rfl,trivial⟩ (cn hq37)))::(hP 29 (dF hq36)::(hY0 31::(hY0 32::(hS 33 (oY (b:=false) rfl rfl rfl rfl (X3 rfl) rfl (rCa (Wx tm m (aH.mk (Xj m.X2).Y1 (Xj m.X2).Xo (Xj m.X2).Xi (Xj m.X2).X8 (Xj m.X2).Xa (Xj m.X2).X1 (Xj m.X2).Xp (Xj m.X2).Y5 (Xj m.X2).X5) ‹_› ‹_› ‹_›) Tryz.func121 [] [(.tmp 95,(Z8b tm m)),(.tmp 96,(Z8f m))] 0 0))::(hY0 34::(hP0 35::[]))))))))))))))) ?_
   by_cases hq38:Eo m (aH.mk (Xj m.X2).Y1 (Xj m.X2).Xo (Xj m.X2).Xi (Xj m.X2).X8 (Xj m.X2).Xa (Xj m.X2).X1 (Xj m.X2).Xp (Xj m.X2).Y5 (Xj m.X2).X5)
   ·refine cF (cn (dT hq38)) ?_
    refine T.skip (nT ?_)
    refine sR [] ?_
    refine T.ret ?_
    exact eRt 2 (Z8g) [] (cI (by exact if_pos ((Wz m).2 ⟨‹_›,‹_›,‹_›,‹_›,‹_›,(fun h8=>by exact absurd h8.1 ‹_›),(fun h8=>by exact absurd ‹_› h8.1),(fun h8=>by exact absurd h8.2 ‹_›),(fun h8=>by exact absurd ‹_› h8.1),‹_›⟩))) trivial
   refine cT (cn (dF hq38)) ?_
   refine sR [] ?_
   refine T.ret (rT ?_)
   exact eRt 2 (Z8e) [] pg trivial
  replace hq37:=Bool.eq_false_iff.2 hq37
  by_cases hq39:m.X1≠(Y6.mk 0 0)
  ·refine sR (Xm (hN · true (cn hq30)) [4,5,6] (hP 7 (cn hq30)::(Xm hY0 [9,10,11,12] (Xm (hY · (cn hq31)) [13,14,15,16] (hS 17 (oY (b:=false) rfl rfl rfl rfl (X3 rfl) rfl (Wc (b:=(!(Xj m.X2).Xa)) (av:=(Z8k m)) (X3 rfl) trivial (cn hq31)))::(hP0 18::(Xm (hY · (dF hq36)) [20,21,22,23] (Xm (hY · (cn hq37)) [24,25,26] (hS 27 (oY rfl rfl rfl rfl (X3 rfl) (cn hq37) (Ip (ax:=(Z8h m)) (ay:=Z8i) (a:=m.X1) (b:=(Y6.mk 0 0)) I7 ⟨[.int .i64 m.X1.Xw,.int .i64 m.X1.Xn],rfl,rfl⟩ ⟨[.int .i64 0,.int .i64 0],rfl,rfl⟩ (X3 rfl) F2))::(hS 28 (oY rfl rfl rfl rfl (X3 rfl) (dF hq36) (Wc (b:=(!(Xj m.X2).X1)) (av:=(Z8j m)) (X3 rfl) trivial (cn hq37)))::(hP 29 (dF hq36)::(Xm (hN · false (dT hq39)) [31,32,33,34] (hP 35 (dT hq39)::[]))))))))))))) ?_
   refine cT (b:=true) rfl ?_
   refine sR [] ?_
   refine T.ret (rT ?_)
   exact eRt 2 (Z8e) [] pu trivial
  refine sR (Xm (hN · true (cn hq30)) [4,5,6] (hP 7 (cn hq30)::(Xm hY0 [9,10,11,12] (Xm (hY · (cn hq31)) [13,14,15,16] (hS 17 (oY (b:=false) rfl rfl rfl rfl (X3 rfl) rfl (Wc (b:=(!(Xj m.X2).Xa)) (av:=(Z8k m)) (X3 rfl) trivial (cn hq31)))::(hP0 18::(Xm (hY · (dF hq36)) [20,21,22,23] (Xm (hY · (cn hq37)) [24,25,26] (hS 27 (oY rfl rfl rfl rfl (X3 rfl) (cn hq37) (Ip (ax:=(Z8h m)) (ay:=Z8i) (a:=m.X1) (b:=(Y6.mk 0 0)) I7 ⟨[.int .i64 m.X1.Xw,.int .i64 m.X1.Xn],rfl,rfl⟩ ⟨[.int .i64 0,.int .i64 0],rfl,rfl⟩ (X3 rfl) F2))::(hS 28 (oY rfl rfl rfl rfl (X3 rfl) (dF hq36) (Wc (b:=(!(Xj m.X2).X1)) (av:=(Z8j m)) (X3 rfl) trivial (cn hq37)))::(hP 29 (dF hq36)::(hY 31 (dF hq39)::(hY 32 (dF hq39)::(hS 33 (oY rfl rfl rfl rfl (X3 rfl) (dF hq39) (rCa (Wx tm m (aH.mk (Xj m.X2).Y1 (Xj m.X2).Xo (Xj m.X2).Xi (Xj m.X2).X8 (Xj m.X2).Xa (Xj m.X2).X1 (Xj m.X2).Xp (Xj m.X2).Y5 (Xj m.X2).X5) ‹_› ‹_› ‹_›) Tryz.func121 [] [(.tmp 95,(Z8b tm m)),(.tmp 96,(Z8f m))] 0 0))::(hY 34 (dF hq39)::(hP 35 (dF hq39)::[])))))))))))))))) ?_
  by_cases hq40:Eo m (aH.mk (Xj m.X2).Y1 (Xj m.X2).Xo (Xj m.X2).Xi (Xj m.X2).X8 (Xj m.X2).Xa (Xj m.X2).X1 (Xj m.X2).Xp (Xj m.X2).Y5 (Xj m.X2).X5)
  ·refine cF (cn (dT hq40)) ?_
   refine T.skip (nT ?_)
   refine sR [] ?_
   refine T.ret ?_
   exact eRt 2 (Z8g) [] (cI (by exact if_pos ((Wz m).2 ⟨‹_›,‹_›,‹_›,‹_›,‹_›,(fun h8=>by exact absurd h8.1 ‹_›),(fun h8=>by exact absurd ‹_› h8.1),(fun h8=>by exact absurd h8.2 ‹_›),(fun h8=>by exact absurd h8.2 ‹_›),‹_›⟩))) trivial
  refine cT (cn (dF hq40)) ?_
  refine sR [] ?_
  refine T.ret (rT ?_)
  exact eRt 2 (Z8e) [] pg trivial
 replace hq30:=Bool.eq_false_iff.2 hq30
 by_cases hq41:m.X8≠[]
 ·refine sR (Xm (hY · (cn hq30)) [4,5,6] (hP 7 (cn hq30)::(Xm (hN · false (dT hq41)) [9,10,11,12] (hU 13::(hU 14::(hU 15::(hU 16::(hN 17 false (dT hq41)::(hP 18 (dT hq41)::(Xm hN0 [20,21,22,23] (hU 24::(hU 25::(hU 26::(hU 27::(hN0 28::(hP1 29::(Xm hN0 [31,32,33,34] (hP1 35::[])))))))))))))))))) ?_
  refine cT (b:=true) rfl ?_
  refine sR [] ?_
  refine T.ret (rT ?_)
  exact eRt 2 (Z8e) [] p3p trivial
 by_cases hq42:(Xj m.X2).Xa=true
 ·by_cases hq43:(Xj m.X2).X1=true
  ·refine sR (Xm (hY · (cn hq30)) [4,5,6] (hP 7 (cn hq30)::(Xm (hY · (dF hq41)) [9,10,11,12] (Xm (hN · true (cn hq42)) [13,14,15,16] (hS 17 (oY rfl rfl rfl rfl (X3 rfl) (dF hq41) (Wi (b:=(!(Xj m.X2).Xa)) (av:=vB false) (X3 rfl) ⟨rfl,trivial⟩ (cn hq42)))::(hP 18 (dF hq41)::(Xm hY0 [20,21,22,23] (Xm (hN · true (cn hq43)) [24,25,26,27] (hS 28 (oY (b:=false) rfl rfl rfl rfl (X3 rfl) rfl (Wi (b:=(!(Xj m.X2).X1)) (av:=vB false) (X3 rfl) ⟨rfl,trivial⟩ (cn hq43)))::(hP0 29::(hY0 31::(hY0 32::(hS 33 (oY (b:=false) rfl rfl rfl rfl (X3 rfl) rfl (rCa (Wx tm m (aH.mk (Xj m.X2).Y1 (Xj m.X2).Xo (Xj m.X2).Xi (Xj m.X2).X8 (Xj m.X2).Xa (Xj m.X2).X1 (Xj m.X2).Xp (Xj m.X2).Y5 (Xj m.X2).X5) ‹_› ‹_› ‹_›) Tryz.func121 [] [(.tmp 95,(Z8b tm m)),(.tmp 96,(Z8f m))] 0 0))::(hY0 34::(hP0 35::[]))))))))))))))) ?_
   by_cases hq44:Eo m (aH.mk (Xj m.X2).Y1 (Xj m.X2).Xo (Xj m.X2).Xi (Xj m.X2).X8 (Xj m.X2).Xa (Xj m.X2).X1 (Xj m.X2).Xp (Xj m.X2).Y5 (Xj m.X2).X5)
   ·refine cF (cn (dT hq44)) ?_
    refine T.skip (nT ?_)
    refine sR [] ?_
    refine T.ret ?_
    exact eRt 2 (Z8g) [] (cI (by exact if_pos ((Wz m).2 ⟨‹_›,‹_›,‹_›,‹_›,‹_›,(fun h8=>by exact absurd h8.1 ‹_›),(fun h8=>by exact absurd h8.2 ‹_›),(fun h8=>by exact absurd ‹_› h8.1),(fun h8=>by exact absurd ‹_› h8.1),‹_›⟩))) trivial
   refine cT (cn (dF hq44)) ?_
   refine sR [] ?_
   refine T.ret (rT ?_)
   exact eRt 2 (Z8e) [] pg trivial
  replace hq43:=Bool.eq_false_iff.2 hq43
  by_cases hq45:m.X1≠(Y6.mk 0 0)
  ·refine sR (Xm (hY · (cn hq30)) [4,5,6] (hP 7 (cn hq30)::(Xm (hY · (dF hq41)) [9,10,11,12] (Xm (hN · true (cn hq42)) [13,14,15,16] (hS 17 (oY rfl rfl rfl rfl (X3 rfl) (dF hq41) (Wi (b:=(!(Xj m.X2).Xa)) (av:=vB false) (X3 rfl) ⟨rfl,trivial⟩ (cn hq42)))::(hP 18 (dF hq41)::(Xm hY0 [20,21,22,23] (Xm (hY · (cn hq43)) [24,25,26] (hS 27 (oY rfl rfl rfl rfl (X3 rfl) (cn hq43) (Ip (ax:=(Z8h m)) (ay:=Z8i) (a:=m.X1) (b:=(Y6.mk 0 0)) I7 ⟨[.int .i64 m.X1.Xw,.int .i64 m.X1.Xn],rfl,rfl⟩ ⟨[.int .i64 0,.int .i64 0],rfl,rfl⟩ (X3 rfl) F2))::(hS 28 (oY (b:=false) rfl rfl rfl rfl (X3 rfl) rfl (Wc (b:=(!(Xj m.X2).X1)) (av:=(Z8j m)) (X3 rfl) trivial (cn hq43)))::(hP0 29::(Xm (hN · false (dT hq45)) [31,32,33,34] (hP 35 (dT hq45)::[]))))))))))))) ?_
   refine cT (b:=true) rfl ?_
   refine sR [] ?_
   refine T.ret (rT ?_)
   exact eRt 2 (Z8e) [] pu trivial
  refine sR (Xm (hY · (cn hq30)) [4,5,6] (hP 7 (cn hq30)::(Xm (hY · (dF hq41)) [9,10,11,12] (Xm (hN · true (cn hq42)) [13,14,15,16] (hS 17 (oY rfl rfl rfl rfl (X3 rfl) (dF hq41) (Wi (b:=(!(Xj m.X2).Xa)) (av:=vB false) (X3 rfl) ⟨rfl,trivial⟩ (cn hq42)))::(hP 18 (dF hq41)::(Xm hY0 [20,21,22,23] (Xm (hY · (cn hq43)) [24,25,26] (hS 27 (oY rfl rfl rfl rfl (X3 rfl) (cn hq43) (Ip (ax:=(Z8h m)) (ay:=Z8i) (a:=m.X1) (b:=(Y6.mk 0 0)) I7 ⟨[.int .i64 m.X1.Xw,.int .i64 m.X1.Xn],rfl,rfl⟩ ⟨[.int .i64 0,.int .i64 0],rfl,rfl⟩ (X3 rfl) F2))::(hS 28 (oY (b:=false) rfl rfl rfl rfl (X3 rfl) rfl (Wc (b:=(!(Xj m.X2).X1)) (av:=(Z8j m)) (X3 rfl) trivial (cn hq43)))::(hP0 29::(hY 31 (dF hq45)::(hY 32 (dF hq45)::(hS 33 (oY rfl rfl rfl rfl (X3 rfl) (dF hq45) (rCa (Wx tm m (aH.mk (Xj m.X2).Y1 (Xj m.X2).Xo (Xj m.X2).Xi (Xj m.X2).X8 (Xj m.X2).Xa (Xj m.X2).X1 (Xj m.X2).Xp (Xj m.X2).Y5 (Xj m.X2).X5) ‹_› ‹_› ‹_›) Tryz.func121 [] [(.tmp 95,(Z8b tm m)),(.tmp 96,(Z8f m))] 0 0))::(hY 34 (dF hq45)::(hP 35 (dF hq45)::[])))))))))))))))) ?_
  by_cases hq46:Eo m (aH.mk (Xj m.X2).Y1 (Xj m.X2).Xo (Xj m.X2).Xi (Xj m.X2).X8 (Xj m.X2).Xa (Xj m.X2).X1 (Xj m.X2).Xp (Xj m.X2).Y5 (Xj m.X2).X5)
  ·refine cF (cn (dT hq46)) ?_
   refine T.skip (nT ?_)
   refine sR [] ?_
   refine T.ret ?_
   exact eRt 2 (Z8g) [] (cI (by exact if_pos ((Wz m).2 ⟨‹_›,‹_›,‹_›,‹_›,‹_›,(fun h8=>by exact absurd h8.1 ‹_›),(fun h8=>by exact absurd h8.2 ‹_›),(fun h8=>by exact absurd ‹_› h8.1),(fun h8=>by exact absurd h8.2 ‹_›),‹_›⟩))) trivial
  refine cT (cn (dF hq46)) ?_
  refine sR [] ?_
  refine T.ret (rT ?_)
  exact eRt 2 (Z8e) [] pg trivial
 replace hq42:=Bool.eq_false_iff.2 hq42
 by_cases hq47:((m.Xa.length:Nat):Int)>0
 ·refine sR (Xm (hY · (cn hq30)) [4,5,6] (hP 7 (cn hq30)::(Xm (hY · (dF hq41)) [9,10,11,12] (Xm (hY · (cn hq42)) [13,14,15,16] (hS 17 (oY rfl rfl rfl rfl (X3 rfl) (dF hq41) (Wc (b:=(!(Xj m.X2).Xa)) (av:=(Z8k m)) (X3 rfl) trivial (cn hq42)))::(hP 18 (dF hq41)::(Xm (hN · false (dT hq47)) [20,21,22,23] (hU 24::(hU 25::(hU 26::(hU 27::(hN 28 false (dT hq47)::(hP 29 (dT hq47)::(Xm hN0 [31,32,33,34] (hP1 35::[]))))))))))))))) ?_
  refine cT (b:=true) rfl ?_
  refine sR [] ?_
  refine T.ret (rT ?_)
  exact eRt 2 (Z8e) [] p1j trivial
 by_cases hq48:(Xj m.X2).X1=true
 ·refine sR (Xm (hY · (cn hq30)) [4,5,6] (hP 7 (cn hq30)::(Xm (hY · (dF hq41)) [9,10,11,12] (Xm (hY · (cn hq42)) [13,14,15,16] (hS 17 (oY rfl rfl rfl rfl (X3 rfl) (dF hq41) (Wc (b:=(!(Xj m.X2).Xa)) (av:=(Z8k m)) (X3 rfl) trivial (cn hq42)))::(hP 18 (dF hq41)::(Xm (hY · (dF hq47)) [20,21,22,23] (Xm (hN · true (cn hq48)) [24,25,26,27] (hS 28 (oY rfl rfl rfl rfl (X3 rfl) (dF hq47) (Wi (b:=(!(Xj m.X2).X1)) (av:=vB false) (X3 rfl) ⟨rfl,trivial⟩ (cn hq48)))::(hP 29 (dF hq47)::(hY0 31::(hY0 32::(hS 33 (oY (b:=false) rfl rfl rfl rfl (X3 rfl) rfl (rCa (Wx tm m (aH.mk (Xj m.X2).Y1 (Xj m.X2).Xo (Xj m.X2).Xi (Xj m.X2).X8 (Xj m.X2).Xa (Xj m.X2).X1 (Xj m.X2).Xp (Xj m.X2).Y5 (Xj m.X2).X5) ‹_› ‹_› ‹_›) Tryz.func121 [] [(.tmp 95,(Z8b tm m)),(.tmp 96,(Z8f m))] 0 0))::(hY0 34::(hP0 35::[]))))))))))))))) ?_
  by_cases hq49:Eo m (aH.mk (Xj m.X2).Y1 (Xj m.X2).Xo (Xj m.X2).Xi (Xj m.X2).X8 (Xj m.X2).Xa (Xj m.X2).X1 (Xj m.X2).Xp (Xj m.X2).Y5 (Xj m.X2).X5)
  ·refine cF (cn (dT hq49)) ?_
   refine T.skip (nT ?_)
   refine sR [] ?_
   refine T.ret ?_
   exact eRt 2 (Z8g) [] (cI (by exact if_pos ((Wz m).2 ⟨‹_›,‹_›,‹_›,‹_›,‹_›,(fun h8=>by exact absurd h8.1 ‹_›),(fun h8=>by exact absurd h8.2 ‹_›),(fun h8=>by exact absurd h8.2 ‹_›),(fun h8=>by exact absurd ‹_› h8.1),‹_›⟩))) trivial
  refine cT (cn (dF hq49)) ?_
  refine sR [] ?_
  refine T.ret (rT ?_)
  exact eRt 2 (Z8e) [] pg trivial
 replace hq48:=Bool.eq_false_iff.2 hq48
 by_cases hq50:m.X1≠(Y6.mk 0 0)
 ·refine sR (Xm (hY · (cn hq30)) [4,5,6] (hP 7 (cn hq30)::(Xm (hY · (dF hq41)) [9,10,11,12] (Xm (hY · (cn hq42)) [13,14,15,16] (hS 17 (oY rfl rfl rfl rfl (X3 rfl) (dF hq41) (Wc (b:=(!(Xj m.X2).Xa)) (av:=(Z8k m)) (X3 rfl) trivial (cn hq42)))::(hP 18 (dF hq41)::(Xm (hY · (dF hq47)) [20,21,22,23] (Xm (hY · (cn hq48)) [24,25,26] (hS 27 (oY rfl rfl rfl rfl (X3 rfl) (cn hq48) (Ip (ax:=(Z8h m)) (ay:=Z8i) (a:=m.X1) (b:=(Y6.mk 0 0)) I7 ⟨[.int .i64 m.X1.Xw,.int .i64 m.X1.Xn],rfl,rfl⟩ ⟨[.int .i64 0,.int .i64 0],rfl,rfl⟩ (X3 rfl) F2))::(hS 28 (oY rfl rfl rfl rfl (X3 rfl) (dF hq47) (Wc (b:=(!(Xj m.X2).X1)) (av:=(Z8j m)) (X3 rfl) trivial (cn hq48)))::(hP 29 (dF hq47)::(Xm (hN · false (dT hq50)) [31,32,33,34] (hP 35 (dT hq50)::[]))))))))))))) ?_
  refine cT (b:=true) rfl ?_
  refine sR [] ?_
  refine T.ret (rT ?_)
  exact eRt 2 (Z8e) [] pu trivial
 refine sR (Xm (hY · (cn hq30)) [4,5,6] (hP 7 (cn hq30)::(Xm (hY · (dF hq41)) [9,10,11,12] (Xm (hY · (cn hq42)) [13,14,15,16] (hS 17 (oY rfl rfl rfl rfl (X3 rfl) (dF hq41) (Wc (b:=(!(Xj m.X2).Xa)) (av:=(Z8k m)) (X3 rfl) trivial (cn hq42)))::(hP 18 (dF hq41)::(Xm (hY · (dF hq47)) [20,21,22,23] (Xm (hY · (cn hq48)) [24,25,26] (hS 27 (oY rfl rfl rfl rfl (X3 rfl) (cn hq48) (Ip (ax:=(Z8h m)) (ay:=Z8i) (a:=m.X1) (b:=(Y6.mk 0 0)) I7 ⟨[.int .i64 m.X1.Xw,.int .i64 m.X1.Xn],rfl,rfl⟩ ⟨[.int .i64 0,.int .i64 0],rfl,rfl⟩ (X3 rfl) F2))::(hS 28 (oY rfl rfl rfl rfl (X3 rfl) (dF hq47) (Wc (b:=(!(Xj m.X2).X1)) (av:=(Z8j m)) (X3 rfl) trivial (cn hq48)))::(hP 29 (dF hq47)::(hY 31 (dF hq50)::(hY 32 (dF hq50)::(hS 33 (oY rfl rfl rfl rfl (X3 rfl) (dF hq50) (rCa (Wx tm m (aH.mk (Xj m.X2).Y1 (Xj m.X2).Xo (Xj m.X2).Xi (Xj m.X2).X8 (Xj m.X2).Xa (Xj m.X2).X1 (Xj m.X2).Xp (Xj m.X2).Y5 (Xj m.X2).X5) ‹_› ‹_› ‹_›) Tryz.func121 [] [(.tmp 95,(Z8b tm m)),(.tmp 96,(Z8f m))] 0 0))::(hY 34 (dF hq50)::(hP 35 (dF hq50)::[])))))))))))))))) ?_
 by_cases hq51:Eo m (aH.mk (Xj m.X2).Y1 (Xj m.X2).Xo (Xj m.X2).Xi (Xj m.X2).X8 (Xj m.X2).Xa (Xj m.X2).X1 (Xj m.X2).Xp (Xj m.X2).Y5 (Xj m.X2).X5)
 ·refine cF (cn (dT hq51)) ?_
  refine T.skip (nT ?_)
  refine sR [] ?_
  refine T.ret ?_
  exact eRt 2 (Z8g) [] (cI (by exact if_pos ((Wz m).2 ⟨‹_›,‹_›,‹_›,‹_›,‹_›,(fun h8=>by exact absurd h8.1 ‹_›),(fun h8=>by exact absurd h8.2 ‹_›),(fun h8=>by exact absurd h8.2 ‹_›),(fun h8=>by exact absurd h8.2 ‹_›),‹_›⟩))) trivial
 refine cT (cn (dF hq51)) ?_
 refine sR [] ?_
 refine T.ret (rT ?_)
 exact eRt 2 (Z8e) [] pg trivial
end Go.Proofs.YtnaopgohccacmaaGreat.Q
