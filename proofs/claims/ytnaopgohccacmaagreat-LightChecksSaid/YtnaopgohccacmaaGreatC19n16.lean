import Derived.Test.YtnaopgohccacmaaGreatC19n15
namespace Go.Proofs.YtnaopgohccacmaaGreat.Q
open Go Go.RowKit
set_option linter.unusedVariables false
set_option linter.unusedSimpArgs false
set_option maxRecDepth 100000
set_option maxHeartbeats 4000000
theorem I7:SEq Tryz.prog 46 (fun x:Y6=>.agg #[.int .i64 x.Xw,.int .i64 x.Xn]):=seq_of (g:=fun x:Y6=>#[.int .i64 x.Xw,.int .i64 x.Xn]) (bs':=fun a b=>[decide (a.Xw=b.Xw),decide (a.Xn=b.Xn)]) Tryz.underlying46 pZ7 pZ7 (fun a b=>⟨by decide,⟨_,_,rfl,rfl,.int Tryz.underlying44⟩,⟨by decide,⟨_,_,rfl,rfl,.int Tryz.underlying3⟩,trivial⟩⟩) (fun a b=>by rw [Bool.eq_iff_iff];simp [Xa7])
section
variable (tm:Bool) (m:aM)
abbrev Z76:AV:=.tv (.agg [dI (Yk m.X2).Vx,dI (Yk m.X2).Wt,dI (Yk m.X2).V7,dI (Yk m.X2).Vp])
abbrev Z77:AV:=vI (Yk m.X2).Wt
abbrev Z78:AV:=vI 1099511627776
abbrev Z79:AV:=vI (Yk m.X2).V7
abbrev Z7a:AV:=vI ((m.Xp.length:Nat):Int)
abbrev Z7b:AV:=vI (Yk m.X2).Vp
abbrev Z7c:AV:=vI ((m.X8.length:Nat):Int)
abbrev Z7d:AV:=vI ((m.Xa.length:Nat):Int)
abbrev Z7e:AV:=slV tm false (kC tm) m.X5
abbrev Z7f:AV:=dv (.func (.func 202) #[] #[])
abbrev Z7g:TV:=.one (dI 120)
abbrev Z7h:TV:=.one (dI 0)
abbrev Z7i:AV:=vB (decide (((m.X5.length:Nat):Int)=1))
end
theorem Xjf (tm:Bool) (m:aM) (hq:m.Xp.length≤9223372036854775807) (hr:m.Y5.length≤9223372036854775807) (hc:m.X5.length≤9223372036854775807) (hd:m.Xa.length≤9223372036854775807) (hg:m.X8.length≤9223372036854775807):Holds Tryz.prog 198 ⟨[.tv (.agg [dI m.X2,dI m.Y1,dI m.Xo,dI m.Xi,dI m.Yj,dS m.X8,.d (dsl tm false kU8 m.Xa),dI m.X1.Xw,dI m.X1.Xn,.d (dsl tm false (kE tm) m.Xp),.d (dsl tm false (kE tm) m.Y5),.d (dsl tm false (kC tm) m.X5)])],[],vI (X7f m),[]⟩:=by
 refine Holds.of Tryz.func198 rfl (N:=129) Tryz.ntmps198 rfl fun w0 B0 S0 U0=>?_
 show T _ (Y2 129 0 w0 S0 U0 B0) ⟨[.tv (.agg [dI m.X2,dI m.Y1,dI m.Xo,dI m.Xi,dI m.Yj,dS m.X8,.d (dsl tm false kU8 m.Xa),dI m.X1.Xw,dI m.X1.Xn,.d (dsl tm false (kE tm) m.Xp),.d (dsl tm false (kE tm) m.Y5),.d (dsl tm false (kC tm) m.X5)])],[]⟩ _ _
 refine sR [] ?_
 refine sR [hR 2 rfl rfl (rCa (X70 m.X2 ) Tryz.func195 [] [(.tmp 7,vI m.X2)] 0 0)] ?_
 by_cases hq1:okK m.X2
 rotate_left
 ·refine sR (Xm (hN · true (dF hq1)) [2,3,4,5,6,7] (hP 8 (dF hq1)::(Xm hN1 [10,11,12,13,14,15] (hP0 16::(Xm hN1 [18,19,20,21] (hP0 22::(Xm hN1 [24,25,26,27] (hP0 28::[])))))))) ?_
  refine sR (Xm hN1 [2,3,4,5,6,7,8] (hP0 9::(Xm hN1 [11,12,13,14,15] (hP0 16::(Xm hN1 [18,19,20,21,22] (hP0 23::[])))))) ?_
  refine sR (Xm hN1 [2,3,4,5,6,7,8,9] (hP0 10::(Xm hN1 [12,13,14,15,16,17,18,19] (hP0 20::(Xm hN1 [22,23,24,25,26] (hU 27::(hU 28::(hU 29::(hU 30::(hN1 31::(hP0 32::[]))))))))))) ?_
  refine sR (Xm hN1 [2,3,4,5] (hU 6::(hU 7::(hU 8::(hU 9::(hN1 10::(hP0 11::[]))))))) ?_
  refine sR (Xm hN1 [2,3,4,5] (hU 6::(hU 7::(hU 8::(hU 9::(hN1 10::(hP0 11::(Xm hN1 [13,14,15,16] (hP0 17::[]))))))))) ?_
  refine T.seq ?_
  refine sR [] ?_
  refine cT (b:=(!false)) rfl ?_
  refine sR [] ?_
  refine T.ret (rT ?_)
  exact eRt 2 (Z7g) [] (cI (by exact if_neg (fun h9=>by exact absurd h9.1 ‹_›))) trivial
 by_cases hq2:inM (Yk m.X2) 1 m.Y1 (Yk m.X2).Wt 1099511627776
 rotate_left
 ·refine sR (Xm (hY · (dT hq1)) [2,3,4,5,6] (hS 7 (oY rfl rfl rfl rfl (X3 rfl) (dT hq1) (rCa (Ut (Yk m.X2) 1 m.Y1 (Yk m.X2).Wt 1099511627776 ) Tryz.func200 [] [(.tmp 13,(Z76 m)),(.const (.int .i64 1),vI 1),(.tmp 15,vI m.Y1),(.tmp 17,(Z77 m)),(.const (.int .i64 1099511627776),Z78)] 0 0))::(hP 8 (dT hq1)::(Xm (hN · true (dF hq2)) [10,11,12,13,14,15] (hP 16 (dF hq2)::(Xm hN1 [18,19,20,21] (hP0 22::(Xm hN1 [24,25,26,27] (hP0 28::[]))))))))) ?_
  refine sR (Xm hN1 [2,3,4,5,6,7,8] (hP0 9::(Xm hN1 [11,12,13,14,15] (hP0 16::(Xm hN1 [18,19,20,21,22] (hP0 23::[])))))) ?_
  refine sR (Xm hN1 [2,3,4,5,6,7,8,9] (hP0 10::(Xm hN1 [12,13,14,15,16,17,18,19] (hP0 20::(Xm hN1 [22,23,24,25,26] (hU 27::(hU 28::(hU 29::(hU 30::(hN1 31::(hP0 32::[]))))))))))) ?_
  refine sR (Xm hN1 [2,3,4,5] (hU 6::(hU 7::(hU 8::(hU 9::(hN1 10::(hP0 11::[]))))))) ?_
  refine sR (Xm hN1 [2,3,4,5] (hU 6::(hU 7::(hU 8::(hU 9::(hN1 10::(hP0 11::(Xm hN1 [13,14,15,16] (hP0 17::[]))))))))) ?_
  refine T.seq ?_
  refine sR [] ?_
  refine cT (b:=(!false)) rfl ?_
  refine sR [] ?_
  refine T.ret (rT ?_)
  exact eRt 2 (Z7g) [] (cI (by exact if_neg (fun h9=>by exact absurd h9.2.1 ‹_›))) trivial
 by_cases hq3:inM (Yk m.X2) 2 m.Xo (Yk m.X2).V7 1099511627776
 rotate_left
 ·refine sR (Xm (hY · (dT hq1)) [2,3,4,5,6] (hS 7 (oY rfl rfl rfl rfl (X3 rfl) (dT hq1) (rCa (Ut (Yk m.X2) 1 m.Y1 (Yk m.X2).Wt 1099511627776 ) Tryz.func200 [] [(.tmp 13,(Z76 m)),(.const (.int .i64 1),vI 1),(.tmp 15,vI m.Y1),(.tmp 17,(Z77 m)),(.const (.int .i64 1099511627776),Z78)] 0 0))::(hP 8 (dT hq1)::(Xm (hY · (dT hq2)) [10,11,12,13,14] (hS 15 (oY rfl rfl rfl rfl (X3 rfl) (dT hq2) (rCa (Ut (Yk m.X2) 2 m.Xo (Yk m.X2).V7 1099511627776 ) Tryz.func200 [] [(.tmp 21,(Z76 m)),(.const (.int .i64 2),vI 2),(.tmp 23,vI m.Xo),(.tmp 25,(Z79 m)),(.const (.int .i64 1099511627776),Z78)] 0 0))::(hP 16 (dT hq2)::(Xm (hN · true (dF hq3)) [18,19,20,21] (hP 22 (dF hq3)::(Xm hN1 [24,25,26,27] (hP0 28::[])))))))))) ?_
  refine sR (Xm hN1 [2,3,4,5,6,7,8] (hP0 9::(Xm hN1 [11,12,13,14,15] (hP0 16::(Xm hN1 [18,19,20,21,22] (hP0 23::[])))))) ?_
  refine sR (Xm hN1 [2,3,4,5,6,7,8,9] (hP0 10::(Xm hN1 [12,13,14,15,16,17,18,19] (hP0 20::(Xm hN1 [22,23,24,25,26] (hU 27::(hU 28::(hU 29::(hU 30::(hN1 31::(hP0 32::[]))))))))))) ?_
  refine sR (Xm hN1 [2,3,4,5] (hU 6::(hU 7::(hU 8::(hU 9::(hN1 10::(hP0 11::[]))))))) ?_
  refine sR (Xm hN1 [2,3,4,5] (hU 6::(hU 7::(hU 8::(hU 9::(hN1 10::(hP0 11::(Xm hN1 [13,14,15,16] (hP0 17::[]))))))))) ?_
  refine T.seq ?_
  refine sR [] ?_
  refine cT (b:=(!false)) rfl ?_
  refine sR [] ?_
  refine T.ret (rT ?_)
  exact eRt 2 (Z7g) [] (cI (by exact if_neg (fun h9=>by exact absurd h9.2.2.1 ‹_›))) trivial
 by_cases hq4:inM (Yk m.X2) 4 m.Xi 0 1099511627776
 rotate_left
 ·refine sR (Xm (hY · (dT hq1)) [2,3,4,5,6] (hS 7 (oY rfl rfl rfl rfl (X3 rfl) (dT hq1) (rCa (Ut (Yk m.X2) 1 m.Y1 (Yk m.X2).Wt 1099511627776 ) Tryz.func200 [] [(.tmp 13,(Z76 m)),(.const (.int .i64 1),vI 1),(.tmp 15,vI m.Y1),(.tmp 17,(Z77 m)),(.const (.int .i64 1099511627776),Z78)] 0 0))::(hP 8 (dT hq1)::(Xm (hY · (dT hq2)) [10,11,12,13,14] (hS 15 (oY rfl rfl rfl rfl (X3 rfl) (dT hq2) (rCa (Ut (Yk m.X2) 2 m.Xo (Yk m.X2).V7 1099511627776 ) Tryz.func200 [] [(.tmp 21,(Z76 m)),(.const (.int .i64 2),vI 2),(.tmp 23,vI m.Xo),(.tmp 25,(Z79 m)),(.const (.int .i64 1099511627776),Z78)] 0 0))::(hP 16 (dT hq2)::(Xm (hY · (dT hq3)) [18,19,20] (hS 21 (oY rfl rfl rfl rfl (X3 rfl) (dT hq3) (rCa (Ut (Yk m.X2) 4 m.Xi 0 1099511627776 ) Tryz.func200 [] [(.tmp 29,(Z76 m)),(.const (.int .i64 4),vI 4),(.tmp 31,vI m.Xi),(.const (.int .i64 0),vI 0),(.const (.int .i64 1099511627776),Z78)] 0 0))::(hP 22 (dT hq3)::(Xm (hN · true (dF hq4)) [24,25,26,27] (hP 28 (dF hq4)::[]))))))))))) ?_
  refine sR (Xm hN1 [2,3,4,5,6,7,8] (hP0 9::(Xm hN1 [11,12,13,14,15] (hP0 16::(Xm hN1 [18,19,20,21,22] (hP0 23::[])))))) ?_
  refine sR (Xm hN1 [2,3,4,5,6,7,8,9] (hP0 10::(Xm hN1 [12,13,14,15,16,17,18,19] (hP0 20::(Xm hN1 [22,23,24,25,26] (hU 27::(hU 28::(hU 29::(hU 30::(hN1 31::(hP0 32::[]))))))))))) ?_
  refine sR (Xm hN1 [2,3,4,5] (hU 6::(hU 7::(hU 8::(hU 9::(hN1 10::(hP0 11::[]))))))) ?_
  refine sR (Xm hN1 [2,3,4,5] (hU 6::(hU 7::(hU 8::(hU 9::(hN1 10::(hP0 11::(Xm hN1 [13,14,15,16] (hP0 17::[]))))))))) ?_
  refine T.seq ?_
  refine sR [] ?_
  refine cT (b:=(!false)) rfl ?_
  refine sR [] ?_
  refine T.ret (rT ?_)
  exact eRt 2 (Z7g) [] (cI (by exact if_neg (fun h9=>by exact absurd h9.2.2.2.1 ‹_›))) trivial
 refine sR (Xm (hY · (dT hq1)) [2,3,4,5,6] (hS 7 (oY rfl rfl rfl rfl (X3 rfl) (dT hq1) (rCa (Ut (Yk m.X2) 1 m.Y1 (Yk m.X2).Wt 1099511627776 ) Tryz.func200 [] [(.tmp 13,(Z76 m)),(.const (.int .i64 1),vI 1),(.tmp 15,vI m.Y1),(.tmp 17,(Z77 m)),(.const (.int .i64 1099511627776),Z78)] 0 0))::(hP 8 (dT hq1)::(Xm (hY · (dT hq2)) [10,11,12,13,14] (hS 15 (oY rfl rfl rfl rfl (X3 rfl) (dT hq2) (rCa (Ut (Yk m.X2) 2 m.Xo (Yk m.X2).V7 1099511627776 ) Tryz.func200 [] [(.tmp 21,(Z76 m)),(.const (.int .i64 2),vI 2),(.tmp 23,vI m.Xo),(.tmp 25,(Z79 m)),(.const (.int .i64 1099511627776),Z78)] 0 0))::(hP 16 (dT hq2)::(Xm (hY · (dT hq3)) [18,19,20] (hS 21 (oY rfl rfl rfl rfl (X3 rfl) (dT hq3) (rCa (Ut (Yk m.X2) 4 m.Xi 0 1099511627776 ) Tryz.func200 [] [(.tmp 29,(Z76 m)),(.const (.int .i64 4),vI 4),(.tmp 31,vI m.Xi),(.const (.int .i64 0),vI 0),(.const (.int .i64 1099511627776),Z78)] 0 0))::(hP 22 (dT hq3)::(Xm (hY · (dT hq4)) [24,25,26] (hS 27 (oY rfl rfl rfl rfl (X3 rfl) (dT hq4) (rCa (Ut (Yk m.X2) 4 m.Yj 1 1099511627776 ) Tryz.func200 [] [(.tmp 35,(Z76 m)),(.const (.int .i64 4),vI 4),(.tmp 37,vI m.Yj),(.const (.int .i64 1),vI 1),(.const (.int .i64 1099511627776),Z78)] 0 0))::(hP 28 (dT hq4)::[])))))))))))) ?_
 by_cases hq5:inM (Yk m.X2) 4 m.Yj 1 1099511627776
 rotate_left
 ·refine sR (Xm (hN · true (dF hq5)) [2,3,4,5,6,7,8] (hP 9 (dF hq5)::(Xm hN1 [11,12,13,14,15] (hP0 16::(Xm hN1 [18,19,20,21,22] (hP0 23::[])))))) ?_
  refine sR (Xm hN1 [2,3,4,5,6,7,8,9] (hP0 10::(Xm hN1 [12,13,14,15,16,17,18,19] (hP0 20::(Xm hN1 [22,23,24,25,26] (hU 27::(hU 28::(hU 29::(hU 30::(hN1 31::(hP0 32::[]))))))))))) ?_
  refine sR (Xm hN1 [2,3,4,5] (hU 6::(hU 7::(hU 8::(hU 9::(hN1 10::(hP0 11::[]))))))) ?_
  refine sR (Xm hN1 [2,3,4,5] (hU 6::(hU 7::(hU 8::(hU 9::(hN1 10::(hP0 11::(Xm hN1 [13,14,15,16] (hP0 17::[]))))))))) ?_
  refine T.seq ?_
  refine sR [] ?_
  refine cT (b:=(!false)) rfl ?_
  refine sR [] ?_
  refine T.ret (rT ?_)
  exact eRt 2 (Z7g) [] (cI (by exact if_neg (fun h9=>by exact absurd h9.2.2.2.2.1 ‹_›))) trivial
 by_cases hq6:inM (Yk m.X2) 64 ((m.Xp.length:Nat):Int) 0 (Yk m.X2).Vp
 rotate_left
 ·refine sR (Xm (hY · (dT hq5)) [2,3,4,5,6,7] (hS 8 (oY rfl rfl rfl rfl (X3 rfl) (dT hq5) (rCa (Ut (Yk m.X2) 64 ((m.Xp.length:Nat):Int) 0 (Yk m.X2).Vp ) Tryz.func200 [] [(.tmp 42,(Z76 m)),(.const (.int .i64 64),vI 64),(.tmp 45,(Z7a m)),(.const (.int .i64 0),vI 0),(.tmp 47,(Z7b m))] 0 0))::(hP 9 (dT hq5)::(Xm (hN · true (dF hq6)) [11,12,13,14,15] (hP 16 (dF hq6)::(Xm hN1 [18,19,20,21,22] (hP0 23::[]))))))) ?_
  refine sR (Xm hN1 [2,3,4,5,6,7,8,9] (hP0 10::(Xm hN1 [12,13,14,15,16,17,18,19] (hP0 20::(Xm hN1 [22,23,24,25,26] (hU 27::(hU 28::(hU 29::(hU 30::(hN1 31::(hP0 32::[]))))))))))) ?_
  refine sR (Xm hN1 [2,3,4,5] (hU 6::(hU 7::(hU 8::(hU 9::(hN1 10::(hP0 11::[]))))))) ?_
  refine sR (Xm hN1 [2,3,4,5] (hU 6::(hU 7::(hU 8::(hU 9::(hN1 10::(hP0 11::(Xm hN1 [13,14,15,16] (hP0 17::[]))))))))) ?_
  refine T.seq ?_
  refine sR [] ?_
  refine cT (b:=(!false)) rfl ?_
  refine sR [] ?_
  refine T.ret (rT ?_)
  exact eRt 2 (Z7g) [] (cI (by exact if_neg (fun h9=>by exact absurd h9.2.2.2.2.2.1 ‹_›))) trivial
 by_cases hq7:inM (Yk m.X2) 128 ((m.Y5.length:Nat):Int) 0 8
 rotate_left
 ·refine sR (Xm (hY · (dT hq5)) [2,3,4,5,6,7] (hS 8 (oY rfl rfl rfl rfl (X3 rfl) (dT hq5) (rCa (Ut (Yk m.X2) 64 ((m.Xp.length:Nat):Int) 0 (Yk m.X2).Vp ) Tryz.func200 [] [(.tmp 42,(Z76 m)),(.const (.int .i64 64),vI 64),(.tmp 45,(Z7a m)),(.const (.int .i64 0),vI 0),(.tmp 47,(Z7b m))] 0 0))::(hP 9 (dT hq5)::(Xm (hY · (dT hq6)) [11,12,13,14] (hS 15 (oY rfl rfl rfl rfl (X3 rfl) (dT hq6) (rCa (Ut (Yk m.X2) 128 ((m.Y5.length:Nat):Int) 0 8 ) Tryz.func200 [] [(.tmp 51,(Z76 m)),(.const (.int .i64 128),vI 128),(.tmp 54,vI ((m.Y5.length:Nat):Int)),(.const (.int .i64 0),vI 0),(.const (.int .i64 8),vI 8)] 0 0))::(hP 16 (dT hq6)::(Xm (hN · true (dF hq7)) [18,19,20,21,22] (hP 23 (dF hq7)::[])))))))) ?_
  refine sR (Xm hN1 [2,3,4,5,6,7,8,9] (hP0 10::(Xm hN1 [12,13,14,15,16,17,18,19] (hP0 20::(Xm hN1 [22,23,24,25,26] (hU 27::(hU 28::(hU 29::(hU 30::(hN1 31::(hP0 32::[]))))))))))) ?_
  refine sR (Xm hN1 [2,3,4,5] (hU 6::(hU 7::(hU 8::(hU 9::(hN1 10::(hP0 11::[]))))))) ?_
  refine sR (Xm hN1 [2,3,4,5] (hU 6::(hU 7::(hU 8::(hU 9::(hN1 10::(hP0 11::(Xm hN1 [13,14,15,16] (hP0 17::[]))))))))) ?_
  refine T.seq ?_
  refine sR [] ?_
  refine cT (b:=(!false)) rfl ?_
  refine sR [] ?_
  refine T.ret (rT ?_)
  exact eRt 2 (Z7g) [] (cI (by exact if_neg (fun h9=>by exact absurd h9.2.2.2.2.2.2.1 ‹_›))) trivial
 refine sR (Xm (hY · (dT hq5)) [2,3,4,5,6,7] (hS 8 (oY rfl rfl rfl rfl (X3 rfl) (dT hq5) (rCa (Ut (Yk m.X2) 64 ((m.Xp.length:Nat):Int) 0 (Yk m.X2).Vp ) Tryz.func200 [] [(.tmp 42,(Z76 m)),(.const (.int .i64 64),vI 64),(.tmp 45,(Z7a m)),(.const (.int .i64 0),vI 0),(.tmp 47,(Z7b m))] 0 0))::(hP 9 (dT hq5)::(Xm (hY · (dT hq6)) [11,12,13,14] (hS 15 (oY rfl rfl rfl rfl (X3 rfl) (dT hq6) (rCa (Ut (Yk m.X2) 128 ((m.Y5.length:Nat):Int) 0 8 ) Tryz.func200 [] [(.tmp 51,(Z76 m)),(.const (.int .i64 128),vI 128),(.tmp 54,vI ((m.Y5.length:Nat):Int)),(.const (.int .i64 0),vI 0),(.const (.int .i64 8),vI 8)] 0 0))::(hP 16 (dT hq6)::(Xm (hY · (dT hq7)) [18,19,20,21] (hS 22 (oY rfl rfl rfl rfl (X3 rfl) (dT hq7) (rCa (Ut (Yk m.X2) 256 ((m.X5.length:Nat):Int) 0 8 ) Tryz.func200 [] [(.tmp 58,(Z76 m)),(.const (.int .i64 256),vI 256),(.tmp 61,vI ((m.X5.length:Nat):Int)),(.const (.int .i64 0),vI 0),(.const (.int .i64 8),vI 8)] 0 0))::(hP 23 (dT hq7)::[]))))))))) ?_
 by_cases hq8:inM (Yk m.X2) 256 ((m.X5.length:Nat):Int) 0 8
 rotate_left
 ·refine sR (Xm (hN · true (dF hq8)) [2,3,4,5,6,7,8,9] (hP 10 (dF hq8)::(Xm hN1 [12,13,14,15,16,17,18,19] (hP0 20::(Xm hN1 [22,23,24,25,26] (hU 27::(hU 28::(hU 29::(hU 30::(hN1 31::(hP0 32::[]))))))))))) ?_
  refine sR (Xm hN1 [2,3,4,5] (hU 6::(hU 7::(hU 8::(hU 9::(hN1 10::(hP0 11::[]))))))) ?_
  refine sR (Xm hN1 [2,3,4,5] (hU 6::(hU 7::(hU 8::(hU 9::(hN1 10::(hP0 11::(Xm hN1 [13,14,15,16] (hP0 17::[]))))))))) ?_
  refine T.seq ?_
  refine sR [] ?_
  refine cT (b:=(!false)) rfl ?_
  refine sR [] ?_
  refine T.ret (rT ?_)
  exact eRt 2 (Z7g) [] (cI (by exact if_neg (fun h9=>by exact absurd h9.2.2.2.2.2.2.2.1 ‹_›))) trivial
 by_cases hq9:inM (Yk m.X2) 8 ((m.X8.length:Nat):Int) 0 ((m.X8.length:Nat):Int)
 rotate_left
 ·refine sR (Xm (hY · (dT hq8)) [2,3,4,5,6,7,8] (hS 9 (oY rfl rfl rfl rfl (X3 rfl) (dT hq8) (rCa (Ut (Yk m.X2) 8 ((m.X8.length:Nat):Int) 0 ((m.X8.length:Nat):Int) ) Tryz.func200 [] [(.tmp 66,(Z76 m)),(.const (.int .i64 8),vI 8),(.tmp 69,(Z7c m)),(.const (.int .i64 0),vI 0),(.tmp 72,(Z7c m))] 0 0))::(hP 10 (dT hq8)::(Xm (hN · true (dF hq9)) [12,13,14,15,16,17,18,19] (hP 20 (dF hq9)::(Xm hN1 [22,23,24,25,26] (hU 27::(hU 28::(hU 29::(hU 30::(hN1 31::(hP0 32::[])))))))))))) ?_
  refine sR (Xm hN1 [2,3,4,5] (hU 6::(hU 7::(hU 8::(hU 9::(hN1 10::(hP0 11::[]))))))) ?_
  refine sR (Xm hN1 [2,3,4,5] (hU 6::(hU 7::(hU 8::(hU 9::(hN1 10::(hP0 11::(Xm hN1 [13,14,15,16] (hP0 17::[]))))))))) ?_
  refine T.seq ?_
  refine sR [] ?_
  refine cT (b:=(!false)) rfl ?_
  refine sR [] ?_
  refine T.ret (rT ?_)
  exact eRt 2 (Z7g) [] (cI (by exact if_neg (fun h9=>by exact absurd h9.2.2.2.2.2.2.2.2.1 ‹_›))) trivial
 by_cases hq10:inM (Yk m.X2) 16 ((m.Xa.length:Nat):Int) 0 ((m.Xa.length:Nat):Int)
 rotate_left
 ·refine sR (Xm (hY · (dT hq8)) [2,3,4,5,6,7,8] (hS 9 (oY rfl rfl rfl rfl (X3 rfl) (dT hq8) (rCa (Ut (Yk m.X2) 8 ((m.X8.length:Nat):Int) 0 ((m.X8.length:Nat):Int) ) Tryz.func200 [] [(.tmp 66,(Z76 m)),(.const (.int .i64 8),vI 8),(.tmp 69,(Z7c m)),(.const (.int .i64 0),vI 0),(.tmp 72,(Z7c m))] 0 0))::(hP 10 (dT hq8)::(Xm (hY · (dT hq9)) [12,13,14,15,16,17,18] (hS 19 (oY rfl rfl rfl rfl (X3 rfl) (dT hq9) (rCa (Ut (Yk m.X2) 16 ((m.Xa.length:Nat):Int) 0 ((m.Xa.length:Nat):Int) ) Tryz.func200 [] [(.tmp 76,(Z76 m)),(.const (.int .i64 16),vI 16),(.tmp 79,(Z7d m)),(.const (.int .i64 0),vI 0),(.tmp 82,(Z7d m))] 0 0))::(hP 20 (dT hq9)::(Xm (hN · true (dF hq10)) [22,23,24,25,26] (hU 27::(hU 28::(hU 29::(hU 30::(hN 31 true (dF hq10)::(hP 32 (dF hq10)::[]))))))))))))) ?_
  refine sR (Xm hN1 [2,3,4,5] (hU 6::(hU 7::(hU 8::(hU 9::(hN1 10::(hP0 11::[]))))))) ?_
  refine sR (Xm hN1 [2,3,4,5] (hU 6::(hU 7::(hU 8::(hU 9::(hN1 10::(hP0 11::(Xm hN1 [13,14,15,16] (hP0 17::[]))))))))) ?_
  refine T.seq ?_
  refine sR [] ?_
  refine cT (b:=(!false)) rfl ?_
  refine sR [] ?_
  refine T.ret (rT ?_)
  exact eRt 2 (Z7g) [] (cI (by exact if_neg (fun h9=>by exact absurd h9.2.2.2.2.2.2.2.2.2.1 ‹_›))) trivial
 by_cases hq11:(I0 (Yk m.X2).Vx 32)≠0
 ·refine sR (Xm (hY · (dT hq8)) [2,3,4,5,6,7,8] (hS 9 (oY rfl rfl rfl rfl (X3 rfl) (dT hq8) (rCa (Ut (Yk m.X2) 8 ((m.X8.length:Nat):Int) 0 ((m.X8.length:Nat):Int) ) Tryz.func200 [] [(.tmp 66,(Z76 m)),(.const (.int .i64 8),vI 8),(.tmp 69,(Z7c m)),(.const (.int .i64 0),vI 0),(.tmp 72,(Z7c m))] 0 0))::(hP 10 (dT hq8)::(Xm (hY · (dT hq9)) [12,13,14,15,16,17,18] (hS 19 (oY rfl rfl rfl rfl (X3 rfl) (dT hq9) (rCa (Ut (Yk m.X2) 16 ((m.Xa.length:Nat):Int) 0 ((m.Xa.length:Nat):Int) ) Tryz.func200 [] [(.tmp 76,(Z76 m)),(.const (.int .i64 16),vI 16),(.tmp 79,(Z7d m)),(.const (.int .i64 0),vI 0),(.tmp 82,(Z7d m))] 0 0))::(hP 20 (dT hq9)::(hY 22 (dT hq10)::(hY 23 (dT hq10)::(hS 24 (oY rfl rfl rfl rfl (X3 rfl) (dT hq10) (Ye (u1:=.int .i64 (Yk m.X2).Vx) (u2:=.int .i64 32) (v:=.int .i64 (I0 (Yk m.X2).Vx 32)) (Xcy rfl) (X3 rfl) ⟨rfl,trivial⟩))::(hY 25 (dT hq10)::(hY 26 (dT hq10)::(Xm (hN · false (dT hq11)) [27,28,29,30] (hS 31 (oY rfl rfl rfl rfl (X3 rfl) (dT hq10) (Wc (b:=(decide ((I0 (Yk m.X2).Vx 32)≠0))) (av:=vB true) (X3 rfl) ⟨rfl,trivial⟩ (dT hq11)))::(hP 32 (dT hq10)::[])))))))))))))) ?_
  by_cases hq12:m.X2≠1
  ·refine sR (Xm hY1 [2,3,4,5] (Xm (hN · false (dT hq12)) [6,7,8,9] (hS 10 (oY (b:=true) rfl rfl rfl rfl (X3 rfl) rfl (Wc (b:=(decide (m.X2≠1))) (av:=vB true) (X3 rfl) ⟨rfl,trivial⟩ (dT hq12)))::(hP1 11::[])))) ?_
   by_cases hq13:m.X2≠10
   ·refine sR (Xm hY1 [2,3,4,5] (Xm (hN · false (dT hq13)) [6,7,8,9] (hS 10 (oY (b:=true) rfl rfl rfl rfl (X3 rfl) rfl (Wc (b:=(decide (m.X2≠10))) (av:=vB true) (X3 rfl) ⟨rfl,trivial⟩ (dT hq13)))::(hP1 11::(hY1 13::(hY1 14::(hS 15 (oY (b:=true) rfl rfl rfl rfl (X3 rfl) rfl (rCa (F0 tm false tm m.X5 ‹_›) Tryz.func201 [] [(.tmp 123,(Z7e tm m)),(.func 202,Z7f)] 0 0))::(hY1 16::(hP1 17::[]))))))))) ?_
    refine T.seq ?_
    refine sR [] ?_
    by_cases hq14:¬X28 m.X5
    ·refine cT (cn (cn (dT hq14))) ?_
     refine sR [] ?_
     refine T.ret (rT ?_)
     exact eRt 2 (Z7g) [] p1g trivial
    refine cF (cn (cn (dF hq14))) ?_
    refine T.skip (nT ?_)
    refine sR [] ?_
    refine T.ret ?_
    exact eRt 2 (Z7h) [] (cI (by exact if_pos ⟨‹_›,‹_›,‹_›,‹_›,‹_›,‹_›,‹_›,‹_›,‹_›,‹_›,p2y,p2y,p2y,p1v⟩)) trivial
   by_cases hq15:((m.X5.length:Nat):Int)=1
   ·refine sR (Xm hY1 [2,3,4,5] (Xm (hY · (dF hq13)) [6,7,8,9] (hS 10 (oY (b:=true) rfl rfl rfl rfl (X3 rfl) rfl (Wi (b:=(decide (m.X2≠10))) (av:=(Z7i m)) (X3 rfl) trivial (dF hq13)))::(hP1 11::(hY 13 (dT hq15)::(hY 14 (dT hq15)::(hS 15 (oY rfl rfl rfl rfl (X3 rfl) (dT hq15) (rCa (F0 tm false tm m.X5 ‹_›) Tryz.func201 [] [(.tmp 123,(Z7e tm m)),(.func 202,Z7f)] 0 0))::(hY 16 (dT hq15)::(hP 17 (dT hq15)::[]))))))))) ?_
    refine T.seq ?_
    refine sR [] ?_
    by_cases hq16:¬X28 m.X5
    ·refine cT (cn (cn (dT hq16))) ?_
     refine sR [] ?_
     refine T.ret (rT ?_)
     exact eRt 2 (Z7g) [] p1g trivial
    refine cF (cn (cn (dF hq16))) ?_
    refine T.skip (nT ?_)
    refine sR [] ?_
    refine T.ret ?_
    exact eRt 2 (Z7h) [] (cI (by exact if_pos ⟨‹_›,‹_›,‹_›,‹_›,‹_›,‹_›,‹_›,‹_›,‹_›,‹_›,p2y,p2y,p2x,p1v⟩)) trivial
   refine sR (Xm hY1 [2,3,4,5] (Xm (hY · (dF hq13)) [6,7,8,9] (hS 10 (oY (b:=true) rfl rfl rfl rfl (X3 rfl) rfl (Wi (b:=(decide (m.X2≠10))) (av:=(Z7i m)) (X3 rfl) trivial (dF hq13)))::(hP1 11::(Xm (hN · true (dF hq15)) [13,14,15,16] (hP 17 (dF hq15)::[])))))) ?_
   refine T.seq ?_
   refine sR [] ?_
   refine cT (b:=(!false)) rfl ?_
   refine sR [] ?_
   refine T.ret (rT ?_)
   exact eRt 2 (Z7g) [] pZ24 trivial
  refine sR (Xm hY1 [2,3,4,5] (Xm (hY · (dF hq12)) [6,7,8,9] (hS 10 (oY (b:=true) rfl rfl rfl rfl (X3 rfl) rfl (Wi (b:=(decide (m.X2≠1))) (av:=vB (decide (((m.Xa.length:Nat):Int)≤4096))) (X3 rfl) trivial (dF hq12)))::(hP1 11::[])))) ?_
  by_cases hq17:((m.Xa.length:Nat):Int)≤4096
  rotate_left
  ·refine sR (Xm (hN · true (dF hq17)) [2,3,4,5] (hU 6::(hU 7::(hU 8::(hU 9::(hN 10 true (dF hq17)::(hP 11 (dF hq17)::(Xm hN1 [13,14,15,16] (hP0 17::[]))))))))) ?_
   refine T.seq ?_
   refine sR [] ?_
   refine cT (b:=(!false)) rfl ?_
   refine sR [] ?_
   refine T.ret (rT ?_)
   exact eRt 2 (Z7g) [] p4c trivial
  by_cases hq18:m.X2≠10
  ·refine sR (Xm (hY · (dT hq17)) [2,3,4,5] (Xm (hN · false (dT hq18)) [6,7,8,9] (hS 10 (oY rfl rfl rfl rfl (X3 rfl) (dT hq17) (Wc (b:=(decide (m.X2≠10))) (av:=vB true) (X3 rfl) ⟨rfl,trivial⟩ (dT hq18)))::(hP 11 (dT hq17)::(hY1 13::(hY1 14::(hS 15 (oY (b:=true) rfl rfl rfl rfl (X3 rfl) rfl (rCa (F0 tm false tm m.X5 ‹_›) Tryz.func201 [] [(.tmp 123,(Z7e tm m)),(.func 202,Z7f)] 0 0))::(hY1 16::(hP1 17::[]))))))))) ?_
   refine T.seq ?_
   refine sR [] ?_
   by_cases hq19:¬X28 m.X5
   ·refine cT (cn (cn (dT hq19))) ?_
    refine sR [] ?_
    refine T.ret (rT ?_)
    exact eRt 2 (Z7g) [] p1g trivial
   refine cF (cn (cn (dF hq19))) ?_
   refine T.skip (nT ?_)
   refine sR [] ?_
   refine T.ret ?_
   exact eRt 2 (Z7h) [] (cI (by exact if_pos ⟨‹_›,‹_›,‹_›,‹_›,‹_›,‹_›,‹_›,‹_›,‹_›,‹_›,p2y,p2x,p2y,p1v⟩)) trivial
  by_cases hq20:((m.X5.length:Nat):Int)=1
  ·refine sR (Xm (hY · (dT hq17)) [2,3,4,5] (Xm (hY · (dF hq18)) [6,7,8,9] (hS 10 (oY rfl rfl rfl rfl (X3 rfl) (dT hq17) (Wi (b:=(decide (m.X2≠10))) (av:=(Z7i m)) (X3 rfl) trivial (dF hq18)))::(hP 11 (dT hq17)::(hY 13 (dT hq20)::(hY 14 (dT hq20)::(hS 15 (oY rfl rfl rfl rfl (X3 rfl) (dT hq20) (rCa (F0 tm false tm m.X5 ‹_›) Tryz.func201 [] [(.tmp 123,(Z7e tm m)),(.func 202,Z7f)] 0 0))::(hY 16 (dT hq20)::(hP 17 (dT hq20)::[]))))))))) ?_
   refine T.seq ?_
   refine sR [] ?_
   by_cases hq21:¬X28 m.X5
   ·refine cT (cn (cn (dT hq21))) ?_
    refine sR [] ?_
    refine T.ret (rT ?_)
    exact eRt 2 (Z7g) [] p1g trivial
   refine cF (cn (cn (dF hq21))) ?_
   refine T.skip (nT ?_)
   refine sR [] ?_
   refine T.ret ?_
   exact eRt 2 (Z7h) [] (cI (by exact if_pos ⟨‹_›,‹_›,‹_›,‹_›,‹_›,‹_›,‹_›,‹_›,‹_›,‹_›,p2y,p2x,p2x,p1v⟩)) trivial
  refine sR (Xm (hY · (dT hq17)) [2,3,4,5] (Xm (hY · (dF hq18)) [6,7,8,9] (hS 10 (oY rfl rfl rfl rfl (X3 rfl) (dT hq17) (Wi (b:=(decide (m.X2≠10))) (av:=(Z7i m)) (X3 rfl) trivial (dF hq18)))::(hP 11 (dT hq17)::(Xm (hN · true (dF hq20)) [13,14,15,16] (hP 17 (dF hq20)::[])))))) ?_
  refine T.seq ?_
  refine sR [] ?_
  refine cT (b:=(!false)) rfl ?_
  refine sR [] ?_
  refine T.ret (rT ?_)
  exact eRt 2 (Z7g) [] pZ24 trivial
 refine sR (Xm (hY · (dT hq8)) [2,3,4,5,6,7,8] (hS 9 (oY rfl rfl rfl rfl (X3 rfl) (dT hq8) (rCa (Ut (Yk m.X2) 8 ((m.X8.length:Nat):Int) 0 ((m.X8.length:Nat):Int) ) Tryz.func200 [] [(.tmp 66,(Z76 m)),(.const (.int .i64 8),vI 8),(.tmp 69,(Z7c m)),(.const (.int .i64 0),vI 0),(.tmp 72,(Z7c m))] 0 0))::(hP 10 (dT hq8)::(Xm (hY · (dT hq9)) [12,13,14,15,16,17,18] (hS 19 (oY rfl rfl rfl rfl (X3 rfl) (dT hq9) (rCa (Ut (Yk m.X2) 16 ((m.Xa.length:Nat):Int) 0 ((m.Xa.length:Nat):Int) ) Tryz.func200 [] [(.tmp 76,(Z76 m)),(.const (.int .i64 16),vI 16),(.tmp 79,(Z7d m)),(.const (.int .i64 0),vI 0),(.tmp 82,(Z7d m))] 0 0))::(hP 20 (dT hq9)::(hY 22 (dT hq10)::(hY 23 (dT hq10)::(hS 24 (oY rfl rfl rfl rfl (X3 rfl) (dT hq10) (Ye (u1:=.int .i64 (Yk m.X2).Vx) (u2:=.int .i64 32) (v:=.int .i64 (I0 (Yk m.X2).Vx 32)) (Xcy rfl) (X3 rfl) ⟨rfl,trivial⟩))::(hY 25 (dT hq10)::(hY 26 (dT hq10)::(Xm (hY · (dF hq11)) [27,28,29] (hS 30 (oY rfl rfl rfl rfl (X3 rfl) (dF hq11) (r_eqSt (ax:=.tv (.agg [dI m.X1.Xw,dI m.X1.Xn])) (ay:=.tv (.agg [dI 0,dI 0])) (a:=m.X1) (b:=(Y6.mk 0 0)) I7 ⟨[.int .i64 m.X1.Xw,.int .i64 m.X1.Xn],rfl,rfl⟩ ⟨[.int .i64 0,.int .i64 0],rfl,rfl⟩ (X3 rfl) F2))::(hS 31 (oY rfl rfl rfl rfl (X3 rfl) (dT hq10) (Wi (b:=(decide ((I0 (Yk m.X2).Vx 32)≠0))) (av:=vB (decide (m.X1=(Y6.mk 0 0)))) (X3 rfl) trivial (dF hq11)))::(hP 32 (dT hq10)::[]))))))))))))))) ?_
 by_cases hq22:m.X1=(Y6.mk 0 0)
 rotate_left
 ·refine sR (Xm (hN · true (dF hq22)) [2,3,4,5] (hU 6::(hU 7::(hU 8::(hU 9::(hN 10 true (dF hq22)::(hP 11 (dF hq22)::[]))))))) ?_
  refine sR (Xm hN1 [2,3,4,5] (hU 6::(hU 7::(hU 8::(hU 9::(hN1 10::(hP0 11::(Xm hN1 [13,14,15,16] (hP0 17::[]))))))))) ?_
  refine T.seq ?_
  refine sR [] ?_
  refine cT (b:=(!false)) rfl ?_
  refine sR [] ?_
  refine T.ret (rT ?_)
  exact eRt 2 (Z7g) [] (cI (by exact if_neg (fun h9=>by (rcases h9.2.2.2.2.2.2.2.2.2.2.1 with h8|h8<;>exact absurd h8 ‹_›)))) trivial
 by_cases hq23:m.X2≠1
 ·refine sR (Xm (hY · (dT hq22)) [2,3,4,5] (Xm (hN · false (dT hq23)) [6,7,8,9] (hS 10 (oY rfl rfl rfl rfl (X3 rfl) (dT hq22) (Wc (b:=(decide (m.X2≠1))) (av:=vB true) (X3 rfl) ⟨rfl,trivial⟩ (dT hq23)))::(hP 11 (dT hq22)::[])))) ?_
  by_cases hq24:m.X2≠10
  ·refine sR (Xm hY1 [2,3,4,5] (Xm (hN · false (dT hq24)) [6,7,8,9] (hS 10 (oY (b:=true) rfl rfl rfl rfl (X3 rfl) rfl (Wc (b:=(decide (m.X2≠10))) (av:=vB true) (X3 rfl) ⟨rfl,trivial⟩ (dT hq24)))::(hP1 11::(hY1 13::(hY1 14::(hS 15 (oY (b:=true) rfl rfl rfl rfl (X3 rfl) rfl (rCa (F0 tm false tm m.X5 ‹_›) Tryz.func201 [] [(.tmp 123,(Z7e tm m)),(.func 202,Z7f)] 0 0))::(hY1 16::(hP1 17::[]))))))))) ?_
   refine T.seq ?_
   refine sR [] ?_
   by_cases hq25:¬X28 m.X5
   ·refine cT (cn (cn (dT hq25))) ?_
    refine sR [] ?_
    refine T.ret (rT ?_)
    exact eRt 2 (Z7g) [] p1g trivial
   refine cF (cn (cn (dF hq25))) ?_
   refine T.skip (nT ?_)
   refine sR [] ?_
   refine T.ret ?_
   exact eRt 2 (Z7h) [] (cI (by exact if_pos ⟨‹_›,‹_›,‹_›,‹_›,‹_›,‹_›,‹_›,‹_›,‹_›,‹_›,p2x,p2y,p2y,p1v⟩)) trivial
  by_cases hq26:((m.X5.length:Nat):Int)=1
  ·refine sR (Xm hY1 [2,3,4,5] (Xm (hY · (dF hq24)) [6,7,8,9] (hS 10 (oY (b:=true) rfl rfl rfl rfl (X3 rfl) rfl (Wi (b:=(decide (m.X2≠10))) (av:=(Z7i m)) (X3 rfl) trivial (dF hq24)))::(hP1 11::(hY 13 (dT hq26)::(hY 14 (dT hq26)::(hS 15 (oY rfl rfl rfl rfl (X3 rfl) (dT hq26) (rCa (F0 tm false tm m.X5 ‹_›) Tryz.func201 [] [(.tmp 123,(Z7e tm m)),(.func 202,Z7f)] 0 0))::(hY 16 (dT hq26)::(hP 17 (dT hq26)::[]))))))))) ?_
   refine T.seq ?_
   refine sR [] ?_
   by_cases hq27:¬X28 m.X5
   ·refine cT (cn (cn (dT hq27))) ?_
    refine sR [] ?_
    refine T.ret (rT ?_)
    exact eRt 2 (Z7g) [] p1g trivial
   refine cF (cn (cn (dF hq27))) ?_
   refine T.skip (nT ?_)
   refine sR [] ?_
   refine T.ret ?_
   exact eRt 2 (Z7h) [] (cI (by exact if_pos ⟨‹_›,‹_›,‹_›,‹_›,‹_›,‹_›,‹_›,‹_›,‹_›,‹_›,p2x,p2y,p2x,p1v⟩)) trivial
  refine sR (Xm hY1 [2,3,4,5] (Xm (hY · (dF hq24)) [6,7,8,9] (hS 10 (oY (b:=true) rfl rfl rfl rfl (X3 rfl) rfl (Wi (b:=(decide (m.X2≠10))) (av:=(Z7i m)) (X3 rfl) trivial (dF hq24)))::(hP1 11::(Xm (hN · true (dF hq26)) [13,14,15,16] (hP 17 (dF hq26)::[])))))) ?_
  refine T.seq ?_
  refine sR [] ?_
  refine cT (b:=(!false)) rfl ?_
  refine sR [] ?_
  refine T.ret (rT ?_)
  exact eRt 2 (Z7g) [] pZ24 trivial
 refine sR (Xm (hY · (dT hq22)) [2,3,4,5] (Xm (hY · (dF hq23)) [6,7,8,9] (hS 10 (oY rfl rfl rfl rfl (X3 rfl) (dT hq22) (Wi (b:=(decide (m.X2≠1))) (av:=vB (decide (((m.Xa.length:Nat):Int)≤4096))) (X3 rfl) trivial (dF hq23)))::(hP 11 (dT hq22)::[])))) ?_
 by_cases hq28:((m.Xa.length:Nat):Int)≤4096
 rotate_left
 ·refine sR (Xm (hN · true (dF hq28)) [2,3,4,5] (hU 6::(hU 7::(hU 8::(hU 9::(hN 10 true (dF hq28)::(hP 11 (dF hq28)::(Xm hN1 [13,14,15,16] (hP0 17::[]))))))))) ?_
  refine T.seq ?_
  refine sR [] ?_
  refine cT (b:=(!false)) rfl ?_
  refine sR [] ?_
  refine T.ret (rT ?_)
  exact eRt 2 (Z7g) [] p4c trivial
 by_cases hq29:m.X2≠10
 ·refine sR (Xm (hY · (dT hq28)) [2,3,4,5] (Xm (hN · false (dT hq29)) [6,7,8,9] (hS 10 (oY rfl rfl rfl rfl (X3 rfl) (dT hq28) (Wc (b:=(decide (m.X2≠10))) (av:=vB true) (X3 rfl) ⟨rfl,trivial⟩ (dT hq29)))::(hP 11 (dT hq28)::(hY1 13::(hY1 14::(hS 15 (oY (b:=true) rfl rfl rfl rfl (X3 rfl) rfl (rCa (F0 tm false tm m.X5 ‹_›) Tryz.func201 [] [(.tmp 123,(Z7e tm m)),(.func 202,Z7f)] 0 0))::(hY1 16::(hP1 17::[]))))))))) ?_
  refine T.seq ?_
  refine sR [] ?_
  by_cases hq30:¬X28 m.X5
  ·refine cT (cn (cn (dT hq30))) ?_
   refine sR [] ?_
   refine T.ret (rT ?_)
   exact eRt 2 (Z7g) [] p1g trivial
  refine cF (cn (cn (dF hq30))) ?_
  refine T.skip (nT ?_)
  refine sR [] ?_
  refine T.ret ?_
  exact eRt 2 (Z7h) [] (cI (by exact if_pos ⟨‹_›,‹_›,‹_›,‹_›,‹_›,‹_›,‹_›,‹_›,‹_›,‹_›,p2x,p2x,p2y,p1v⟩)) trivial
 by_cases hq31:((m.X5.length:Nat):Int)=1
 ·refine sR (Xm (hY · (dT hq28)) [2,3,4,5] (Xm (hY · (dF hq29)) [6,7,8,9] (hS 10 (oY rfl rfl rfl rfl (X3 rfl) (dT hq28) (Wi (b:=(decide (m.X2≠10))) (av:=(Z7i m)) (X3 rfl) trivial (dF hq29)))::(hP 11 (dT hq28)::(hY 13 (dT hq31)::(hY 14 (dT hq31)::(hS 15 (oY rfl rfl rfl rfl (X3 rfl) (dT hq31) (rCa (F0 tm false tm m.X5 ‹_›) Tryz.func201 [] [(.tmp 123,(Z7e tm m)),(.func 202,Z7f)] 0 0))::(hY 16 (dT hq31)::(hP 17 (dT hq31)::[]))))))))) ?_
  refine T.seq ?_
  refine sR [] ?_
  by_cases hq32:¬X28 m.X5
  ·refine cT (cn (cn (dT hq32))) ?_
   refine sR [] ?_
   refine T.ret (rT ?_)
   exact eRt 2 (Z7g) [] p1g trivial
  refine cF (cn (cn (dF hq32))) ?_
  refine T.skip (nT ?_)
  refine sR [] ?_
  refine T.ret ?_
  exact eRt 2 (Z7h) [] (cI (by exact if_pos ⟨‹_›,‹_›,‹_›,‹_›,‹_›,‹_›,‹_›,‹_›,‹_›,‹_›,p2x,p2x,p2x,p1v⟩)) trivial
 refine sR (Xm (hY · (dT hq28)) [2,3,4,5] (Xm (hY · (dF hq29)) [6,7,8,9] (hS 10 (oY rfl rfl rfl rfl (X3 rfl) (dT hq28) (Wi (b:=(decide (m.X2≠10))) (av:=(Z7i m)) (X3 rfl) trivial (dF hq29)))::(hP 11 (dT hq28)::(Xm (hN · true (dF hq31)) [13,14,15,16] (hP 17 (dF hq31)::[])))))) ?_
 refine T.seq ?_
 refine sR [] ?_
 refine cT (b:=(!false)) rfl ?_
 refine sR [] ?_
 refine T.ret (rT ?_)
 exact eRt 2 (Z7g) [] pZ24 trivial
end Go.Proofs.YtnaopgohccacmaaGreat.Q
