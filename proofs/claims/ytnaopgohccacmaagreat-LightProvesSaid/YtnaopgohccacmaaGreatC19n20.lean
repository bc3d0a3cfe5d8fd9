import Derived.Test.YtnaopgohccacmaaGreatC19n15
namespace Go.Proofs.YtnaopgohccacmaaGreat.Q
open Go Go.RowKit
set_option linter.unusedVariables false
set_option linter.unusedSimpArgs false
set_option maxRecDepth 100000
set_option maxHeartbeats 4000000
theorem Jx:SEq Tryz.prog 46 (fun x:Y6=>.agg #[.int .i64 x.Xt,.int .i64 x.Xn]):=Xfx (g:=fun x:Y6=>#[.int .i64 x.Xt,.int .i64 x.Xn]) (bs':=fun a b=>[decide (a.Xt=b.Xt),decide (a.Xn=b.Xn)]) Tryz.underlying46 pZ8 pZ8 (fun a b=>⟨by decide,⟨_,_,rfl,rfl,.int Tryz.underlying44⟩,⟨by decide,⟨_,_,rfl,rfl,.int Tryz.underlying3⟩,trivial⟩⟩) (fun a b=>by rw [Bool.eq_iff_iff];simp [X9y])
section
variable (tm:Bool) (m:aM)
abbrev Z76:AV:=.tv (.agg [dI (Yi m.X1).Vy,dI (Yi m.X1).Wt,dI (Yi m.X1).V7,dI (Yi m.X1).Vs])
abbrev Z77:AV:=vI (Yi m.X1).Wt
abbrev Z78:AV:=vI 1099511627776
abbrev Z79:AV:=vI (Yi m.X1).V7
abbrev Z7a:AV:=vI ((m.Xp.length:Nat):Int)
abbrev Z7b:AV:=vI (Yi m.X1).Vs
abbrev Z7c:AV:=vI ((m.X9.length:Nat):Int)
abbrev Z7d:AV:=vI ((m.Xc.length:Nat):Int)
abbrev Z7e:AV:=slV tm false (kC tm) m.X6
abbrev Z7f:AV:=dv (.func (.func 202) #[] #[])
abbrev Z7g:TV:=.one (dI 120)
abbrev Z7h:TV:=.one (dI 0)
abbrev Z7i:AV:=vB (decide (((m.X6.length:Nat):Int)=1))
end
theorem Xk2 (tm:Bool) (m:aM) (hq:m.Xp.length≤9223372036854775807) (hr:m.Y4.length≤9223372036854775807) (hc:m.X6.length≤9223372036854775807) (hd:m.Xc.length≤9223372036854775807) (hg:m.X9.length≤9223372036854775807):Holds Tryz.prog 198 ⟨[.tv (.agg [dI m.X1,dI m.Y1,dI m.Xs,dI m.Xh,dI m.Yh,dS m.X9,.d (dsl tm false kU8 m.Xc),dI m.X0.Xt,dI m.X0.Xn,.d (dsl tm false (kE tm) m.Xp),.d (dsl tm false (kE tm) m.Y4),.d (dsl tm false (kC tm) m.X6)])],[],vI (X75 m),[]⟩:=by
 refine Holds.of Tryz.func198 rfl (N:=129) Tryz.ntmps198 rfl fun w0 B0 S0 U0=>?_
 show T _ (Y2 129 0 w0 S0 U0 B0) ⟨[.tv (.agg [dI m.X1,dI m.Y1,dI m.Xs,dI m.Xh,dI m.Yh,dS m.X9,.d (dsl tm false kU8 m.Xc),dI m.X0.Xt,dI m.X0.Xn,.d (dsl tm false (kE tm) m.Xp),.d (dsl tm false (kE tm) m.Y4),.d (dsl tm false (kC tm) m.X6)])],[]⟩ _ _
 refine sR [] (sR [hR 2 rfl rfl (rCa (X6q m.X1 ) Tryz.func195 [] [(.tmp 7,vI m.X1)] 0 0)] ?_)
 by_cases hq1:okK m.X1
 rotate_left
 ·refine sR (Xm (hN · true (dF hq1)) [2,3,4,5,6,7] (hP 8 (dF hq1)::(Xm hN1 [10,11,12,13,14,15] (hP0 16::(Xm hN1 [18,19,20,21] (hP0 22::(Xm hN1 [24,25,26,27] (hP0 28::[])))))))) (sR (Xm hN1 [2,3,4,5,6,7,8] (hP0 9::(Xm hN1 [11,12,13,14,15] (hP0 16::(Xm hN1 [18,19,20,21,22] (hP0 23::[])))))) (sR (Xm hN1 [2,3,4,5,6,7,8,9] (hP0 10::(Xm hN1 [12,13,14,15,16,17,18,19] (hP0 20::(Xm hN1 [22,23,24,25,26] (hU 27::(hU 28::(hU 29::(hU 30::(hN1 31::(hP0 32::[]))))))))))) (sR (Xm hN1 [2,3,4,5] (hU 6::(hU 7::(hU 8::(hU 9::(hN1 10::(hP0 11::[]))))))) (sR (Xm hN1 [2,3,4,5] (hU 6::(hU 7::(hU 8::(hU 9::(hN1 10::(hP0 11::(Xm hN1 [13,14,15,16] (hP0 17::[]))))))))) (T.seq (sR [] (cT (b:=(!false)) rfl (sR [] (T.ret (rT ?_))))))))))
  exact eRt 2 (Z7g) [] (cI (by exact if_neg (fun h9=>by exact absurd h9.1 ‹_›))) trivial
 by_cases hq2:inM (Yi m.X1) 1 m.Y1 (Yi m.X1).Wt 1099511627776
 rotate_left
 ·refine sR (Xm (hY · (dT hq1)) [2,3,4,5,6] (hS 7 (oY rfl rfl rfl rfl (X3 rfl) (dT hq1) (rCa (Us (Yi m.X1) 1 m.Y1 (Yi m.X1).Wt 1099511627776 ) Tryz.func200 [] [(.tmp 13,(Z76 m)),(.const (.int .i64 1),vI 1),(.tmp 15,vI m.Y1),(.tmp 17,(Z77 m)),(.const (.int .i64 1099511627776),Z78)] 0 0))::(hP 8 (dT hq1)::(Xm (hN · true (dF hq2)) [10,11,12,13,14,15] (hP 16 (dF hq2)::(Xm hN1 [18,19,20,21] (hP0 22::(Xm hN1 [24,25,26,27] (hP0 28::[]))))))))) (sR (Xm hN1 [2,3,4,5,6,7,8] (hP0 9::(Xm hN1 [11,12,13,14,15] (hP0 16::(Xm hN1 [18,19,20,21,22] (hP0 23::[])))))) (sR (Xm hN1 [2,3,4,5,6,7,8,9] (hP0 10::(Xm hN1 [12,13,14,15,16,17,18,19] (hP0 20::(Xm hN1 [22,23,24,25,26] (hU 27::(hU 28::(hU 29::(hU 30::(hN1 31::(hP0 32::[]))))))))))) ?_))
  refine sR (Xm hN1 [2,3,4,5] (hU 6::(hU 7::(hU 8::(hU 9::(hN1 10::(hP0 11::[]))))))) (sR (Xm hN1 [2,3,4,5] (hU 6::(hU 7::(hU 8::(hU 9::(hN1 10::(hP0 11::(Xm hN1 [13,14,15,16] (hP0 17::[]))))))))) (T.seq (sR [] (cT (b:=(!false)) rfl (sR [] (T.ret (rT ?_)))))))
  exact eRt 2 (Z7g) [] (cI (by exact if_neg (fun h9=>by exact absurd h9.2.1 ‹_›))) trivial
 by_cases hq3:inM (Yi m.X1) 2 m.Xs (Yi m.X1).V7 1099511627776
 rotate_left
 ·refine sR (Xm (hY · (dT hq1)) [2,3,4,5,6] (hS 7 (oY rfl rfl rfl rfl (X3 rfl) (dT hq1) (rCa (Us (Yi m.X1) 1 m.Y1 (Yi m.X1).Wt 1099511627776 ) Tryz.func200 [] [(.tmp 13,(Z76 m)),(.const (.int .i64 1),vI 1),(.tmp 15,vI m.Y1),(.tmp 17,(Z77 m)),(.const (.int .i64 1099511627776),Z78)] 0 0))::(hP 8 (dT hq1)::(Xm (hY · (dT hq2)) [10,11,12,13,14] (hS 15 (oY rfl rfl rfl rfl (X3 rfl) (dT hq2) (rCa (Us (Yi m.X1) 2 m.Xs (Yi m.X1).V7 1099511627776 ) Tryz.func200 [] [(.tmp 21,(Z76 m)),(.const (.int .i64 2),vI 2),(.tmp 23,vI m.Xs),(.tmp 25,(Z79 m)),(.const (.int .i64 1099511627776),Z78)] 0 0))::(hP 16 (dT hq2)::(Xm (hN · true (dF hq3)) [18,19,20,21] (hP 22 (dF hq3)::(Xm hN1 [24,25,26,27] (hP0 28::[])))))))))) ?_
  refine sR (Xm hN1 [2,3,4,5,6,7,8] (hP0 9::(Xm hN1 [11,12,13,14,15] (hP0 16::(Xm hN1 [18,19,20,21,22] (hP0 23::[])))))) (sR (Xm hN1 [2,3,4,5,6,7,8,9] (hP0 10::(Xm hN1 [12,13,14,15,16,17,18,19] (hP0 20::(Xm hN1 [22,23,24,25,26] (hU 27::(hU 28::(hU 29::(hU 30::(hN1 31::(hP0 32::[]))))))))))) (sR (Xm hN1 [2,3,4,5] (hU 6::(hU 7::(hU 8::(hU 9::(hN1 10::(hP0 11::[]))))))) (sR (Xm hN1 [2,3,4,5] (hU 6::(hU 7::(hU 8::(hU 9::(hN1 10::(hP0 11::(Xm hN1 [13,14,15,16] (hP0 17::[]))))))))) (T.seq (sR [] (cT (b:=(!false)) rfl (sR [] (T.ret (rT ?_)))))))))
  exact eRt 2 (Z7g) [] (cI (by exact if_neg (fun h9=>by exact absurd h9.2.2.1 ‹_›))) trivial
 by_cases hq4:inM (Yi m.X1) 4 m.Xh 0 1099511627776
 rotate_left
 ·refine sR (Xm (hY · (dT hq1)) [2,3,4,5,6] (hS 7 (oY rfl rfl rfl rfl (X3 rfl) (dT hq1) (rCa (Us (Yi m.X1) 1 m.Y1 (Yi m.X1).Wt 1099511627776 ) Tryz.func200 [] [(.tmp 13,(Z76 m)),(.const (.int .i64 1),vI 1),(.tmp 15,vI m.Y1),(.tmp 17,(Z77 m)),(.const (.int .i64 1099511627776),Z78)] 0 0))::(hP 8 (dT hq1)::(Xm (hY · (dT hq2)) [10,11,12,13,14] (hS 15 (oY rfl rfl rfl rfl (X3 rfl) (dT hq2) (rCa (Us (Yi m.X1) 2 m.Xs (Yi m.X1).V7 1099511627776 ) Tryz.func200 [] [(.tmp 21,(Z76 m)),(.const (.int .i64 2),vI 2),(.tmp 23,vI m.Xs),(.tmp 25,(Z79 m)),(.const (.int .i64 1099511627776),Z78)] 0 0))::(hP 16 (dT hq2)::(Xm (hY · (dT hq3)) [18,19,20] (hS 21 (oY rfl rfl rfl rfl (X3 rfl) (dT hq3) (rCa (Us (Yi m.X1) 4 m.Xh 0 1099511627776 ) Tryz.func200 [] [(.tmp 29,(Z76 m)),(.const (.int .i64 4),vI 4),(.tmp 31,vI m.Xh),(.const (.int .i64 0),vI 0),(.const (.int .i64 1099511627776),Z78)] 0 0))::(hP 22 (dT hq3)::(Xm (hN · true (dF hq4)) [24,25,26,27] (hP 28 (dF hq4)::[]))))))))))) ?_
  refine sR (Xm hN1 [2,3,4,5,6,7,8] (hP0 9::(Xm hN1 [11,12,13,14,15] (hP0 16::(Xm hN1 [18,19,20,21,22] (hP0 23::[])))))) (sR (Xm hN1 [2,3,4,5,6,7,8,9] (hP0 10::(Xm hN1 [12,13,14,15,16,17,18,19] (hP0 20::(Xm hN1 [22,23,24,25,26] (hU 27::(hU 28::(hU 29::(hU 30::(hN1 31::(hP0 32::[]))))))))))) (sR (Xm hN1 [2,3,4,5] (hU 6::(hU 7::(hU 8::(hU 9::(hN1 10::(hP0 11::[]))))))) (sR (Xm hN1 [2,3,4,5] (hU 6::(hU 7::(hU 8::(hU 9::(hN1 10::(hP0 11::(Xm hN1 [13,14,15,16] (hP0 17::[]))))))))) (T.seq (sR [] (cT (b:=(!false)) rfl (sR [] (T.ret (rT ?_)))))))))
  exact eRt 2 (Z7g) [] (cI (by exact if_neg (fun h9=>by exact absurd h9.2.2.2.1 ‹_›))) trivial
 refine sR (Xm (hY · (dT hq1)) [2,3,4,5,6] (hS 7 (oY rfl rfl rfl rfl (X3 rfl) (dT hq1) (rCa (Us (Yi m.X1) 1 m.Y1 (Yi m.X1).Wt 1099511627776 ) Tryz.func200 [] [(.tmp 13,(Z76 m)),(.const (.int .i64 1),vI 1),(.tmp 15,vI m.Y1),(.tmp 17,(Z77 m)),(.const (.int .i64 1099511627776),Z78)] 0 0))::(hP 8 (dT hq1)::(Xm (hY · (dT hq2)) [10,11,12,13,14] (hS 15 (oY rfl rfl rfl rfl (X3 rfl) (dT hq2) (rCa (Us (Yi m.X1) 2 m.Xs (Yi m.X1).V7 1099511627776 ) Tryz.func200 [] [(.tmp 21,(Z76 m)),(.const (.int .i64 2),vI 2),(.tmp 23,vI m.Xs),(.tmp 25,(Z79 m)),(.const (.int .i64 1099511627776),Z78)] 0 0))::(hP 16 (dT hq2)::(Xm (hY · (dT hq3)) [18,19,20] (hS 21 (oY rfl rfl rfl rfl (X3 rfl) (dT hq3) (rCa (Us (Yi m.X1) 4 m.Xh 0 1099511627776 ) Tryz.func200 [] [(.tmp 29,(Z76 m)),(.const (.int .i64 4),vI 4),(.tmp 31,vI m.Xh),(.const (.int .i64 0),vI 0),(.const (.int .i64 1099511627776),Z78)] 0 0))::(hP 22 (dT hq3)::(Xm (hY · (dT hq4)) [24,25,26] (hS 27 (oY rfl rfl rfl rfl (X3 rfl) (dT hq4) (rCa (Us (Yi m.X1) 4 m.Yh 1 1099511627776 ) Tryz.func200 [] [(.tmp 35,(Z76 m)),(.const (.int .i64 4),vI 4),(.tmp 37,vI m.Yh),(.const (.int .i64 1),vI 1),(.const (.int .i64 1099511627776),Z78)] 0 0))::(hP 28 (dT hq4)::[])))))))))))) ?_
 by_cases hq5:inM (Yi m.X1) 4 m.Yh 1 1099511627776
 rotate_left
 ·refine sR (Xm (hN · true (dF hq5)) [2,3,4,5,6,7,8] (hP 9 (dF hq5)::(Xm hN1 [11,12,13,14,15] (hP0 16::(Xm hN1 [18,19,20,21,22] (hP0 23::[])))))) (sR (Xm hN1 [2,3,4,5,6,7,8,9] (hP0 10::(Xm hN1 [12,13,14,15,16,17,18,19] (hP0 20::(Xm hN1 [22,23,24,25,26] (hU 27::(hU 28::(hU 29::(hU 30::(hN1 31::(hP0 32::[]))))))))))) (sR (Xm hN1 [2,3,4,5] (hU 6::(hU 7::(hU 8::(hU 9::(hN1 10::(hP0 11::[]))))))) (sR (Xm hN1 [2,3,4,5] (hU 6::(hU 7::(hU 8::(hU 9::(hN1 10::(hP0 11::(Xm hN1 [13,14,15,16] (hP0 17::[]))))))))) (T.seq (sR [] (cT (b:=(!false)) rfl (sR [] (T.ret (rT ?_)))))))))
  exact eRt 2 (Z7g) [] (cI (by exact if_neg (fun h9=>by exact absurd h9.2.2.2.2.1 ‹_›))) trivial
 by_cases hq6:inM (Yi m.X1) 64 ((m.Xp.length:Nat):Int) 0 (Yi m.X1).Vs
 rotate_left
 ·refine sR (Xm (hY · (dT hq5)) [2,3,4,5,6,7] (hS 8 (oY rfl rfl rfl rfl (X3 rfl) (dT hq5) (rCa (Us (Yi m.X1) 64 ((m.Xp.length:Nat):Int) 0 (Yi m.X1).Vs ) Tryz.func200 [] [(.tmp 42,(Z76 m)),(.const (.int .i64 64),vI 64),(.tmp 45,(Z7a m)),(.const (.int .i64 0),vI 0),(.tmp 47,(Z7b m))] 0 0))::(hP 9 (dT hq5)::(Xm (hN · true (dF hq6)) [11,12,13,14,15] (hP 16 (dF hq6)::(Xm hN1 [18,19,20,21,22] (hP0 23::[]))))))) (sR (Xm hN1 [2,3,4,5,6,7,8,9] (hP0 10::(Xm hN1 [12,13,14,15,16,17,18,19] (hP0 20::(Xm hN1 [22,23,24,25,26] (hU 27::(hU 28::(hU 29::(hU 30::(hN1 31::(hP0 32::[]))))))))))) (sR (Xm hN1 [2,3,4,5] (hU 6::(hU 7::(hU 8::(hU 9::(hN1 10::(hP0 11::[]))))))) ?_))
  refine sR (Xm hN1 [2,3,4,5] (hU 6::(hU 7::(hU 8::(hU 9::(hN1 10::(hP0 11::(Xm hN1 [13,14,15,16] (hP0 17::[]))))))))) (T.seq (sR [] (cT (b:=(!false)) rfl (sR [] (T.ret (rT ?_))))))
  exact eRt 2 (Z7g) [] (cI (by exact if_neg (fun h9=>by exact absurd h9.2.2.2.2.2.1 ‹_›))) trivial
 by_cases hq7:inM (Yi m.X1) 128 ((m.Y4.length:Nat):Int) 0 8
 rotate_left
 ·refine sR (Xm (hY · (dT hq5)) [2,3,4,5,6,7] (hS 8 (oY rfl rfl rfl rfl (X3 rfl) (dT hq5) (rCa (Us (Yi m.X1) 64 ((m.Xp.length:Nat):Int) 0 (Yi m.X1).Vs ) Tryz.func200 [] [(.tmp 42,(Z76 m)),(.const (.int .i64 64),vI 64),(.tmp 45,(Z7a m)),(.const (.int .i64 0),vI 0),(.tmp 47,(Z7b m))] 0 0))::(hP 9 (dT hq5)::(Xm (hY · (dT hq6)) [11,12,13,14] (hS 15 (oY rfl rfl rfl rfl (X3 rfl) (dT hq6) (rCa (Us (Yi m.X1) 128 ((m.Y4.length:Nat):Int) 0 8 ) Tryz.func200 [] [(.tmp 51,(Z76 m)),(.const (.int .i64 128),vI 128),(.tmp 54,vI ((m.Y4.length:Nat):Int)),(.const (.int .i64 0),vI 0),(.const (.int .i64 8),vI 8)] 0 0))::(hP 16 (dT hq6)::(Xm (hN · true (dF hq7)) [18,19,20,21,22] (hP 23 (dF hq7)::[])))))))) ?_
  refine sR (Xm hN1 [2,3,4,5,6,7,8,9] (hP0 10::(Xm hN1 [12,13,14,15,16,17,18,19] (hP0 20::(Xm hN1 [22,23,24,25,26] (hU 27::(hU 28::(hU 29::(hU 30::(hN1 31::(hP0 32::[]))))))))))) (sR (Xm hN1 [2,3,4,5] (hU 6::(hU 7::(hU 8::(hU 9::(hN1 10::(hP0 11::[]))))))) (sR (Xm hN1 [2,3,4,5] (hU 6::(hU 7::(hU 8::(hU 9::(hN1 10::(hP0 11::(Xm hN1 [13,14,15,16] (hP0 17::[]))))))))) (T.seq (sR [] (cT (b:=(!false)) rfl (sR [] (T.ret (rT ?_))))))))
  exact eRt 2 (Z7g) [] (cI (by exact if_neg (fun h9=>by exact absurd h9.2.2.2.2.2.2.1 ‹_›))) trivial
 refine sR (Xm (hY · (dT hq5)) [2,3,4,5,6,7] (hS 8 (oY rfl rfl rfl rfl (X3 rfl) (dT hq5) (rCa (Us (Yi m.X1) 64 ((m.Xp.length:Nat):Int) 0 (Yi m.X1).Vs ) Tryz.func200 [] [(.tmp 42,(Z76 m)),(.const (.int .i64 64),vI 64),(.tmp 45,(Z7a m)),(.const (.int .i64 0),vI 0),(.tmp 47,(Z7b m))] 0 0))::(hP 9 (dT hq5)::(Xm (hY · (dT hq6)) [11,12,13,14] (hS 15 (oY rfl rfl rfl rfl (X3 rfl) (dT hq6) (rCa (Us (Yi m.X1) 128 ((m.Y4.length:Nat):Int) 0 8 ) Tryz.func200 [] [(.tmp 51,(Z76 m)),(.const (.int .i64 128),vI 128),(.tmp 54,vI ((m.Y4.length:Nat):Int)),(.const (.int .i64 0),vI 0),(.const (.int .i64 8),vI 8)] 0 0))::(hP 16 (dT hq6)::(Xm (hY · (dT hq7)) [18,19,20,21] (hS 22 (oY rfl rfl rfl rfl (X3 rfl) (dT hq7) (rCa (Us (Yi m.X1) 256 ((m.X6.length:Nat):Int) 0 8 ) Tryz.func200 [] [(.tmp 58,(Z76 m)),(.const (.int .i64 256),vI 256),(.tmp 61,vI ((m.X6.length:Nat):Int)),(.const (.int .i64 0),vI 0),(.const (.int .i64 8),vI 8)] 0 0))::(hP 23 (dT hq7)::[]))))))))) ?_
 by_cases hq8:inM (Yi m.X1) 256 ((m.X6.length:Nat):Int) 0 8
 rotate_left
 ·refine sR (Xm (hN · true (dF hq8)) [2,3,4,5,6,7,8,9] (hP 10 (dF hq8)::(Xm hN1 [12,13,14,15,16,17,18,19] (hP0 20::(Xm hN1 [22,23,24,25,26] (hU 27::(hU 28::(hU 29::(hU 30::(hN1 31::(hP0 32::[]))))))))))) (sR (Xm hN1 [2,3,4,5] (hU 6::(hU 7::(hU 8::(hU 9::(hN1 10::(hP0 11::[]))))))) (sR (Xm hN1 [2,3,4,5] (hU 6::(hU 7::(hU 8::(hU 9::(hN1 10::(hP0 11::(Xm hN1 [13,14,15,16] (hP0 17::[]))))))))) (T.seq (sR [] (cT (b:=(!false)) rfl (sR [] (T.ret (rT ?_))))))))
  exact eRt 2 (Z7g) [] (cI (by exact if_neg (fun h9=>by exact absurd h9.2.2.2.2.2.2.2.1 ‹_›))) trivial
 by_cases hq9:inM (Yi m.X1) 8 ((m.X9.length:Nat):Int) 0 ((m.X9.length:Nat):Int)
 rotate_left
 ·refine sR (Xm (hY · (dT hq8)) [2,3,4,5,6,7,8] (hS 9 (oY rfl rfl rfl rfl (X3 rfl) (dT hq8) (rCa (Us (Yi m.X1) 8 ((m.X9.length:Nat):Int) 0 ((m.X9.length:Nat):Int) ) Tryz.func200 [] [(.tmp 66,(Z76 m)),(.const (.int .i64 8),vI 8),(.tmp 69,(Z7c m)),(.const (.int .i64 0),vI 0),(.tmp 72,(Z7c m))] 0 0))::(hP 10 (dT hq8)::(Xm (hN · true (dF hq9)) [12,13,14,15,16,17,18,19] (hP 20 (dF hq9)::(Xm hN1 [22,23,24,25,26] (hU 27::(hU 28::(hU 29::(hU 30::(hN1 31::(hP0 32::[])))))))))))) (sR (Xm hN1 [2,3,4,5] (hU 6::(hU 7::(hU 8::(hU 9::(hN1 10::(hP0 11::[]))))))) (sR (Xm hN1 [2,3,4,5] (hU 6::(hU 7::(hU 8::(hU 9::(hN1 10::(hP0 11::(Xm hN1 [13,14,15,16] (hP0 17::[]))))))))) (T.seq (sR [] (cT (b:=(!false)) rfl (sR [] (T.ret (rT ?_))))))))
  exact eRt 2 (Z7g) [] (cI (by exact if_neg (fun h9=>by exact absurd h9.2.2.2.2.2.2.2.2.1 ‹_›))) trivial
 by_cases hq10:inM (Yi m.X1) 16 ((m.Xc.length:Nat):Int) 0 ((m.Xc.length:Nat):Int)
 rotate_left
 ·refine sR (Xm (hY · (dT hq8)) [2,3,4,5,6,7,8] (hS 9 (oY rfl rfl rfl rfl (X3 rfl) (dT hq8) (rCa (Us (Yi m.X1) 8 ((m.X9.length:Nat):Int) 0 ((m.X9.length:Nat):Int) ) Tryz.func200 [] [(.tmp 66,(Z76 m)),(.const (.int .i64 8),vI 8),(.tmp 69,(Z7c m)),(.const (.int .i64 0),vI 0),(.tmp 72,(Z7c m))] 0 0))::(hP 10 (dT hq8)::(Xm (hY · (dT hq9)) [12,13,14,15,16,17,18] (hS 19 (oY rfl rfl rfl rfl (X3 rfl) (dT hq9) (rCa (Us (Yi m.X1) 16 ((m.Xc.length:Nat):Int) 0 ((m.Xc.length:Nat):Int) ) Tryz.func200 [] [(.tmp 76,(Z76 m)),(.const (.int .i64 16),vI 16),(.tmp 79,(Z7d m)),(.const (.int .i64 0),vI 0),(.tmp 82,(Z7d m))] 0 0))::(hP 20 (dT hq9)::(Xm (hN · true (dF hq10)) [22,23,24,25,26] (hU 27::(hU 28::(hU 29::(hU 30::(hN 31 true (dF hq10)::(hP 32 (dF hq10)::[]))))))))))))) ?_
  refine sR (Xm hN1 [2,3,4,5] (hU 6::(hU 7::(hU 8::(hU 9::(hN1 10::(hP0 11::[]))))))) (sR (Xm hN1 [2,3,4,5] (hU 6::(hU 7::(hU 8::(hU 9::(hN1 10::(hP0 11::(Xm hN1 [13,14,15,16] (hP0 17::[]))))))))) (T.seq (sR [] (cT (b:=(!false)) rfl (sR [] (T.ret (rT ?_)))))))
  exact eRt 2 (Z7g) [] (cI (by exact if_neg (fun h9=>by exact absurd h9.2.2.2.2.2.2.2.2.2.1 ‹_›))) trivial
 by_cases hq11:(I3 (Yi m.X1).Vy 32)≠0
 ·refine sR (Xm (hY · (dT hq8)) [2,3,4,5,6,7,8] (hS 9 (oY rfl rfl rfl rfl (X3 rfl) (dT hq8) (rCa (Us (Yi m.X1) 8 ((m.X9.length:Nat):Int) 0 ((m.X9.length:Nat):Int) ) Tryz.func200 [] [(.tmp 66,(Z76 m)),(.const (.int .i64 8),vI 8),(.tmp 69,(Z7c m)),(.const (.int .i64 0),vI 0),(.tmp 72,(Z7c m))] 0 0))::(hP 10 (dT hq8)::(Xm (hY · (dT hq9)) [12,13,14,15,16,17,18] (hS 19 (oY rfl rfl rfl rfl (X3 rfl) (dT hq9) (rCa (Us (Yi m.X1) 16 ((m.Xc.length:Nat):Int) 0 ((m.Xc.length:Nat):Int) ) Tryz.func200 [] [(.tmp 76,(Z76 m)),(.const (.int .i64 16),vI 16),(.tmp 79,(Z7d m)),(.const (.int .i64 0),vI 0),(.tmp 82,(Z7d m))] 0 0))::(hP 20 (dT hq9)::(hY 22 (dT hq10)::(hY 23 (dT hq10)::(hS 24 (oY rfl rfl rfl rfl (X3 rfl) (dT hq10) (Yd (u1:=.int .i64 (Yi m.X1).Vy) (u2:=.int .i64 32) (v:=.int .i64 (I3 (Yi m.X1).Vy 32)) (Xct rfl) (X3 rfl) ⟨rfl,trivial⟩))::(hY 25 (dT hq10)::(hY 26 (dT hq10)::(Xm (hN · false (dT hq11)) [27,28,29,30] (hS 31 (oY rfl rfl rfl rfl (X3 rfl) (dT hq10) (Wc (b:=(decide ((I3 (Yi m.X1).Vy 32)≠0))) (av:=vB true) (X3 rfl) ⟨rfl,trivial⟩ (dT hq11)))::(hP 32 (dT hq10)::[])))))))))))))) ?_
  by_cases hq12:m.X1≠1
  ·refine sR (Xm hY1 [2,3,4,5] (Xm (hN · false (dT hq12)) [6,7,8,9] (hS 10 (oY (b:=true) rfl rfl rfl rfl (X3 rfl) rfl (Wc (b:=(decide (m.X1≠1))) (av:=vB true) (X3 rfl) ⟨rfl,trivial⟩ (dT hq12)))::(hP1 11::[])))) ?_
   by_cases hq13:m.X1≠10
   ·refine sR (Xm hY1 [2,3,4,5] (Xm (hN · false (dT hq13)) [6,7,8,9] (hS 10 (oY (b:=true) rfl rfl rfl rfl (X3 rfl) rfl (Wc (b:=(decide (m.X1≠10))) (av:=vB true) (X3 rfl) ⟨rfl,trivial⟩ (dT hq13)))::(hP1 11::(hY1 13::(hY1 14::(hS 15 (oY (b:=true) rfl rfl rfl rfl (X3 rfl) rfl (rCa (Hx tm false tm m.X6 ‹_›) Tryz.func201 [] [(.tmp 123,(Z7e tm m)),(.func 202,Z7f)] 0 0))::(hY1 16::(hP1 17::[]))))))))) (T.seq (sR [] ?_))
    by_cases hq14:¬X23 m.X6
    ·refine cT (cn (cn (dT hq14))) (sR [] (T.ret (rT ?_)))
     exact eRt 2 (Z7g) [] p1a trivial
    refine cF (cn (cn (dF hq14))) (T.skip (nT (sR [] (T.ret ?_))))
    exact eRt 2 (Z7h) [] (cI (by exact if_pos ⟨‹_›,‹_›,‹_›,‹_›,‹_›,‹_›,‹_›,‹_›,‹_›,‹_›,p2m,p2m,p2m,p1r⟩)) trivial
   by_cases hq15:((m.X6.length:Nat):Int)=1
   ·refine sR (Xm hY1 [2,3,4,5] (Xm (hY · (dF hq13)) [6,7,8,9] (hS 10 (oY (b:=true) rfl rfl rfl rfl (X3 rfl) rfl (Wo (b:=(decide (m.X1≠10))) (av:=(Z7i m)) (X3 rfl) trivial (dF hq13)))::(hP1 11::(hY 13 (dT hq15)::(hY 14 (dT hq15)::(hS 15 (oY rfl rfl rfl rfl (X3 rfl) (dT hq15) (rCa (Hx tm false tm m.X6 ‹_›) Tryz.func201 [] [(.tmp 123,(Z7e tm m)),(.func 202,Z7f)] 0 0))::(hY 16 (dT hq15)::(hP 17 (dT hq15)::[]))))))))) (T.seq (sR [] ?_))
    by_cases hq16:¬X23 m.X6
    ·refine cT (cn (cn (dT hq16))) (sR [] (T.ret (rT ?_)))
     exact eRt 2 (Z7g) [] p1a trivial
    refine cF (cn (cn (dF hq16))) (T.skip (nT (sR [] (T.ret ?_))))
    exact eRt 2 (Z7h) [] (cI (by exact if_pos ⟨‹_›,‹_›,‹_›,‹_›,‹_›,‹_›,‹_›,‹_›,‹_›,‹_›,p2m,p2m,p2l,p1r⟩)) trivial
   refine sR (Xm hY1 [2,3,4,5] (Xm (hY · (dF hq13)) [6,7,8,9] (hS 10 (oY (b:=true) rfl rfl rfl rfl (X3 rfl) rfl (Wo (b:=(decide (m.X1≠10))) (av:=(Z7i m)) (X3 rfl) trivial (dF hq13)))::(hP1 11::(Xm (hN · true (dF hq15)) [13,14,15,16] (hP 17 (dF hq15)::[])))))) (T.seq (sR [] (cT (b:=(!false)) rfl (sR [] (T.ret (rT ?_))))))
   exact eRt 2 (Z7g) [] p1v trivial
  refine sR (Xm hY1 [2,3,4,5] (Xm (hY · (dF hq12)) [6,7,8,9] (hS 10 (oY (b:=true) rfl rfl rfl rfl (X3 rfl) rfl (Wo (b:=(decide (m.X1≠1))) (av:=vB (decide (((m.Xc.length:Nat):Int)≤4096))) (X3 rfl) trivial (dF hq12)))::(hP1 11::[])))) ?_
  by_cases hq17:((m.Xc.length:Nat):Int)≤4096
  rotate_left
  ·refine sR (Xm (hN · true (dF hq17)) [2,3,4,5] (hU 6::(hU 7::(hU 8::(hU 9::(hN 10 true (dF hq17)::(hP 11 (dF hq17)::(Xm hN1 [13,14,15,16] (hP0 17::[]))))))))) (T.seq (sR [] (cT (b:=(!false)) rfl (sR [] (T.ret (rT ?_))))))
   exact eRt 2 (Z7g) [] p45 trivial
  by_cases hq18:m.X1≠10
  ·refine sR (Xm (hY · (dT hq17)) [2,3,4,5] (Xm (hN · false (dT hq18)) [6,7,8,9] (hS 10 (oY rfl rfl rfl rfl (X3 rfl) (dT hq17) (Wc (b:=(decide (m.X1≠10))) (av:=vB true) (X3 rfl) ⟨rfl,trivial⟩ (dT hq18)))::(hP 11 (dT hq17)::(hY1 13::(hY1 14::(hS 15 (oY (b:=true) rfl rfl rfl rfl (X3 rfl) rfl (rCa (Hx tm false tm m.X6 ‹_›) Tryz.func201 [] [(.tmp 123,(Z7e tm m)),(.func 202,Z7f)] 0 0))::(hY1 16::(hP1 17::[]))))))))) (T.seq (sR [] ?_))
   by_cases hq19:¬X23 m.X6
   ·refine cT (cn (cn (dT hq19))) (sR [] (T.ret (rT ?_)))
    exact eRt 2 (Z7g) [] p1a trivial
   refine cF (cn (cn (dF hq19))) (T.skip (nT (sR [] (T.ret ?_))))
   exact eRt 2 (Z7h) [] (cI (by exact if_pos ⟨‹_›,‹_›,‹_›,‹_›,‹_›,‹_›,‹_›,‹_›,‹_›,‹_›,p2m,p2l,p2m,p1r⟩)) trivial
  by_cases hq20:((m.X6.length:Nat):Int)=1
  ·refine sR (Xm (hY · (dT hq17)) [2,3,4,5] (Xm (hY · (dF hq18)) [6,7,8,9] (hS 10 (oY rfl rfl rfl rfl (X3 rfl) (dT hq17) (Wo (b:=(decide (m.X1≠10))) (av:=(Z7i m)) (X3 rfl) trivial (dF hq18)))::(hP 11 (dT hq17)::(hY 13 (dT hq20)::(hY 14 (dT hq20)::(hS 15 (oY rfl rfl rfl rfl (X3 rfl) (dT hq20) (rCa (Hx tm false tm m.X6 ‹_›) Tryz.func201 [] [(.tmp 123,(Z7e tm m)),(.func 202,Z7f)] 0 0))::(hY 16 (dT hq20)::(hP 17 (dT hq20)::[]))))))))) (T.seq (sR [] ?_))
   by_cases hq21:¬X23 m.X6
   ·refine cT (cn (cn (dT hq21))) (sR [] (T.ret (rT ?_)))
    exact eRt 2 (Z7g) [] p1a trivial
   refine cF (cn (cn (dF hq21))) (T.skip (nT (sR [] (T.ret ?_))))
   exact eRt 2 (Z7h) [] (cI (by exact if_pos ⟨‹_›,‹_›,‹_›,‹_›,‹_›,‹_›,‹_›,‹_›,‹_›,‹_›,p2m,p2l,p2l,p1r⟩)) trivial
  refine sR (Xm (hY · (dT hq17)) [2,3,4,5] (Xm (hY · (dF hq18)) [6,7,8,9] (hS 10 (oY rfl rfl rfl rfl (X3 rfl) (dT hq17) (Wo (b:=(decide (m.X1≠10))) (av:=(Z7i m)) (X3 rfl) trivial (dF hq18)))::(hP 11 (dT hq17)::(Xm (hN · true (dF hq20)) [13,14,15,16] (hP 17 (dF hq20)::[])))))) (T.seq (sR [] (cT (b:=(!false)) rfl (sR [] (T.ret (rT ?_))))))
  exact eRt 2 (Z7g) [] p1v trivial
 refine sR (Xm (hY · (dT hq8)) [2,3,4,5,6,7,8] (hS 9 (oY rfl rfl rfl rfl (X3 rfl) (dT hq8) (rCa (Us (Yi m.X1) 8 ((m.X9.length:Nat):Int) 0 ((m.X9.length:Nat):Int) ) Tryz.func200 [] [(.tmp 66,(Z76 m)),(.const (.int .i64 8),vI 8),(.tmp 69,(Z7c m)),(.const (.int .i64 0),vI 0),(.tmp 72,(Z7c m))] 0 0))::(hP 10 (dT hq8)::(Xm (hY · (dT hq9)) [12,13,14,15,16,17,18] (hS 19 (oY rfl rfl rfl rfl (X3 rfl) (dT hq9) (rCa (Us (Yi m.X1) 16 ((m.Xc.length:Nat):Int) 0 ((m.Xc.length:Nat):Int) ) Tryz.func200 [] [(.tmp 76,(Z76 m)),(.const (.int .i64 16),vI 16),(.tmp 79,(Z7d m)),(.const (.int .i64 0),vI 0),(.tmp 82,(Z7d m))] 0 0))::(hP 20 (dT hq9)::(hY 22 (dT hq10)::(hY 23 (dT hq10)::(hS 24 (oY rfl rfl rfl rfl (X3 rfl) (dT hq10) (Yd (u1:=.int .i64 (Yi m.X1).Vy) (u2:=.int .i64 32) (v:=.int .i64 (I3 (Yi m.X1).Vy 32)) (Xct rfl) (X3 rfl) ⟨rfl,trivial⟩))::(hY 25 (dT hq10)::(hY 26 (dT hq10)::(Xm (hY · (dF hq11)) [27,28,29] (hS 30 (oY rfl rfl rfl rfl (X3 rfl) (dF hq11) (r_eqSt (ax:=.tv (.agg [dI m.X0.Xt,dI m.X0.Xn])) (ay:=.tv (.agg [dI 0,dI 0])) (a:=m.X0) (b:=(Y6.mk 0 0)) Jx ⟨[.int .i64 m.X0.Xt,.int .i64 m.X0.Xn],rfl,rfl⟩ ⟨[.int .i64 0,.int .i64 0],rfl,rfl⟩ (X3 rfl) p1s))::(hS 31 (oY rfl rfl rfl rfl (X3 rfl) (dT hq10) (Wo (b:=(decide ((I3 (Yi m.X1).Vy 32)≠0))) (av:=vB (decide (m.X0=(Y6.mk 0 0)))) (X3 rfl) trivial (dF hq11)))::(hP 32 (dT hq10)::[]))))))))))))))) ?_
 by_cases hq22:m.X0=(Y6.mk 0 0)
 rotate_left
 ·refine sR (Xm (hN · true (dF hq22)) [2,3,4,5] (hU 6::(hU 7::(hU 8::(hU 9::(hN 10 true (dF hq22)::(hP 11 (dF hq22)::[]))))))) (sR (Xm hN1 [2,3,4,5] (hU 6::(hU 7::(hU 8::(hU 9::(hN1 10::(hP0 11::(Xm hN1 [13,14,15,16] (hP0 17::[]))))))))) (T.seq (sR [] (cT (b:=(!false)) rfl (sR [] (T.ret (rT ?_)))))))
  exact eRt 2 (Z7g) [] (cI (by exact if_neg (fun h9=>by (rcases h9.2.2.2.2.2.2.2.2.2.2.1 with h8|h8<;>exact absurd h8 ‹_›)))) trivial
 by_cases hq23:m.X1≠1
 ·refine sR (Xm (hY · (dT hq22)) [2,3,4,5] (Xm (hN · false (dT hq23)) [6,7,8,9] (hS 10 (oY rfl rfl rfl rfl (X3 rfl) (dT hq22) (Wc (b:=(decide (m.X1≠1))) (av:=vB true) (X3 rfl) ⟨rfl,trivial⟩ (dT hq23)))::(hP 11 (dT hq22)::[])))) ?_
  by_cases hq24:m.X1≠10
  ·refine sR (Xm hY1 [2,3,4,5] (Xm (hN · false (dT hq24)) [6,7,8,9] (hS 10 (oY (b:=true) rfl rfl rfl rfl (X3 rfl) rfl (Wc (b:=(decide (m.X1≠10))) (av:=vB true) (X3 rfl) ⟨rfl,trivial⟩ (dT hq24)))::(hP1 11::(hY1 13::(hY1 14::(hS 15 (oY (b:=true) rfl rfl rfl rfl (X3 rfl) rfl (rCa (Hx tm false tm m.X6 ‹_›) Tryz.func201 [] [(.tmp 123,(Z7e tm m)),(.func 202,Z7f)] 0 0))::(hY1 16::(hP1 17::[]))))))))) (T.seq (sR [] ?_))
   by_cases hq25:¬X23 m.X6
   ·refine cT (cn (cn (dT hq25))) (sR [] (T.ret (rT ?_)))
    exact eRt 2 (Z7g) [] p1a trivial
   refine cF (cn (cn (dF hq25))) (T.skip (nT (sR [] (T.ret ?_))))
   exact eRt 2 (Z7h) [] (cI (by exact if_pos ⟨‹_›,‹_›,‹_›,‹_›,‹_›,‹_›,‹_›,‹_›,‹_›,‹_›,p2l,p2m,p2m,p1r⟩)) trivial
  by_cases hq26:((m.X6.length:Nat):Int)=1
  ·refine sR (Xm hY1 [2,3,4,5] (Xm (hY · (dF hq24)) [6,7,8,9] (hS 10 (oY (b:=true) rfl rfl rfl rfl (X3 rfl) rfl (Wo (b:=(decide (m.X1≠10))) (av:=(Z7i m)) (X3 rfl) trivial (dF hq24)))::(hP1 11::(hY 13 (dT hq26)::(hY 14 (dT hq26)::(hS 15 (oY rfl rfl rfl rfl (X3 rfl) (dT hq26) (rCa (Hx tm false tm m.X6 ‹_›) Tryz.func201 [] [(.tmp 123,(Z7e tm m)),(.func 202,Z7f)] 0 0))::(hY 16 (dT hq26)::(hP 17 (dT hq26)::[]))))))))) (T.seq (sR [] ?_))
   by_cases hq27:¬X23 m.X6
   ·refine cT (cn (cn (dT hq27))) (sR [] (T.ret (rT ?_)))
    exact eRt 2 (Z7g) [] p1a trivial
   refine cF (cn (cn (dF hq27))) (T.skip (nT (sR [] (T.ret ?_))))
   exact eRt 2 (Z7h) [] (cI (by exact if_pos ⟨‹_›,‹_›,‹_›,‹_›,‹_›,‹_›,‹_›,‹_›,‹_›,‹_›,p2l,p2m,p2l,p1r⟩)) trivial
  refine sR (Xm hY1 [2,3,4,5] (Xm (hY · (dF hq24)) [6,7,8,9] (hS 10 (oY (b:=true) rfl rfl rfl rfl (X3 rfl) rfl (Wo (b:=(decide (m.X1≠10))) (av:=(Z7i m)) (X3 rfl) trivial (dF hq24)))::(hP1 11::(Xm (hN · true (dF hq26)) [13,14,15,16] (hP 17 (dF hq26)::[])))))) (T.seq (sR [] (cT (b:=(!false)) rfl (sR [] (T.ret (rT ?_))))))
  exact eRt 2 (Z7g) [] p1v trivial
 refine sR (Xm (hY · (dT hq22)) [2,3,4,5] (Xm (hY · (dF hq23)) [6,7,8,9] (hS 10 (oY rfl rfl rfl rfl (X3 rfl) (dT hq22) (Wo (b:=(decide (m.X1≠1))) (av:=vB (decide (((m.Xc.length:Nat):Int)≤4096))) (X3 rfl) trivial (dF hq23)))::(hP 11 (dT hq22)::[])))) ?_
 by_cases hq28:((m.Xc.length:Nat):Int)≤4096
 rotate_left
 ·refine sR (Xm (hN · true (dF hq28)) [2,3,4,5] (hU 6::(hU 7::(hU 8::(hU 9::(hN 10 true (dF hq28)::(hP 11 (dF hq28)::(Xm hN1 [13,14,15,16] (hP0 17::[]))))))))) (T.seq (sR [] (cT (b:=(!false)) rfl (sR [] (T.ret (rT ?_))))))
  exact eRt 2 (Z7g) [] p45 trivial
 by_cases hq29:m.X1≠10
 ·refine sR (Xm (hY · (dT hq28)) [2,3,4,5] (Xm (hN · false (dT hq29)) [6,7,8,9] (hS 10 (oY rfl rfl rfl rfl (X3 rfl) (dT hq28) (Wc (b:=(decide (m.X1≠10))) (av:=vB true) (X3 rfl) ⟨rfl,trivial⟩ (dT hq29)))::(hP 11 (dT hq28)::(hY1 13::(hY1 14::(hS 15 (oY (b:=true) rfl rfl rfl rfl (X3 rfl) rfl (rCa (Hx tm false tm m.X6 ‹_›) Tryz.func201 [] [(.tmp 123,(Z7e tm m)),(.func 202,Z7f)] 0 0))::(hY1 16::(hP1 17::[]))))))))) (T.seq (sR [] ?_))
  by_cases hq30:¬X23 m.X6
  ·refine cT (cn (cn (dT hq30))) (sR [] (T.ret (rT ?_)))
   exact eRt 2 (Z7g) [] p1a trivial
  refine cF (cn (cn (dF hq30))) (T.skip (nT (sR [] (T.ret ?_))))
  exact eRt 2 (Z7h) [] (cI (by exact if_pos ⟨‹_›,‹_›,‹_›,‹_›,‹_›,‹_›,‹_›,‹_›,‹_›,‹_›,p2l,p2l,p2m,p1r⟩)) trivial
 by_cases hq31:((m.X6.length:Nat):Int)=1
 ·refine sR (Xm (hY · (dT hq28)) [2,3,4,5] (Xm (hY · (dF hq29)) [6,7,8,9] (hS 10 (oY rfl rfl rfl rfl (X3 rfl) (dT hq28) (Wo (b:=(decide (m.X1≠10))) (av:=(Z7i m)) (X3 rfl) trivial (dF hq29)))::(hP 11 (dT hq28)::(hY 13 (dT hq31)::(hY 14 (dT hq31)::(hS 15 (oY rfl rfl rfl rfl (X3 rfl) (dT hq31) (rCa (Hx tm false tm m.X6 ‹_›) Tryz.func201 [] [(.tmp 123,(Z7e tm m)),(.func 202,Z7f)] 0 0))::(hY 16 (dT hq31)::(hP 17 (dT hq31)::[]))))))))) (T.seq (sR [] ?_))
  by_cases hq32:¬X23 m.X6
  ·refine cT (cn (cn (dT hq32))) (sR [] (T.ret (rT ?_)))
   exact eRt 2 (Z7g) [] p1a trivial
  refine cF (cn (cn (dF hq32))) (T.skip (nT (sR [] (T.ret ?_))))
  exact eRt 2 (Z7h) [] (cI (by exact if_pos ⟨‹_›,‹_›,‹_›,‹_›,‹_›,‹_›,‹_›,‹_›,‹_›,‹_›,p2l,p2l,p2l,p1r⟩)) trivial
 refine sR (Xm (hY · (dT hq28)) [2,3,4,5] (Xm (hY · (dF hq29)) [6,7,8,9] (hS 10 (oY rfl rfl rfl rfl (X3 rfl) (dT hq28) (Wo (b:=(decide (m.X1≠10))) (av:=(Z7i m)) (X3 rfl) trivial (dF hq29)))::(hP 11 (dT hq28)::(Xm (hN · true (dF hq31)) [13,14,15,16] (hP 17 (dF hq31)::[])))))) (T.seq (sR [] (cT (b:=(!false)) rfl (sR [] (T.ret (rT ?_))))))
 exact eRt 2 (Z7g) [] p1v trivial
theorem iat_119:Tryz.prog.info? 119=some Tryz.t119:=by kernel_rfl
theorem Jp:Wide Tryz.prog 119 (some 9):=⟨_,_,Tryz.underlying119,.inl ⟨_,rfl⟩,iat_119,rfl⟩
abbrev Z7j:TV:=.one (dB true)
abbrev Z7k:TV:=.agg [dB true,dB true,dB false,dB true,dB false,dB false,dB false,dB false,dB false]
theorem X06 (k:Int):Holds Tryz.prog 62 ⟨[vI k],[],.tup [.agg [dB (Xi k).Y1,dB (Xi k).Xs,dB (Xi k).Xh,dB (Xi k).X9,dB (Xi k).Xc,dB (Xi k).X0,dB (Xi k).Xp,dB (Xi k).Y4,dB (Xi k).X6],.one (dB (decide (okK k)))],[]⟩:=by
 refine Holds.of Tryz.func62 rfl (N:=37) Tryz.ntmps62 rfl fun w0 B0 S0 U0=>?_
 show T _ (Y2 37 0 w0 S0 U0 B0) ⟨[vI k],[]⟩ _ _
 refine sR [] (T.seq (sR [] (T.block (sR [] ?_))))
 by_cases hq1:k=1
 ·refine cT (dT hq1) (sR [] (T.ret (rB (rT ?_))))
  exact eX [.c 2 0 119 0 119 [dB false,dB false,dB true,dB false,dB true,dB false,dB false,dB false,dB false] (.agg [dB false,dB false,dB true,dB false,dB true,dB false,dB false,dB false,dB false]),.t 3 (Z7j)] ⟨⟨rfl,rfl,by kernel_rfl,by kernel_rfl,.inl ⟨9,Jp,rfl,Nat.le_of_ble_eq_true rfl⟩⟩,⟨⟨rfl,by kernel_rfl⟩,trivial⟩⟩ [] (gc2 (show (Xi k)=⟨false,false,true,false,true,false,false,false,false⟩ from Eh) (show ((decide (okK k)):Bool)=true from Eh) (fun qq0 (q10:Bool)=>(.tup [.agg [dB (qq0.Y1),dB (qq0.Xs),dB (qq0.Xh),dB (qq0.X9),dB (qq0.Xc),dB (qq0.X0),dB (qq0.Xp),dB (qq0.Y4),dB (qq0.X6)],.one (dB q10)]:AV))) trivial
 refine cF (dF hq1) (sR [] ?_)
 by_cases hq2:k=2
 ·refine cT (dT hq2) (sR [] (T.ret (rB (rT ?_))))
  exact eX [.c 2 0 119 0 119 [dB true,dB true,dB false,dB true,dB false,dB false,dB true,dB false,dB false] (.agg [dB true,dB true,dB false,dB true,dB false,dB false,dB true,dB false,dB false]),.t 3 (Z7j)] ⟨⟨rfl,rfl,by kernel_rfl,by kernel_rfl,.inl ⟨9,Jp,rfl,Nat.le_of_ble_eq_true rfl⟩⟩,⟨⟨rfl,by kernel_rfl⟩,trivial⟩⟩ [] (gc2 (show (Xi k)=⟨true,true,false,true,false,false,true,false,false⟩ from Eh) (show ((decide (okK k)):Bool)=true from Eh) (fun qq0 (q10:Bool)=>(.tup [.agg [dB (qq0.Y1),dB (qq0.Xs),dB (qq0.Xh),dB (qq0.X9),dB (qq0.Xc),dB (qq0.X0),dB (qq0.Xp),dB (qq0.Y4),dB (qq0.X6)],.one (dB q10)]:AV))) trivial
 refine cF (dF hq2) (T.seq (sR [] ?_))
 by_cases hq3:k=3
 ·refine cT (dT hq3) (T.skip (nT (cT (dT hq3) (sR [] (T.ret (rB (rT ?_)))))))
  exact eX [.c 2 0 119 0 119 [dB true,dB true,dB false,dB true,dB false,dB false,dB false,dB false,dB false] (Z7k),.t 3 (Z7j)] ⟨⟨rfl,rfl,by kernel_rfl,by kernel_rfl,.inl ⟨9,Jp,rfl,Nat.le_of_ble_eq_true rfl⟩⟩,⟨⟨rfl,by kernel_rfl⟩,trivial⟩⟩ [] p1n trivial
 refine cF (dF hq3) (xK [] (nT ?_))
 by_cases hq4:k=4
 ·refine cT (dT hq4) (sR [] (T.ret (rB (rT ?_))))
  exact eX [.c 2 0 119 0 119 [dB true,dB true,dB false,dB true,dB false,dB false,dB false,dB false,dB false] (Z7k),.t 3 (Z7j)] ⟨⟨rfl,rfl,by kernel_rfl,by kernel_rfl,.inl ⟨9,Jp,rfl,Nat.le_of_ble_eq_true rfl⟩⟩,⟨⟨rfl,by kernel_rfl⟩,trivial⟩⟩ [] p1n trivial
 refine cF (dF hq4) (sR [] ?_)
 by_cases hq5:k=5
 ·refine cT (dT hq5) (sR [] (T.ret (rB (rT ?_))))
  exact eX [.c 2 0 119 0 119 [dB false,dB true,dB false,dB true,dB false,dB false,dB false,dB false,dB false] (.agg [dB false,dB true,dB false,dB true,dB false,dB false,dB false,dB false,dB false]),.t 3 (Z7j)] ⟨⟨rfl,rfl,by kernel_rfl,by kernel_rfl,.inl ⟨9,Jp,rfl,Nat.le_of_ble_eq_true rfl⟩⟩,⟨⟨rfl,by kernel_rfl⟩,trivial⟩⟩ [] (gc2 (show (Xi k)=⟨false,true,false,true,false,false,false,false,false⟩ from Eh) (show ((decide (okK k)):Bool)=true from Eh) (fun qq0 (q10:Bool)=>(.tup [.agg [dB (qq0.Y1),dB (qq0.Xs),dB (qq0.Xh),dB (qq0.X9),dB (qq0.Xc),dB (qq0.X0),dB (qq0.Xp),dB (qq0.Y4),dB (qq0.X6)],.one (dB q10)]:AV))) trivial
 refine cF (dF hq5) (sR [] ?_)
 by_cases hq6:k=6
 ·refine cT (dT hq6) (sR [] (T.ret (rB (rT ?_))))
  exact eX [.c 2 0 119 0 119 [dB true,dB true,dB false,dB false,dB false,dB false,dB true,dB false,dB true] (.agg [dB true,dB true,dB false,dB false,dB false,dB false,dB true,dB false,dB true]),.t 3 (Z7j)] ⟨⟨rfl,rfl,by kernel_rfl,by kernel_rfl,.inl ⟨9,Jp,rfl,Nat.le_of_ble_eq_true rfl⟩⟩,⟨⟨rfl,by kernel_rfl⟩,trivial⟩⟩ [] (gc2 (show (Xi k)=⟨true,true,false,false,false,false,true,false,true⟩ from Eh) (show ((decide (okK k)):Bool)=true from Eh) (fun qq0 (q10:Bool)=>(.tup [.agg [dB (qq0.Y1),dB (qq0.Xs),dB (qq0.Xh),dB (qq0.X9),dB (qq0.Xc),dB (qq0.X0),dB (qq0.Xp),dB (qq0.Y4),dB (qq0.X6)],.one (dB q10)]:AV))) trivial
 refine cF (dF hq6) (sR [] ?_)
 by_cases hq7:k=7
 ·refine cT (dT hq7) (sR [] (T.ret (rB (rT ?_))))
  exact eX [.c 2 0 119 0 119 [dB true,dB false,dB false,dB false,dB false,dB false,dB true,dB true,dB false] (.agg [dB true,dB false,dB false,dB false,dB false,dB false,dB true,dB true,dB false]),.t 3 (Z7j)] ⟨⟨rfl,rfl,by kernel_rfl,by kernel_rfl,.inl ⟨9,Jp,rfl,Nat.le_of_ble_eq_true rfl⟩⟩,⟨⟨rfl,by kernel_rfl⟩,trivial⟩⟩ [] (gc2 (show (Xi k)=⟨true,false,false,false,false,false,true,true,false⟩ from Eh) (show ((decide (okK k)):Bool)=true from Eh) (fun qq0 (q10:Bool)=>(.tup [.agg [dB (qq0.Y1),dB (qq0.Xs),dB (qq0.Xh),dB (qq0.X9),dB (qq0.Xc),dB (qq0.X0),dB (qq0.Xp),dB (qq0.Y4),dB (qq0.X6)],.one (dB q10)]:AV))) trivial
 refine cF (dF hq7) (sR [] ?_)
 by_cases hq8:k=8
 ·refine cT (dT hq8) (sR [] (T.ret (rB (rT ?_))))
  exact eX [.c 2 0 119 0 119 [dB true,dB false,dB true,dB false,dB false,dB true,dB false,dB false,dB false] (.agg [dB true,dB false,dB true,dB false,dB false,dB true,dB false,dB false,dB false]),.t 3 (Z7j)] ⟨⟨rfl,rfl,by kernel_rfl,by kernel_rfl,.inl ⟨9,Jp,rfl,Nat.le_of_ble_eq_true rfl⟩⟩,⟨⟨rfl,by kernel_rfl⟩,trivial⟩⟩ [] (gc2 (show (Xi k)=⟨true,false,true,false,false,true,false,false,false⟩ from Eh) (show ((decide (okK k)):Bool)=true from Eh) (fun qq0 (q10:Bool)=>(.tup [.agg [dB (qq0.Y1),dB (qq0.Xs),dB (qq0.Xh),dB (qq0.X9),dB (qq0.Xc),dB (qq0.X0),dB (qq0.Xp),dB (qq0.Y4),dB (qq0.X6)],.one (dB q10)]:AV))) trivial
 refine cF (dF hq8) (sR [] ?_)
 by_cases hq9:k=9
 ·refine cT (dT hq9) (sR [] (T.ret (rB (rT ?_))))
  exact eX [.c 2 0 119 0 119 [dB false,dB true,dB false,dB false,dB false,dB false,dB false,dB false,dB false] (.agg [dB false,dB true,dB false,dB false,dB false,dB false,dB false,dB false,dB false]),.t 3 (Z7j)] ⟨⟨rfl,rfl,by kernel_rfl,by kernel_rfl,.inl ⟨9,Jp,rfl,Nat.le_of_ble_eq_true rfl⟩⟩,⟨⟨rfl,by kernel_rfl⟩,trivial⟩⟩ [] (gc2 (show (Xi k)=⟨false,true,false,false,false,false,false,false,false⟩ from Eh) (show ((decide (okK k)):Bool)=true from Eh) (fun qq0 (q10:Bool)=>(.tup [.agg [dB (qq0.Y1),dB (qq0.Xs),dB (qq0.Xh),dB (qq0.X9),dB (qq0.Xc),dB (qq0.X0),dB (qq0.Xp),dB (qq0.Y4),dB (qq0.X6)],.one (dB q10)]:AV))) trivial
 refine cF (dF hq9) (sR [] ?_)
 by_cases hq10:k=10
 ·refine cT (dT hq10) (sR [] (T.ret (rB (rT ?_))))
  exact eX [.c 2 0 119 0 119 [dB false,dB false,dB false,dB false,dB false,dB false,dB false,dB false,dB true] (.agg [dB false,dB false,dB false,dB false,dB false,dB false,dB false,dB false,dB true]),.t 3 (Z7j)] ⟨⟨rfl,rfl,by kernel_rfl,by kernel_rfl,.inl ⟨9,Jp,rfl,Nat.le_of_ble_eq_true rfl⟩⟩,⟨⟨rfl,by kernel_rfl⟩,trivial⟩⟩ [] (gc2 (show (Xi k)=⟨false,false,false,false,false,false,false,false,true⟩ from Eh) (show ((decide (okK k)):Bool)=true from Eh) (fun qq0 (q10:Bool)=>(.tup [.agg [dB (qq0.Y1),dB (qq0.Xs),dB (qq0.Xh),dB (qq0.X9),dB (qq0.Xc),dB (qq0.X0),dB (qq0.Xp),dB (qq0.Y4),dB (qq0.X6)],.one (dB q10)]:AV))) trivial
 refine cF (dF hq10) (sR [] ?_)
 by_cases hq11:k=11
 ·refine cT (dT hq11) (sR [] (T.ret (rB (rT ?_))))
  exact eX [.c 2 0 119 0 119 [dB false,dB true,dB false,dB false,dB true,dB false,dB true,dB false,dB false] (.agg [dB false,dB true,dB false,dB false,dB true,dB false,dB true,dB false,dB false]),.t 3 (Z7j)] ⟨⟨rfl,rfl,by kernel_rfl,by kernel_rfl,.inl ⟨9,Jp,rfl,Nat.le_of_ble_eq_true rfl⟩⟩,⟨⟨rfl,by kernel_rfl⟩,trivial⟩⟩ [] (gc2 (show (Xi k)=⟨false,true,false,false,true,false,true,false,false⟩ from Eh) (show ((decide (okK k)):Bool)=true from Eh) (fun qq0 (q10:Bool)=>(.tup [.agg [dB (qq0.Y1),dB (qq0.Xs),dB (qq0.Xh),dB (qq0.X9),dB (qq0.Xc),dB (qq0.X0),dB (qq0.Xp),dB (qq0.Y4),dB (qq0.X6)],.one (dB q10)]:AV))) trivial
 refine cF (dF hq11) (T.skip (nB (nT (sR [] (T.ret ?_)))))
 exact eX [.c 2 0 119 0 119 [dB false,dB false,dB false,dB false,dB false,dB false,dB false,dB false,dB false] (.agg [dB false,dB false,dB false,dB false,dB false,dB false,dB false,dB false,dB false]),.t 3 (.one (dB false))] ⟨⟨rfl,rfl,by kernel_rfl,by kernel_rfl,.inl ⟨9,Jp,rfl,Nat.le_of_ble_eq_true rfl⟩⟩,⟨⟨rfl,by kernel_rfl⟩,trivial⟩⟩ [] (gc2 (show (Xi k)=⟨false,false,false,false,false,false,false,false,false⟩ from Eh) (by exact dF (by unfold okK;omega)) (fun qq0 (q10:Bool)=>(.tup [.agg [dB (qq0.Y1),dB (qq0.Xs),dB (qq0.Xh),dB (qq0.X9),dB (qq0.Xc),dB (qq0.X0),dB (qq0.Xp),dB (qq0.Y4),dB (qq0.X6)],.one (dB q10)]:AV))) trivial
abbrev Z7l:TV:=.one (dI 1)
abbrev Z7m:TV:=.one (dI 0)
theorem Xbt (k:Int):Holds Tryz.prog 119 ⟨[vI k],[],.tup [.one (dI (X3q k)),.one (dI (X2u k))],[]⟩:=by
 refine Holds.of Tryz.func119 rfl (N:=15) Tryz.ntmps119 rfl fun w0 B0 S0 U0=>?_
 show T _ (Y2 15 0 w0 S0 U0 B0) ⟨[vI k],[]⟩ _ _
 refine sR [] (sR [] (T.seq (sR [] (T.block (sR [] ?_)))))
 by_cases hq1:k=6
 ·refine cT (dT hq1) (sR [] (xK [] (nB (nT (sR [] (T.ret ?_))))))
  exact eX [.t 2 (Z7l),.t 3 (Z7m)] ⟨⟨rfl,by kernel_rfl⟩,⟨⟨rfl,by kernel_rfl⟩,trivial⟩⟩ [] (by have e1:(X3q k:Int)=1:=p2u;have e2:(X2u k:Int)=0:=p2u;have hE:=congr p2f e2;exact hE) trivial
 refine cF (dF hq1) (sR [] ?_)
 by_cases hq2:k=7
 ·refine cT (dT hq2) (xK [] (nB (nT (sR [] (T.ret ?_)))))
  exact eX [.t 2 (Z7l),.t 3 (Z7l)] ⟨⟨rfl,by kernel_rfl⟩,⟨⟨rfl,by kernel_rfl⟩,trivial⟩⟩ [] (by have e1:(X3q k:Int)=1:=p2u;have e2:(X2u k:Int)=1:=p2u;have hE:=congr p2f e2;exact hE) trivial
 refine cF (dF hq2) (sR [] ?_)
 by_cases hq3:k=9
 ·refine cT (dT hq3) (xK [] (nB (nT (sR [] (T.ret ?_)))))
  exact eX [.t 2 (Z7m),.t 3 (Z7m)] ⟨⟨rfl,by kernel_rfl⟩,⟨⟨rfl,by kernel_rfl⟩,trivial⟩⟩ [] (by have e1:(X3q k:Int)=0:=p2u;have e2:(X2u k:Int)=0:=p2u;have hE:=congr p2f e2;exact hE) trivial
 refine cF (dF hq3) (T.skip (nB (nT (sR [] (T.ret ?_)))))
 exact eX [.t 2 (Z7m),.t 3 (Z7l)] ⟨⟨rfl,by kernel_rfl⟩,⟨⟨rfl,by kernel_rfl⟩,trivial⟩⟩ [] (by have e1:(X3q k:Int)=0:=p2u;have e2:(X2u k:Int)=1:=p2u;have hE:=congr p2f e2;exact hE) trivial
theorem U6 (n:Int) (had:Bool) (lo:Int):Holds Tryz.prog 120 ⟨[vI n,vB had,vI lo],[],vB (decide (X0f n had lo)),[]⟩:=by
 refine Holds.of Tryz.func120 rfl (N:=18) Tryz.ntmps120 rfl fun w0 B0 S0 U0=>?_
 show T _ (Y2 18 0 w0 S0 U0 B0) ⟨[vI n,vB had,vI lo],[]⟩ _ _
 refine sR [] (T.seq (sR [] ?_))
 by_cases hq1:had=true
 ·refine cF (cn hq1) (T.skip (nT ?_))
  by_cases hq2:n≥lo
  ·refine sR [hY 4 (dT hq2),hY 5 (dT hq2),hP 6 (dT hq2)] (T.ret ?_)
   exact eRt 6 (.one (dB (decide (n≤1099511627776)))) [] (by have e1:((decide (X0f n had lo)):Bool)=(decide (n≤1099511627776)):=(by (simp [X0f, *];done));have hE:=cB e1;exact hE) trivial
  refine sR [hN 4 true (dF hq2),hN 5 true (dF hq2),hP 6 (dF hq2)] (T.ret ?_)
  exact eRt 6 (.one (dB false)) [] (by have e1:((decide (X0f n had lo)):Bool)=false:=(by (simp [X0f, *];done));have hE:=cB e1;exact hE) trivial
 replace hq1:=Bool.eq_false_iff.2 hq1
 refine cT (cn hq1) (sR [] (T.ret (rT ?_)))
 exact eRt 6 (.one (dB (decide (n=0)))) [] (by have e1:((decide (X0f n had lo)):Bool)=(decide (n=0)):=(by (simp [X0f, *];done));have hE:=cB e1;exact hE) trivial
section
variable (tm:Bool) (m:aM) (h:aH) (k:Nat)
abbrev Z7n:List SV:=[dI m.X1,dI m.Y1,dI m.Xs,dI m.Xh,dI m.Yh,dS m.X9,.d (dsl tm false kU8 m.Xc),dI m.X0.Xt,dI m.X0.Xn,.d (dsl tm false (kE tm) m.Xp),.d (dsl tm false (kE tm) m.Y4),.d (dsl tm false (kC tm) m.X6)]
abbrev Z7o:AV:=.tv (.agg (Z7n tm m))
abbrev Z7p:List SV:=[dB h.Y1,dB h.Xs,dB h.Xh,dB h.X9,dB h.Xc,dB h.X0,dB h.Xp,dB h.Y4,dB h.X6]
abbrev Z7q:AV:=.tv (.agg (Z7p h))
abbrev Z7r:List AV:=[(Z7o tm m),(Z7q h),pv 0 0,pv 1 0,vB false,vI (if h.Xp=true then 7 else 0),aa,aa,aa,vB h.Xp]
abbrev Z7s:List HS:=[.live (.box 78 (Z7n tm m)),.live (.box 119 (Z7p h))]
abbrev Z7t:List AV:=[(Z7o tm m),(Z7q h),pv 0 0,pv 1 0,vB false,vI 7,aa,aa,aa,vB h.Xp]
abbrev Z7u:List AV:=[(Z7o tm m),(Z7q h),pv 0 0,pv 1 0,vB false,vI 0,aa,aa,aa,vB h.Xp]
abbrev Z7v:AV:=vI (maxB m.X1 h)
abbrev Z7w:AV:=vB (decide (m.X1=2))
abbrev Z7x:List AV:=[(Z7o tm m),(Z7q h),pv 0 0,pv 1 0,vB false,(Z7v m h),aa,aa,aa,vB h.Xp,aa,aa,(Z7w m)]
abbrev Z7y:List AV:=[(Z7o tm m),(Z7q h),pv 0 0,pv 1 0,vB false,vI 4,aa,aa,aa,vB h.Xp,aa,aa,(Z7w m)]
abbrev Z7z:List AV:=[(Z7o tm m),(Z7q h),pv 0 0,pv 1 0,vB false,vI (if h.Xp=true then 7 else 0),aa,aa,aa,vB h.Xp,aa,aa,(Z7w m)]
abbrev Z80:List AV:=[(Z7o tm m),(Z7q h),pv 0 0,pv 1 0,vB false,(Z7v m h),vI (maxP h),aa,aa,vB h.Xp,aa,aa,(Z7w m),aa,vB h.Y4]
abbrev Z81:List AV:=[(Z7o tm m),(Z7q h),pv 0 0,pv 1 0,vB false,(Z7v m h),vI 8,aa,aa,vB h.Xp,aa,aa,(Z7w m),aa,vB h.Y4]
abbrev Z82:List AV:=[(Z7o tm m),(Z7q h),pv 0 0,pv 1 0,vB false,(Z7v m h),vI 0,aa,aa,vB h.Xp,aa,aa,(Z7w m),aa,vB h.Y4]
abbrev Z83:TV:=.one (dB false)
abbrev Z84:AV:=vB (decide (((m.Y4.length:Nat):Int)>(maxP h)))
abbrev Z85:AV:=vB (decide (((m.X6.length:Nat):Int)>8))
abbrev Z86:St:=⟨[(Z7o tm m),(Z7q h),pv 0 0,pv 1 0,vB false,(Z7v m h),vI (maxP h),vI ((k:Nat):Int),aa,vB h.Xp,aa,aa,(Z7w m),aa,vB h.Y4,aa,aa,aa,aa,aa,aa,aa,aa,aa,aa,aa,(Z84 m h),aa,aa,aa,aa,aa,aa,aa,aa,aa,aa,aa,aa,aa,aa,aa,aa,aa,aa,aa,aa,aa,aa,aa,aa,aa,(Z85 m)],(Z7s tm m h)⟩
abbrev Z89:TV:=.one (dB true)
abbrev Z8a:AV:=vB (decide (((m.X6.length:Nat):Int)>0))
end
theorem Ww (tm:Bool) (m:aM) (h:aH) (hq:m.Xp.length≤9223372036854775807) (hr:m.Y4.length≤9223372036854775807) (hc:m.X6.length≤9223372036854775807):Holds Tryz.prog 121 ⟨[.tv (.agg [dI m.X1,dI m.Y1,dI m.Xs,dI m.Xh,dI m.Yh,dS m.X9,.d (dsl tm false kU8 m.Xc),dI m.X0.Xt,dI m.X0.Xn,.d (dsl tm false (kE tm) m.Xp),.d (dsl tm false (kE tm) m.Y4),.d (dsl tm false (kC tm) m.X6)]),.tv (.agg [dB h.Y1,dB h.Xs,dB h.Xh,dB h.X9,dB h.Xc,dB h.X0,dB h.Xp,dB h.Y4,dB h.X6])],[],vB (decide (El m h)),[]⟩:=by
 refine Holds.of Tryz.func121 rfl (N:=68) Tryz.ntmps121 rfl fun w0 B0 S0 U0=>?_
 show T _ (Y2 68 0 w0 S0 U0 B0) ⟨[(Z7o tm m),(Z7q h)],[]⟩ _ _
 refine sR [] (sR [] ?_)
 refine Um ⟨(Z7r tm m h),(Z7s tm m h)⟩ ?_ ?_
 ·refine sR [] ?_
  by_cases hq1:h.Xp=true
  ·refine cT hq1 (xK [] ?_)
   refine eN ⟨(Z7t tm m h),(Z7s tm m h)⟩ ?_
   refine X7 (s':=⟨(Z7r tm m h),(Z7s tm m h)⟩) (fun _ _ hG=>Yv [0,1] (bm 10 575) (t2:=(Z7t tm m h)) (congrArg (fun (q1:Int)=>([(Z7o tm m),(Z7q h),pv 0 0,pv 1 0,vB false,vI q1,aa,aa,aa,vB h.Xp]:List AV)) (by exact if_pos ‹_›)) rfl hG) ?_
   exact nJ
  replace hq1:=Bool.eq_false_iff.2 hq1
  refine cF hq1 (T.skip ?_)
  refine eN ⟨(Z7u tm m h),(Z7s tm m h)⟩ ?_
  refine X7 (s':=⟨(Z7r tm m h),(Z7s tm m h)⟩) (fun _ _ hG=>Yv [0,1] (bm 10 575) (t2:=(Z7u tm m h)) (congrArg (fun (q1:Int)=>([(Z7o tm m),(Z7q h),pv 0 0,pv 1 0,vB false,vI q1,aa,aa,aa,vB h.Xp]:List AV)) (by exact if_neg (nbB ‹_›))) rfl hG) ?_
  exact nJ
 refine Um ⟨(Z7x tm m h),(Z7s tm m h)⟩ ?_ ?_
 ·refine sR [] ?_
  by_cases hq2:m.X1=2
  ·refine cT (dT hq2) (xK [] ?_)
   refine eN ⟨(Z7y tm m h),(Z7s tm m h)⟩ ?_
   refine X7 (s':=⟨(Z7x tm m h),(Z7s tm m h)⟩) (fun _ _ hG=>Yv [0,1] (bm 13 4671) (t2:=(Z7y tm m h)) (congrArg (fun (q1:Int)=>([(Z7o tm m),(Z7q h),pv 0 0,pv 1 0,vB false,vI q1,aa,aa,aa,vB h.Xp,aa,aa,(Z7w m)]:List AV)) (by exact if_pos ‹_›)) rfl hG) ?_
   exact nJ
  refine cF (dF hq2) (T.skip ?_)
  refine eN ⟨(Z7z tm m h),(Z7s tm m h)⟩ ?_
  refine X7 (s':=⟨(Z7x tm m h),(Z7s tm m h)⟩) (fun _ _ hG=>Yv [0,1] (bm 13 4671) (t2:=(Z7z tm m h)) (congrArg (fun (q1:Int)=>([(Z7o tm m),(Z7q h),pv 0 0,pv 1 0,vB false,vI q1,aa,aa,aa,vB h.Xp,aa,aa,(Z7w m)]:List AV)) (by exact if_neg ‹_›)) rfl hG) ?_
  exact nJ
 refine sR [] ?_
 refine Um ⟨(Z80 tm m h),(Z7s tm m h)⟩ ?_ ?_
 ·refine sR [] ?_
  by_cases hq3:h.Y4=true
  ·refine cT hq3 (xK [] ?_)
   refine eN ⟨(Z81 tm m h),(Z7s tm m h)⟩ ?_
   refine X7 (s':=⟨(Z80 tm m h),(Z7s tm m h)⟩) (fun _ _ hG=>Yv [0,1] (bm 15 21119) (t2:=(Z81 tm m h)) (congrArg (fun (q1:Int)=>([(Z7o tm m),(Z7q h),pv 0 0,pv 1 0,vB false,(Z7v m h),vI q1,aa,aa,vB h.Xp,aa,aa,(Z7w m),aa,vB h.Y4]:List AV)) (by exact if_pos ‹_›)) rfl hG) ?_
   exact nJ
  replace hq3:=Bool.eq_false_iff.2 hq3
  refine cF hq3 (T.skip ?_)
  refine eN ⟨(Z82 tm m h),(Z7s tm m h)⟩ ?_
  refine X7 (s':=⟨(Z80 tm m h),(Z7s tm m h)⟩) (fun _ _ hG=>Yv [0,1] (bm 15 21119) (t2:=(Z82 tm m h)) (congrArg (fun (q1:Int)=>([(Z7o tm m),(Z7q h),pv 0 0,pv 1 0,vB false,(Z7v m h),vI q1,aa,aa,vB h.Xp,aa,aa,(Z7w m),aa,vB h.Y4]:List AV)) (by exact if_neg (nbB ‹_›))) rfl hG) ?_
  exact nJ
 refine T.seq ?_
 by_cases hq4:((m.Xp.length:Nat):Int)>(maxB m.X1 h)
 ·refine sR (Xm (hN · false (dT hq4)) [6,7,8,9,10] (hP 11 (dT hq4)::[])) (cT (b:=true) rfl (sR [] (T.ret (rT ?_))))
  exact eRt 4 (Z83) [] (cB (by (refine dF (fun h9=>?_);exact absurd h9.1 (by omega)))) trivial
 refine sR (Xm (hY · (dF hq4)) [6,7,8,9,10] (hP 11 (dF hq4)::[])) ?_
 by_cases hq5:((m.Y4.length:Nat):Int)>(maxP h)
 ·refine cT (dT hq5) (sR [] (T.ret (rT ?_)))
  exact eRt 4 (Z83) [] (cB (by (refine dF (fun h9=>?_);exact absurd h9.2.1 (by omega)))) trivial
 refine cF (dF hq5) (T.skip (nT (T.seq ?_)))
 by_cases hq6:m.X1=10
 ·by_cases hq7:((m.X6.length:Nat):Int)≠1
  ·refine sR (Xm (hY · (dT hq6)) [4,5,6,7] (hP 8 (dT hq6)::(Xm (hN · false (dT hq7)) [10,11,12,13] (hU 14::(hU 15::(hU 16::(hU 17::(hN 18 false (dT hq7)::(hP 19 (dT hq7)::(Xm hN0 [21,22,23,24] (hP1 25::[]))))))))))) (cT (b:=true) rfl (sR [] (T.ret (rT ?_))))
   exact eRt 4 (Z83) [] (cB (by (refine dF (fun h9=>?_);exact h9.2.2.1 ⟨by assumption,by assumption⟩))) trivial
  by_cases hq8:h.X6=true
  ·refine sR (Xm (hY · (dT hq6)) [4,5,6,7] (hP 8 (dT hq6)::(Xm (hY · (dF hq7)) [10,11,12,13] (Xm (hN · true (cn hq8)) [14,15,16,17] (hS 18 (oY rfl rfl rfl rfl (X3 rfl) (dF hq7) (Wo (b:=(!h.X6)) (av:=vB false) (X3 rfl) ⟨rfl,trivial⟩ (cn hq8)))::(hP 19 (dF hq7)::(Xm hY0 [21,22,23,24] (hP0 25::[])))))))) ?_
   by_cases hq9:((m.X6.length:Nat):Int)>8
   ·refine cT (dT hq9) (sR [] (T.ret (rT ?_)))
    exact eRt 4 (Z83) [] (cB (by (refine dF (fun h9=>?_);exact absurd h9.2.2.2.2.1 (by omega)))) trivial
   refine cF (dF hq9) (T.skip (nT (T.seq (sR [] (T.block ?_)))))
   refine T.loop (ι:=Nat) (fun (k:Nat)=>(Z86 tm m h k)) (fun (k:Nat)=>(k≤m.X6.length)∧(∀ j,j<k→(m.X6.getD j zC).Xu.length≤7)) (fun (k:Nat)=>m.X6.length-k) (0) ⟨(Nat.zero_le _),(fun j hj=>absurd hj (Nat.not_lt_zero _))⟩ (fun _ _ hG=>Yv [0,1] (bm 53 4503599694500607) rfl rfl hG) ?_
   rintro k ⟨hk,hb⟩
   show T _ _ (Z86 tm m h k) _ _
   replace hk:k≤m.X6.length:=hk
   replace hb:∀ j,j<k→(m.X6.getD j zC).Xu.length≤7:=hb
   refine T.seq (sR [] ?_)
   by_cases hq10:((k:Nat):Int)<((m.X6.length:Nat):Int)
   ·refine cT (dT hq10) (T.skip (nT (T.seq (T.block (sR [hR 3 rfl rfl (We tm false (kC tm) m.X6 k (k:=.i64) (i:=((k:Nat):Int)) Tryz.underlying76 Fp rfl rfl (by omega) (X3 rfl) trivial)] ?_)))))
    by_cases hq11:(((m.X6.getD k zC).Xu.length:Nat):Int)>7
    ·refine cT (dT hq11) (sR [] (T.ret (rB (rT (rT (rB (rT ?_)))))))
     exact eRt 4 (Z83) [] (cB (by (refine dF (fun h9=>?_);exact absurd (h9.2.2.2.2.2 _ (J3 (z:=zC) (k:=k) (by omega))) (by omega)))) trivial
    refine cF (dF hq11) (T.skip (nB (nT (xK [hR 1 rfl rfl (Yd (u1:=.int .i64 ((k:Nat):Int)) (u2:=.int .i64 1) (v:=.int .i64 ((k+1:Nat):Int)) (Wb pc) (X3 rfl) ⟨rfl,trivial⟩)] ?_))))
    refine nL (k+1) ⟨(show (k+1)≤m.X6.length from (by omega)),(show ∀ j,j<(k+1)→(m.X6.getD j zC).Xu.length≤7 from (Ut hb (by omega)))⟩ (show (m.X6.length-(k+1):Nat)<m.X6.length-k from (by omega)) (fun _ _ hG=>Yv [0,1] (bm 53 4503599694500607) rfl rfl hG)
   refine cF (dF hq10) (T.exit (xT (xT (xH (nT (sR [] (T.ret ?_)))))))
   exact eRt 4 (Z89) [] (cB (by (refine dT ⟨by omega,by omega,(fun h8=>by exact absurd h8.2 ‹_›),(fun h8=>by exact absurd ‹_› h8.1),by omega,X22 hb (by omega)⟩))) trivial
  replace hq8:=Bool.eq_false_iff.2 hq8
  by_cases hq12:((m.X6.length:Nat):Int)>0
  ·refine sR (Xm (hY · (dT hq6)) [4,5,6,7] (hP 8 (dT hq6)::(Xm (hY · (dF hq7)) [10,11,12,13] (Xm (hY · (cn hq8)) [14,15,16,17] (hS 18 (oY rfl rfl rfl rfl (X3 rfl) (dF hq7) (Wc (b:=(!h.X6)) (av:=(Z8a m)) (X3 rfl) trivial (cn hq8)))::(hP 19 (dF hq7)::(Xm (hN · false (dT hq12)) [21,22,23,24] (hP 25 (dT hq12)::[])))))))) (cT (b:=true) rfl (sR [] (T.ret (rT ?_))))
   exact eRt 4 (Z83) [] (cB (by (refine dF (fun h9=>?_);exact h9.2.2.2.1 ⟨(by exact nbB ‹_›),by assumption⟩))) trivial
  refine sR (Xm (hY · (dT hq6)) [4,5,6,7] (hP 8 (dT hq6)::(Xm (hY · (dF hq7)) [10,11,12,13] (Xm (hY · (cn hq8)) [14,15,16,17] (hS 18 (oY rfl rfl rfl rfl (X3 rfl) (dF hq7) (Wc (b:=(!h.X6)) (av:=(Z8a m)) (X3 rfl) trivial (cn hq8)))::(hP 19 (dF hq7)::(Xm (hY · (dF hq12)) [21,22,23,24] (hP 25 (dF hq12)::[])))))))) ?_
  by_cases hq13:((m.X6.length:Nat):Int)>8
  ·refine cT (dT hq13) (sR [] (T.ret (rT ?_)))
   exact eRt 4 (Z83) [] (cB (by (refine dF (fun h9=>?_);exact absurd h9.2.2.2.2.1 (by omega)))) trivial
  refine cF (dF hq13) (T.skip (nT (T.seq (sR [] (T.block ?_)))))
  refine T.loop (ι:=Nat) (fun (k:Nat)=>(Z86 tm m h k)) (fun (k:Nat)=>(k≤m.X6.length)∧(∀ j,j<k→(m.X6.getD j zC).Xu.length≤7)) (fun (k:Nat)=>m.X6.length-k) (0) ⟨(Nat.zero_le _),(fun j hj=>absurd hj (Nat.not_lt_zero _))⟩ (fun _ _ hG=>Yv [0,1] (bm 53 4503599694500607) rfl rfl hG) ?_
  rintro k ⟨hk,hb⟩
  show T _ _ (Z86 tm m h k) _ _
  replace hk:k≤m.X6.length:=hk
  replace hb:∀ j,j<k→(m.X6.getD j zC).Xu.length≤7:=hb
  refine T.seq (sR [] ?_)
  by_cases hq14:((k:Nat):Int)<((m.X6.length:Nat):Int)
  ·refine cT (dT hq14) (T.skip (nT (T.seq (T.block (sR [hR 3 rfl rfl (We tm false (kC tm) m.X6 k (k:=.i64) (i:=((k:Nat):Int)) Tryz.underlying76 Fp rfl rfl (by omega) (X3 rfl) trivial)] ?_)))))
   by_cases hq15:(((m.X6.getD k zC).Xu.length:Nat):Int)>7
   ·refine cT (dT hq15) (sR [] (T.ret (rB (rT (rT (rB (rT ?_)))))))
    exact eRt 4 (Z83) [] (cB (by (refine dF (fun h9=>?_);exact absurd h9.2.2.2.2.1 (by omega)))) trivial
   refine cF (dF hq15) (T.skip (nB (nT (xK [hR 1 rfl rfl (Yd (u1:=.int .i64 ((k:Nat):Int)) (u2:=.int .i64 1) (v:=.int .i64 ((k+1:Nat):Int)) (Wb pc) (X3 rfl) ⟨rfl,trivial⟩)] ?_))))
   refine nL (k+1) ⟨(show (k+1)≤m.X6.length from (by omega)),(show ∀ j,j<(k+1)→(m.X6.getD j zC).Xu.length≤7 from (Ut hb (by omega)))⟩ (show (m.X6.length-(k+1):Nat)<m.X6.length-k from (by omega)) (fun _ _ hG=>Yv [0,1] (bm 53 4503599694500607) rfl rfl hG)
  refine cF (dF hq14) (T.exit (xT (xT (xH (nT (sR [] (T.ret ?_)))))))
  exact eRt 4 (Z89) [] (cB (by (refine dT ⟨by omega,by omega,(fun h8=>by exact absurd h8.2 ‹_›),(fun h8=>by exact absurd h8.2 ‹_›),by omega,X22 hb (by omega)⟩))) trivial
 by_cases hq16:h.X6=true
 ·refine sR (Xm (hN · true (dF hq6)) [4,5,6,7] (hP 8 (dF hq6)::(Xm hY0 [10,11,12,13] (Xm (hN · true (cn hq16)) [14,15,16,17] (hS 18 (oY (b:=false) rfl rfl rfl rfl (X3 rfl) rfl (Wo (b:=(!h.X6)) (av:=vB false) (X3 rfl) ⟨rfl,trivial⟩ (cn hq16)))::(hP0 19::(Xm hY0 [21,22,23,24] (hP0 25::[])))))))) ?_
  by_cases hq17:((m.X6.length:Nat):Int)>8
  ·refine cT (dT hq17) (sR [] (T.ret (rT ?_)))
   exact eRt 4 (Z83) [] (cB (by (refine dF (fun h9=>?_);exact absurd h9.2.2.2.2.1 (by omega)))) trivial
  refine cF (dF hq17) (T.skip (nT (T.seq (sR [] (T.block ?_)))))
  refine T.loop (ι:=Nat) (fun (k:Nat)=>(Z86 tm m h k)) (fun (k:Nat)=>(k≤m.X6.length)∧(∀ j,j<k→(m.X6.getD j zC).Xu.length≤7)) (fun (k:Nat)=>m.X6.length-k) (0) ⟨(Nat.zero_le _),(fun j hj=>absurd hj (Nat.not_lt_zero _))⟩ (fun _ _ hG=>Yv [0,1] (bm 53 4503599694500607) rfl rfl hG) ?_
  rintro k ⟨hk,hb⟩
  show T _ _ (Z86 tm m h k) _ _
  replace hk:k≤m.X6.length:=hk
  replace hb:∀ j,j<k→(m.X6.getD j zC).Xu.length≤7:=hb
  refine T.seq (sR [] ?_)
  by_cases hq18:((k:Nat):Int)<((m.X6.length:Nat):Int)
  ·refine cT (dT hq18) (T.skip (nT (T.seq (T.block (sR [hR 3 rfl rfl (We tm false (kC tm) m.X6 k (k:=.i64) (i:=((k:Nat):Int)) Tryz.underlying76 Fp rfl rfl (by omega) (X3 rfl) trivial)] ?_)))))
   by_cases hq19:(((m.X6.getD k zC).Xu.length:Nat):Int)>7
   ·refine cT (dT hq19) (sR [] (T.ret (rB (rT (rT (rB (rT ?_)))))))
    exact eRt 4 (Z83) [] (cB (by (refine dF (fun h9=>?_);exact absurd (h9.2.2.2.2.2 _ (J3 (z:=zC) (k:=k) (by omega))) (by omega)))) trivial
   refine cF (dF hq19) (T.skip (nB (nT (xK [hR 1 rfl rfl (Yd (u1:=.int .i64 ((k:Nat):Int)) (u2:=.int .i64 1) (v:=.int .i64 ((k+1:Nat):Int)) (Wb pc) (X3 rfl) ⟨rfl,trivial⟩)] ?_))))
   refine nL (k+1) ⟨(show (k+1)≤m.X6.length from (by omega)),(show ∀ j,j<(k+1)→(m.X6.getD j zC).Xu.length≤7 from (Ut hb (by omega)))⟩ (show (m.X6.length-(k+1):Nat)<m.X6.length-k from (by omega)) (fun _ _ hG=>Yv [0,1] (bm 53 4503599694500607) rfl rfl hG)
  refine cF (dF hq18) (T.exit (xT (xT (xH (nT (sR [] (T.ret ?_)))))))
  exact eRt 4 (Z89) [] (cB (by (refine dT ⟨by omega,by omega,(fun h8=>by exact absurd h8.1 ‹_›),(fun h8=>by exact absurd ‹_› h8.1),by omega,X22 hb (by omega)⟩))) trivial
 replace hq16:=Bool.eq_false_iff.2 hq16
 by_cases hq20:((m.X6.length:Nat):Int)>0
 ·refine sR (Xm (hN · true (dF hq6)) [4,5,6,7] (hP 8 (dF hq6)::(Xm hY0 [10,11,12,13] (Xm (hY · (cn hq16)) [14,15,16,17] (hS 18 (oY (b:=false) rfl rfl rfl rfl (X3 rfl) rfl (Wc (b:=(!h.X6)) (av:=(Z8a m)) (X3 rfl) trivial (cn hq16)))::(hP0 19::(Xm (hN · false (dT hq20)) [21,22,23,24] (hP 25 (dT hq20)::[])))))))) (cT (b:=true) rfl (sR [] (T.ret (rT ?_))))
  exact eRt 4 (Z83) [] (cB (by (refine dF (fun h9=>?_);exact h9.2.2.2.1 ⟨(by exact nbB ‹_›),by assumption⟩))) trivial
 refine sR (Xm (hN · true (dF hq6)) [4,5,6,7] (hP 8 (dF hq6)::(Xm hY0 [10,11,12,13] (Xm (hY · (cn hq16)) [14,15,16,17] (hS 18 (oY (b:=false) rfl rfl rfl rfl (X3 rfl) rfl (Wc (b:=(!h.X6)) (av:=(Z8a m)) (X3 rfl) trivial (cn hq16)))::(hP0 19::(Xm (hY · (dF hq20)) [21,22,23,24] (hP 25 (dF hq20)::[])))))))) ?_
 by_cases hq21:((m.X6.length:Nat):Int)>8
 ·refine cT (dT hq21) (sR [] (T.ret (rT ?_)))
  exact eRt 4 (Z83) [] (cB (by (refine dF (fun h9=>?_);exact absurd h9.2.2.2.2.1 (by omega)))) trivial
 refine cF (dF hq21) (T.skip (nT (T.seq (sR [] (T.block ?_)))))
 refine T.loop (ι:=Nat) (fun (k:Nat)=>(Z86 tm m h k)) (fun (k:Nat)=>(k≤m.X6.length)∧(∀ j,j<k→(m.X6.getD j zC).Xu.length≤7)) (fun (k:Nat)=>m.X6.length-k) (0) ⟨(Nat.zero_le _),(fun j hj=>absurd hj (Nat.not_lt_zero _))⟩ (fun _ _ hG=>Yv [0,1] (bm 53 4503599694500607) rfl rfl hG) ?_
 rintro k ⟨hk,hb⟩
 show T _ _ (Z86 tm m h k) _ _
 replace hk:k≤m.X6.length:=hk
 replace hb:∀ j,j<k→(m.X6.getD j zC).Xu.length≤7:=hb
 refine T.seq (sR [] ?_)
 by_cases hq22:((k:Nat):Int)<((m.X6.length:Nat):Int)
 ·refine cT (dT hq22) (T.skip (nT (T.seq (T.block (sR [hR 3 rfl rfl (We tm false (kC tm) m.X6 k (k:=.i64) (i:=((k:Nat):Int)) Tryz.underlying76 Fp rfl rfl (by omega) (X3 rfl) trivial)] ?_)))))
  by_cases hq23:(((m.X6.getD k zC).Xu.length:Nat):Int)>7
  ·refine cT (dT hq23) (sR [] (T.ret (rB (rT (rT (rB (rT ?_)))))))
   exact eRt 4 (Z83) [] (cB (by (refine dF (fun h9=>?_);exact absurd h9.2.2.2.2.1 (by omega)))) trivial
  refine cF (dF hq23) (T.skip (nB (nT (xK [hR 1 rfl rfl (Yd (u1:=.int .i64 ((k:Nat):Int)) (u2:=.int .i64 1) (v:=.int .i64 ((k+1:Nat):Int)) (Wb pc) (X3 rfl) ⟨rfl,trivial⟩)] ?_))))
  refine nL (k+1) ⟨(show (k+1)≤m.X6.length from (by omega)),(show ∀ j,j<(k+1)→(m.X6.getD j zC).Xu.length≤7 from (Ut hb (by omega)))⟩ (show (m.X6.length-(k+1):Nat)<m.X6.length-k from (by omega)) (fun _ _ hG=>Yv [0,1] (bm 53 4503599694500607) rfl rfl hG)
 refine cF (dF hq22) (T.exit (xT (xT (xH (nT (sR [] (T.ret ?_)))))))
 exact eRt 4 (Z89) [] (cB (by (refine dT ⟨by omega,by omega,(fun h8=>by exact absurd h8.1 ‹_›),(fun h8=>by exact absurd h8.2 ‹_›),by omega,X22 hb (by omega)⟩))) trivial
theorem iat_78:Tryz.prog.info? 78=some Tryz.t78:=by kernel_rfl
theorem Ws:Wide Tryz.prog 78 (some 12):=⟨_,_,Tryz.underlying78,.inl ⟨_,rfl⟩,iat_78,rfl⟩
section
variable (tm:Bool) (m:aM)
abbrev Z8b:AV:=.tv (.agg [dI m.X1,dI m.Y1,dI m.Xs,dI m.Xh,dI m.Yh,dS m.X9,.d (dsl tm false kU8 m.Xc),dI m.X0.Xt,dI m.X0.Xn,.d (dsl tm false (kE tm) m.Xp),.d (dsl tm false (kE tm) m.Y4),.d (dsl tm false (kC tm) m.X6)])
abbrev Z8c:AV:=vB (Xi m.X1).Y1
abbrev Z8d:AV:=vI (X3q m.X1)
abbrev Z8e:TV:=.one (dI 120)
abbrev Z8f:AV:=.tv (.agg [dB (Xi m.X1).Y1,dB (Xi m.X1).Xs,dB (Xi m.X1).Xh,dB (Xi m.X1).X9,dB (Xi m.X1).Xc,dB (Xi m.X1).X0,dB (Xi m.X1).Xp,dB (Xi m.X1).Y4,dB (Xi m.X1).X6])
abbrev Z8g:TV:=.one (dI 0)
abbrev Z8h:AV:=.tv (.agg [dI m.X0.Xt,dI m.X0.Xn])
abbrev Z8i:AV:=.tv (.agg [dI 0,dI 0])
abbrev Z8j:AV:=vB (decide (m.X0≠(Y6.mk 0 0)))
abbrev Z8k:AV:=vB (decide (((m.Xc.length:Nat):Int)>0))
end
theorem X6k (tm:Bool) (m:aM) (hq:m.Xp.length≤9223372036854775807) (hr:m.Y4.length≤9223372036854775807) (hc:m.X6.length≤9223372036854775807) (hd:m.Xc.length≤9223372036854775807) (hg:m.X9.length≤9223372036854775807):Holds Tryz.prog 61 ⟨[.tv (.agg [dI m.X1,dI m.Y1,dI m.Xs,dI m.Xh,dI m.Yh,dS m.X9,.d (dsl tm false kU8 m.Xc),dI m.X0.Xt,dI m.X0.Xn,.d (dsl tm false (kE tm) m.Xp),.d (dsl tm false (kE tm) m.Y4),.d (dsl tm false (kC tm) m.X6)])],[],vI (X75 m),[]⟩:=by
 refine Holds.of Tryz.func61 rfl (N:=100) Tryz.ntmps61 rfl fun w0 B0 S0 U0=>?_
 show T _ (Y2 100 0 w0 S0 U0 B0) ⟨[(Z8b tm m)],[]⟩ _ _
 refine sR [] (sR [hR 2 rfl rfl (rCa (X06 m.X1 ) Tryz.func62 [] [(.tmp 9,vI m.X1)] 0 0)] (sR [hR 2 rfl rfl (rCa (Xbt m.X1 ) Tryz.func119 [] [(.tmp 15,vI m.X1)] 0 0)] (T.seq ?_)))
 by_cases hq1:okK m.X1
 rotate_left
 ·refine sR (Xm (hN · false (cn (dF hq1))) [3,4,5,6,7,8,9] (hP 10 (cn (dF hq1))::(Xm hN0 [12,13,14,15,16,17,18] (hP1 19::(Xm hN0 [21,22,23,24,25,26] (hP1 27::(Xm hN0 [29,30,31,32,33,34] (hP1 35::[])))))))) (cT (b:=true) rfl (sR [] (T.ret (rT ?_))))
  exact eRt 2 (Z8e) [] (cI (by exact if_neg (fun h9=>by obtain ⟨q1,q2,q3,q4,q5,q6,q7,q8,q9,q10⟩:=(Wz m).1 h9;exact absurd q1 ‹_›))) trivial
 by_cases hq2:X0f m.Y1 (Xi m.X1).Y1 (X3q m.X1)
 rotate_left
 ·refine sR (Xm (hY · (cn (dT hq1))) [3,4,5,6,7] (hS 8 (oY rfl rfl rfl rfl (X3 rfl) (cn (dT hq1)) (rCa (U6 m.Y1 (Xi m.X1).Y1 (X3q m.X1) ) Tryz.func120 [] [(.tmp 23,vI m.Y1),(.tmp 25,(Z8c m)),(.tmp 26,(Z8d m))] 0 0))::(hY 9 (cn (dT hq1))::(hP 10 (cn (dT hq1))::(Xm (hN · false (cn (dF hq2))) [12,13,14,15,16,17,18] (hP 19 (cn (dF hq2))::(Xm hN0 [21,22,23,24,25,26] (hP1 27::(Xm hN0 [29,30,31,32,33,34] (hP1 35::[])))))))))) (cT (b:=true) rfl (sR [] (T.ret (rT ?_))))
  exact eRt 2 (Z8e) [] (cI (by exact if_neg (fun h9=>by obtain ⟨q1,q2,q3,q4,q5,q6,q7,q8,q9,q10⟩:=(Wz m).1 h9;exact absurd q2 ‹_›))) trivial
 by_cases hq3:X0f m.Xs (Xi m.X1).Xs (X2u m.X1)
 rotate_left
 ·refine sR (Xm (hY · (cn (dT hq1))) [3,4,5,6,7] (hS 8 (oY rfl rfl rfl rfl (X3 rfl) (cn (dT hq1)) (rCa (U6 m.Y1 (Xi m.X1).Y1 (X3q m.X1) ) Tryz.func120 [] [(.tmp 23,vI m.Y1),(.tmp 25,(Z8c m)),(.tmp 26,(Z8d m))] 0 0))::(hY 9 (cn (dT hq1))::(hP 10 (cn (dT hq1))::(Xm (hY · (cn (dT hq2))) [12,13,14,15,16] (hS 17 (oY rfl rfl rfl rfl (X3 rfl) (cn (dT hq2)) (rCa (U6 m.Xs (Xi m.X1).Xs (X2u m.X1) ) Tryz.func120 [] [(.tmp 32,vI m.Xs),(.tmp 34,vB (Xi m.X1).Xs),(.tmp 35,vI (X2u m.X1))] 0 0))::(hY 18 (cn (dT hq2))::(hP 19 (cn (dT hq2))::(Xm (hN · false (cn (dF hq3))) [21,22,23,24,25,26] (hP 27 (cn (dF hq3))::(Xm hN0 [29,30,31,32,33,34] (hP1 35::[])))))))))))) (cT (b:=true) rfl (sR [] (T.ret (rT ?_))))
  exact eRt 2 (Z8e) [] (cI (by exact if_neg (fun h9=>by obtain ⟨q1,q2,q3,q4,q5,q6,q7,q8,q9,q10⟩:=(Wz m).1 h9;exact absurd q3 ‹_›))) trivial
 by_cases hq4:X0f m.Xh (Xi m.X1).Xh 0
 rotate_left
 ·refine sR (Xm (hY · (cn (dT hq1))) [3,4,5,6,7] (hS 8 (oY rfl rfl rfl rfl (X3 rfl) (cn (dT hq1)) (rCa (U6 m.Y1 (Xi m.X1).Y1 (X3q m.X1) ) Tryz.func120 [] [(.tmp 23,vI m.Y1),(.tmp 25,(Z8c m)),(.tmp 26,(Z8d m))] 0 0))::(hY 9 (cn (dT hq1))::(hP 10 (cn (dT hq1))::(Xm (hY · (cn (dT hq2))) [12,13,14,15,16] (hS 17 (oY rfl rfl rfl rfl (X3 rfl) (cn (dT hq2)) (rCa (U6 m.Xs (Xi m.X1).Xs (X2u m.X1) ) Tryz.func120 [] [(.tmp 32,vI m.Xs),(.tmp 34,vB (Xi m.X1).Xs),(.tmp 35,vI (X2u m.X1))] 0 0))::(hY 18 (cn (dT hq2))::(hP 19 (cn (dT hq2))::(Xm (hY · (cn (dT hq3))) [21,22,23,24] (hS 25 (oY rfl rfl rfl rfl (X3 rfl) (cn (dT hq3)) (rCa (U6 m.Xh (Xi m.X1).Xh 0 ) Tryz.func120 [] [(.tmp 41,vI m.Xh),(.tmp 43,vB (Xi m.X1).Xh),(.const (.int .i64 0),vI 0)] 0 0))::(hY 26 (cn (dT hq3))::(hP 27 (cn (dT hq3))::(Xm (hN · false (cn (dF hq4))) [29,30,31,32,33,34] (hP 35 (cn (dF hq4))::[])))))))))))))) ?_
  refine cT (b:=true) rfl (sR [] (T.ret (rT ?_)))
  exact eRt 2 (Z8e) [] (cI (by exact if_neg (fun h9=>by obtain ⟨q1,q2,q3,q4,q5,q6,q7,q8,q9,q10⟩:=(Wz m).1 h9;exact absurd q4 ‹_›))) trivial
 refine sR (Xm (hY · (cn (dT hq1))) [3,4,5,6,7] (hS 8 (oY rfl rfl rfl rfl (X3 rfl) (cn (dT hq1)) (rCa (U6 m.Y1 (Xi m.X1).Y1 (X3q m.X1) ) Tryz.func120 [] [(.tmp 23,vI m.Y1),(.tmp 25,(Z8c m)),(.tmp 26,(Z8d m))] 0 0))::(hY 9 (cn (dT hq1))::(hP 10 (cn (dT hq1))::(Xm (hY · (cn (dT hq2))) [12,13,14,15,16] (hS 17 (oY rfl rfl rfl rfl (X3 rfl) (cn (dT hq2)) (rCa (U6 m.Xs (Xi m.X1).Xs (X2u m.X1) ) Tryz.func120 [] [(.tmp 32,vI m.Xs),(.tmp 34,vB (Xi m.X1).Xs),(.tmp 35,vI (X2u m.X1))] 0 0))::(hY 18 (cn (dT hq2))::(hP 19 (cn (dT hq2))::(Xm (hY · (cn (dT hq3))) [21,22,23,24] (hS 25 (oY rfl rfl rfl rfl (X3 rfl) (cn (dT hq3)) (rCa (U6 m.Xh (Xi m.X1).Xh 0 ) Tryz.func120 [] [(.tmp 41,vI m.Xh),(.tmp 43,vB (Xi m.X1).Xh),(.const (.int .i64 0),vI 0)] 0 0))::(hY 26 (cn (dT hq3))::(hP 27 (cn (dT hq3))::(Xm (hY · (cn (dT hq4))) [29,30,31,32] (hS 33 (oY rfl rfl rfl rfl (X3 rfl) (cn (dT hq4)) (rCa (U6 m.Yh (Xi m.X1).Xh 1 ) Tryz.func120 [] [(.tmp 49,vI m.Yh),(.tmp 51,vB (Xi m.X1).Xh),(.const (.int .i64 1),vI 1)] 0 0))::(hY 34 (cn (dT hq4))::(hP 35 (cn (dT hq4))::[])))))))))))))))) ?_
 by_cases hq5:X0f m.Yh (Xi m.X1).Xh 1
 rotate_left
 ·refine cT (cn (dF hq5)) (sR [] (T.ret (rT ?_)))
  exact eRt 2 (Z8e) [] (cI (by exact if_neg (fun h9=>by obtain ⟨q1,q2,q3,q4,q5,q6,q7,q8,q9,q10⟩:=(Wz m).1 h9;exact absurd q5 ‹_›))) trivial
 refine cF (cn (dT hq5)) (T.skip (nT (T.seq ?_)))
 by_cases hq6:m.X1=1
 ·refine sR (Xm (hY · (dT hq6)) [4,5,6,7] (hP 8 (dT hq6)::[])) ?_
  by_cases hq7:((m.Xc.length:Nat):Int)>4096
  ·refine cT (dT hq7) (sR [] (T.ret (rT ?_)))
   exact eRt 2 (Z8e) [] (cI (by exact if_neg (fun h9=>by obtain ⟨q1,q2,q3,q4,q5,q6,q7,q8,q9,q10⟩:=(Wz m).1 h9;exact q6 ⟨by assumption,by assumption⟩))) trivial
  refine cF (dF hq7) (T.skip (nT (T.seq ?_)))
  by_cases hq8:(Xi m.X1).X9=true
  ·by_cases hq9:(Xi m.X1).Xc=true
   ·by_cases hq10:(Xi m.X1).X0=true
    ·refine sR (Xm (hN · true (cn hq8)) [4,5,6] (hP 7 (cn hq8)::(Xm hY0 [9,10,11,12] (Xm (hN · true (cn hq9)) [13,14,15,16] (hS 17 (oY (b:=false) rfl rfl rfl rfl (X3 rfl) rfl (Wo (b:=(!(Xi m.X1).Xc)) (av:=vB false) (X3 rfl) ⟨rfl,trivial⟩ (cn hq9)))::(hP0 18::(Xm hY0 [20,21,22,23] (Xm (hN · true (cn hq10)) [24,25,26,27] (hS 28 (oY (b:=false) rfl rfl rfl rfl (X3 rfl) rfl (Wo (b:=(!(Xi m.X1).X0)) (av:=vB false) (X3 rfl) ⟨rfl,trivial⟩ (cn hq10)))::(hP0 29::(hY0 31::(hY0 32::(hS 33 (oY (b:=false) rfl rfl rfl rfl (X3 rfl) rfl (rCa (Ww tm m (aH.mk (Xi m.X1).Y1 (Xi m.X1).Xs (Xi m.X1).Xh (Xi m.X1).X9 (Xi m.X1).Xc (Xi m.X1).X0 (Xi m.X1).Xp (Xi m.X1).Y4 (Xi m.X1).X6) ‹_› ‹_› ‹_›) Tryz.func121 [] [(.tmp 95,(Z8b tm m)),(.tmp 96,(Z8f m))] 0 0))::(hY0 34::(hP0 35::[]))))))))))))))) ?_
     by_cases hq11:El m (aH.mk (Xi m.X1).Y1 (Xi m.X1).Xs (Xi m.X1).Xh (Xi m.X1).X9 (Xi m.X1).Xc (Xi m.X1).X0 (Xi m.X1).Xp (Xi m.X1).Y4 (Xi m.X1).X6)
     ·refine cF (cn (dT hq11)) (T.skip (nT (sR [] (T.ret ?_))))
      exact eRt 2 (Z8g) [] (cI (by exact if_pos ((Wz m).2 ⟨‹_›,‹_›,‹_›,‹_›,‹_›,(fun h8=>by exact absurd h8.2 ‹_›),(fun h8=>by exact absurd ‹_› h8.1),(fun h8=>by exact absurd ‹_› h8.1),(fun h8=>by exact absurd ‹_› h8.1),‹_›⟩))) trivial
     refine cT (cn (dF hq11)) (sR [] (T.ret (rT ?_)))
     exact eRt 2 (Z8e) [] ph trivial
    replace hq10:=Bool.eq_false_iff.2 hq10
    by_cases hq12:m.X0≠(Y6.mk 0 0)
    ·refine sR (Xm (hN · true (cn hq8)) [4,5,6] (hP 7 (cn hq8)::(Xm hY0 [9,10,11,12] (Xm (hN · true (cn hq9)) [13,14,15,16] (hS 17 (oY (b:=false) rfl rfl rfl rfl (X3 rfl) rfl (Wo (b:=(!(Xi m.X1).Xc)) (av:=vB false) (X3 rfl) ⟨rfl,trivial⟩ (cn hq9)))::(hP0 18::(Xm hY0 [20,21,22,23] (Xm (hY · (cn hq10)) [24,25,26] (hS 27 (oY rfl rfl rfl rfl (X3 rfl) (cn hq10) (Jm (ax:=(Z8h m)) (ay:=Z8i) (a:=m.X0) (b:=(Y6.mk 0 0)) Jx ⟨[.int .i64 m.X0.Xt,.int .i64 m.X0.Xn],rfl,rfl⟩ ⟨[.int .i64 0,.int .i64 0],rfl,rfl⟩ (X3 rfl) p1s))::(hS 28 (oY (b:=false) rfl rfl rfl rfl (X3 rfl) rfl (Wc (b:=(!(Xi m.X1).X0)) (av:=(Z8j m)) (X3 rfl) trivial (cn hq10)))::(hP0 29::(Xm (hN · false (dT hq12)) [31,32,33,34] (hP 35 (dT hq12)::[]))))))))))))) ?_
     refine cT (b:=true) rfl (sR [] (T.ret (rT ?_)))
     exact eRt 2 (Z8e) [] pZs trivial
    refine sR (Xm (hN · true (cn hq8)) [4,5,6] (hP 7 (cn hq8)::(Xm hY0 [9,10,11,12] (Xm (hN · true (cn hq9)) [13,14,15,16] (hS 17 (oY (b:=false) rfl rfl rfl rfl (X3 rfl) rfl (Wo (b:=(!(Xi m.X1).Xc)) (av:=vB false) (X3 rfl) ⟨rfl,trivial⟩ (cn hq9)))::(hP0 18::(Xm hY0 [20,21,22,23] (Xm (hY · (cn hq10)) [24,25,26] (hS 27 (oY rfl rfl rfl rfl (X3 rfl) (cn hq10) (Jm (ax:=(Z8h m)) (ay:=Z8i) (a:=m.X0) (b:=(Y6.mk 0 0)) Jx ⟨[.int .i64 m.X0.Xt,.int .i64 m.X0.Xn],rfl,rfl⟩ ⟨[.int .i64 0,.int .i64 0],rfl,rfl⟩ (X3 rfl) p1s))::(hS 28 (oY (b:=false) rfl rfl rfl rfl (X3 rfl) rfl (Wc (b:=(!(Xi m.X1).X0)) (av:=(Z8j m)) (X3 rfl) trivial (cn hq10)))::(hP0 29::(hY 31 (dF hq12)::(hY 32 (dF hq12)::(hS 33 (oY rfl rfl rfl rfl (X3 rfl) (dF hq12) (rCa (Ww tm m (aH.mk (Xi m.X1).Y1 (Xi m.X1).Xs (Xi m.X1).Xh (Xi m.X1).X9 (Xi m.X1).Xc (Xi m.X1).X0 (Xi m.X1).Xp (Xi m.X1).Y4 (Xi m.X1).X6) ‹_› ‹_› ‹_›) Tryz.func121 [] [(.tmp 95,(Z8b tm m)),(.tmp 96,(Z8f m))] 0 0))::(hY 34 (dF hq12)::(hP 35 (dF hq12)::[])))))))))))))))) ?_
    by_cases hq13:El m (aH.mk (Xi m.X1).Y1 (Xi m.X1).Xs (Xi m.X1).Xh (Xi m.X1).X9 (Xi m.X1).Xc (Xi m.X1).X0 (Xi m.X1).Xp (Xi m.X1).Y4 (Xi m.X1).X6)
    ·refine cF (cn (dT hq13)) (T.skip (nT (sR [] (T.ret ?_))))
     exact eRt 2 (Z8g) [] (cI (by exact if_pos ((Wz m).2 ⟨‹_›,‹_›,‹_›,‹_›,‹_›,(fun h8=>by exact absurd h8.2 ‹_›),(fun h8=>by exact absurd ‹_› h8.1),(fun h8=>by exact absurd ‹_› h8.1),(fun h8=>by exact absurd h8.2 ‹_›),‹_›⟩))) trivial
    refine cT (cn (dF hq13)) (sR [] (T.ret (rT ?_)))
    exact eRt 2 (Z8e) [] ph trivial
   replace hq9:=Bool.eq_false_iff.2 hq9
   by_cases hq14:((m.Xc.length:Nat):Int)>0
   ·refine sR (Xm (hN · true (cn hq8)) [4,5,6] (hP 7 (cn hq8)::(Xm hY0 [9,10,11,12] (Xm (hY · (cn hq9)) [13,14,15,16] (hS 17 (oY (b:=false) rfl rfl rfl rfl (X3 rfl) rfl (Wc (b:=(!(Xi m.X1).Xc)) (av:=(Z8k m)) (X3 rfl) trivial (cn hq9)))::(hP0 18::(Xm (hN · false (dT hq14)) [20,21,22,23] (hU 24::(hU 25::(hU 26::(hU 27::(hN 28 false (dT hq14)::(hP 29 (dT hq14)::(Xm hN0 [31,32,33,34] (hP1 35::[]))))))))))))))) (cT (b:=true) rfl (sR [] (T.ret (rT ?_))))
    exact eRt 2 (Z8e) [] p1c trivial
   by_cases hq15:(Xi m.X1).X0=true
   ·refine sR (Xm (hN · true (cn hq8)) [4,5,6] (hP 7 (cn hq8)::(Xm hY0 [9,10,11,12] (Xm (hY · (cn hq9)) [13,14,15,16] (hS 17 (oY (b:=false) rfl rfl rfl rfl (X3 rfl) rfl (Wc (b:=(!(Xi m.X1).Xc)) (av:=(Z8k m)) (X3 rfl) trivial (cn hq9)))::(hP0 18::(Xm (hY · (dF hq14)) [20,21,22,23] (Xm (hN · true (cn hq15)) [24,25,26,27] (hS 28 (oY rfl rfl rfl rfl (X3 rfl) (dF hq14) (Wo (b:=(!(Xi m.X1).X0)) (av:=vB false) (X3 rfl) ⟨rfl,trivial⟩ (cn hq15)))::(hP 29 (dF hq14)::(hY0 31::(hY0 32::(hS 33 (oY (b:=false) rfl rfl rfl rfl (X3 rfl) rfl (rCa (Ww tm m (aH.mk (Xi m.X1).Y1 (Xi m.X1).Xs (Xi m.X1).Xh (Xi m.X1).X9 (Xi m.X1).Xc (Xi m.X1).X0 (Xi m.X1).Xp (Xi m.X1).Y4 (Xi m.X1).X6) ‹_› ‹_› ‹_›) Tryz.func121 [] [(.tmp 95,(Z8b tm m)),(.tmp 96,(Z8f m))] 0 0))::(hY0 34::(hP0 35::[]))))))))))))))) ?_
    by_cases hq16:El m (aH.mk (Xi m.X1).Y1 (Xi m.X1).Xs (Xi m.X1).Xh (Xi m.X1).X9 (Xi m.X1).Xc (Xi m.X1).X0 (Xi m.X1).Xp (Xi m.X1).Y4 (Xi m.X1).X6)
    ·refine cF (cn (dT hq16)) (T.skip (nT (sR [] (T.ret ?_))))
     exact eRt 2 (Z8g) [] (cI (by exact if_pos ((Wz m).2 ⟨‹_›,‹_›,‹_›,‹_›,‹_›,(fun h8=>by exact absurd h8.2 ‹_›),(fun h8=>by exact absurd ‹_› h8.1),(fun h8=>by exact absurd h8.2 ‹_›),(fun h8=>by exact absurd ‹_› h8.1),‹_›⟩))) trivial
    refine cT (cn (dF hq16)) (sR [] (T.ret (rT ?_)))
    exact eRt 2 (Z8e) [] ph trivial
   replace hq15:=Bool.eq_false_iff.2 hq15
   by_cases hq17:m.X0≠(Y6.mk 0 0)
   ·refine sR (Xm (hN · true (cn hq8)) [4,5,6] (hP 7 (cn hq8)::(Xm hY0 [9,10,11,12] (Xm (hY · (cn hq9)) [13,14,15,16] (hS 17 (oY (b:=false) rfl rfl rfl rfl (X3 rfl) rfl (Wc (b:=(!(Xi m.X1).Xc)) (av:=(Z8k m)) (X3 rfl) trivial (cn hq9)))::(hP0 18::(Xm (hY · (dF hq14)) [20,21,22,23] (Xm (hY · (cn hq15)) [24,25,26] (hS 27 (oY rfl rfl rfl rfl (X3 rfl) (cn hq15) (Jm (ax:=(Z8h m)) (ay:=Z8i) (a:=m.X0) (b:=(Y6.mk 0 0)) Jx ⟨[.int .i64 m.X0.Xt,.int .i64 m.X0.Xn],rfl,rfl⟩ ⟨[.int .i64 0,.int .i64 0],rfl,rfl⟩ (X3 rfl) p1s))::(hS 28 (oY rfl rfl rfl rfl (X3 rfl) (dF hq14) (Wc (b:=(!(Xi m.X1).X0)) (av:=(Z8j m)) (X3 rfl) trivial (cn hq15)))::(hP 29 (dF hq14)::(Xm (hN · false (dT hq17)) [31,32,33,34] (hP 35 (dT hq17)::[]))))))))))))) ?_
    refine cT (b:=true) rfl (sR [] (T.ret (rT ?_)))
    exact eRt 2 (Z8e) [] pZs trivial
   refine sR (Xm (hN · true (cn hq8)) [4,5,6] (hP 7 (cn hq8)::(Xm hY0 [9,10,11,12] (Xm (hY · (cn hq9)) [13,14,15,16] (hS 17 (oY (b:=false) rfl rfl rfl rfl (X3 rfl) rfl (Wc (b:=(!(Xi m.X1).Xc)) (av:=(Z8k m)) (X3 rfl) trivial (cn hq9)))::(hP0 18::(Xm (hY · (dF hq14)) [20,21,22,23] (Xm (hY · (cn hq15)) [24,25,26] (hS 27 (oY rfl rfl rfl rfl (X3 rfl) (cn hq15) (Jm (ax:=(Z8h m)) (ay:=Z8i) (a:=m.X0) (b:=(Y6.mk 0 0)) Jx ⟨[.int .i64 m.X0.Xt,.int .i64 m.X0.Xn],rfl,rfl⟩ ⟨[.int .i64 0,.int .i64 0],rfl,rfl⟩ (X3 rfl) p1s))::(hS 28 (oY rfl rfl rfl rfl (X3 rfl) (dF hq14) (Wc (b:=(!(Xi m.X1).X0)) (av:=(Z8j m)) (X3 rfl) trivial (cn hq15)))::(hP 29 (dF hq14)::(hY 31 (dF hq17)::(hY 32 (dF hq17)::(hS 33 (oY rfl rfl rfl rfl (X3 rfl) (dF hq17) (rCa (Ww tm m (aH.mk (Xi m.X1).Y1 (Xi m.X1).Xs (Xi m.X1).Xh (Xi m.X1).X9 (Xi m.X1).Xc (Xi m.X1).X0 (Xi m.X1).Xp (Xi m.X1).Y4 (Xi m.X1).X6) ‹_› ‹_› ‹_›) Tryz.func121 [] [(.tmp 95,(Z8b tm m)),(.tmp 96,(Z8f m))] 0 0))::(hY 34 (dF hq17)::(hP 35 (dF hq17)::[])))))))))))))))) ?_
   by_cases hq18:El m (aH.mk (Xi m.X1).Y1 (Xi m.X1).Xs (Xi m.X1).Xh (Xi m.X1).X9 (Xi m.X1).Xc (Xi m.X1).X0 (Xi m.X1).Xp (Xi m.X1).Y4 (Xi m.X1).X6)
   ·refine cF (cn (dT hq18)) (T.skip (nT (sR [] (T.ret ?_))))
    exact eRt 2 (Z8g) [] (cI (by exact if_pos ((Wz m).2 ⟨‹_›,‹_›,‹_›,‹_›,‹_›,(fun h8=>by exact absurd h8.2 ‹_›),(fun h8=>by exact absurd ‹_› h8.1),(fun h8=>by exact absurd h8.2 ‹_›),(fun h8=>by exact absurd h8.2 ‹_›),‹_›⟩))) trivial
   refine cT (cn (dF hq18)) (sR [] (T.ret (rT ?_)))
   exact eRt 2 (Z8e) [] ph trivial
  replace hq8:=Bool.eq_false_iff.2 hq8
  by_cases hq19:m.X9≠[]
  ·refine sR (Xm (hY · (cn hq8)) [4,5,6] (hP 7 (cn hq8)::(Xm (hN · false (dT hq19)) [9,10,11,12] (hU 13::(hU 14::(hU 15::(hU 16::(hN 17 false (dT hq19)::(hP 18 (dT hq19)::(Xm hN0 [20,21,22,23] (hU 24::(hU 25::(hU 26::(hU 27::(hN0 28::(hP1 29::(Xm hN0 [31,32,33,34] (hP1 35::[])))))))))))))))))) (cT (b:=true) rfl (sR [] (T.ret (rT ?_))))
   exact eRt 2 (Z8e) [] p3h trivial
  by_cases hq20:(Xi m.X1).Xc=true
  ·by_cases hq21:(Xi m.X1).X0=true
   ·refine sR (Xm (hY · (cn hq8)) [4,5,6] (hP 7 (cn hq8)::(Xm (hY · (dF hq19)) [9,10,11,12] (Xm (hN · true (cn hq20)) [13,14,15,16] (hS 17 (oY rfl rfl rfl rfl (X3 rfl) (dF hq19) (Wo (b:=(!(Xi m.X1).Xc)) (av:=vB false) (X3 rfl) ⟨rfl,trivial⟩ (cn hq20)))::(hP 18 (dF hq19)::(Xm hY0 [20,21,22,23] (Xm (hN · true (cn hq21)) [24,25,26,27] (hS 28 (oY (b:=false) rfl rfl rfl rfl (X3 rfl) rfl (Wo (b:=(!(Xi m.X1).X0)) (av:=vB false) (X3 rfl) ⟨rfl,trivial⟩ (cn hq21)))::(hP0 29::(hY0 31::(hY0 32::(hS 33 (oY (b:=false) rfl rfl rfl rfl (X3 rfl) rfl (rCa (Ww tm m (aH.mk (Xi m.X1).Y1 (Xi m.X1).Xs (Xi m.X1).Xh (Xi m.X1).X9 (Xi m.X1).Xc (Xi m.X1).X0 (Xi m.X1).Xp (Xi m.X1).Y4 (Xi m.X1).X6) ‹_› ‹_› ‹_›) Tryz.func121 [] [(.tmp 95,(Z8b tm m)),(.tmp 96,(Z8f m))] 0 0))::(hY0 34::(hP0 35::[]))))))))))))))) ?_
    by_cases hq22:El m (aH.mk (Xi m.X1).Y1 (Xi m.X1).Xs (Xi m.X1).Xh (Xi m.X1).X9 (Xi m.X1).Xc (Xi m.X1).X0 (Xi m.X1).Xp (Xi m.X1).Y4 (Xi m.X1).X6)
    ·refine cF (cn (dT hq22)) (T.skip (nT (sR [] (T.ret ?_))))
     exact eRt 2 (Z8g) [] (cI (by exact if_pos ((Wz m).2 ⟨‹_›,‹_›,‹_›,‹_›,‹_›,(fun h8=>by exact absurd h8.2 ‹_›),(fun h8=>by exact absurd h8.2 ‹_›),(fun h8=>by exact absurd ‹_› h8.1),(fun h8=>by exact absurd ‹_› h8.1),‹_›⟩))) trivial
    refine cT (cn (dF hq22)) (sR [] (T.ret (rT ?_)))
    exact eRt 2 (Z8e) [] ph trivial
   replace hq21:=Bool.eq_false_iff.2 hq21
   by_cases hq23:m.X0≠(Y6.mk 0 0)
   ·refine sR (Xm (hY · (cn hq8)) [4,5,6] (hP 7 (cn hq8)::(Xm (hY · (dF hq19)) [9,10,11,12] (Xm (hN · true (cn hq20)) [13,14,15,16] (hS 17 (oY rfl rfl rfl rfl (X3 rfl) (dF hq19) (Wo (b:=(!(Xi m.X1).Xc)) (av:=vB false) (X3 rfl) ⟨rfl,trivial⟩ (cn hq20)))::(hP 18 (dF hq19)::(Xm hY0 [20,21,22,23] (Xm (hY · (cn hq21)) [24,25,26] (hS 27 (oY rfl rfl rfl rfl (X3 rfl) (cn hq21) (Jm (ax:=(Z8h m)) (ay:=Z8i) (a:=m.X0) (b:=(Y6.mk 0 0)) Jx ⟨[.int .i64 m.X0.Xt,.int .i64 m.X0.Xn],rfl,rfl⟩ ⟨[.int .i64 0,.int .i64 0],rfl,rfl⟩ (X3 rfl) p1s))::(hS 28 (oY (b:=false) rfl rfl rfl rfl (X3 rfl) rfl (Wc (b:=(!(Xi m.X1).X0)) (av:=(Z8j m)) (X3 rfl) trivial (cn hq21)))::(hP0 29::(Xm (hN · false (dT hq23)) [31,32,33,34] (hP 35 (dT hq23)::[]))))))))))))) ?_
    refine cT (b:=true) rfl (sR [] (T.ret (rT ?_)))
    exact eRt 2 (Z8e) [] pZs trivial
   refine sR (Xm (hY · (cn hq8)) [4,5,6] (hP 7 (cn hq8)::(Xm (hY · (dF hq19)) [9,10,11,12] (Xm (hN · true (cn hq20)) [13,14,15,16] (hS 17 (oY rfl rfl rfl rfl (X3 rfl) (dF hq19) (Wo (b:=(!(Xi m.X1).Xc)) (av:=vB false) (X3 rfl) ⟨rfl,trivial⟩ (cn hq20)))::(hP 18 (dF hq19)::(Xm hY0 [20,21,22,23] (Xm (hY · (cn hq21)) [24,25,26] (hS 27 (oY rfl rfl rfl rfl (X3 rfl) (cn hq21) (Jm (ax:=(Z8h m)) (ay:=Z8i) (a:=m.X0) (b:=(Y6.mk 0 0)) Jx ⟨[.int .i64 m.X0.Xt,.int .i64 m.X0.Xn],rfl,rfl⟩ ⟨[.int .i64 0,.int .i64 0],rfl,rfl⟩ (X3 rfl) p1s))::(hS 28 (oY (b:=false) rfl rfl rfl rfl (X3 rfl) rfl (Wc (b:=(!(Xi m.X1).X0)) (av:=(Z8j m)) (X3 rfl) trivial (cn hq21)))::(hP0 29::(hY 31 (dF hq23)::(hY 32 (dF hq23)::(hS 33 (oY rfl rfl rfl rfl (X3 rfl) (dF hq23) (rCa (Ww tm m (aH.mk (Xi m.X1).Y1 (Xi m.X1).Xs (Xi m.X1).Xh (Xi m.X1).X9 (Xi m.X1).Xc (Xi m.X1).X0 (Xi m.X1).Xp (Xi m.X1).Y4 (Xi m.X1).X6) ‹_› ‹_› ‹_›) Tryz.func121 [] [(.tmp 95,(Z8b tm m)),(.tmp 96,(Z8f m))] 0 0))::(hY 34 (dF hq23)::(hP 35 (dF hq23)::[])))))))))))))))) ?_
   by_cases hq24:El m (aH.mk (Xi m.X1).Y1 (Xi m.X1).Xs (Xi m.X1).Xh (Xi m.X1).X9 (Xi m.X1).Xc (Xi m.X1).X0 (Xi m.X1).Xp (Xi m.X1).Y4 (Xi m.X1).X6)
   ·refine cF (cn (dT hq24)) (T.skip (nT (sR [] (T.ret ?_))))
    exact eRt 2 (Z8g) [] (cI (by exact if_pos ((Wz m).2 ⟨‹_›,‹_›,‹_›,‹_›,‹_›,(fun h8=>by exact absurd h8.2 ‹_›),(fun h8=>by exact absurd h8.2 ‹_›),(fun h8=>by exact absurd ‹_› h8.1),(fun h8=>by exact absurd h8.2 ‹_›),‹_›⟩))) trivial
   refine cT (cn (dF hq24)) (sR [] (T.ret (rT ?_)))
   exact eRt 2 (Z8e) [] ph trivial
  replace hq20:=Bool.eq_false_iff.2 hq20
  by_cases hq25:((m.Xc.length:Nat):Int)>0
  ·refine sR (Xm (hY · (cn hq8)) [4,5,6] (hP 7 (cn hq8)::(Xm (hY · (dF hq19)) [9,10,11,12] (Xm (hY · (cn hq20)) [13,14,15,16] (hS 17 (oY rfl rfl rfl rfl (X3 rfl) (dF hq19) (Wc (b:=(!(Xi m.X1).Xc)) (av:=(Z8k m)) (X3 rfl) trivial (cn hq20)))::(hP 18 (dF hq19)::(Xm (hN · false (dT hq25)) [20,21,22,23] (hU 24::(hU 25::(hU 26::(hU 27::(hN 28 false (dT hq25)::(hP 29 (dT hq25)::(Xm hN0 [31,32,33,34] (hP1 35::[]))))))))))))))) (cT (b:=true) rfl (sR [] (T.ret (rT ?_))))
   exact eRt 2 (Z8e) [] p1c trivial
  by_cases hq26:(Xi m.X1).X0=true
  ·refine sR (Xm (hY · (cn hq8)) [4,5,6] (hP 7 (cn hq8)::(Xm (hY · (dF hq19)) [9,10,11,12] (Xm (hY · (cn hq20)) [13,14,15,16] (hS 17 (oY rfl rfl rfl rfl (X3 rfl) (dF hq19) (Wc (b:=(!(Xi m.X1).Xc)) (av:=(Z8k m)) (X3 rfl) trivial (cn hq20)))::(hP 18 (dF hq19)::(Xm (hY · (dF hq25)) [20,21,22,23] (Xm (hN · true (cn hq26)) [24,25,26,27] (hS 28 (oY rfl rfl rfl rfl (X3 rfl) (dF hq25) (Wo (b:=(!(Xi m.X1).X0)) (av:=vB false) (X3 rfl) ⟨rfl,trivial⟩ (cn hq26)))::(hP 29 (dF hq25)::(hY0 31::(hY0 32::(hS 33 (oY (b:=false) rfl rfl rfl rfl (X3 rfl) rfl (rCa (Ww tm m (aH.mk (Xi m.X1).Y1 (Xi m.X1).Xs (Xi m.X1).Xh (Xi m.X1).X9 (Xi m.X1).Xc (Xi m.X1).X0 (Xi m.X1).Xp (Xi m.X1).Y4 (Xi m.X1).X6) ‹_› ‹_› ‹_›) Tryz.func121 [] [(.tmp 95,(Z8b tm m)),(.tmp 96,(Z8f m))] 0 0))::(hY0 34::(hP0 35::[]))))))))))))))) ?_
   by_cases hq27:El m (aH.mk (Xi m.X1).Y1 (Xi m.X1).Xs (Xi m.X1).Xh (Xi m.X1).X9 (Xi m.X1).Xc (Xi m.X1).X0 (Xi m.X1).Xp (Xi m.X1).Y4 (Xi m.X1).X6)
   ·refine cF (cn (dT hq27)) (T.skip (nT (sR [] (T.ret ?_))))
    exact eRt 2 (Z8g) [] (cI (by exact if_pos ((Wz m).2 ⟨‹_›,‹_›,‹_›,‹_›,‹_›,(fun h8=>by exact absurd h8.2 ‹_›),(fun h8=>by exact absurd h8.2 ‹_›),(fun h8=>by exact absurd h8.2 ‹_›),(fun h8=>by exact absurd ‹_› h8.1),‹_›⟩))) trivial
   refine cT (cn (dF hq27)) (sR [] (T.ret (rT ?_)))
   exact eRt 2 (Z8e) [] ph trivial
  replace hq26:=Bool.eq_false_iff.2 hq26
  by_cases hq28:m.X0≠(Y6.mk 0 0)
  ·refine sR (Xm (hY · (cn hq8)) [4,5,6] (hP 7 (cn hq8)::(Xm (hY · (dF hq19)) [9,10,11,12] (Xm (hY · (cn hq20)) [13,14,15,16] (hS 17 (oY rfl rfl rfl rfl (X3 rfl) (dF hq19) (Wc (b:=(!(Xi m.X1).Xc)) (av:=(Z8k m)) (X3 rfl) trivial (cn hq20)))::(hP 18 (dF hq19)::(Xm (hY · (dF hq25)) [20,21,22,23] (Xm (hY · (cn hq26)) [24,25,26] (hS 27 (oY rfl rfl rfl rfl (X3 rfl) (cn hq26) (Jm (ax:=(Z8h m)) (ay:=Z8i) (a:=m.X0) (b:=(Y6.mk 0 0)) Jx ⟨[.int .i64 m.X0.Xt,.int .i64 m.X0.Xn],rfl,rfl⟩ ⟨[.int .i64 0,.int .i64 0],rfl,rfl⟩ (X3 rfl) p1s))::(hS 28 (oY rfl rfl rfl rfl (X3 rfl) (dF hq25) (Wc (b:=(!(Xi m.X1).X0)) (av:=(Z8j m)) (X3 rfl) trivial (cn hq26)))::(hP 29 (dF hq25)::(Xm (hN · false (dT hq28)) [31,32,33,34] (hP 35 (dT hq28)::[]))))))))))))) ?_
   refine cT (b:=true) rfl (sR [] (T.ret (rT ?_)))
   exact eRt 2 (Z8e) [] pZs trivial
  refine sR (Xm (hY · (cn hq8)) [4,5,6] (hP 7 (cn hq8)::(Xm (hY · (dF hq19)) [9,10,11,12] (Xm (hY · (cn hq20)) [13,14,15,16] (hS 17 (oY rfl rfl rfl rfl (X3 rfl) (dF hq19) (Wc (b:=(!(Xi m.X1).Xc)) (av:=(Z8k m)) (X3 rfl) trivial (cn hq20)))::(hP 18 (dF hq19)::(Xm (hY · (dF hq25)) [20,21,22,23] (Xm (hY · (cn hq26)) [24,25,26] (hS 27 (oY rfl rfl rfl rfl (X3 rfl) (cn hq26) (Jm (ax:=(Z8h m)) (ay:=Z8i) (a:=m.X0) (b:=(Y6.mk 0 0)) Jx ⟨[.int .i64 m.X0.Xt,.int .i64 m.X0.Xn],rfl,rfl⟩ ⟨[.int .i64 0,.int .i64 0],rfl,rfl⟩ (X3 rfl) p1s))::(hS 28 (oY rfl rfl rfl rfl (X3 rfl) (dF hq25) (Wc (b:=(!(Xi m.X1).X0)) (av:=(Z8j m)) (X3 rfl) trivial (cn hq26)))::(hP 29 (dF hq25)::(hY 31 (dF hq28)::(hY 32 (dF hq28)::(hS 33 (oY rfl rfl rfl rfl (X3 rfl) (dF hq28) (rCa (Ww tm m (aH.mk (Xi m.X1).Y1 (Xi m.X1).Xs (Xi m.X1).Xh (Xi m.X1).X9 (Xi m.X1).Xc (Xi m.X1).X0 (Xi m.X1).Xp (Xi m.X1).Y4 (Xi m.X1).X6) ‹_› ‹_› ‹_›) Tryz.func121 [] [(.tmp 95,(Z8b tm m)),(.tmp 96,(Z8f m))] 0 0))::(hY 34 (dF hq28)::(hP 35 (dF hq28)::[])))))))))))))))) ?_
  by_cases hq29:El m (aH.mk (Xi m.X1).Y1 (Xi m.X1).Xs (Xi m.X1).Xh (Xi m.X1).X9 (Xi m.X1).Xc (Xi m.X1).X0 (Xi m.X1).Xp (Xi m.X1).Y4 (Xi m.X1).X6)
  ·refine cF (cn (dT hq29)) (T.skip (nT (sR [] (T.ret ?_))))
   exact eRt 2 (Z8g) [] (cI (by exact if_pos ((Wz m).2 ⟨‹_›,‹_›,‹_›,‹_›,‹_›,(fun h8=>by exact absurd h8.2 ‹_›),(fun h8=>by exact absurd h8.2 ‹_›),(fun h8=>by exact absurd h8.2 ‹_›),(fun h8=>by exact absurd h8.2 ‹_›),‹_›⟩))) trivial
  refine cT (cn (dF hq29)) (sR [] (T.ret (rT ?_)))
  exact eRt 2 (Z8e) [] ph trivial
 refine sR (Xm (hN · true (dF hq6)) [4,5,6,7] (hP 8 (dF hq6)::[])) (cF (b:=false) rfl (T.skip (nT (T.seq ?_))))
 by_cases hq30:(Xi m.X1).X9=true
 ·by_cases hq31:(Xi m.X1).Xc=true
  ·by_cases hq32:(Xi m.X1).X0=true
   ·refine sR (Xm (hN · true (cn hq30)) [4,5,6] (hP 7 (cn hq30)::(Xm hY0 [9,10,11,12] (Xm (hN · true (cn hq31)) [13,14,15,16] (hS 17 (oY (b:=false) rfl rfl rfl rfl (X3 rfl) rfl (Wo (b:=(!(Xi m.X1).Xc)) (av:=vB false) (X3 rfl) ⟨rfl,trivial⟩ (cn hq31)))::(hP0 18::(Xm hY0 [20,21,22,23] (Xm (hN · true (cn hq32)) [24,25,26,27] (hS 28 (oY (b:=false) rfl rfl rfl rfl (X3 rfl) rfl (Wo (b:=(!(Xi m.X1).X0)) (av:=vB false) (X3 rfl) ⟨rfl,trivial⟩ (cn hq32)))::(hP0 29::(hY0 31::(hY0 32::(hS 33 (oY (b:=false) rfl rfl rfl rfl (X3 rfl) rfl (rCa (Ww tm m (aH.mk (Xi m.X1).Y1 (Xi m.X1).Xs (Xi m.X1).Xh (Xi m.X1).X9 (Xi m.X1).Xc (Xi m.X1).X0 (Xi m.X1).Xp (Xi m.X1).Y4 (Xi m.X1).X6) ‹_› ‹_› ‹_›) Tryz.func121 [] [(.tmp 95,(Z8b tm m)),(.tmp 96,(Z8f m))] 0 0))::(hY0 34::(hP0 35::[]))))))))))))))) ?_
    by_cases hq33:El m (aH.mk (Xi m.X1).Y1 (Xi m.X1).Xs (Xi m.X1).Xh (Xi m.X1).X9 (Xi m.X1).Xc (Xi m.X1).X0 (Xi m.X1).Xp (Xi m.X1).Y4 (Xi m.X1).X6)
    ·refine cF (cn (dT hq33)) (T.skip (nT (sR [] (T.ret ?_))))
     exact eRt 2 (Z8g) [] (cI (by exact if_pos ((Wz m).2 ⟨‹_›,‹_›,‹_›,‹_›,‹_›,(fun h8=>by exact absurd h8.1 ‹_›),(fun h8=>by exact absurd ‹_› h8.1),(fun h8=>by exact absurd ‹_› h8.1),(fun h8=>by exact absurd ‹_› h8.1),‹_›⟩))) trivial
    refine cT (cn (dF hq33)) (sR [] (T.ret (rT ?_)))
    exact eRt 2 (Z8e) [] ph trivial
   replace hq32:=Bool.eq_false_iff.2 hq32
   by_cases hq34:m.X0≠(Y6.mk 0 0)
   ·refine sR (Xm (hN · true (cn hq30)) [4,5,6] (hP 7 (cn hq30)::(Xm hY0 [9,10,11,12] (Xm (hN · true (cn hq31)) [13,14,15,16] (hS 17 (oY (b:=false) rfl rfl rfl rfl (X3 rfl) rfl (Wo (b:=(!(Xi m.X1).Xc)) (av:=vB false) (X3 rfl) ⟨rfl,trivial⟩ (cn hq31)))::(hP0 18::(Xm hY0 [20,21,22,23] (Xm (hY · (cn hq32)) [24,25,26] (hS 27 (oY rfl rfl rfl rfl (X3 rfl) (cn hq32) (Jm (ax:=(Z8h m)) (ay:=Z8i) (a:=m.X0) (b:=(Y6.mk 0 0)) Jx ⟨[.int .i64 m.X0.Xt,.int .i64 m.X0.Xn],rfl,rfl⟩ ⟨[.int .i64 0,.int .i64 0],rfl,rfl⟩ (X3 rfl) p1s))::(hS 28 (oY (b:=false) rfl rfl rfl rfl (X3 rfl) rfl (Wc (b:=(!(Xi m.X1).X0)) (av:=(Z8j m)) (X3 rfl) trivial (cn hq32)))::(hP0 29::(Xm (hN · false (dT hq34)) [31,32,33,34] (hP 35 (dT hq34)::[]))))))))))))) ?_
    refine cT (b:=true) rfl (sR [] (T.ret (rT ?_)))
    exact eRt 2 (Z8e) [] pZs trivial
   refine sR (Xm (hN · true (cn hq30)) [4,5,6] (hP 7 (cn hq30)::(Xm hY0 [9,10,11,12] (Xm (hN · true (cn hq31)) [13,14,15,16] (hS 17 (oY (b:=false) rfl rfl rfl rfl (X3 rfl) rfl (Wo (b:=(!(Xi m.X1).Xc)) (av:=vB false) (X3 rfl) ⟨rfl,trivial⟩ (cn hq31)))::(hP0 18::(Xm hY0 [20,21,22,23] (Xm (hY · (cn hq32)) [24,25,26] (hS 27 (oY rfl rfl rfl rfl (X3 rfl) (cn hq32) (Jm (ax:=(Z8h m)) (ay:=Z8i) (a:=m.X0) (b:=(Y6.mk 0 0)) Jx ⟨[.int .i64 m.X0.Xt,.int .i64 m.X0.Xn],rfl,rfl⟩ ⟨[.int .i64 0,.int .i64 0],rfl,rfl⟩ (X3 rfl) p1s))::(hS 28 (oY (b:=false) rfl rfl rfl rfl (X3 rfl) rfl (Wc (b:=(!(Xi m.X1).X0)) (av:=(Z8j m)) (X3 rfl) trivial (cn hq32)))::(hP0 29::(hY 31 (dF hq34)::(hY 32 (dF hq34)::(hS 33 (oY rfl rfl rfl rfl (X3 rfl) (dF hq34) (rCa (Ww tm m (aH.mk (Xi m.X1).Y1 (Xi m.X1).Xs (Xi m.X1).Xh (Xi m.X1).X9 (Xi m.X1).Xc (Xi m.X1).X0 (Xi m.X1).Xp (Xi m.X1).Y4 (Xi m.X1).X6) ‹_› ‹_› ‹_›) Tryz.func121 [] [(.tmp 95,(Z8b tm m)),(.tmp 96,(Z8f m))] 0 0))::(hY 34 (dF hq34)::(hP 35 (dF hq34)::[])))))))))))))))) ?_
   by_cases hq35:El m (aH.mk (Xi m.X1).Y1 (Xi m.X1).Xs (Xi m.X1).Xh (Xi m.X1).X9 (Xi m.X1).Xc (Xi m.X1).X0 (Xi m.X1).Xp (Xi m.X1).Y4 (Xi m.X1).X6)
   ·refine cF (cn (dT hq35)) (T.skip (nT (sR [] (T.ret ?_))))
    exact eRt 2 (Z8g) [] (cI (by exact if_pos ((Wz m).2 ⟨‹_›,‹_›,‹_›,‹_›,‹_›,(fun h8=>by exact absurd h8.1 ‹_›),(fun h8=>by exact absurd ‹_› h8.1),(fun h8=>by exact absurd ‹_› h8.1),(fun h8=>by exact absurd h8.2 ‹_›),‹_›⟩))) trivial
   refine cT (cn (dF hq35)) (sR [] (T.ret (rT ?_)))
   exact eRt 2 (Z8e) [] ph trivial
  replace hq31:=Bool.eq_false_iff.2 hq31
  by_cases hq36:((m.Xc.length:Nat):Int)>0
  ·refine sR (Xm (hN · true (cn hq30)) [4,5,6] (hP 7 (cn hq30)::(Xm hY0 [9,10,11,12] (Xm (hY · (cn hq31)) [13,14,15,16] (hS 17 (oY (b:=false) rfl rfl rfl rfl (X3 rfl) rfl (Wc (b:=(!(Xi m.X1).Xc)) (av:=(Z8k m)) (X3 rfl) trivial (cn hq31)))::(hP0 18::(Xm (hN · false (dT hq36)) [20,21,22,23] (hU 24::(hU 25::(hU 26::(hU 27::(hN 28 false (dT hq36)::(hP 29 (dT hq36)::(Xm hN0 [31,32,33,34] (hP1 35::[]))))))))))))))) (cT (b:=true) rfl (sR [] (T.ret (rT ?_))))
   exact eRt 2 (Z8e) [] p1c trivial
  by_cases hq37:(Xi m.X1).X0=true
  ·refine sR (Xm (hN · true (cn hq30)) [4,5,6] (hP 7 (cn hq30)::(Xm hY0 [9,10,11,12] (Xm (hY · (cn hq31)) [13,14,15,16] (hS 17 (oY (b:=false) rfl rfl rfl rfl (X3 rfl) rfl (Wc (b:=(!(Xi m.X1).Xc)) (av:=(Z8k m)) (X3 rfl) trivial (cn hq31)))::(hP0 18::(Xm (hY · (dF hq36)) [20,21,22,23] (Xm (hN · true (cn hq37)) [24,25,26,27] (hS 28 (oY rfl rfl rfl rfl (X3 rfl) (dF hq36) (Wo (b:=(!(Xi m.X1).X0)) (av:=vB false) (X3 rfl) ⟨rfl,trivial⟩ (cn hq37)))::(hP 29 (dF hq36)::(hY0 31::(hY0 32::(hS 33 (oY (b:=false) rfl rfl rfl rfl (X3 rfl) rfl (rCa (Ww tm m (aH.mk (Xi m.X1).Y1 (Xi m.X1).Xs (Xi m.X1).Xh (Xi m.X1).X9 (Xi m.X1).Xc (Xi m.X1).X0 (Xi m.X1).Xp (Xi m.X1).Y4 (Xi m.X1).X6) ‹_› ‹_› ‹_›) Tryz.func121 [] [(.tmp 95,(Z8b tm m)),(.tmp 96,(Z8f m))] 0 0))::(hY0 34::(hP0 35::[]))))))))))))))) ?_
   by_cases hq38:El m (aH.mk (Xi m.X1).Y1 (Xi m.X1).Xs (Xi m.X1).Xh (Xi m.X1).X9 (Xi m.X1).Xc (Xi m.X1).X0 (Xi m.X1).Xp (Xi m.X1).Y4 (Xi m.X1).X6)
   ·refine cF (cn (dT hq38)) (T.skip (nT (sR [] (T.ret ?_))))
    exact eRt 2 (Z8g) [] (cI (by exact if_pos ((Wz m).2 ⟨‹_›,‹_›,‹_›,‹_›,‹_›,(fun h8=>by exact absurd h8.1 ‹_›),(fun h8=>by exact absurd ‹_› h8.1),(fun h8=>by exact absurd h8.2 ‹_›),(fun h8=>by exact absurd ‹_› h8.1),‹_›⟩))) trivial
   refine cT (cn (dF hq38)) (sR [] (T.ret (rT ?_)))
   exact eRt 2 (Z8e) [] ph trivial
  replace hq37:=Bool.eq_false_iff.2 hq37
  by_cases hq39:m.X0≠(Y6.mk 0 0)
  ·refine sR (Xm (hN · true (cn hq30)) [4,5,6] (hP 7 (cn hq30)::(Xm hY0 [9,10,11,12] (Xm (hY · (cn hq31)) [13,14,15,16] (hS 17 (oY (b:=false) rfl rfl rfl rfl (X3 rfl) rfl (Wc (b:=(!(Xi m.X1).Xc)) (av:=(Z8k m)) (X3 rfl) trivial (cn hq31)))::(hP0 18::(Xm (hY · (dF hq36)) [20,21,22,23] (Xm (hY · (cn hq37)) [24,25,26] (hS 27 (oY rfl rfl rfl rfl (X3 rfl) (cn hq37) (Jm (ax:=(Z8h m)) (ay:=Z8i) (a:=m.X0) (b:=(Y6.mk 0 0)) Jx ⟨[.int .i64 m.X0.Xt,.int .i64 m.X0.Xn],rfl,rfl⟩ ⟨[.int .i64 0,.int .i64 0],rfl,rfl⟩ (X3 rfl) p1s))::(hS 28 (oY rfl rfl rfl rfl (X3 rfl) (dF hq36) (Wc (b:=(!(Xi m.X1).X0)) (av:=(Z8j m)) (X3 rfl) trivial (cn hq37)))::(hP 29 (dF hq36)::(Xm (hN · false (dT hq39)) [31,32,33,34] (hP 35 (dT hq39)::[]))))))))))))) ?_
   refine cT (b:=true) rfl (sR [] (T.ret (rT ?_)))
   exact eRt 2 (Z8e) [] pZs trivial
  refine sR (Xm (hN · true (cn hq30)) [4,5,6] (hP 7 (cn hq30)::(Xm hY0 [9,10,11,12] (Xm (hY · (cn hq31)) [13,14,15,16] (hS 17 (oY (b:=false) rfl rfl rfl rfl (X3 rfl) rfl (Wc (b:=(!(Xi m.X1).Xc)) (av:=(Z8k m)) (X3 rfl) trivial (cn hq31)))::(hP0 18::(Xm (hY · (dF hq36)) [20,21,22,23] (Xm (hY · (cn hq37)) [24,25,26] (hS 27 (oY rfl rfl rfl rfl (X3 rfl) (cn hq37) (Jm (ax:=(Z8h m)) (ay:=Z8i) (a:=m.X0) (b:=(Y6.mk 0 0)) Jx ⟨[.int .i64 m.X0.Xt,.int .i64 m.X0.Xn],rfl,rfl⟩ ⟨[.int .i64 0,.int .i64 0],rfl,rfl⟩ (X3 rfl) p1s))::(hS 28 (oY rfl rfl rfl rfl (X3 rfl) (dF hq36) (Wc (b:=(!(Xi m.X1).X0)) (av:=(Z8j m)) (X3 rfl) trivial (cn hq37)))::(hP 29 (dF hq36)::(hY 31 (dF hq39)::(hY 32 (dF hq39)::(hS 33 (oY rfl rfl rfl rfl (X3 rfl) (dF hq39) (rCa (Ww tm m (aH.mk (Xi m.X1).Y1 (Xi m.X1).Xs (Xi m.X1).Xh (Xi m.X1).X9 (Xi m.X1).Xc (Xi m.X1).X0 (Xi m.X1).Xp (Xi m.X1).Y4 (Xi m.X1).X6) ‹_› ‹_› ‹_›) Tryz.func121 [] [(.tmp 95,(Z8b tm m)),(.tmp 96,(Z8f m))] 0 0))::(hY 34 (dF hq39)::(hP 35 (dF hq39)::[])))))))))))))))) ?_
  by_cases hq40:El m (aH.mk (Xi m.X1).Y1 (Xi m.X1).Xs (Xi m.X1).Xh (Xi m.X1).X9 (Xi m.X1).Xc (Xi m.X1).X0 (Xi m.X1).Xp (Xi m.X1).Y4 (Xi m.X1).X6)
  ·refine cF (cn (dT hq40)) (T.skip (nT (sR [] (T.ret ?_))))
   exact eRt 2 (Z8g) [] (cI (by exact if_pos ((Wz m).2 ⟨‹_›,‹_›,‹_›,‹_›,‹_›,(fun h8=>by exact absurd h8.1 ‹_›),(fun h8=>by exact absurd ‹_› h8.1),(fun h8=>by exact absurd h8.2 ‹_›),(fun h8=>by exact absurd h8.2 ‹_›),‹_›⟩))) trivial
  refine cT (cn (dF hq40)) (sR [] (T.ret (rT ?_)))
  exact eRt 2 (Z8e) [] ph trivial
 replace hq30:=Bool.eq_false_iff.2 hq30
 by_cases hq41:m.X9≠[]
 ·refine sR (Xm (hY · (cn hq30)) [4,5,6] (hP 7 (cn hq30)::(Xm (hN · false (dT hq41)) [9,10,11,12] (hU 13::(hU 14::(hU 15::(hU 16::(hN 17 false (dT hq41)::(hP 18 (dT hq41)::(Xm hN0 [20,21,22,23] (hU 24::(hU 25::(hU 26::(hU 27::(hN0 28::(hP1 29::(Xm hN0 [31,32,33,34] (hP1 35::[])))))))))))))))))) (cT (b:=true) rfl (sR [] (T.ret (rT ?_))))
  exact eRt 2 (Z8e) [] p3h trivial
 by_cases hq42:(Xi m.X1).Xc=true
 ·by_cases hq43:(Xi m.X1).X0=true
  ·refine sR (Xm (hY · (cn hq30)) [4,5,6] (hP 7 (cn hq30)::(Xm (hY · (dF hq41)) [9,10,11,12] (Xm (hN · true (cn hq42)) [13,14,15,16] (hS 17 (oY rfl rfl rfl rfl (X3 rfl) (dF hq41) (Wo (b:=(!(Xi m.X1).Xc)) (av:=vB false) (X3 rfl) ⟨rfl,trivial⟩ (cn hq42)))::(hP 18 (dF hq41)::(Xm hY0 [20,21,22,23] (Xm (hN · true (cn hq43)) [24,25,26,27] (hS 28 (oY (b:=false) rfl rfl rfl rfl (X3 rfl) rfl (Wo (b:=(!(Xi m.X1).X0)) (av:=vB false) (X3 rfl) ⟨rfl,trivial⟩ (cn hq43)))::(hP0 29::(hY0 31::(hY0 32::(hS 33 (oY (b:=false) rfl rfl rfl rfl (X3 rfl) rfl (rCa (Ww tm m (aH.mk (Xi m.X1).Y1 (Xi m.X1).Xs (Xi m.X1).Xh (Xi m.X1).X9 (Xi m.X1).Xc (Xi m.X1).X0 (Xi m.X1).Xp (Xi m.X1).Y4 (Xi m.X1).X6) ‹_› ‹_› ‹_›) Tryz.func121 [] [(.tmp 95,(Z8b tm m)),(.tmp 96,(Z8f m))] 0 0))::(hY0 34::(hP0 35::[]))))))))))))))) ?_
   by_cases hq44:El m (aH.mk (Xi m.X1).Y1 (Xi m.X1).Xs (Xi m.X1).Xh (Xi m.X1).X9 (Xi m.X1).Xc (Xi m.X1).X0 (Xi m.X1).Xp (Xi m.X1).Y4 (Xi m.X1).X6)
   ·refine cF (cn (dT hq44)) (T.skip (nT (sR [] (T.ret ?_))))
    exact eRt 2 (Z8g) [] (cI (by exact if_pos ((Wz m).2 ⟨‹_›,‹_›,‹_›,‹_›,‹_›,(fun h8=>by exact absurd h8.1 ‹_›),(fun h8=>by exact absurd h8.2 ‹_›),(fun h8=>by exact absurd ‹_› h8.1),(fun h8=>by exact absurd ‹_› h8.1),‹_›⟩))) trivial
   refine cT (cn (dF hq44)) (sR [] (T.ret (rT ?_)))
   exact eRt 2 (Z8e) [] ph trivial
  replace hq43:=Bool.eq_false_iff.2 hq43
  by_cases hq45:m.X0≠(Y6.mk 0 0)
  ·refine sR (Xm (hY · (cn hq30)) [4,5,6] (hP 7 (cn hq30)::(Xm (hY · (dF hq41)) [9,10,11,12] (Xm (hN · true (cn hq42)) [13,14,15,16] (hS 17 (oY rfl rfl rfl rfl (X3 rfl) (dF hq41) (Wo (b:=(!(Xi m.X1).Xc)) (av:=vB false) (X3 rfl) ⟨rfl,trivial⟩ (cn hq42)))::(hP 18 (dF hq41)::(Xm hY0 [20,21,22,23] (Xm (hY · (cn hq43)) [24,25,26] (hS 27 (oY rfl rfl rfl rfl (X3 rfl) (cn hq43) (Jm (ax:=(Z8h m)) (ay:=Z8i) (a:=m.X0) (b:=(Y6.mk 0 0)) Jx ⟨[.int .i64 m.X0.Xt,.int .i64 m.X0.Xn],rfl,rfl⟩ ⟨[.int .i64 0,.int .i64 0],rfl,rfl⟩ (X3 rfl) p1s))::(hS 28 (oY (b:=false) rfl rfl rfl rfl (X3 rfl) rfl (Wc (b:=(!(Xi m.X1).X0)) (av:=(Z8j m)) (X3 rfl) trivial (cn hq43)))::(hP0 29::(Xm (hN · false (dT hq45)) [31,32,33,34] (hP 35 (dT hq45)::[]))))))))))))) ?_
   refine cT (b:=true) rfl (sR [] (T.ret (rT ?_)))
   exact eRt 2 (Z8e) [] pZs trivial
  refine sR (Xm (hY · (cn hq30)) [4,5,6] (hP 7 (cn hq30)::(Xm (hY · (dF hq41)) [9,10,11,12] (Xm (hN · true (cn hq42)) [13,14,15,16] (hS 17 (oY rfl rfl rfl rfl (X3 rfl) (dF hq41) (Wo (b:=(!(Xi m.X1).Xc)) (av:=vB false) (X3 rfl) ⟨rfl,trivial⟩ (cn hq42)))::(hP 18 (dF hq41)::(Xm hY0 [20,21,22,23] (Xm (hY · (cn hq43)) [24,25,26] (hS 27 (oY rfl rfl rfl rfl (X3 rfl) (cn hq43) (Jm (ax:=(Z8h m)) (ay:=Z8i) (a:=m.X0) (b:=(Y6.mk 0 0)) Jx ⟨[.int .i64 m.X0.Xt,.int .i64 m.X0.Xn],rfl,rfl⟩ ⟨[.int .i64 0,.int .i64 0],rfl,rfl⟩ (X3 rfl) p1s))::(hS 28 (oY (b:=false) rfl rfl rfl rfl (X3 rfl) rfl (Wc (b:=(!(Xi m.X1).X0)) (av:=(Z8j m)) (X3 rfl) trivial (cn hq43)))::(hP0 29::(hY 31 (dF hq45)::(hY 32 (dF hq45)::(hS 33 (oY rfl rfl rfl rfl (X3 rfl) (dF hq45) (rCa (Ww tm m (aH.mk (Xi m.X1).Y1 (Xi m.X1).Xs (Xi m.X1).Xh (Xi m.X1).X9 (Xi m.X1).Xc (Xi m.X1).X0 (Xi m.X1).Xp (Xi m.X1).Y4 (Xi m.X1).X6) ‹_› ‹_› ‹_›) Tryz.func121 [] [(.tmp 95,(Z8b tm m)),(.tmp 96,(Z8f m))] 0 0))::(hY 34 (dF hq45)::(hP 35 (dF hq45)::[])))))))))))))))) ?_
  by_cases hq46:El m (aH.mk (Xi m.X1).Y1 (Xi m.X1).Xs (Xi m.X1).Xh (Xi m.X1).X9 (Xi m.X1).Xc (Xi m.X1).X0 (Xi m.X1).Xp (Xi m.X1).Y4 (Xi m.X1).X6)
  ·refine cF (cn (dT hq46)) (T.skip (nT (sR [] (T.ret ?_))))
   exact eRt 2 (Z8g) [] (cI (by exact if_pos ((Wz m).2 ⟨‹_›,‹_›,‹_›,‹_›,‹_›,(fun h8=>by exact absurd h8.1 ‹_›),(fun h8=>by exact absurd h8.2 ‹_›),(fun h8=>by exact absurd ‹_› h8.1),(fun h8=>by exact absurd h8.2 ‹_›),‹_›⟩))) trivial
  refine cT (cn (dF hq46)) (sR [] (T.ret (rT ?_)))
  exact eRt 2 (Z8e) [] ph trivial
 replace hq42:=Bool.eq_false_iff.2 hq42
 by_cases hq47:((m.Xc.length:Nat):Int)>0
 ·refine sR (Xm (hY · (cn hq30)) [4,5,6] (hP 7 (cn hq30)::(Xm (hY · (dF hq41)) [9,10,11,12] (Xm (hY · (cn hq42)) [13,14,15,16] (hS 17 (oY rfl rfl rfl rfl (X3 rfl) (dF hq41) (Wc (b:=(!(Xi m.X1).Xc)) (av:=(Z8k m)) (X3 rfl) trivial (cn hq42)))::(hP 18 (dF hq41)::(Xm (hN · false (dT hq47)) [20,21,22,23] (hU 24::(hU 25::(hU 26::(hU 27::(hN 28 false (dT hq47)::(hP 29 (dT hq47)::(Xm hN0 [31,32,33,34] (hP1 35::[]))))))))))))))) (cT (b:=true) rfl (sR [] (T.ret (rT ?_))))
  exact eRt 2 (Z8e) [] p1c trivial
 by_cases hq48:(Xi m.X1).X0=true
 ·refine sR (Xm (hY · (cn hq30)) [4,5,6] (hP 7 (cn hq30)::(Xm (hY · (dF hq41)) [9,10,11,12] (Xm (hY · (cn hq42)) [13,14,15,16] (hS 17 (oY rfl rfl rfl rfl (X3 rfl) (dF hq41) (Wc (b:=(!(Xi m.X1).Xc)) (av:=(Z8k m)) (X3 rfl) trivial (cn hq42)))::(hP 18 (dF hq41)::(Xm (hY · (dF hq47)) [20,21,22,23] (Xm (hN · true (cn hq48)) [24,25,26,27] (hS 28 (oY rfl rfl rfl rfl (X3 rfl) (dF hq47) (Wo (b:=(!(Xi m.X1).X0)) (av:=vB false) (X3 rfl) ⟨rfl,trivial⟩ (cn hq48)))::(hP 29 (dF hq47)::(hY0 31::(hY0 32::(hS 33 (oY (b:=false) rfl rfl rfl rfl (X3 rfl) rfl (rCa (Ww tm m (aH.mk (Xi m.X1).Y1 (Xi m.X1).Xs (Xi m.X1).Xh (Xi m.X1).X9 (Xi m.X1).Xc (Xi m.X1).X0 (Xi m.X1).Xp (Xi m.X1).Y4 (Xi m.X1).X6) ‹_› ‹_› ‹_›) Tryz.func121 [] [(.tmp 95,(Z8b tm m)),(.tmp 96,(Z8f m))] 0 0))::(hY0 34::(hP0 35::[]))))))))))))))) ?_
  by_cases hq49:El m (aH.mk (Xi m.X1).Y1 (Xi m.X1).Xs (Xi m.X1).Xh (Xi m.X1).X9 (Xi m.X1).Xc (Xi m.X1).X0 (Xi m.X1).Xp (Xi m.X1).Y4 (Xi m.X1).X6)
  ·refine cF (cn (dT hq49)) (T.skip (nT (sR [] (T.ret ?_))))
   exact eRt 2 (Z8g) [] (cI (by exact if_pos ((Wz m).2 ⟨‹_›,‹_›,‹_›,‹_›,‹_›,(fun h8=>by exact absurd h8.1 ‹_›),(fun h8=>by exact absurd h8.2 ‹_›),(fun h8=>by exact absurd h8.2 ‹_›),(fun h8=>by exact absurd ‹_› h8.1),‹_›⟩))) trivial
  refine cT (cn (dF hq49)) (sR [] (T.ret (rT ?_)))
  exact eRt 2 (Z8e) [] ph trivial
 replace hq48:=Bool.eq_false_iff.2 hq48
 by_cases hq50:m.X0≠(Y6.mk 0 0)
 ·refine sR (Xm (hY · (cn hq30)) [4,5,6] (hP 7 (cn hq30)::(Xm (hY · (dF hq41)) [9,10,11,12] (Xm (hY · (cn hq42)) [13,14,15,16] (hS 17 (oY rfl rfl rfl rfl (X3 rfl) (dF hq41) (Wc (b:=(!(Xi m.X1).Xc)) (av:=(Z8k m)) (X3 rfl) trivial (cn hq42)))::(hP 18 (dF hq41)::(Xm (hY · (dF hq47)) [20,21,22,23] (Xm (hY · (cn hq48)) [24,25,26] (hS 27 (oY rfl rfl rfl rfl (X3 rfl) (cn hq48) (Jm (ax:=(Z8h m)) (ay:=Z8i) (a:=m.X0) (b:=(Y6.mk 0 0)) Jx ⟨[.int .i64 m.X0.Xt,.int .i64 m.X0.Xn],rfl,rfl⟩ ⟨[.int .i64 0,.int .i64 0],rfl,rfl⟩ (X3 rfl) p1s))::(hS 28 (oY rfl rfl rfl rfl (X3 rfl) (dF hq47) (Wc (b:=(!(Xi m.X1).X0)) (av:=(Z8j m)) (X3 rfl) trivial (cn hq48)))::(hP 29 (dF hq47)::(Xm (hN · false (dT hq50)) [31,32,33,34] (hP 35 (dT hq50)::[]))))))))))))) ?_
  refine cT (b:=true) rfl (sR [] (T.ret (rT ?_)))
  exact eRt 2 (Z8e) [] pZs trivial
 refine sR (Xm (hY · (cn hq30)) [4,5,6] (hP 7 (cn hq30)::(Xm (hY · (dF hq41)) [9,10,11,12] (Xm (hY · (cn hq42)) [13,14,15,16] (hS 17 (oY rfl rfl rfl rfl (X3 rfl) (dF hq41) (Wc (b:=(!(Xi m.X1).Xc)) (av:=(Z8k m)) (X3 rfl) trivial (cn hq42)))::(hP 18 (dF hq41)::(Xm (hY · (dF hq47)) [20,21,22,23] (Xm (hY · (cn hq48)) [24,25,26] (hS 27 (oY rfl rfl rfl rfl (X3 rfl) (cn hq48) (Jm (ax:=(Z8h m)) (ay:=Z8i) (a:=m.X0) (b:=(Y6.mk 0 0)) Jx ⟨[.int .i64 m.X0.Xt,.int .i64 m.X0.Xn],rfl,rfl⟩ ⟨[.int .i64 0,.int .i64 0],rfl,rfl⟩ (X3 rfl) p1s))::(hS 28 (oY rfl rfl rfl rfl (X3 rfl) (dF hq47) (Wc (b:=(!(Xi m.X1).X0)) (av:=(Z8j m)) (X3 rfl) trivial (cn hq48)))::(hP 29 (dF hq47)::(hY 31 (dF hq50)::(hY 32 (dF hq50)::(hS 33 (oY rfl rfl rfl rfl (X3 rfl) (dF hq50) (rCa (Ww tm m (aH.mk (Xi m.X1).Y1 (Xi m.X1).Xs (Xi m.X1).Xh (Xi m.X1).X9 (Xi m.X1).Xc (Xi m.X1).X0 (Xi m.X1).Xp (Xi m.X1).Y4 (Xi m.X1).X6) ‹_› ‹_› ‹_›) Tryz.func121 [] [(.tmp 95,(Z8b tm m)),(.tmp 96,(Z8f m))] 0 0))::(hY 34 (dF hq50)::(hP 35 (dF hq50)::[])))))))))))))))) ?_
 by_cases hq51:El m (aH.mk (Xi m.X1).Y1 (Xi m.X1).Xs (Xi m.X1).Xh (Xi m.X1).X9 (Xi m.X1).Xc (Xi m.X1).X0 (Xi m.X1).Xp (Xi m.X1).Y4 (Xi m.X1).X6)
 ·refine cF (cn (dT hq51)) (T.skip (nT (sR [] (T.ret ?_))))
  exact eRt 2 (Z8g) [] (cI (by exact if_pos ((Wz m).2 ⟨‹_›,‹_›,‹_›,‹_›,‹_›,(fun h8=>by exact absurd h8.1 ‹_›),(fun h8=>by exact absurd h8.2 ‹_›),(fun h8=>by exact absurd h8.2 ‹_›),(fun h8=>by exact absurd h8.2 ‹_›),‹_›⟩))) trivial
 refine cT (cn (dF hq51)) (sR [] (T.ret (rT ?_)))
 exact eRt 2 (Z8e) [] ph trivial
end Go.Proofs.YtnaopgohccacmaaGreat.Q
namespace Go.Proofs.YtnaopgohccacmaaGreat.Q
set_option linter.unusedVariables false
set_option linter.unusedSimpArgs false
set_option maxRecDepth 100000
def Ih (e:aE):List UInt8:=Yy e.X5++Yx e.Xd
def E8 (l:List aE):List UInt8:=l.flatMap Ih
def Hb (l:List aE) (k:Nat):List UInt8:=Ve ((l.length:Nat):Int)++E8 (l.take k)
def Vq (l:List aE):List UInt8:=Ve ((l.length:Nat):Int)++E8 l
def Xfd (c:aC):List UInt8:=Ih c.I5++Vq c.Xu
def X9m (l:List aC):List UInt8:=l.flatMap Xfd
def Em (l:List aC):List UInt8:=Ve ((l.length:Nat):Int)++X9m l
theorem Xcn (e:aE):(Ih e).length=12+e.Xd.length:=by rw [Ih,List.length_append,Wk,Vf];omega
theorem X5w {α:Type} {z:α} (f:α→List UInt8) {l:List α} {k:Nat} (hk:k<l.length):(l.take (k+1)).flatMap f=(l.take k).flatMap f++f (l.getD k z):=by
  rw [Ho (z:=z) hk,List.flatMap_append];simp
theorem Xba {α:Type} {z:α} (f:α→List UInt8) {l:List α} {k:Nat} (hk:k<l.length):((l.take k).flatMap f).length+(f (l.getD k z)).length≤(l.flatMap f).length:=by
  have h:l.flatMap f=(l.take (k+1)).flatMap f++(l.drop (k+1)).flatMap f:=by rw [← List.flatMap_append,List.take_append_drop]
  rw [h,X5w (z:=z) f hk,List.length_append,List.length_append]
  omega
theorem Xil {α:Type} (f:α→List UInt8) (l:List α) (k:Nat):((l.take k).flatMap f).length≤(l.flatMap f).length:=by
  have h:l.flatMap f=(l.take k).flatMap f++(l.drop k).flatMap f:=by rw [← List.flatMap_append,List.take_append_drop]
  rw [h,List.length_append];omega
theorem Xec {l:List aE} {k:Nat} (hk:k<l.length):Hb l (k+1)=Hb l k++Ih (l.getD k zE):=by
  rw [Hb,E8,X5w (z:=zE) Ih hk,← List.append_assoc];rfl
theorem Xih {l:List aE} {k:Nat} (hk:l.length≤k):Hb l k=Vq l:=by rw [Hb,List.take_of_length_le hk];rfl
theorem X4i (l:List aE):(Vq l).length=4+(E8 l).length:=by rw [Vq,List.length_append,Jc]
theorem list_cnt (l:List aE):l.length≤(Vq l).length:=by
  rw [X4i]
  have:∀ l:List aE,l.length≤(E8 l).length:=by
    intro l
    induction l with
    | nil=>simp
    | cons e r ih=>rw [show E8 (e::r)=Ih e++E8 r from rfl,List.length_append,Xcn,List.length_cons];omega
  have:=this l
  omega
theorem lst_le (l:List aE) (k:Nat):(Hb l k).length≤(Vq l).length:=by
  rw [X4i,Hb,List.length_append,Jc]
  have:=Xil Ih l k
  unfold E8;omega
theorem lst_room {l:List aE} {k:Nat} (hk:k<l.length):(Hb l k).length+(Ih (l.getD k zE)).length≤(Vq l).length:=by
  rw [X4i,Hb,List.length_append,Jc]
  have:=Xba (z:=zE) Ih hk
  unfold E8;omega
def Ii (l:List aC) (k:Nat):List UInt8:=X9m (l.take k)
theorem crt_0 (l:List aC):Ii l 0=[]:=by simp [Ii,X9m]
theorem Xf7 {l:List aC} {k:Nat} (hk:k<l.length):Ii l (k+1)=Ii l k++(Ih (l.getD k zC).I5++Vq (l.getD k zC).Xu):=X5w (z:=zC) Xfd hk
theorem crt_end {l:List aC} {k:Nat} (hk:l.length≤k):Ii l k=X9m l:=by rw [Ii,List.take_of_length_le hk]
theorem Xbg (l:List aC):(Em l).length=4+(X9m l).length:=by rw [Em,List.length_append,Jc]
theorem crt_le (l:List aC) (k:Nat):4+(Ii l k).length≤(Em l).length:=by
  rw [Xbg]
  have:=Xil Xfd l k
  unfold Ii X9m;omega
theorem crt_room {l:List aC} {k:Nat} (hk:k<l.length):4+((Ii l k).length+((Ih (l.getD k zC).I5).length+(Vq (l.getD k zC).Xu).length))≤(Em l).length:=by
  rw [Xbg]
  have h:=Xba (z:=zC) Xfd hk
  have e:(Xfd (l.getD k zC)).length=(Ih (l.getD k zC).I5).length+(Vq (l.getD k zC).Xu).length:=List.length_append
  unfold Ii X9m;omega
def F8 (m:aM):Nat→List UInt8
  | 0=>Yy m.Y1
  | 1=>Yy m.Xs
  | 2=>Yy m.Xh++Yy m.Yh
  | 3=>Yx m.X9
  | 4=>Yx m.Xc
  | 5=>Yy m.X0.Xt++Yy m.X0.Xn
  | 6=>Vq m.Xp
  | 7=>Vq m.Y4
  | 8=>Em m.X6
  | _=>[]
def Ya (m:aM):Nat→List UInt8
  | 0=>Yy m.X1
  | j+1=>Ya m j++(if Ux (Xi m.X1) j=true then F8 m j else [])
def F2 (m:aM):List UInt8:=if X67 m then Ya m 9 else []
section
variable {m:aM}
theorem Hr {j i:Nat} (h:j=i) (hb:Ux (Xi m.X1) j=true):Ya m (j+1)=Ya m j++F8 m i:=by subst h;rw [Ya,if_pos hb]
theorem X0n {j:Nat} (hb:¬Ux (Xi m.X1) j=true):Ya m (j+1)=Ya m j:=by rw [Ya,if_neg hb,List.append_nil]
theorem Xf0 (m:aM) (j:Nat):∀ d,(Ya m j).length≤(Ya m (j+d)).length
  | 0=>Nat.le_refl _
  | d+1=>Nat.le_trans (Xf0 m j d) (by rw [← Nat.add_assoc,Ya,List.length_append];omega)
theorem enc_le {j:Nat} (hj:j≤9):(Ya m j).length≤(Ya m 9).length:=by
  have:=Xf0 m j (9-j)
  rwa [show j+(9-j)=9 by omega] at this
theorem Hd {j i:Nat} (h:j=i) (hb:Ux (Xi m.X1) j=true) (hj:j≤8):(Ya m j).length+(F8 m i).length≤(Ya m 9).length:=by
  have:=enc_le (m:=m) (show j+1≤9 by omega)
  rwa [Hr h hb,List.length_append] at this
end
end Go.Proofs.YtnaopgohccacmaaGreat.Q
namespace Go.Proofs.YtnaopgohccacmaaGreat.Q
open Go Go.RowKit
set_option linter.unusedVariables false
set_option linter.unusedSimpArgs false
set_option maxRecDepth 100000
set_option maxHeartbeats 4000000
theorem X1g (tb:Bool) (nb:Bool) (b:List UInt8) (te:Bool) (e:aE) (hb:b.length+(Ih e).length≤10000000000):Holds Tryz.prog 67 ⟨[slV tb nb kU8 b,.tv (.agg [dI e.X5,.d (dsl te false kU8 e.Xd)])],[],Y8 0 kU8 0 (b++Ih e).length,[.live (Xf 5 kU8 (b++Ih e))]⟩:=by
 refine Holds.of Tryz.func67 rfl (N:=12) Tryz.ntmps67 rfl fun w0 B0 S0 U0=>?_
 show T _ (Y2 12 0 w0 S0 U0 B0) ⟨[slV tb nb kU8 b,.tv (.agg [dI e.X5,.d (dsl te false kU8 e.Xd)])],[]⟩ _ _
 have hel:=Xcn e
 have hi:=Wk e.X5
 refine sR [] ?_
 refine sD [[],[],[1],[0,1,2],[],[4],[0,1,2,3,4,5],[0,1,2,3,4,5,6]] [hR 3 rfl rfl (rCa (Ud tb nb b e.X5 (by omega)) Tryz.func63 [1] [(.tmp 5,slV tb nb kU8 b),(.tmp 7,vI e.X5)] 0 1),hR 6 rfl rfl (Wu (Ia true false (b++Yy e.X5) te false e.Xd (by (simp [maxLen,-List.getD_eq_getElem?_getD]<;>omega))) Tryz.func64 rfl (by decide) [2] [1] (l:=[(.tmp 8,Y8 1 kU8 0 (b++Yy e.X5).length),(.tmp 10,slV te false kU8 e.Xd)]) [(1,.live (Xf 5 kU8 (b++Yy e.X5)))] rfl 0 1 rfl rfl rfl rfl rfl rfl rfl rfl rfl ⟨.inr (.inl ⟨rfl,pZv,rfl,rfl,by simp,5,(b++Yy e.X5).length,W7 kU8 (b++Yy e.X5),List.Mem.head _,pZl,fun i j=>by rw [Nat.zero_add]⟩),⟨.inl ⟨rfl,rfl⟩,trivial⟩⟩ rfl pZ6 pk (X3 rfl) trivial)] ?_
 refine T.ret ?_
 exact eRt 4 (.one (.own 2 kU8.sz 0 (b++Yy e.X5++Yx e.Xd).length)) [2] (by have e1:((b++Ih e).length:Nat)=(b++Yy e.X5++Yx e.Xd).length:=(by (rw [Ih,← List.append_assoc]));have hE:=congrArg (fun (q1:Nat)=>(Y8 2 kU8 0 q1:AV)) e1;exact hE) ⟨⟨rfl,(by have e1:(b++Yy e.X5++Yx e.Xd:List UInt8)=b++Ih e:=(by (rw [Ih,← List.append_assoc]));have hE:=congrArg (fun (q1:List UInt8)=>(.live (Xf 5 kU8 q1):HS)) e1;exact Eq.trans pZ8 hE)⟩,trivial⟩
abbrev Z8l (k:Nat):AV:=vI ((k+1:Nat):Int)
theorem X3c (tb:Bool) (nb:Bool) (b:List UInt8) (tl:Bool) (nl:Bool) (sl_:Bool) (l:List aE) (hb:b.length+(Vq l).length≤10000000000) (hl:l.length≤9223372036854775807):Holds Tryz.prog 65 ⟨[slV tb nb kU8 b,slV tl nl (kE sl_) l],[],Y8 0 kU8 0 (b++Vq l).length,[.live (Xf 5 kU8 (b++Vq l))]⟩:=by
 refine Holds.of Tryz.func65 rfl (N:=23) Tryz.ntmps65 rfl fun w0 B0 S0 U0=>?_
 show T _ (Y2 23 0 w0 S0 U0 B0) ⟨[slV tb nb kU8 b,slV tl nl (kE sl_) l],[]⟩ _ _
 have hll:=X4i l
 have hcl:=Jc ((l.length:Nat):Int)
 refine sR [] (sR [hR 3 rfl rfl (rCa (E1 tb nb b ((l.length:Nat):Int) (by omega)) Tryz.func66 [0] [(.tmp 6,slV tb nb kU8 b),(.tmp 8,vI ((l.length:Nat):Int))] 0 1)] (T.seq (sR [] (T.block ?_))))
 refine T.loop (ι:=Nat) (fun (k:Nat)=>⟨[Y8 0 kU8 0 (b++Hb l k).length,slV tl nl (kE sl_) l,aa,aa,aa,vI ((k:Nat):Int)],[.live (Xf 5 kU8 (b++Hb l k))]⟩) (fun (k:Nat)=>(k≤l.length)) (fun (k:Nat)=>l.length-k) (0) (Nat.zero_le _) (fun _ _ hG=>Yv [0] (bm 6 35) (t2:=[Y8 0 kU8 0 (b++Ve ((l.length:Nat):Int)).length,slV tl nl (kE sl_) l,aa,aa,aa,vI 0]) (h2:=[.live (Xf 5 kU8 (b++Ve ((l.length:Nat):Int)))]) (congrArg (fun (q1:Nat)=>([Y8 0 kU8 0 q1,slV tl nl (kE sl_) l,aa,aa,aa,vI 0]:List AV)) (by rfl)) pZ20 hG) ?_
 rintro k hk
 show T _ _ ⟨[Y8 0 kU8 0 (b++Hb l k).length,slV tl nl (kE sl_) l,aa,aa,aa,vI ((k:Nat):Int)],[.live (Xf 5 kU8 (b++Hb l k))]⟩ _ _
 replace hk:k≤l.length:=hk
 have hle:=lst_le l k
 refine T.seq (sR [] ?_)
 by_cases hq1:((k:Nat):Int)<((l.length:Nat):Int)
 ·have hrm:=lst_room (l:=l) (k:=k) (by omega)
  refine cT (dT hq1) (T.skip (nT (T.seq (T.block ?_))))
  refine xR [hR 3 rfl rfl (We tl nl (kE sl_) l k (k:=.i64) (i:=((k:Nat):Int)) Tryz.underlying37 Vi rfl rfl (by omega) (X3 rfl) trivial),hR 5 rfl rfl (Wu (X1g true false (b++Hb l k) sl_ (l.getD k zE) (by (simp [maxLen,-List.getD_eq_getElem?_getD]<;>omega))) Tryz.func67 rfl (by decide) [1] [0] (l:=[(.tmp 16,Y8 0 kU8 0 (b++Hb l k).length),(.tmp 20,.tv (.agg [dI (l.getD k zE).X5,.d (dsl sl_ false kU8 (l.getD k zE).Xd)]))]) [(0,.live (Xf 5 kU8 (b++Hb l k)))] rfl 0 1 rfl rfl rfl rfl rfl rfl rfl rfl rfl ⟨.inr (.inl ⟨rfl,pZv,rfl,rfl,by simp,5,(b++Hb l k).length,W7 kU8 (b++Hb l k),List.Mem.head _,pZl,fun i j=>by rw [Nat.zero_add]⟩),⟨⟨.inl ⟨rfl,rfl⟩,⟨.inl ⟨rfl,rfl⟩,trivial⟩⟩,trivial⟩⟩ rfl pZ6 pk (X3 rfl) trivial)] pZ8 pZ8 ?_
  refine nB (nT (xK [hR 1 rfl rfl (Yd (u1:=.int .i64 ((k:Nat):Int)) (u2:=.int .i64 1) (v:=.int .i64 ((k+1:Nat):Int)) (Wb pc) (X3 rfl) ⟨rfl,trivial⟩)] ?_))
  refine nL (k+1) (show (k+1)≤l.length from (by omega)) (show (l.length-(k+1):Nat)<l.length-k from (by omega)) (fun _ _ hG=>Wf [1] (bm 6 35) (t1:=[Y8 1 kU8 0 (b++Hb l (k+1)).length,slV tl nl (kE sl_) l,aa,aa,aa,(Z8l k)]) (t2:=[Y8 1 kU8 0 ((b++Hb l k)++Ih (l.getD k zE)).length,slV tl nl (kE sl_) l,aa,aa,aa,(Z8l k)]) (h1:=[.live (Xf 5 kU8 (b++Hb l (k+1)))]) (h2:=[.live (Xf 5 kU8 ((b++Hb l k)++Ih (l.getD k zE)))]) (by have e1:((b++Hb l (k+1)).length:Nat)=((b++Hb l k)++Ih (l.getD k zE)).length:=(by (rw [Xec (by omega),← List.append_assoc]));have hE:=congrArg (fun (q1:Nat)=>([Y8 1 kU8 0 q1,slV tl nl (kE sl_) l,aa,aa,aa,(Z8l k)]:List AV)) e1;exact hE) (by have e1:((b++Hb l (k+1)):List UInt8)=(b++Hb l k)++Ih (l.getD k zE):=(by (rw [Xec (by omega),← List.append_assoc]));have hE:=congrArg (fun (q1:List UInt8)=>([.live (Xf 5 kU8 q1)]:List HS)) e1;exact hE) hG)
 refine cF (dF hq1) (T.exit (xT (xT (xH (nT (sR [] (T.ret ?_)))))))
 exact eRt 4 (.one (.own 0 kU8.sz 0 (b++Hb l k).length)) [0] (by have e1:((b++Vq l).length:Nat)=(b++Hb l k).length:=(by (rw [Xih (by omega)]));have hE:=congrArg (fun (q1:Nat)=>(Y8 0 kU8 0 q1:AV)) e1;exact hE) ⟨⟨rfl,(by have e1:((b++Hb l k):List UInt8)=b++Vq l:=(by (rw [Xih (by omega)]));have hE:=congrArg (fun (q1:List UInt8)=>(.live (Xf 5 kU8 q1):HS)) e1;exact Eq.trans pZ8 hE)⟩,trivial⟩
end Go.Proofs.YtnaopgohccacmaaGreat.Q
