import Derived.Test.YthnefnknoahbkaaC18n31
namespace Go.Proofs.Ythnefnknoahbkaa.Q
open Go Go.RowKit
set_option linter.unusedVariables false
set_option linter.unusedSimpArgs false
set_option maxRecDepth 100000
set_option maxHeartbeats 4000000
abbrev Zm7 (y:Xn):TV:=.agg [dI y.X3,dI y.X4,dI y.Wv,dU y.Ys,dI y.Ya.X3,dI y.Ya.Xt,dI y.Ya.Xy,dI y.Ya.Xb,dI y.Ya.Xv,dS y.Ya.Xc,dU y.Ya.Xk,dI y.Ya.X1.Xs,dI y.Ya.X1.Xo,.d (dsl false false (kE false) y.Ya.Xf),.d (dsl false false (kE false) y.Ya.Xr),.d (dsl false false (kC false) y.Ya.X7),dI y.X1.Xs,dI y.X1.Xo,dB y.Yn]
abbrev Zm8 (y:Xn):AV:=.tv (.agg [dI y.X4,.d (.val (.slice none 0 0))])
abbrev Zm9:TV:=.one (dB true)
theorem X6m (id:Int) (y:Xn) (hid:-9223372036854775808≤id∧id≤9223372036854775807) (hy:E4 y) (hs:-9223372036854775808≤y.X4∧y.X4≤9223372036854775807):Holds Try.prog 6 ⟨[vI id,.tv (.agg [dI y.X3,dI y.X4,dI y.Wv,dU y.Ys,dI y.Ya.X3,dI y.Ya.Xt,dI y.Ya.Xy,dI y.Ya.Xb,dI y.Ya.Xv,dS y.Ya.Xc,dU y.Ya.Xk,dI y.Ya.X1.Xs,dI y.Ya.X1.Xo,.d (dsl false false (kE false) y.Ya.Xf),.d (dsl false false (kE false) y.Ya.Xr),.d (dsl false false (kC false) y.Ya.X7),dI y.X1.Xs,dI y.X1.Xo,dB y.Yn])],[],vB true,[]⟩:=by
 refine Holds.of Try.func6 rfl (N:=70) Try.ntmps6 rfl fun w0 B0 S0 U0=>?_
 show T _ (Xz 70 0 w0 S0 U0 B0) ⟨[vI id,.tv ((Zm7 y))],[]⟩ _ _
 have hff:=X3o 1
 have huu:=X3t 2
 have hr1:∀ a,a∈[y]→E4 a:=(fun a ha=>by rw [List.mem_singleton.1 ha];exact hy)
 refine sR [] (T.seq ?_)
 refine sR [hR 1 rfl rfl (Yd 1 44 (Y2 false) (Fw false) [y] [⟨0,.tmp 11,(Zm7 y),0⟩] (cs:=[dI y.X3,dI y.X4,dI y.Wv,dU y.Ys,dI y.Ya.X3,dI y.Ya.Xt,dI y.Ya.Xy,dI y.Ya.Xb,dI y.Ya.Xv,dS y.Ya.Xc,dU y.Ya.Xk,dI y.Ya.X1.Xs,dI y.Ya.X1.Xo,.d (dsl false false (kE false) y.Ya.Xf),.d (dsl false false (kE false) y.Ya.Xr),.d (dsl false false (kC false) y.Ya.X7),dI y.X1.Xs,dI y.X1.Xo,dB y.Yn]) Try.underlying24 Jr rfl zero_44 rfl rfl rfl pf (Ws rfl rfl pf Wn) pZ4 (Vz pZ4) (X8 rfl) trivial),hR 2 rfl rfl (Wm (X0r true false false [y] (by (simp [maxLen,-List.getD_eq_getElem?_getD]<;>omega)) ‹_›) Try.func7 rfl (by decide) [] [1] (l:=[(.tmp 12,Y3 1 (Y2 false) 0 [y].length)]) [(1,.live (Xe 44 (Y2 false) [y]))] rfl 0 0 rfl rfl rfl rfl rfl rfl rfl rfl rfl ⟨.inr (.inl ⟨rfl,Um,rfl,rfl,by simp,44,[y].length,We (Y2 false) [y],List.Mem.head _,pe,fun i j=>by rw [Nat.zero_add]⟩),trivial⟩ rfl pZ3 (.inr ⟨trivial,trivial⟩) (X8 rfl) trivial)] ?_
 by_cases hq1:X19 [y]
 rotate_left
 ·refine cT (cn (dF hq1)) (sR [] (T.ret (rT ?_)))
  exact eRt 4 (Zm9) [] rfl trivial
 refine cF (cn (dT hq1)) (T.skip (nT ?_))
 by_cases hq2:Yr (cOf 2) id
 ·refine sR [hR 0 rfl rfl (rCa (X3u 1 2 ) Try.func19 [2,3] [(.const (.int .i64 1),vI 1),(.const (.int .i64 2),vI 2)] 0 2),hR 2 rfl rfl (rCa (X71 (fOf 1) (cOf 2) ([]:List (Xw×Bool)) id ‹_› ‹_› ‹_› ‹_›) Try.func18 [2,3,4,5,6] [(.tmp 15,pv 2 0),(.tmp 16,vI id)] 2 5)] (T.seq ?_)
  by_cases hq3:id<1000
  ·exact absurd (.inl hq3) (X3e.1 hq2)
  by_cases hq4:false≠(decide (id>1001))
  ·exact absurd (dF (show ¬id>1001 from fun w=>X3e.1 hq2 (.inr w))).symm hq4
  refine sR [hY 5 (dF hq3),hY 6 (dF hq3),hP 7 (dF hq3),hY 10 (dF hq4),hS 11 (oY rfl rfl rfl rfl (X8 rfl) (dF hq4) (rCa (X05 id ‹_›) Try.func18 [] [(.const (.pointer none),dv (.pointer none)),(.tmp 28,vI id)] 0 0)),hY 12 (dF hq4),hP 13 (dF hq4)] (cF (b:=false) rfl (T.skip (nT (sR [] (sR [hR 3 rfl rfl (rCa (Hp false false y.Ys ) Try.func20 [] [(.tmp 33,dv (.pointer none)),(.tmp 35,slV false false kU8 y.Ys)] 0 0)] (sR [hR 4 rfl rfl (rCn (H4 false (aE.mk y.X4 ([]:List UInt8)) ) Try.func21 [] [(.tmp 39,dv (.pointer none)),(.tmp 42,(Zm8 y))] 0 0 ⟨.inl ⟨rfl,rfl⟩,⟨⟨.inl ⟨rfl,rfl⟩,⟨.inr pZ9,trivial⟩⟩,trivial⟩⟩ trivial)] (sR [hR 1 rfl rfl (rCa (Hx  ) Try.func12 [] [(.tmp 45,dv (.pointer none))] 0 0)] ?_)))))))
  by_cases hq5:((([]:List Y7).length:Nat):Int)=0
  ·by_cases hq6:((([]:List Xj).length:Nat):Int)=0
   ·refine sR [hY1 3,hY1 4,hP1 5,hY1 7,hS 8 (oY (b:=true) rfl rfl rfl rfl (X8 rfl) rfl (rCa (Fe  ) Try.func17 [] [(.tmp 56,dv (.pointer none))] 0 0)),hY1 9,hY1 10,hP1 11,hY 13 (dT hq5),hS 14 (oY rfl rfl rfl rfl (X8 rfl) (dT hq5) (rCa (H3  ) Try.func13 [] [(.tmp 62,dv (.pointer none))] 0 0)),hY 15 (dT hq5),hY 16 (dT hq5),hP 17 (dT hq5),hS 19 (oY rfl rfl rfl rfl (X8 rfl) (dT hq6) (rCa (Ux  ) Try.func11 [] [] 0 0)),hP 20 (dT hq6)] (T.ret ?_)
    exact eRt 4 (Zm9) [] rfl trivial
   exact absurd rfl hq6
  exact absurd rfl hq5
 refine sR [hR 0 rfl rfl (rCa (X3u 1 2 ) Try.func19 [2,3] [(.const (.int .i64 1),vI 1),(.const (.int .i64 2),vI 2)] 0 2),hR 2 rfl rfl (rCa (Xbq (fOf 1) (cOf 2) ([]:List (Xw×Bool)) id ‹_› ‹_› ‹_› ‹_›) Try.func18 [2,3] [(.tmp 15,pv 2 0),(.tmp 16,vI id)] 2 2)] (T.seq ?_)
 by_cases hq7:id<1000
 ·refine sR [hN 5 false (dT hq7),hN 6 false (dT hq7),hP 7 (dT hq7),hY 10 (show decide (true≠true)=false from dF (fun h=>h rfl)),hS 11 (oY rfl rfl rfl rfl (X8 rfl) (show decide (true≠true)=false from dF (fun h=>h rfl)) (rCa (X05 id ‹_›) Try.func18 [] [(.const (.pointer none),dv (.pointer none)),(.tmp 28,vI id)] 0 0)),hY 12 (show decide (true≠true)=false from dF (fun h=>h rfl)),hP 13 (show decide (true≠true)=false from dF (fun h=>h rfl))] (cF (b:=false) rfl (T.skip (nT (sR [] (sR [hR 3 rfl rfl (rCa (Hp false false y.Ys ) Try.func20 [] [(.tmp 33,dv (.pointer none)),(.tmp 35,slV false false kU8 y.Ys)] 0 0)] ?_)))))
  refine sR [hR 4 rfl rfl (rCn (H4 false (aE.mk y.X4 ([]:List UInt8)) ) Try.func21 [] [(.tmp 39,dv (.pointer none)),(.tmp 42,(Zm8 y))] 0 0 ⟨.inl ⟨rfl,rfl⟩,⟨⟨.inl ⟨rfl,rfl⟩,⟨.inr pZ9,trivial⟩⟩,trivial⟩⟩ trivial)] (sR [hR 1 rfl rfl (rCa (Hx  ) Try.func12 [] [(.tmp 45,dv (.pointer none))] 0 0)] ?_)
  by_cases hq8:((([]:List Y7).length:Nat):Int)=0
  ·by_cases hq9:((([]:List Xj).length:Nat):Int)=0
   ·refine sR [hY1 3,hY1 4,hP1 5,hY1 7,hS 8 (oY (b:=true) rfl rfl rfl rfl (X8 rfl) rfl (rCa (Fe  ) Try.func17 [] [(.tmp 56,dv (.pointer none))] 0 0)),hY1 9,hY1 10,hP1 11,hY 13 (dT hq8),hS 14 (oY rfl rfl rfl rfl (X8 rfl) (dT hq8) (rCa (H3  ) Try.func13 [] [(.tmp 62,dv (.pointer none))] 0 0)),hY 15 (dT hq8),hY 16 (dT hq8),hP 17 (dT hq8),hS 19 (oY rfl rfl rfl rfl (X8 rfl) (dT hq9) (rCa (Ux  ) Try.func11 [] [] 0 0)),hP 20 (dT hq9)] (T.ret ?_)
    exact eRt 4 (Zm9) [] rfl trivial
   exact absurd rfl hq9
  exact absurd rfl hq8
 by_cases hq10:true≠(decide (id>1001))
 ·exact absurd (dT (show id>1001 by have h9:¬¬(id<1000∨id>1001):=fun w=>hq2 (X3e.2 w);omega)).symm hq10
 refine sR [hY 5 (dF hq7),hY 6 (dF hq7),hP 7 (dF hq7),hY 10 (dF hq10),hS 11 (oY rfl rfl rfl rfl (X8 rfl) (dF hq10) (rCa (X05 id ‹_›) Try.func18 [] [(.const (.pointer none),dv (.pointer none)),(.tmp 28,vI id)] 0 0)),hY 12 (dF hq10),hP 13 (dF hq10)] (cF (b:=false) rfl (T.skip (nT (sR [] (sR [hR 3 rfl rfl (rCa (Hp false false y.Ys ) Try.func20 [] [(.tmp 33,dv (.pointer none)),(.tmp 35,slV false false kU8 y.Ys)] 0 0)] (sR [hR 4 rfl rfl (rCn (H4 false (aE.mk y.X4 ([]:List UInt8)) ) Try.func21 [] [(.tmp 39,dv (.pointer none)),(.tmp 42,(Zm8 y))] 0 0 ⟨.inl ⟨rfl,rfl⟩,⟨⟨.inl ⟨rfl,rfl⟩,⟨.inr pZ9,trivial⟩⟩,trivial⟩⟩ trivial)] (sR [hR 1 rfl rfl (rCa (Hx  ) Try.func12 [] [(.tmp 45,dv (.pointer none))] 0 0)] ?_)))))))
 by_cases hq11:((([]:List Y7).length:Nat):Int)=0
 ·by_cases hq12:((([]:List Xj).length:Nat):Int)=0
  ·refine sR [hY1 3,hY1 4,hP1 5,hY1 7,hS 8 (oY (b:=true) rfl rfl rfl rfl (X8 rfl) rfl (rCa (Fe  ) Try.func17 [] [(.tmp 56,dv (.pointer none))] 0 0)),hY1 9,hY1 10,hP1 11,hY 13 (dT hq11),hS 14 (oY rfl rfl rfl rfl (X8 rfl) (dT hq11) (rCa (H3  ) Try.func13 [] [(.tmp 62,dv (.pointer none))] 0 0)),hY 15 (dT hq11),hY 16 (dT hq11),hP 17 (dT hq11),hS 19 (oY rfl rfl rfl rfl (X8 rfl) (dT hq12) (rCa (Ux  ) Try.func11 [] [] 0 0)),hP 20 (dT hq12)] (T.ret ?_)
   exact eRt 4 (Zm9) [] rfl trivial
  exact absurd rfl hq12
 exact absurd rfl hq11
end Go.Proofs.Ythnefnknoahbkaa.Q
