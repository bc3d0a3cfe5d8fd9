import Derived.Test.YtnaopgohccacmaaGreatC19n47
namespace Go.Proofs.YtnaopgohccacmaaGreat.Q
open Go Go.RowKit
set_option linter.unusedVariables false
set_option linter.unusedSimpArgs false
set_option maxRecDepth 100000
set_option maxHeartbeats 4000000
section
variable (x:Wm) (c:Y3)
abbrev Zx3:AV:=.tv (.agg [.d (dsl false false (Vi .i64) c.X6),dU c.U4,.d (dsl false false (Vi .i64) c.Xt),dB c.I2])
abbrev Zx4:=(Vq c c.Xt.length)
abbrev Zx5:AV:=slV false false (kE false) (Zx4 c)
abbrev Zx6:=(Uh (fOf x.Vj) (cOf x.Xy) c c.Xt.length)
abbrev Zx7:TV:=.one (dB true)
end
theorem X7c (x:Wm) (c:Y3) (seq:Int) (h0:c.X6.length≤9223372036854775807) (h1:c.U4.length≤9223372036854775807) (h2:c.Xt.length≤9223372036854775807) (hr:rngW c) (hq:-9223372036854775808≤seq∧seq≤9223372036854775807):Holds Tryz.prog 6 ⟨[.tv (.agg [dI x.Vj,dI x.Xy]),.tv (.agg [.d (dsl false false (Vi .i64) c.X6),dU c.U4,.d (dsl false false (Vi .i64) c.Xt),dB c.I2]),vI seq],[],vB true,[]⟩:=by
 refine Holds.of Tryz.func6 rfl (N:=69) Tryz.ntmps6 rfl fun w0 B0 S0 U0=>?_
 show T _ (Y2 69 0 w0 S0 U0 B0) ⟨[.tv (.agg [dI x.Vj,dI x.Xy]),(Zx3 c),vI seq],[]⟩ _ _
 have hfx:=Xcr x.Vj
 have hux:=Xcw x.Xy
 have ht3:=tmod39 seq
 refine sR [] ?_
 refine T.seq ?_
 refine sR [hR 1 rfl rfl (rCa (Xba c ‹_› ‹_› ‹_›) Tryz.func9 [] [(.tmp 14,(Zx3 c))] 0 0)] ?_
 by_cases hq1:Ux c
 rotate_left
 ·refine cT (cn (dF hq1)) ?_
  refine sR [] ?_
  refine T.ret (rT ?_)
  exact eRt 6 (Zx7) [] rfl trivial
 have hsm:Ux c:=hq1;obtain ⟨hs1,hs2,hs3⟩:=id hsm;have hdl:=X06 hsm;have hvo:X0l (Vq c c.Xt.length):=X7k hsm hr;have hcl:=Fx c.X6 c.X6.length;have hcw:X04 (W8 c.X6 c.X6.length):=(Ed c.X6 c.X6.length (by omega)).2;have hlw:=X2r hcw;have hll:=Jk (W8 c.X6 c.X6.length);have hvl:=X87 (c:=c) (Nat.le_refl c.Xt.length);have hal:=X5b (fOf x.Vj) (cOf x.Xy) c c.Xt.length
 refine cF (cn (dT hq1)) ?_
 refine T.skip (nT ?_)
 refine sR [hR 2 rfl rfl (rCa (X9j x c ‹_› ‹_›) Tryz.func10 [2,3,4,5,6,7,8,9] [(.tmp 17,.tv (.agg [dI x.Vj,dI x.Xy])),(.tmp 18,(Zx3 c))] 0 8)] ?_
 refine T.seq ?_
 refine sR [] ?_
 by_cases hq2:seq>0
 ·refine cT (dT hq2) ?_
  refine xR [hR 2 rfl rfl (rCa (H7 0 (ofB 6 ([]:List (List UInt8))) (W8 c.X6 c.X6.length) (by omega) (by omega)) Tryz.func12 [8,9] [(.tmp 23,pv 8 0)] 2 2),hR 4 rfl rfl (Ye (u1:=.int .i64 seq) (u2:=.int .i64 3) (v:=.int .i64 (Int.tmod seq 3)) (b_rem (by omega) rfl) (X3 rfl) ⟨rfl,trivial⟩),hR 5 rfl rfl (Ye (u1:=.int .i64 (0+(((W8 c.X6 c.X6.length).length:Nat):Int))) (u2:=.int .i64 (Int.tmod seq 3)) (v:=.int .i64 ((0+(((W8 c.X6 c.X6.length).length:Nat):Int))+(Int.tmod seq 3))) (Wa pa) (X3 rfl) trivial),hR 6 rfl rfl (Ye (u1:=.int .i64 ((0+(((W8 c.X6 c.X6.length).length:Nat):Int))+(Int.tmod seq 3))) (u2:=.int .i64 1) (v:=.int .i64 (((0+(((W8 c.X6 c.X6.length).length:Nat):Int))+(Int.tmod seq 3))-1)) (Ve pa) (X3 rfl) ⟨rfl,trivial⟩)] pZ7 pZ7 ?_
  refine nT ?_
  refine sR [hR 7 rfl rfl (rCa (X1x (fOf x.Vj) (cOf x.Xy) (U8 (Uh (fOf x.Vj) (cOf x.Xy) c c.Xt.length)) (((0+(((W8 c.X6 c.X6.length).length:Nat):Int))+(Int.tmod seq 3))-1) false false false (Vq c c.Xt.length) false false (Ud c) ‹_› ‹_› ‹_› (by omega) (by omega)) Tryz.func22 [2,3] [(.tmp 31,pv 2 0),(.tmp 32,vI (((0+(((W8 c.X6 c.X6.length).length:Nat):Int))+(Int.tmod seq 3))-1)),(.tmp 34,(Zx5 c)),(.tmp 36,slV false false kU8 (Ud c))] 2 2)] ?_
  refine sR [hR 7 rfl rfl (rCa (X1i (fOf x.Vj) (cOf x.Xy) (Uh (fOf x.Vj) (cOf x.Xy) c c.Xt.length) (((0+(((W8 c.X6 c.X6.length).length:Nat):Int))+(Int.tmod seq 3))-1) (Vq c c.Xt.length) (Ud c) ‹_› ‹_› (by omega) ‹_› (by omega) (by omega)) Tryz.func19 [4,5] [(.tmp 43,pv 4 0),(.tmp 44,vI (((0+(((W8 c.X6 c.X6.length).length:Nat):Int))+(Int.tmod seq 3))-1)),(.tmp 46,(Zx5 c)),(.tmp 48,slV false false kU8 (Ud c))] 2 2)] ?_
  by_cases hq3:(s9D (Xz (fOf x.Vj) (cOf x.Xy) (U8 (Uh (fOf x.Vj) (cOf x.Xy) c c.Xt.length))) (fOf x.Vj) (((0+(((W8 c.X6 c.X6.length).length:Nat):Int))+(Int.tmod seq 3))-1) (Vq c c.Xt.length) (Ud c))=(s9D (Xu (fOf x.Vj) (cOf x.Xy) (Uh (fOf x.Vj) (cOf x.Xy) c c.Xt.length)) (fOf x.Vj) (((0+(((W8 c.X6 c.X6.length).length:Nat):Int))+(Int.tmod seq 3))-1) (Vq c c.Xt.length) (Ud c))
  ·by_cases hq4:(s9S (Xz (fOf x.Vj) (cOf x.Xy) (U8 (Uh (fOf x.Vj) (cOf x.Xy) c c.Xt.length))) (fOf x.Vj) (((0+(((W8 c.X6 c.X6.length).length:Nat):Int))+(Int.tmod seq 3))-1) (Vq c c.Xt.length) (Ud c))=(s9S (Xu (fOf x.Vj) (cOf x.Xy) (Uh (fOf x.Vj) (cOf x.Xy) c c.Xt.length)) (fOf x.Vj) (((0+(((W8 c.X6 c.X6.length).length:Nat):Int))+(Int.tmod seq 3))-1) (Vq c c.Xt.length) (Ud c))
   ·by_cases hq5:(s9E (Xz (fOf x.Vj) (cOf x.Xy) (U8 (Uh (fOf x.Vj) (cOf x.Xy) c c.Xt.length))) (fOf x.Vj) (((0+(((W8 c.X6 c.X6.length).length:Nat):Int))+(Int.tmod seq 3))-1) (Vq c c.Xt.length) (Ud c))=(s9E (Xu (fOf x.Vj) (cOf x.Xy) (Uh (fOf x.Vj) (cOf x.Xy) c c.Xt.length)) (fOf x.Vj) (((0+(((W8 c.X6 c.X6.length).length:Nat):Int))+(Int.tmod seq 3))-1) (Vq c c.Xt.length) (Ud c))
    ·refine sR (hY 4 (dT hq3)::(hY 5 (dT hq3)::(hS 6 (oY rfl rfl rfl rfl (X3 rfl) (dT hq3) (rCa (X3r false false false false (s9S (Xz (fOf x.Vj) (cOf x.Xy) (U8 (Uh (fOf x.Vj) (cOf x.Xy) c c.Xt.length))) (fOf x.Vj) (((0+(((W8 c.X6 c.X6.length).length:Nat):Int))+(Int.tmod seq 3))-1) (Vq c c.Xt.length) (Ud c)) (s9S (Xu (fOf x.Vj) (cOf x.Xy) (Uh (fOf x.Vj) (cOf x.Xy) c c.Xt.length)) (fOf x.Vj) (((0+(((W8 c.X6 c.X6.length).length:Nat):Int))+(Int.tmod seq 3))-1) (Vq c c.Xt.length) (Ud c)) ) Tryz.func23 [] [(.tmp 57,slV false false kU8 (s9S (Xz (fOf x.Vj) (cOf x.Xy) (U8 (Zx6 x c))) (fOf x.Vj) (((0+(((W8 c.X6 c.X6.length).length:Nat):Int))+(Int.tmod seq 3))-1) (Zx4 c) (Ud c))),(.tmp 58,slV false false kU8 (s9S (Xu (fOf x.Vj) (cOf x.Xy) (Zx6 x c)) (fOf x.Vj) (((0+(((W8 c.X6 c.X6.length).length:Nat):Int))+(Int.tmod seq 3))-1) (Zx4 c) (Ud c)))] 0 0))::(hP 7 (dT hq3)::(Xm (hY · (dT hq4)) [9,10,11] (hP 12 (dT hq4)::(hS 14 (oY rfl rfl rfl rfl (X3 rfl) (dT hq5) (rCa (X62  ) Tryz.func16 [] [] 0 0))::(hP 15 (dT hq5)::[])))))))) ?_
     refine T.ret ?_
     exact eRt 6 (Zx7) [] rfl trivial
    exact absurd p4n hq5
   exact absurd p4n hq4
  exact absurd p4n hq3
 refine cF (dF hq2) ?_
 refine T.skip (nT ?_)
 refine sR [hR 7 rfl rfl (rCa (X1x (fOf x.Vj) (cOf x.Xy) (U8 (Uh (fOf x.Vj) (cOf x.Xy) c c.Xt.length)) seq false false false (Vq c c.Xt.length) false false (Ud c) ‹_› ‹_› ‹_› (by omega) ‹_›) Tryz.func22 [2,3] [(.tmp 31,pv 2 0),(.tmp 32,vI seq),(.tmp 34,(Zx5 c)),(.tmp 36,slV false false kU8 (Ud c))] 2 2)] ?_
 refine sR [hR 7 rfl rfl (rCa (X1i (fOf x.Vj) (cOf x.Xy) (Uh (fOf x.Vj) (cOf x.Xy) c c.Xt.length) seq (Vq c c.Xt.length) (Ud c) ‹_› ‹_› (by omega) ‹_› (by omega) ‹_›) Tryz.func19 [4,5] [(.tmp 43,pv 4 0),(.tmp 44,vI seq),(.tmp 46,(Zx5 c)),(.tmp 48,slV false false kU8 (Ud c))] 2 2)] ?_
 by_cases hq6:(s9D (Xz (fOf x.Vj) (cOf x.Xy) (U8 (Uh (fOf x.Vj) (cOf x.Xy) c c.Xt.length))) (fOf x.Vj) seq (Vq c c.Xt.length) (Ud c))=(s9D (Xu (fOf x.Vj) (cOf x.Xy) (Uh (fOf x.Vj) (cOf x.Xy) c c.Xt.length)) (fOf x.Vj) seq (Vq c c.Xt.length) (Ud c))
 ·by_cases hq7:(s9S (Xz (fOf x.Vj) (cOf x.Xy) (U8 (Uh (fOf x.Vj) (cOf x.Xy) c c.Xt.length))) (fOf x.Vj) seq (Vq c c.Xt.length) (Ud c))=(s9S (Xu (fOf x.Vj) (cOf x.Xy) (Uh (fOf x.Vj) (cOf x.Xy) c c.Xt.length)) (fOf x.Vj) seq (Vq c c.Xt.length) (Ud c))
  ·by_cases hq8:(s9E (Xz (fOf x.Vj) (cOf x.Xy) (U8 (Uh (fOf x.Vj) (cOf x.Xy) c c.Xt.length))) (fOf x.Vj) seq (Vq c c.Xt.length) (Ud c))=(s9E (Xu (fOf x.Vj) (cOf x.Xy) (Uh (fOf x.Vj) (cOf x.Xy) c c.Xt.length)) (fOf x.Vj) seq (Vq c c.Xt.length) (Ud c))
   ·refine sR (hY 4 (dT hq6)::(hY 5 (dT hq6)::(hS 6 (oY rfl rfl rfl rfl (X3 rfl) (dT hq6) (rCa (X3r false false false false (s9S (Xz (fOf x.Vj) (cOf x.Xy) (U8 (Uh (fOf x.Vj) (cOf x.Xy) c c.Xt.length))) (fOf x.Vj) seq (Vq c c.Xt.length) (Ud c)) (s9S (Xu (fOf x.Vj) (cOf x.Xy) (Uh (fOf x.Vj) (cOf x.Xy) c c.Xt.length)) (fOf x.Vj) seq (Vq c c.Xt.length) (Ud c)) ) Tryz.func23 [] [(.tmp 57,slV false false kU8 (s9S (Xz (fOf x.Vj) (cOf x.Xy) (U8 (Zx6 x c))) (fOf x.Vj) seq (Zx4 c) (Ud c))),(.tmp 58,slV false false kU8 (s9S (Xu (fOf x.Vj) (cOf x.Xy) (Zx6 x c)) (fOf x.Vj) seq (Zx4 c) (Ud c)))] 0 0))::(hP 7 (dT hq6)::(Xm (hY · (dT hq7)) [9,10,11] (hP 12 (dT hq7)::(hS 14 (oY rfl rfl rfl rfl (X3 rfl) (dT hq8) (rCa (X62  ) Tryz.func16 [] [] 0 0))::(hP 15 (dT hq8)::[])))))))) ?_
    refine T.ret ?_
    exact eRt 6 (Zx7) [] rfl trivial
   exact absurd p4n hq8
  exact absurd p4n hq7
 exact absurd p4n hq6
end Go.Proofs.YtnaopgohccacmaaGreat.Q
