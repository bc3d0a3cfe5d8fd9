import Derived.Test.YtalapplihdmenaaGreatC13n25
namespace Go.Proofs.YtalapplihdmenaaGreat.Q
open Go Go.RowKit
set_option linter.unusedVariables false
set_option linter.unusedSimpArgs false
set_option maxRecDepth 100000
set_option maxHeartbeats 4000000
section
variable (f : Int) (u : Int) (l : List aE) (e : aE) (k : Int)
end
theorem cert_must (tm : Bool) (m : aM) (s : Int) (tp : Bool) (p : aM) (kind : Int) (tc : Bool) (c : aC) : Holds Tryz.prog 55 ⟨[.tv (.agg [dI m.f_Kind, dI m.f_View, dI m.f_Seq, dI m.f_Client, dI m.f_Stamp, dS m.f_Digest, .d (dsl tm false kU8 m.f_Data), dI m.f_Result.f_Code, dI m.f_Result.f_Stage, .d (dsl tm false (kE tm) m.f_Batch), .d (dsl tm false (kE tm) m.f_Pres), .d (dsl tm false (kC tm) m.f_Certs)]), vI s, pv 0 0, pv 1 0, pv 2 0], [.box 46 [dI p.f_Kind, dI p.f_View, dI p.f_Seq, dI p.f_Client, dI p.f_Stamp, dS p.f_Digest, .d (dsl tp false kU8 p.f_Data), dI p.f_Result.f_Code, dI p.f_Result.f_Stage, .d (dsl tp false (kE tp) p.f_Batch), .d (dsl tp false (kE tp) p.f_Pres), .d (dsl tp false (kC tp) p.f_Certs)], .box 3 [dI kind], .box 38 [dI c.f_Pre.f_Signer, .d (dsl tc false kU8 c.f_Pre.f_Body), .d (dsl tc false (kE tc) c.f_Votes)]], vI (musE p kind c.f_Pre.f_Signer m s), [.live (.box 46 [dI p.f_Kind, dI p.f_View, dI p.f_Seq, dI p.f_Client, dI p.f_Stamp, dS p.f_Digest, .d (dsl tp false kU8 p.f_Data), dI p.f_Result.f_Code, dI p.f_Result.f_Stage, .d (dsl tp false (kE tp) p.f_Batch), .d (dsl tp false (kE tp) p.f_Pres), .d (dsl tp false (kC tp) p.f_Certs)]), .live (.box 3 [dI kind]), .live (.box 38 [dI c.f_Pre.f_Signer, .d (dsl tc false kU8 c.f_Pre.f_Body), .d (dsl tc false (kE tc) c.f_Votes)])]⟩ := by
 refine Holds.of Tryz.func55 rfl (N := 36) Tryz.ntmps55 rfl fun w0 B0 S0 U0 => ?_
 show T _ (mkBase 36 3 w0 S0 U0 B0) ⟨[.tv (.agg [dI m.f_Kind, dI m.f_View, dI m.f_Seq, dI m.f_Client, dI m.f_Stamp, dS m.f_Digest, .d (dsl tm false kU8 m.f_Data), dI m.f_Result.f_Code, dI m.f_Result.f_Stage, .d (dsl tm false (kE tm) m.f_Batch), .d (dsl tm false (kE tm) m.f_Pres), .d (dsl tm false (kC tm) m.f_Certs)]), vI s, pv 0 0, pv 1 0, pv 2 0], [.live (.box 46 [dI p.f_Kind, dI p.f_View, dI p.f_Seq, dI p.f_Client, dI p.f_Stamp, dS p.f_Digest, .d (dsl tp false kU8 p.f_Data), dI p.f_Result.f_Code, dI p.f_Result.f_Stage, .d (dsl tp false (kE tp) p.f_Batch), .d (dsl tp false (kE tp) p.f_Pres), .d (dsl tp false (kC tp) p.f_Certs)]), .live (.box 3 [dI kind]), .live (.box 38 [dI c.f_Pre.f_Signer, .d (dsl tc false kU8 c.f_Pre.f_Body), .d (dsl tc false (kE tc) c.f_Votes)])]⟩ _ _
 refine sR [] ?_
 refine T.seq ?_
 refine T.block ?_
 refine sR [] ?_
 by_cases hq1 : m.f_View ≠ p.f_View
 ·refine cT (dT hq1) ?_
  refine sR [] ?_
  refine T.ret (rB (rT ?_))
  exact eRt 7 (.one (dI 130)) [0, 1, 2] (by have e1 : ((musE p kind c.f_Pre.f_Signer m s) : Int) = 130 := (by (simp [musE, *]; done)); have hE := cI e1; exact hE) (ix (ix (ix trivial)))
 refine cF (dF hq1) ?_
 refine sR [] ?_
 by_cases hq2 : m.f_Seq ≠ p.f_Seq
 ·refine cT (dT hq2) ?_
  refine sR [] ?_
  refine T.ret (rB (rT ?_))
  exact eRt 7 (.one (dI 131)) [0, 1, 2] (by have e1 : ((musE p kind c.f_Pre.f_Signer m s) : Int) = 131 := (by (simp [musE, *]; done)); have hE := cI e1; exact hE) (ix (ix (ix trivial)))
 refine cF (dF hq2) ?_
 refine sR [] ?_
 by_cases hq3 : m.f_Digest ≠ p.f_Digest
 ·refine cT (dT hq3) ?_
  refine sR [] ?_
  refine T.ret (rB (rT ?_))
  exact eRt 7 (.one (dI 132)) [0, 1, 2] (by have e1 : ((musE p kind c.f_Pre.f_Signer m s) : Int) = 132 := (by (simp [musE, *]; done)); have hE := cI e1; exact hE) (ix (ix (ix trivial)))
 refine cF (dF hq3) ?_
 by_cases hq4 : kind = 3
 ·refine sR [hY 3 (dT hq4),
    hY 4 (dT hq4),
    hY 5 (dT hq4),
    hY 6 (dT hq4),
    hY 7 (dT hq4),
    hP 8 (dT hq4)] ?_
  by_cases hq5 : s = c.f_Pre.f_Signer
  ·refine cT (dT hq5) ?_
   refine sR [] ?_
   refine T.ret (rB (rT ?_))
   exact eRt 7 (.one (dI 133)) [0, 1, 2] (by have e1 : ((musE p kind c.f_Pre.f_Signer m s) : Int) = 133 := (by (simp [musE, *]; done)); have hE := cI e1; exact hE) (ix (ix (ix trivial)))
  refine cF (dF hq5) ?_
  refine T.skip ?_
  refine nB ?_
  refine nT ?_
  refine sR [] ?_
  refine T.ret ?_
  exact eRt 7 (.one (dI 0)) [0, 1, 2] (by have e1 : ((musE p kind c.f_Pre.f_Signer m s) : Int) = 0 := (by (simp [musE, *]; done)); have hE := cI e1; exact hE) (ix (ix (ix trivial)))
 refine sR [hN 3 true (dF hq4),
   hN 4 true (dF hq4),
   hN 5 true (dF hq4),
   hN 6 true (dF hq4),
   hN 7 true (dF hq4),
   hP 8 (dF hq4)] ?_
 refine cF (b := false) rfl ?_
 refine T.skip ?_
 refine nB ?_
 refine nT ?_
 refine sR [] ?_
 refine T.ret ?_
 exact eRt 7 (.one (dI 0)) [0, 1, 2] (by have e1 : ((musE p kind c.f_Pre.f_Signer m s) : Int) = 0 := (by (simp [musE, *]; done)); have hE := cI e1; exact hE) (ix (ix (ix trivial)))
end Go.Proofs.YtalapplihdmenaaGreat.Q
