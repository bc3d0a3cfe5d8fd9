import Derived.Test.YtafkobdlcahdbaaC01n18
namespace Go.Proofs.Ytafkobdlcahdbaa.Q
open Go Go.RowKit
set_option linter.unusedVariables false
set_option linter.unusedSimpArgs false
set_option maxRecDepth 100000
set_option maxHeartbeats 4000000
-- (*quaestor/wire.Reader).Num
theorem nil_Num : Holds Try.prog 22 ⟨[dv (.pointer none)], [], dv (.float .f64 0), []⟩ := by
  refine Holds.of Try.func22 rfl (N := 11) Try.ntmps22 rfl fun w0 B0 S0 U0 => ?_
  show T _ (mkBase 11 0 w0 S0 U0 B0) ⟨[dv (.pointer none)], []⟩ _ _
  refine T.seq ?_
  refine tR (s1 := ⟨[dv (.pointer none), AV.any, dv (.float .f64 0)], []⟩) [true, false, true] []
    (oC (oS rfl rfl (r_assign (av := dv (.float .f64 0)) (lt_of rfl) ⟨rfl, trivial⟩)) (oZ rfl))
    (by kernel_rfl) (by kernel_rfl) ?_
  refine nT ?_
  refine T.seq ?_
  refine T.seq ?_
  refine tR (s1 := ⟨[dv (.pointer none), AV.any, dv (.float .f64 0), dv (.slice none 0 0)], []⟩) [true, false, true, true] []
    (oC (oS rfl rfl (r_move (av := dv (.pointer none)) (lt_of rfl) trivial))
    (oC (oS rfl rfl (r_call (nil_take_float 8 ) Try.func40 rfl (by decide) [] [] (l := [(.tmp 4, dv (.pointer none)), (.const (.int .i64 8), dv (.int .i64 8)), (.func 46, dv (.func (.func 46) #[] #[]))]) [] rfl 0 0 rfl rfl rfl rfl rfl rfl rfl rfl rfl ⟨.inl ⟨rfl, rfl⟩, ⟨.inl ⟨rfl, rfl⟩, ⟨.inl ⟨rfl, rfl⟩, trivial⟩⟩⟩ rfl (fun b hb => by cases hb) (.inl rfl) (lt_of rfl) ⟨rfl, ⟨rfl, trivial⟩⟩))
    (oC (oS rfl rfl (r_assign (av := dv (.slice none 0 0)) (lt_of rfl) trivial)) (oZ rfl))))
    (by kernel_rfl) (by kernel_rfl) ?_
  refine nT ?_
  refine T.seq ?_
  refine tR (s1 := ⟨[dv (.pointer none), AV.any, dv (.float .f64 0), dv (.slice none 0 0), AV.any, AV.any, AV.any, dv (.bool false)], []⟩) [true, false, true, true, false, false, false, true] []
    (oC (oS rfl rfl (r_move (av := dv (.slice none 0 0)) (lt_of rfl) trivial))
    (oC (oS rfl rfl (r_bin (u1 := .slice none 0 0) (u2 := .slice none 0 0) (v := .bool false) (b_neqNilS Try.underlying24) (lt_of rfl) ⟨rfl, trivial⟩)) (oZ rfl)))
    (by kernel_rfl) (by kernel_rfl) ?_
  refine nT ?_
  refine T.condF (b := false) rfl rfl ?_
  refine T.skip ?_
  refine nT ?_
  refine T.seq ?_
  refine tR (s1 := ⟨[dv (.pointer none), AV.any, dv (.float .f64 0), dv (.slice none 0 0), AV.any, AV.any, AV.any, dv (.bool false)], []⟩) [true, false, true, true, false, false, false, true] []
    (oC (oS rfl rfl (r_assign (av := dv (.float .f64 0)) (lt_of rfl) ⟨rfl, trivial⟩)) (oZ rfl))
    (by kernel_rfl) (by kernel_rfl) ?_
  refine nT ?_
  refine T.ret ?_
  exact tE (.inl rfl) [.t 2 (.one (.d (.val (.float .f64 0))))] ⟨⟨rfl, rfl⟩, trivial⟩ [] rfl rfl rfl rfl rfl rfl trivial

-- (*quaestor/wire.Reader).End
theorem nil_End : Holds Try.prog 14 ⟨[dv (.pointer none)], [], .tup [], []⟩ := by
  refine Holds.of Try.func14 rfl (N := 22) Try.ntmps14 rfl fun w0 B0 S0 U0 => ?_
  show T _ (mkBase 22 0 w0 S0 U0 B0) ⟨[dv (.pointer none)], []⟩ _ _
  refine T.seq ?_
  refine tR (s1 := ⟨[dv (.pointer none), AV.any, AV.any, AV.any, AV.any, AV.any, AV.any, AV.any, AV.any, AV.any, AV.any, AV.any, AV.any, AV.any, AV.any, AV.any, AV.any, AV.any, dv (.bool false)], []⟩) [true, false, false, false, false, false, false, false, false, false, false, false, false, false, false, false, false, false, true] []
    (oC (oS rfl rfl (r_move (av := dv (.pointer none)) (lt_of rfl) trivial))
    (oC (oS rfl rfl (r_bin (u1 := .pointer none) (u2 := .pointer none) (v := .bool false) (b_neqNilP Try.underlying34) (lt_of rfl) ⟨rfl, trivial⟩))
    (oC (oS rfl rfl (r_move (av := dv (.bool false)) (lt_of rfl) trivial))
    (oC (oN (b := false) rfl rfl rfl rfl (lt_of rfl) rfl rfl (lt_of rfl))
    (oC (oN (b := false) rfl rfl rfl rfl (lt_of rfl) rfl rfl (lt_of rfl))
    (oC (oN (b := false) rfl rfl rfl rfl (lt_of rfl) rfl rfl (lt_of rfl))
    (oC (oN (b := false) rfl rfl rfl rfl (lt_of rfl) rfl rfl (lt_of rfl))
    (oC (oN (b := false) rfl rfl rfl rfl (lt_of rfl) rfl rfl (lt_of rfl))
    (oC (oS rfl rfl (r_pickF (b := false) (av := dv (.bool false)) (lt_of rfl) ⟨rfl, trivial⟩ rfl))
    (oC (oS rfl rfl (r_move (av := dv (.bool false)) (lt_of rfl) trivial))
    (oC (oN (b := false) rfl rfl rfl rfl (lt_of rfl) rfl rfl (lt_of rfl))
    (oC (oN (b := false) rfl rfl rfl rfl (lt_of rfl) rfl rfl (lt_of rfl))
    (oC (oN (b := false) rfl rfl rfl rfl (lt_of rfl) rfl rfl (lt_of rfl))
    (oC (oN (b := false) rfl rfl rfl rfl (lt_of rfl) rfl rfl (lt_of rfl))
    (oC (oN (b := false) rfl rfl rfl rfl (lt_of rfl) rfl rfl (lt_of rfl))
    (oC (oN (b := false) rfl rfl rfl rfl (lt_of rfl) rfl rfl (lt_of rfl))
    (oC (oS rfl rfl (r_pickF (b := false) (av := dv (.bool false)) (lt_of rfl) ⟨rfl, trivial⟩ rfl)) (oZ rfl))))))))))))))))))
    (by kernel_rfl) (by kernel_rfl) ?_
  refine nT ?_
  refine T.condF (b := false) rfl rfl ?_
  refine T.skip ?_
  exact tE (.inr rfl) [] trivial [] rfl rfl rfl rfl rfl rfl trivial

-- (*quaestor/wire.Reader).Left
theorem nil_Left : Holds Try.prog 15 ⟨[dv (.pointer none)], [], dv (.int .i64 0), []⟩ := by
  refine Holds.of Try.func15 rfl (N := 10) Try.ntmps15 rfl fun w0 B0 S0 U0 => ?_
  show T _ (mkBase 10 0 w0 S0 U0 B0) ⟨[dv (.pointer none)], []⟩ _ _
  refine T.seq ?_
  refine tR (s1 := ⟨[dv (.pointer none), AV.any, dv (.int .i64 0)], []⟩) [true, false, true] []
    (oC (oS rfl rfl (r_assign (av := dv (.int .i64 0)) (lt_of rfl) ⟨rfl, trivial⟩)) (oZ rfl))
    (by kernel_rfl) (by kernel_rfl) ?_
  refine nT ?_
  refine T.seq ?_
  refine T.seq ?_
  refine tR (s1 := ⟨[dv (.pointer none), AV.any, dv (.int .i64 0), AV.any, dv (.bool true)], []⟩) [true, false, true, false, true] []
    (oC (oS rfl rfl (r_move (av := dv (.pointer none)) (lt_of rfl) trivial))
    (oC (oS rfl rfl (r_bin (u1 := .pointer none) (u2 := .pointer none) (v := .bool true) (b_eqlNilP Try.underlying34) (lt_of rfl) ⟨rfl, trivial⟩)) (oZ rfl)))
    (by kernel_rfl) (by kernel_rfl) ?_
  refine nT ?_
  refine T.condT (b := true) rfl rfl ?_
  refine T.seq ?_
  refine tR (s1 := ⟨[dv (.pointer none), AV.any, dv (.int .i64 0), AV.any, dv (.bool true)], []⟩) [true, false, true, false, true] []
    (oC (oS rfl rfl (r_assign (av := dv (.int .i64 0)) (lt_of rfl) ⟨rfl, trivial⟩)) (oZ rfl))
    (by kernel_rfl) (by kernel_rfl) ?_
  refine nT ?_
  refine T.ret ?_
  refine rT ?_
  exact tE (.inl rfl) [.t 2 (.one (.d (.val (.int .i64 0))))] ⟨⟨rfl, rfl⟩, trivial⟩ [] rfl rfl rfl rfl rfl rfl trivial

-- (*quaestor/wire.Reader).Err
theorem nil_Err : Holds Try.prog 13 ⟨[dv (.pointer none)], [], dv (.int .i64 0), []⟩ := by
  refine Holds.of Try.func13 rfl (N := 9) Try.ntmps13 rfl fun w0 B0 S0 U0 => ?_
  show T _ (mkBase 9 0 w0 S0 U0 B0) ⟨[dv (.pointer none)], []⟩ _ _
  refine T.seq ?_
  refine tR (s1 := ⟨[dv (.pointer none), AV.any, dv (.int .i64 0)], []⟩) [true, false, true] []
    (oC (oS rfl rfl (r_assign (av := dv (.int .i64 0)) (lt_of rfl) ⟨rfl, trivial⟩)) (oZ rfl))
    (by kernel_rfl) (by kernel_rfl) ?_
  refine nT ?_
  refine T.seq ?_
  refine T.seq ?_
  refine tR (s1 := ⟨[dv (.pointer none), AV.any, dv (.int .i64 0), AV.any, dv (.bool true)], []⟩) [true, false, true, false, true] []
    (oC (oS rfl rfl (r_move (av := dv (.pointer none)) (lt_of rfl) trivial))
    (oC (oS rfl rfl (r_bin (u1 := .pointer none) (u2 := .pointer none) (v := .bool true) (b_eqlNilP Try.underlying34) (lt_of rfl) ⟨rfl, trivial⟩)) (oZ rfl)))
    (by kernel_rfl) (by kernel_rfl) ?_
  refine nT ?_
  refine T.condT (b := true) rfl rfl ?_
  refine T.seq ?_
  refine tR (s1 := ⟨[dv (.pointer none), AV.any, dv (.int .i64 0), AV.any, dv (.bool true)], []⟩) [true, false, true, false, true] []
    (oC (oS rfl rfl (r_assign (av := dv (.int .i64 0)) (lt_of rfl) ⟨rfl, trivial⟩)) (oZ rfl))
    (by kernel_rfl) (by kernel_rfl) ?_
  refine nT ?_
  refine T.ret ?_
  refine rT ?_
  exact tE (.inl rfl) [.t 2 (.one (.d (.val (.int .i64 0))))] ⟨⟨rfl, rfl⟩, trivial⟩ [] rfl rfl rfl rfl rfl rfl trivial
end Go.Proofs.Ytafkobdlcahdbaa.Q
