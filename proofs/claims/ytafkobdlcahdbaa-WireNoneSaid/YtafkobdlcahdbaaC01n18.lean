import Derived.Test.YtafkobdlcahdbaaC01n17
namespace Go.Proofs.Ytafkobdlcahdbaa.Q
open Go Go.RowKit
set_option linter.unusedVariables false
set_option linter.unusedSimpArgs false
set_option maxRecDepth 100000
set_option maxHeartbeats 4000000
-- (*quaestor/wire.Reader).Int
theorem nil_Int : Holds Try.prog 17 ⟨[dv (.pointer none)], [], dv (.int .i64 0), []⟩ := by
  refine Holds.of Try.func17 rfl (N := 11) Try.ntmps17 rfl fun w0 B0 S0 U0 => ?_
  show T _ (mkBase 11 0 w0 S0 U0 B0) ⟨[dv (.pointer none)], []⟩ _ _
  refine T.seq ?_
  refine tR (s1 := ⟨[dv (.pointer none), AV.any, dv (.int .i64 0)], []⟩) [true, false, true] []
    (oC (oS rfl rfl (r_assign (av := dv (.int .i64 0)) (lt_of rfl) ⟨rfl, trivial⟩)) (oZ rfl))
    (by kernel_rfl) (by kernel_rfl) ?_
  refine nT ?_
  refine T.seq ?_
  refine T.seq ?_
  refine tR (s1 := ⟨[dv (.pointer none), AV.any, dv (.int .i64 0), dv (.slice none 0 0)], []⟩) [true, false, true, true] []
    (oC (oS rfl rfl (r_move (av := dv (.pointer none)) (lt_of rfl) trivial))
    (oC (oS rfl rfl (r_call (nil_take_any 8 ) Try.func40 rfl (by decide) [] [] (l := [(.tmp 4, dv (.pointer none)), (.const (.int .i64 8), dv (.int .i64 8)), (.func 41, dv (.func (.func 41) #[] #[]))]) [] rfl 0 0 rfl rfl rfl rfl rfl rfl rfl rfl rfl ⟨.inl ⟨rfl, rfl⟩, ⟨.inl ⟨rfl, rfl⟩, ⟨.inl ⟨rfl, rfl⟩, trivial⟩⟩⟩ rfl (fun b hb => by cases hb) (.inl rfl) (lt_of rfl) ⟨rfl, ⟨rfl, trivial⟩⟩))
    (oC (oS rfl rfl (r_assign (av := dv (.slice none 0 0)) (lt_of rfl) trivial)) (oZ rfl))))
    (by kernel_rfl) (by kernel_rfl) ?_
  refine nT ?_
  refine T.seq ?_
  refine tR (s1 := ⟨[dv (.pointer none), AV.any, dv (.int .i64 0), dv (.slice none 0 0), AV.any, AV.any, AV.any, dv (.bool false)], []⟩) [true, false, true, true, false, false, false, true] []
    (oC (oS rfl rfl (r_move (av := dv (.slice none 0 0)) (lt_of rfl) trivial))
    (oC (oS rfl rfl (r_bin (u1 := .slice none 0 0) (u2 := .slice none 0 0) (v := .bool false) (b_neqNilS Try.underlying24) (lt_of rfl) ⟨rfl, trivial⟩)) (oZ rfl)))
    (by kernel_rfl) (by kernel_rfl) ?_
  refine nT ?_
  refine T.condF (b := false) rfl rfl ?_
  refine T.skip ?_
  refine nT ?_
  refine T.seq ?_
  refine tR (s1 := ⟨[dv (.pointer none), AV.any, dv (.int .i64 0), dv (.slice none 0 0), AV.any, AV.any, AV.any, dv (.bool false)], []⟩) [true, false, true, true, false, false, false, true] []
    (oC (oS rfl rfl (r_assign (av := dv (.int .i64 0)) (lt_of rfl) ⟨rfl, trivial⟩)) (oZ rfl))
    (by kernel_rfl) (by kernel_rfl) ?_
  refine nT ?_
  refine T.ret ?_
  exact tE (.inl rfl) [.t 2 (.one (.d (.val (.int .i64 0))))] ⟨⟨rfl, rfl⟩, trivial⟩ [] rfl rfl rfl rfl rfl rfl trivial

-- (*quaestor/wire.Reader).Bool
theorem nil_Bool : Holds Try.prog 18 ⟨[dv (.pointer none)], [], dv (.bool false), []⟩ := by
  refine Holds.of Try.func18 rfl (N := 14) Try.ntmps18 rfl fun w0 B0 S0 U0 => ?_
  show T _ (mkBase 14 0 w0 S0 U0 B0) ⟨[dv (.pointer none)], []⟩ _ _
  refine T.seq ?_
  refine tR (s1 := ⟨[dv (.pointer none), AV.any, dv (.bool false)], []⟩) [true, false, true] []
    (oC (oS rfl rfl (r_assign (av := dv (.bool false)) (lt_of rfl) ⟨rfl, trivial⟩)) (oZ rfl))
    (by kernel_rfl) (by kernel_rfl) ?_
  refine nT ?_
  refine T.seq ?_
  refine tR (s1 := ⟨[dv (.pointer none), AV.any, dv (.bool false), dv (.slice none 0 0)], []⟩) [true, false, true, true] []
    (oC (oS rfl rfl (r_move (av := dv (.pointer none)) (lt_of rfl) trivial))
    (oC (oS rfl rfl (r_call (nil_take_truth 1 ) Try.func40 rfl (by decide) [] [] (l := [(.tmp 4, dv (.pointer none)), (.const (.int .i64 1), dv (.int .i64 1)), (.func 43, dv (.func (.func 43) #[] #[]))]) [] rfl 0 0 rfl rfl rfl rfl rfl rfl rfl rfl rfl ⟨.inl ⟨rfl, rfl⟩, ⟨.inl ⟨rfl, rfl⟩, ⟨.inl ⟨rfl, rfl⟩, trivial⟩⟩⟩ rfl (fun b hb => by cases hb) (.inl rfl) (lt_of rfl) ⟨rfl, ⟨rfl, trivial⟩⟩))
    (oC (oS rfl rfl (r_assign (av := dv (.slice none 0 0)) (lt_of rfl) trivial)) (oZ rfl))))
    (by kernel_rfl) (by kernel_rfl) ?_
  refine nT ?_
  refine T.seq ?_
  refine tR (s1 := ⟨[dv (.pointer none), AV.any, dv (.bool false), dv (.slice none 0 0)], []⟩) [true, false, true, true] []
    (oC (oS rfl rfl (r_move (av := dv (.slice none 0 0)) (lt_of rfl) trivial))
    (oC (oS rfl rfl (r_bin (u1 := .slice none 0 0) (u2 := .slice none 0 0) (v := .bool false) (b_neqNilS Try.underlying24) (lt_of rfl) ⟨rfl, trivial⟩))
    (oC (oS rfl rfl (r_move (av := dv (.bool false)) (lt_of rfl) trivial))
    (oC (oN (b := false) rfl rfl rfl rfl (lt_of rfl) rfl rfl (lt_of rfl))
    (oC (oN (b := false) rfl rfl rfl rfl (lt_of rfl) rfl rfl (lt_of rfl))
    (oC (oN (b := false) rfl rfl rfl rfl (lt_of rfl) rfl rfl (lt_of rfl))
    (oC (oN (b := false) rfl rfl rfl rfl (lt_of rfl) rfl rfl (lt_of rfl))
    (oC (oS rfl rfl (r_pickF (b := false) (av := dv (.bool false)) (lt_of rfl) ⟨rfl, trivial⟩ rfl))
    (oC (oS rfl rfl (r_assign (av := dv (.bool false)) (lt_of rfl) trivial)) (oZ rfl))))))))))
    (by kernel_rfl) (by kernel_rfl) ?_
  refine nT ?_
  refine T.ret ?_
  exact tE (.inl rfl) [.t 2 (.one (.d (.val (.bool false))))] ⟨⟨rfl, rfl⟩, trivial⟩ [] rfl rfl rfl rfl rfl rfl trivial

-- (*quaestor/wire.Reader).Count
theorem nil_Count (most : Int) : Holds Try.prog 19 ⟨[dv (.pointer none), dv (.int .i64 most)], [], dv (.int .i64 0), []⟩ := by
  refine Holds.of Try.func19 rfl (N := 15) Try.ntmps19 rfl fun w0 B0 S0 U0 => ?_
  show T _ (mkBase 15 0 w0 S0 U0 B0) ⟨[dv (.pointer none), dv (.int .i64 most)], []⟩ _ _
  refine T.seq ?_
  refine tR (s1 := ⟨[dv (.pointer none), dv (.int .i64 most), AV.any, AV.any, dv (.int .i64 0)], []⟩) [true, true, false, false, true] []
    (oC (oS rfl rfl (r_assign (av := dv (.int .i64 0)) (lt_of rfl) ⟨rfl, trivial⟩)) (oZ rfl))
    (by kernel_rfl) (by kernel_rfl) ?_
  refine nT ?_
  refine T.seq ?_
  refine T.seq ?_
  refine tR (s1 := ⟨[dv (.pointer none), dv (.int .i64 most), AV.any, AV.any, dv (.int .i64 0), dv (.slice none 0 0)], []⟩) [true, true, false, false, true, true] []
    (oC (oS rfl rfl (r_move (av := dv (.pointer none)) (lt_of rfl) trivial))
    (oC (oS rfl rfl (r_move (av := dv (.int .i64 most)) (lt_of rfl) trivial))
    (oC (oS rfl rfl (r_makeFunc (fs := [(.tmp 7, .int .i64 most)]) (cs := []) rfl rfl (lt_of rfl) trivial))
    (oC (oS rfl rfl (r_call (nil_take_limit 4 most ) Try.func40 rfl (by decide) [] [] (l := [(.tmp 6, dv (.pointer none)), (.const (.int .i64 4), dv (.int .i64 4)), (.tmp 8, dv (.func (.func 44) #[.int .i64 most] #[]))]) [] rfl 0 0 rfl rfl rfl rfl rfl rfl rfl rfl rfl ⟨.inl ⟨rfl, rfl⟩, ⟨.inl ⟨rfl, rfl⟩, ⟨.inl ⟨rfl, rfl⟩, trivial⟩⟩⟩ rfl (fun b hb => by cases hb) (.inl rfl) (lt_of rfl) ⟨rfl, trivial⟩))
    (oC (oS rfl rfl (r_assign (av := dv (.slice none 0 0)) (lt_of rfl) trivial)) (oZ rfl))))))
    (by kernel_rfl) (by kernel_rfl) ?_
  refine nT ?_
  refine T.seq ?_
  refine tR (s1 := ⟨[dv (.pointer none), dv (.int .i64 most), AV.any, AV.any, dv (.int .i64 0), dv (.slice none 0 0), AV.any, AV.any, AV.any, AV.any, AV.any, dv (.bool false)], []⟩) [true, true, false, false, true, true, false, false, false, false, false, true] []
    (oC (oS rfl rfl (r_move (av := dv (.slice none 0 0)) (lt_of rfl) trivial))
    (oC (oS rfl rfl (r_bin (u1 := .slice none 0 0) (u2 := .slice none 0 0) (v := .bool false) (b_neqNilS Try.underlying24) (lt_of rfl) ⟨rfl, trivial⟩)) (oZ rfl)))
    (by kernel_rfl) (by kernel_rfl) ?_
  refine nT ?_
  refine T.condF (b := false) rfl rfl ?_
  refine T.skip ?_
  refine nT ?_
  refine T.seq ?_
  refine tR (s1 := ⟨[dv (.pointer none), dv (.int .i64 most), AV.any, AV.any, dv (.int .i64 0), dv (.slice none 0 0), AV.any, AV.any, AV.any, AV.any, AV.any, dv (.bool false)], []⟩) [true, true, false, false, true, true, false, false, false, false, false, true] []
    (oC (oS rfl rfl (r_assign (av := dv (.int .i64 0)) (lt_of rfl) ⟨rfl, trivial⟩)) (oZ rfl))
    (by kernel_rfl) (by kernel_rfl) ?_
  refine nT ?_
  refine T.ret ?_
  exact tE (.inl rfl) [.t 4 (.one (.d (.val (.int .i64 0))))] ⟨⟨rfl, rfl⟩, trivial⟩ [] rfl rfl rfl rfl rfl rfl trivial

-- (*quaestor/wire.Reader).Bytes
theorem nil_Bytes (most : Int) : Holds Try.prog 20 ⟨[dv (.pointer none), dv (.int .i64 most)], [], dv (.slice none 0 0), []⟩ := by
  refine Holds.of Try.func20 rfl (N := 36) Try.ntmps20 rfl fun w0 B0 S0 U0 => ?_
  show T _ (mkBase 36 0 w0 S0 U0 B0) ⟨[dv (.pointer none), dv (.int .i64 most)], []⟩ _ _
  refine T.seq ?_
  refine tR (s1 := ⟨[dv (.pointer none), dv (.int .i64 most), AV.any, AV.any, dv (.slice none 0 0)], []⟩) [true, true, false, false, true] []
    (oC (oS rfl rfl (r_assign (av := dv (.slice none 0 0)) (lt_of rfl) ⟨rfl, trivial⟩)) (oZ rfl))
    (by kernel_rfl) (by kernel_rfl) ?_
  refine nT ?_
  refine T.seq ?_
  refine T.seq ?_
  refine tR (s1 := ⟨[dv (.pointer none), dv (.int .i64 most), AV.any, AV.any, dv (.slice none 0 0), AV.any, AV.any, AV.any, AV.any, dv (.bool true)], []⟩) [true, true, false, false, true, false, false, false, false, true] []
    (oC (oS rfl rfl (r_move (av := dv (.pointer none)) (lt_of rfl) trivial))
    (oC (oS rfl rfl (r_bin (u1 := .pointer none) (u2 := .pointer none) (v := .bool true) (b_eqlNilP Try.underlying34) (lt_of rfl) ⟨rfl, trivial⟩)) (oZ rfl)))
    (by kernel_rfl) (by kernel_rfl) ?_
  refine nT ?_
  refine T.condT (b := true) rfl rfl ?_
  refine T.seq ?_
  refine tR (s1 := ⟨[dv (.pointer none), dv (.int .i64 most), AV.any, AV.any, dv (.slice none 0 0), AV.any, AV.any, AV.any, AV.any, dv (.bool true)], []⟩) [true, true, false, false, true, false, false, false, false, true] []
    (oC (oS rfl rfl (r_assign (av := dv (.slice none 0 0)) (lt_of rfl) ⟨rfl, trivial⟩)) (oZ rfl))
    (by kernel_rfl) (by kernel_rfl) ?_
  refine nT ?_
  refine T.ret ?_
  refine rT ?_
  exact tE (.inl rfl) [.t 4 (.one (.d (.val (.slice none 0 0))))] ⟨⟨rfl, rfl⟩, trivial⟩ [] rfl rfl rfl rfl rfl rfl trivial
end Go.Proofs.Ytafkobdlcahdbaa.Q
