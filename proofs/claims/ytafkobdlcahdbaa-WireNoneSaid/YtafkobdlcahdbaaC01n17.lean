import Derived.Test.YtafkobdlcahdbaaC01n13
namespace Go.Proofs.Ytafkobdlcahdbaa.Q
open Go Go.RowKit
set_option linter.unusedVariables false
set_option linter.unusedSimpArgs false
set_option maxRecDepth 100000
set_option maxHeartbeats 4000000
theorem elem_22 : Elem Try.prog 22 30 4 48 := ⟨Try.underlying22, _, _, iat_30, rfl, rfl, rfl, rfl, by decide⟩
-- (*quaestor/wire.Reader).take
theorem nil_take_any (n : Int) : Holds Try.prog 40 ⟨[dv (.pointer none), dv (.int .i64 n), dv (.func (.func 41) #[] #[])], [], dv (.slice none 0 0), []⟩ := by
  refine Holds.of Try.func40 rfl (N := 54) Try.ntmps40 rfl fun w0 B0 S0 U0 => ?_
  show T _ (mkBase 54 0 w0 S0 U0 B0) ⟨[dv (.pointer none), dv (.int .i64 n), dv (.func (.func 41) #[] #[])], []⟩ _ _
  refine T.seq ?_
  refine tR (s1 := ⟨[dv (.pointer none), dv (.int .i64 n), dv (.func (.func 41) #[] #[]), AV.any, AV.any, AV.any, dv (.slice none 0 0)], []⟩) [true, true, true, false, false, false, true] []
    (oC (oS rfl rfl (r_assign (av := dv (.slice none 0 0)) (lt_of rfl) ⟨rfl, trivial⟩)) (oZ rfl))
    (by kernel_rfl) (by kernel_rfl) ?_
  refine nT ?_
  refine T.seq ?_
  refine T.seq ?_
  refine tR (s1 := ⟨[dv (.pointer none), dv (.int .i64 n), dv (.func (.func 41) #[] #[]), AV.any, AV.any, AV.any, dv (.slice none 0 0), AV.any, AV.any, AV.any, AV.any, AV.any, AV.any, AV.any, AV.any, AV.any, dv (.bool true)], []⟩) [true, true, true, false, false, false, true, false, false, false, false, false, false, false, false, false, true] []
    (oC (oS rfl rfl (r_move (av := dv (.pointer none)) (lt_of rfl) trivial))
    (oC (oS rfl rfl (r_bin (u1 := .pointer none) (u2 := .pointer none) (v := .bool true) (b_eqlNilP Try.underlying34) (lt_of rfl) ⟨rfl, trivial⟩))
    (oC (oS rfl rfl (r_move (av := dv (.bool true)) (lt_of rfl) trivial))
    (oC (oN (b := true) rfl rfl rfl rfl (lt_of rfl) rfl rfl (lt_of rfl))
    (oC (oN (b := true) rfl rfl rfl rfl (lt_of rfl) rfl rfl (lt_of rfl))
    (oC (oN (b := true) rfl rfl rfl rfl (lt_of rfl) rfl rfl (lt_of rfl))
    (oC (oN (b := true) rfl rfl rfl rfl (lt_of rfl) rfl rfl (lt_of rfl))
    (oC (oN (b := true) rfl rfl rfl rfl (lt_of rfl) rfl rfl (lt_of rfl))
    (oC (oS rfl rfl (r_pickT (b := true) (av := dv (.bool true)) (lt_of rfl) ⟨rfl, trivial⟩ rfl)) (oZ rfl))))))))))
    (by kernel_rfl) (by kernel_rfl) ?_
  refine nT ?_
  refine T.condT (b := true) rfl rfl ?_
  refine T.seq ?_
  refine tR (s1 := ⟨[dv (.pointer none), dv (.int .i64 n), dv (.func (.func 41) #[] #[]), AV.any, AV.any, AV.any, dv (.slice none 0 0), AV.any, AV.any, AV.any, AV.any, AV.any, AV.any, AV.any, AV.any, AV.any, dv (.bool true)], []⟩) [true, true, true, false, false, false, true, false, false, false, false, false, false, false, false, false, true] []
    (oC (oS rfl rfl (r_assign (av := dv (.slice none 0 0)) (lt_of rfl) ⟨rfl, trivial⟩)) (oZ rfl))
    (by kernel_rfl) (by kernel_rfl) ?_
  refine nT ?_
  refine T.ret ?_
  refine rT ?_
  exact tE (.inl rfl) [.t 6 (.one (.d (.val (.slice none 0 0))))] ⟨⟨rfl, rfl⟩, trivial⟩ [] rfl rfl rfl rfl rfl rfl trivial

-- (*quaestor/wire.Reader).take
theorem nil_take_truth (n : Int) : Holds Try.prog 40 ⟨[dv (.pointer none), dv (.int .i64 n), dv (.func (.func 43) #[] #[])], [], dv (.slice none 0 0), []⟩ := by
  refine Holds.of Try.func40 rfl (N := 54) Try.ntmps40 rfl fun w0 B0 S0 U0 => ?_
  show T _ (mkBase 54 0 w0 S0 U0 B0) ⟨[dv (.pointer none), dv (.int .i64 n), dv (.func (.func 43) #[] #[])], []⟩ _ _
  refine T.seq ?_
  refine tR (s1 := ⟨[dv (.pointer none), dv (.int .i64 n), dv (.func (.func 43) #[] #[]), AV.any, AV.any, AV.any, dv (.slice none 0 0)], []⟩) [true, true, true, false, false, false, true] []
    (oC (oS rfl rfl (r_assign (av := dv (.slice none 0 0)) (lt_of rfl) ⟨rfl, trivial⟩)) (oZ rfl))
    (by kernel_rfl) (by kernel_rfl) ?_
  refine nT ?_
  refine T.seq ?_
  refine T.seq ?_
  refine tR (s1 := ⟨[dv (.pointer none), dv (.int .i64 n), dv (.func (.func 43) #[] #[]), AV.any, AV.any, AV.any, dv (.slice none 0 0), AV.any, AV.any, AV.any, AV.any, AV.any, AV.any, AV.any, AV.any, AV.any, dv (.bool true)], []⟩) [true, true, true, false, false, false, true, false, false, false, false, false, false, false, false, false, true] []
    (oC (oS rfl rfl (r_move (av := dv (.pointer none)) (lt_of rfl) trivial))
    (oC (oS rfl rfl (r_bin (u1 := .pointer none) (u2 := .pointer none) (v := .bool true) (b_eqlNilP Try.underlying34) (lt_of rfl) ⟨rfl, trivial⟩))
    (oC (oS rfl rfl (r_move (av := dv (.bool true)) (lt_of rfl) trivial))
    (oC (oN (b := true) rfl rfl rfl rfl (lt_of rfl) rfl rfl (lt_of rfl))
    (oC (oN (b := true) rfl rfl rfl rfl (lt_of rfl) rfl rfl (lt_of rfl))
    (oC (oN (b := true) rfl rfl rfl rfl (lt_of rfl) rfl rfl (lt_of rfl))
    (oC (oN (b := true) rfl rfl rfl rfl (lt_of rfl) rfl rfl (lt_of rfl))
    (oC (oN (b := true) rfl rfl rfl rfl (lt_of rfl) rfl rfl (lt_of rfl))
    (oC (oS rfl rfl (r_pickT (b := true) (av := dv (.bool true)) (lt_of rfl) ⟨rfl, trivial⟩ rfl)) (oZ rfl))))))))))
    (by kernel_rfl) (by kernel_rfl) ?_
  refine nT ?_
  refine T.condT (b := true) rfl rfl ?_
  refine T.seq ?_
  refine tR (s1 := ⟨[dv (.pointer none), dv (.int .i64 n), dv (.func (.func 43) #[] #[]), AV.any, AV.any, AV.any, dv (.slice none 0 0), AV.any, AV.any, AV.any, AV.any, AV.any, AV.any, AV.any, AV.any, AV.any, dv (.bool true)], []⟩) [true, true, true, false, false, false, true, false, false, false, false, false, false, false, false, false, true] []
    (oC (oS rfl rfl (r_assign (av := dv (.slice none 0 0)) (lt_of rfl) ⟨rfl, trivial⟩)) (oZ rfl))
    (by kernel_rfl) (by kernel_rfl) ?_
  refine nT ?_
  refine T.ret ?_
  refine rT ?_
  exact tE (.inl rfl) [.t 6 (.one (.d (.val (.slice none 0 0))))] ⟨⟨rfl, rfl⟩, trivial⟩ [] rfl rfl rfl rfl rfl rfl trivial

-- (*quaestor/wire.Reader).take
theorem nil_take_limit (n : Int) (most : Int) : Holds Try.prog 40 ⟨[dv (.pointer none), dv (.int .i64 n), dv (.func (.func 44) #[.int .i64 most] #[])], [], dv (.slice none 0 0), []⟩ := by
  refine Holds.of Try.func40 rfl (N := 54) Try.ntmps40 rfl fun w0 B0 S0 U0 => ?_
  show T _ (mkBase 54 0 w0 S0 U0 B0) ⟨[dv (.pointer none), dv (.int .i64 n), dv (.func (.func 44) #[.int .i64 most] #[])], []⟩ _ _
  refine T.seq ?_
  refine tR (s1 := ⟨[dv (.pointer none), dv (.int .i64 n), dv (.func (.func 44) #[.int .i64 most] #[]), AV.any, AV.any, AV.any, dv (.slice none 0 0)], []⟩) [true, true, true, false, false, false, true] []
    (oC (oS rfl rfl (r_assign (av := dv (.slice none 0 0)) (lt_of rfl) ⟨rfl, trivial⟩)) (oZ rfl))
    (by kernel_rfl) (by kernel_rfl) ?_
  refine nT ?_
  refine T.seq ?_
  refine T.seq ?_
  refine tR (s1 := ⟨[dv (.pointer none), dv (.int .i64 n), dv (.func (.func 44) #[.int .i64 most] #[]), AV.any, AV.any, AV.any, dv (.slice none 0 0), AV.any, AV.any, AV.any, AV.any, AV.any, AV.any, AV.any, AV.any, AV.any, dv (.bool true)], []⟩) [true, true, true, false, false, false, true, false, false, false, false, false, false, false, false, false, true] []
    (oC (oS rfl rfl (r_move (av := dv (.pointer none)) (lt_of rfl) trivial))
    (oC (oS rfl rfl (r_bin (u1 := .pointer none) (u2 := .pointer none) (v := .bool true) (b_eqlNilP Try.underlying34) (lt_of rfl) ⟨rfl, trivial⟩))
    (oC (oS rfl rfl (r_move (av := dv (.bool true)) (lt_of rfl) trivial))
    (oC (oN (b := true) rfl rfl rfl rfl (lt_of rfl) rfl rfl (lt_of rfl))
    (oC (oN (b := true) rfl rfl rfl rfl (lt_of rfl) rfl rfl (lt_of rfl))
    (oC (oN (b := true) rfl rfl rfl rfl (lt_of rfl) rfl rfl (lt_of rfl))
    (oC (oN (b := true) rfl rfl rfl rfl (lt_of rfl) rfl rfl (lt_of rfl))
    (oC (oN (b := true) rfl rfl rfl rfl (lt_of rfl) rfl rfl (lt_of rfl))
    (oC (oS rfl rfl (r_pickT (b := true) (av := dv (.bool true)) (lt_of rfl) ⟨rfl, trivial⟩ rfl)) (oZ rfl))))))))))
    (by kernel_rfl) (by kernel_rfl) ?_
  refine nT ?_
  refine T.condT (b := true) rfl rfl ?_
  refine T.seq ?_
  refine tR (s1 := ⟨[dv (.pointer none), dv (.int .i64 n), dv (.func (.func 44) #[.int .i64 most] #[]), AV.any, AV.any, AV.any, dv (.slice none 0 0), AV.any, AV.any, AV.any, AV.any, AV.any, AV.any, AV.any, AV.any, AV.any, dv (.bool true)], []⟩) [true, true, true, false, false, false, true, false, false, false, false, false, false, false, false, false, true] []
    (oC (oS rfl rfl (r_assign (av := dv (.slice none 0 0)) (lt_of rfl) ⟨rfl, trivial⟩)) (oZ rfl))
    (by kernel_rfl) (by kernel_rfl) ?_
  refine nT ?_
  refine T.ret ?_
  refine rT ?_
  exact tE (.inl rfl) [.t 6 (.one (.d (.val (.slice none 0 0))))] ⟨⟨rfl, rfl⟩, trivial⟩ [] rfl rfl rfl rfl rfl rfl trivial

-- (*quaestor/wire.Reader).take
theorem nil_take_float (n : Int) : Holds Try.prog 40 ⟨[dv (.pointer none), dv (.int .i64 n), dv (.func (.func 46) #[] #[])], [], dv (.slice none 0 0), []⟩ := by
  refine Holds.of Try.func40 rfl (N := 54) Try.ntmps40 rfl fun w0 B0 S0 U0 => ?_
  show T _ (mkBase 54 0 w0 S0 U0 B0) ⟨[dv (.pointer none), dv (.int .i64 n), dv (.func (.func 46) #[] #[])], []⟩ _ _
  refine T.seq ?_
  refine tR (s1 := ⟨[dv (.pointer none), dv (.int .i64 n), dv (.func (.func 46) #[] #[]), AV.any, AV.any, AV.any, dv (.slice none 0 0)], []⟩) [true, true, true, false, false, false, true] []
    (oC (oS rfl rfl (r_assign (av := dv (.slice none 0 0)) (lt_of rfl) ⟨rfl, trivial⟩)) (oZ rfl))
    (by kernel_rfl) (by kernel_rfl) ?_
  refine nT ?_
  refine T.seq ?_
  refine T.seq ?_
  refine tR (s1 := ⟨[dv (.pointer none), dv (.int .i64 n), dv (.func (.func 46) #[] #[]), AV.any, AV.any, AV.any, dv (.slice none 0 0), AV.any, AV.any, AV.any, AV.any, AV.any, AV.any, AV.any, AV.any, AV.any, dv (.bool true)], []⟩) [true, true, true, false, false, false, true, false, false, false, false, false, false, false, false, false, true] []
    (oC (oS rfl rfl (r_move (av := dv (.pointer none)) (lt_of rfl) trivial))
    (oC (oS rfl rfl (r_bin (u1 := .pointer none) (u2 := .pointer none) (v := .bool true) (b_eqlNilP Try.underlying34) (lt_of rfl) ⟨rfl, trivial⟩))
    (oC (oS rfl rfl (r_move (av := dv (.bool true)) (lt_of rfl) trivial))
    (oC (oN (b := true) rfl rfl rfl rfl (lt_of rfl) rfl rfl (lt_of rfl))
    (oC (oN (b := true) rfl rfl rfl rfl (lt_of rfl) rfl rfl (lt_of rfl))
    (oC (oN (b := true) rfl rfl rfl rfl (lt_of rfl) rfl rfl (lt_of rfl))
    (oC (oN (b := true) rfl rfl rfl rfl (lt_of rfl) rfl rfl (lt_of rfl))
    (oC (oN (b := true) rfl rfl rfl rfl (lt_of rfl) rfl rfl (lt_of rfl))
    (oC (oS rfl rfl (r_pickT (b := true) (av := dv (.bool true)) (lt_of rfl) ⟨rfl, trivial⟩ rfl)) (oZ rfl))))))))))
    (by kernel_rfl) (by kernel_rfl) ?_
  refine nT ?_
  refine T.condT (b := true) rfl rfl ?_
  refine T.seq ?_
  refine tR (s1 := ⟨[dv (.pointer none), dv (.int .i64 n), dv (.func (.func 46) #[] #[]), AV.any, AV.any, AV.any, dv (.slice none 0 0), AV.any, AV.any, AV.any, AV.any, AV.any, AV.any, AV.any, AV.any, AV.any, dv (.bool true)], []⟩) [true, true, true, false, false, false, true, false, false, false, false, false, false, false, false, false, true] []
    (oC (oS rfl rfl (r_assign (av := dv (.slice none 0 0)) (lt_of rfl) ⟨rfl, trivial⟩)) (oZ rfl))
    (by kernel_rfl) (by kernel_rfl) ?_
  refine nT ?_
  refine T.ret ?_
  refine rT ?_
  exact tE (.inl rfl) [.t 6 (.one (.d (.val (.slice none 0 0))))] ⟨⟨rfl, rfl⟩, trivial⟩ [] rfl rfl rfl rfl rfl rfl trivial
end Go.Proofs.Ytafkobdlcahdbaa.Q
