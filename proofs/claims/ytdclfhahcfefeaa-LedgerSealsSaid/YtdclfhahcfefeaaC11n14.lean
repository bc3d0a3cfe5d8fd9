import Derived.Test.YtdclfhahcfefeaaC11n12
namespace Go.Proofs.Ytdclfhahcfefeaa.Q
open Go Go.RowKit
set_option linter.unusedVariables false
set_option linter.unusedSimpArgs false
set_option maxRecDepth 100000
set_option maxHeartbeats 4000000
theorem wide_74 : Wide Try.prog 74 (some 4) := ⟨_, _, Try.underlying74, .inl ⟨_, rfl⟩, iat_74, rfl⟩
theorem cells_74 : Cells Try.prog 74 4 := ⟨_, iat_74, rfl⟩
-- (*quaestor/ledger.Ledger).Clone
theorem ledger_Clone (h : Int) (d : List UInt8) (l : List ledger_link) (hl : l.length ≤ 100) : Holds Try.prog 23 ⟨[pv 0 0], [.box 74 [.d (.val (.int .i64 h)), .d (.val (strV d)), .d (.val (.bool true)), .own 1 (k_ledger_link false).sz 0 l.length], arrK 80 (k_ledger_link false) l], pv 2 0, [.live (.box 74 [.d (.val (.int .i64 h)), .d (.val (strV d)), .d (.val (.bool true)), .own 1 (k_ledger_link false).sz 0 l.length]), .live (arrK 80 (k_ledger_link false) l), .live (.box 74 [.d (.val (.int .i64 h)), .d (.val (strV d)), .d (.val (.bool true)), .own 3 (k_ledger_link false).sz 0 l.length]), .live (arrK 80 (k_ledger_link false) l)]⟩ := by
  refine Holds.of Try.func23 rfl (N := 17) Try.ntmps23 rfl fun w0 B0 S0 U0 => ?_
  show T _ (mkBase 17 2 w0 S0 U0 B0) ⟨[pv 0 0], [.live (.box 74 [.d (.val (.int .i64 h)), .d (.val (strV d)), .d (.val (.bool true)), .own 1 (k_ledger_link false).sz 0 l.length]), .live (arrK 80 (k_ledger_link false) l)]⟩ _ _
  refine T.seq ?_
  refine xR [] (by kernel_rfl) (by kernel_rfl) ?_
  refine nT ?_
  refine T.seq ?_
  refine T.seq ?_
  refine xR [] (by kernel_rfl) (by kernel_rfl) ?_
  refine nT ?_
  refine T.condF (b := false) (by kernel_rfl) rfl ?_
  refine T.skip ?_
  refine nT ?_
  refine T.seq ?_
  refine xR [] (by kernel_rfl) (by kernel_rfl) ?_
  refine nT ?_
  refine T.seq ?_
  refine xR [hR 4 rfl rfl (r_call (clone_link true false l (by omega)) Try.func45 rfl (by decide) [3] [1] (l := [(.tmp 14, ownV 1 (k_ledger_link false) 0 l.length)]) [(1, .live (arrK 80 (k_ledger_link false) l))] rfl 0 1 rfl rfl rfl rfl rfl rfl rfl rfl rfl ⟨.inr (.inl ⟨rfl, (fun h => by cases h), rfl, rfl, by simp, 80, l.length, elOf (k_ledger_link false) l, List.Mem.head _, by omega, fun i j => by rw [Nat.zero_add]⟩), trivial⟩ rfl (by intro b hb; simp only [List.mem_cons, List.not_mem_nil, or_false] at hb; rcases hb with rfl; exact ⟨_, List.Mem.head _⟩) (.inr ⟨trivial, (And.intro (arr_nt k_ledger_link_nt) trivial)⟩) (lt_of rfl) trivial)] (by kernel_rfl) (by kernel_rfl) ?_
  refine nT ?_
  refine T.seq ?_
  refine xR [] (by kernel_rfl) (by kernel_rfl) ?_
  refine nT ?_
  refine T.ret ?_
  exact tE (.inl rfl) [.t 2 (.one (.ptr 2 0))] ⟨⟨rfl, by kernel_rfl⟩, trivial⟩ [0, 1, 2, 3] rfl rfl rfl rfl rfl rfl ⟨⟨rfl, (by kernel_rfl)⟩, ⟨⟨rfl, (by kernel_rfl)⟩, ⟨⟨rfl, (by kernel_rfl)⟩, ⟨⟨rfl, (by kernel_rfl)⟩, trivial⟩⟩⟩⟩
end Go.Proofs.Ytdclfhahcfefeaa.Q
