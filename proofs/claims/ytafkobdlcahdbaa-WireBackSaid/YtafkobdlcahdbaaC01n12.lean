import Derived.Test.YtafkobdlcahdbaaC01n11
namespace Go.Proofs.Ytafkobdlcahdbaa.Q
open Go Go.RowKit
set_option linter.unusedVariables false
set_option linter.unusedSimpArgs false
set_option maxRecDepth 100000
set_option maxHeartbeats 4000000
-- quaestor/quaestorlaw01.WireWrites
theorem law_WireWrites (l : List quaestorlaw01_Item) (hl : l.length ≤ 9223372036854775807) (hx : rangeX l) (hn : rangeN l) : Holds Try.prog 3 ⟨[slV false false (k_quaestorlaw01_Item false) l], [], dv (.bool true), []⟩ := by
  refine Holds.of Try.func3 rfl (N := 19) Try.ntmps3 rfl fun w0 B0 S0 U0 => ?_
  show T _ (mkBase 19 0 w0 S0 U0 B0) ⟨[slV false false (k_quaestorlaw01_Item false) l], []⟩ _ _
  refine T.seq ?_
  refine tR (s1 := ⟨[slV false false (k_quaestorlaw01_Item false) l, AV.any, dv (.bool false)], []⟩) [true, false, true] []
    (oC (oS rfl rfl (r_assign (av := dv (.bool false)) (lt_of rfl) ⟨rfl, trivial⟩)) (oZ rfl))
    (by kernel_rfl) (by kernel_rfl) ?_
  refine nT ?_
  refine T.seq ?_
  refine T.seq ?_
  refine tR (s1 := ⟨[slV false false (k_quaestorlaw01_Item false) l, AV.any, dv (.bool false), AV.any, AV.any, AV.any, AV.any, AV.any, dv (.bool (!(decide (fewG szI 200 2000 l))))], []⟩) [true, false, true, false, false, false, false, false, true] []
    (oC (oS rfl rfl (r_move (av := slV false false (k_quaestorlaw01_Item false) l) (lt_of rfl) trivial))
    (oC (oS rfl rfl (r_call (law_few false false false l (by first | assumption | omega | (simp only [maxLen, kU8_sz, kSl_sz, k_quaestorlaw01_Item_sz]; omega) | (simp only [maxLen, kU8_sz, kSl_sz, k_quaestorlaw01_Item_sz, List.length_append, List.length_cons, List.length_nil, List.length_take, List.length_drop, List.length_set]; omega) | decide)) Try.func7 rfl (by decide) [] [] (l := [(.tmp 6, slV false false (k_quaestorlaw01_Item false) l)]) [] rfl 0 0 rfl rfl rfl rfl rfl rfl rfl rfl rfl ⟨.inl ⟨rfl, rfl⟩, trivial⟩ rfl (fun b hb => by cases hb) (.inl rfl) (lt_of rfl) trivial))
    (oC (oS rfl rfl (r_un (u := .bool (decide (fewG szI 200 2000 l))) (v := .bool (!(decide (fewG szI 200 2000 l)))) u_not (lt_of rfl) trivial)) (oZ rfl))))
    (by kernel_rfl) (by kernel_rfl) ?_
  refine nT ?_
  by_cases hq1 : fewG szI 200 2000 l
  · refine T.condF (b := (!(decide (fewG szI 200 2000 l)))) rfl (congrArg Bool.not (decide_eq_true hq1)) ?_
    refine T.skip ?_
    refine nT ?_
    refine T.seq ?_
    refine tR (s1 := ⟨[slV false false (k_quaestorlaw01_Item false) l, AV.any, dv (.bool false), AV.any, AV.any, dv (.bool true), AV.any, AV.any, dv (.bool (!(decide (fewG szI 200 2000 l))))], [.live (arrK 5 kU8 (putB l)), .live (arrK 5 kU8 (putB l))]⟩) [true, false, true, false, false, true, false, false, true] [true, true]
      (oC (oS rfl rfl (r_move (av := slV false false (k_quaestorlaw01_Item false) l) (lt_of rfl) trivial))
      (oC (oS rfl rfl (r_call (law_put false false false l (by first | assumption | exact fewG_set (by assumption) (by assumption)) (by first | assumption | exact rangeX_set (by assumption) (by assumption))) Try.func8 rfl (by decide) [0, 1] [] (l := [(.tmp 10, slV false false (k_quaestorlaw01_Item false) l)]) [] rfl 0 2 rfl rfl rfl rfl rfl rfl rfl rfl rfl ⟨.inl ⟨rfl, rfl⟩, trivial⟩ rfl (fun b hb => by cases hb) (.inl rfl) (lt_of rfl) trivial))
      (oC (oS rfl rfl (r_move (av := .tup [.one (.own 0 kU8.sz 0 (putB l).length), .one (.own 1 kU8.sz 0 (putB l).length), .one (.d (.val (.bool true)))]) (lt_of rfl) trivial))
      (oC (oS rfl rfl (r_extract (l := [.one (.own 0 kU8.sz 0 (putB l).length), .one (.own 1 kU8.sz 0 (putB l).length), .one (.d (.val (.bool true)))]) (tv := .one (.own 0 kU8.sz 0 (putB l).length)) rfl (lt_of rfl) trivial))
      (oC (oS rfl rfl (r_extract (l := [.one (.own 0 kU8.sz 0 (putB l).length), .one (.own 1 kU8.sz 0 (putB l).length), .one (.d (.val (.bool true)))]) (tv := .one (.own 1 kU8.sz 0 (putB l).length)) rfl (lt_of rfl) trivial))
      (oC (oS rfl rfl (r_extract (l := [.one (.own 0 kU8.sz 0 (putB l).length), .one (.own 1 kU8.sz 0 (putB l).length), .one (.d (.val (.bool true)))]) (tv := .one (.d (.val (.bool true)))) rfl (lt_of rfl) trivial))
      (oC (oS rfl rfl (r_assign (av := ownV 0 kU8 0 (putB l).length) (lt_of rfl) trivial))
      (oC (oS rfl rfl (r_assign (av := ownV 1 kU8 0 (putB l).length) (lt_of rfl) trivial))
      (oC (oS rfl rfl (r_assign (av := dv (.bool true)) (lt_of rfl) trivial)) (oZ rfl))))))))))
      (by kernel_rfl) (by kernel_rfl) ?_
    refine nT ?_
    refine T.seq ?_
    refine tR (s1 := ⟨[slV false false (k_quaestorlaw01_Item false) l, AV.any, dv (.bool true), AV.any, AV.any, dv (.bool true), AV.any, AV.any, dv (.bool (!(decide (fewG szI 200 2000 l))))], [.live (arrK 5 kU8 (putB l)), .live (arrK 5 kU8 (putB l))]⟩) [true, false, true, false, false, true, false, false, true] [true, true]
      (oC (oS rfl rfl (r_move (av := dv (.bool true)) (lt_of rfl) trivial))
      (oC (oS rfl rfl (r_move (av := dv (.bool true)) (lt_of rfl) trivial))
      (oC (oY (b := true) rfl rfl rfl rfl (lt_of rfl) rfl (r_call (law_awake  ) Try.func9 rfl (by decide) [] [] (l := []) [] rfl 0 0 rfl rfl rfl rfl rfl rfl rfl rfl rfl trivial rfl (fun b hb => by cases hb) (.inl rfl) (lt_of rfl) trivial))
      (oC (oS rfl rfl (r_pickT (b := true) (av := dv (.bool true)) (lt_of rfl) trivial rfl))
      (oC (oS rfl rfl (r_assign (av := dv (.bool true)) (lt_of rfl) trivial)) (oZ rfl))))))
      (by kernel_rfl) (by kernel_rfl) ?_
    refine nT ?_
    refine T.ret ?_
    exact tE (.inl rfl) [.t 2 (.one (.d (.val (.bool true))))] ⟨⟨rfl, rfl⟩, trivial⟩ [] rfl rfl rfl rfl rfl rfl trivial
  · refine T.condT (b := (!(decide (fewG szI 200 2000 l)))) rfl (congrArg Bool.not (decide_eq_false hq1)) ?_
    refine T.seq ?_
    refine tR (s1 := ⟨[slV false false (k_quaestorlaw01_Item false) l, AV.any, dv (.bool true), AV.any, AV.any, AV.any, AV.any, AV.any, dv (.bool (!(decide (fewG szI 200 2000 l))))], []⟩) [true, false, true, false, false, false, false, false, true] []
      (oC (oS rfl rfl (r_assign (av := dv (.bool true)) (lt_of rfl) ⟨rfl, trivial⟩)) (oZ rfl))
      (by kernel_rfl) (by kernel_rfl) ?_
    refine nT ?_
    refine T.ret ?_
    refine rT ?_
    exact tE (.inl rfl) [.t 2 (.one (.d (.val (.bool true))))] ⟨⟨rfl, rfl⟩, trivial⟩ [] rfl rfl rfl rfl rfl rfl trivial
end Go.Proofs.Ytafkobdlcahdbaa.Q
