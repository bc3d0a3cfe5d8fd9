import Derived.Test.YtalapplihdmenaaGreatC13n15
namespace Go.Proofs.YtalapplihdmenaaGreat.Q
open Go Go.RowKit
set_option linter.unusedVariables false
set_option linter.unusedSimpArgs false
set_option maxRecDepth 100000
set_option maxHeartbeats 4000000
theorem zero_38 : Zero Tryz.prog 38 [.int .i64 0, .slice none 0 0, .slice none 0 0] := ⟨_, _, iat_38, rfl, rfl⟩
theorem elem_44 : Elem Tryz.prog 44 38 3 56 := ⟨Tryz.underlying44, _, _, iat_38, rfl, rfl, rfl, rfl, by decide⟩
section
variable (rest : List UInt8) (e : Int) (k : Nat)
abbrev Z5n : AV := vI ((rdC rest e 8 : Nat) : Int)
abbrev Z5o : HS := .live (.box 160 [dU (rdR rest e 4 (limE 8 (rest.take 4))), dI (rdE rest e 4 (limE 8 (rest.take 4)))])
abbrev Z5p : HS := .live (.box 142 [.ptr 0 0])
abbrev Z5q := (runC 16777216 rest e k)
abbrev Z5r : List HS := [.live (.box 160 [dU (Z5q rest e k).rest, dI (Z5q rest e k).e]), Z5p, .live (arrK 38 (kC false) (Z5q rest e k).l)]
abbrev Z5s : St := ⟨[aa, pv 1 0, ownV 2 (kC false) 0 (Z5q rest e k).l.length, aa, aa, aa, (Z5n rest e), vI ((k : Nat) : Int)], (Z5r rest e k)⟩
abbrev Z5v := (evV 16777216 (Z5q rest e k).rest (Z5q rest e k).e)
abbrev Z5w := (finL 16777216 (evR 16777216 (Z5q rest e k).rest (Z5q rest e k).e) (evE 16777216 (Z5q rest e k).rest (Z5q rest e k).e))
abbrev Z5x := (aC.mk (Z5v rest e k) (Z5w rest e k).l)
abbrev Z5y : AV := vI ((k + 1 : Nat) : Int)
abbrev Z5z : List HS := [.live (.box 160 [dU (runC 16777216 rest e (k + 1)).rest, dI (runC 16777216 rest e (k + 1)).e]), Z5p, .live (arrK 38 (kC false) (runC 16777216 rest e (k + 1)).l)]
abbrev Z60 : List AV := [aa, pv 1 0, ownV 2 (kC false) 0 (Z5q rest e k).l.length, aa, aa, aa, (Z5n rest e), vI ((k : Nat) : Int), vB (decide (((k : Nat) : Int) < ((rdC rest e 8 : Nat) : Int)))]
end
theorem src_certs (rest : List UInt8) (e : Int) (hr : rest.length ≤ 100000000) : Holds Tryz.prog 96 ⟨[.tv (.agg [.ptr 0 0])], [.box 160 [dU rest, dI e]], slV false false (kC false) (finC 16777216 rest e).l, [.live (.box 160 [dU (finC 16777216 rest e).rest, dI (finC 16777216 rest e).e])]⟩ := by
 refine Holds.of Tryz.func96 rfl (N := 21) Tryz.ntmps96 rfl fun w0 B0 S0 U0 => ?_
 show T _ (mkBase 21 1 w0 S0 U0 B0) ⟨[.tv (.agg [.ptr 0 0])], [.live (.box 160 [dU rest, dI e])]⟩ _ _
 have hr1 := rdR_len rest e 4 (limE 8 (rest.take 4))
 refine sR [] ?_
 refine T.seq ?_
 refine sR [hR 2 rfl rfl (rCa (rd_Count rest e 8 (by omega)) Tryz.func113 [0] [(.tmp 5, pv 0 0), (.const (.int .i64 8), vI 8)] 1 1)] ?_
 refine T.block ?_
 refine tN ⟨[.tv (.agg [.ptr 0 0]), pv 1 0, dv (.slice none 0 0), aa, aa, aa, (Z5n rest e), vI 0], [(Z5o rest e), Z5p]⟩ ?_
 refine T.turn (s' := ⟨[.tv (.agg [.ptr 0 0]), pv 1 0, ownV 2 (kC false) 0 0, aa, aa, aa, (Z5n rest e), vI 0], [(Z5o rest e), Z5p, .live (arrK 38 (kC false) ([] : List aC))]⟩) (fun _ _ hG => Gs.absent 2 2 38 (kC false) rfl rfl hG) ?_
 refine T.loop (ι := Nat) (fun (k : Nat) => (Z5s rest e k)) (fun (k : Nat) => (k ≤ rdC rest e 8)) (fun (k : Nat) => rdC rest e 8 - k) (0) (Nat.zero_le _) (fun _ _ hG => Gs.iI [0, 1, 2] (bm 8 198) (t2 := [aa, pv 1 0, ownV 2 (kC false) 0 0, aa, aa, aa, (Z5n rest e), vI 0]) (h2 := [(Z5o rest e), Z5p, .live (arrK 38 (kC false) ([] : List aC))]) (congrArg (fun (q1 : Nat) => ([aa, pv 1 0, ownV 2 (kC false) 0 q1, aa, aa, aa, (Z5n rest e), vI 0] : List AV)) (by rfl)) (cg3 (fun (q1 : List UInt8) (q2 : Int) (q3 : List aC) => ([.live (.box 160 [dU q1, dI q2]), Z5p, .live (arrK 38 (kC false) q3)] : List HS)) (by rfl) (by rfl) (by rfl)) hG) ?_
 rintro k hk
 show T _ _ (Z5s rest e k) _ _
 replace hk : k ≤ rdC rest e 8 := hk
 have hg := runC_len 16777216 rest e k
 have hg1 := hg.1
 have hg2 := hg.2
 have hcm : rdC rest e 8 ≤ 8 := rdC_max rest e 8
 have hve := evR_len 16777216 (runC 16777216 rest e k).rest (runC 16777216 rest e k).e
 refine sR [] ?_
 refine T.seq ?_
 by_cases hq1 : ((k : Nat) : Int) < ((rdC rest e 8 : Nat) : Int)
 ·refine cT (dT hq1) ?_
  refine T.skip (nT (T.seq ?_))
  refine T.block ?_
  refine sR [hR 1 rfl rfl (rCa (src_envelope (runC 16777216 rest e k).rest (runC 16777216 rest e k).e (by omega)) Tryz.func116 [0] [(.tmp 9, .tv (.agg [.ptr 0 0]))] 1 1)] ?_
  refine sR [hR 1 rfl rfl (rCa (src_list (evR 16777216 (runC 16777216 rest e k).rest (runC 16777216 rest e k).e) (evE 16777216 (runC 16777216 rest e k).rest (runC 16777216 rest e k).e) (by omega)) Tryz.func95 [0] [(.tmp 12, .tv (.agg [.ptr 0 0]))] 1 1)] ?_
  refine xR [hR 2 rfl rfl (q_buildSlice 4 38 (kC false) (k_api_Cert_ok false) [(aC.mk (evV 16777216 (runC 16777216 rest e k).rest (runC 16777216 rest e k).e) (finL 16777216 (evR 16777216 (runC 16777216 rest e k).rest (runC 16777216 rest e k).e) (evE 16777216 (runC 16777216 rest e k).rest (runC 16777216 rest e k).e)).l)] [⟨0, .tmp 16, .agg [dI (Z5v rest e k).f_Signer, dU (Z5v rest e k).f_Body, .d (dsl false false (kE false) (Z5w rest e k).l)], 0⟩] (cs := [dI (Z5v rest e k).f_Signer, dU (Z5v rest e k).f_Body, .d (dsl false false (kE false) (Z5w rest e k).l)]) Tryz.underlying44 iat_38 rfl zero_38 rfl rfl rfl (Nat.le_of_ble_eq_true rfl) (part_cons rfl rfl (Nat.le_of_ble_eq_true rfl) part_ok) (by kernel_rfl) (wk_eq (by kernel_rfl)) (lt_of rfl) trivial),
    hR 3 rfl rfl (q_appendO 2 5 38 56 (kC false) (k_api_Cert_ok false) (runC 16777216 rest e k).l [(aC.mk (evV 16777216 (runC 16777216 rest e k).rest (runC 16777216 rest e k).e) (finL 16777216 (evR 16777216 (runC 16777216 rest e k).rest (runC 16777216 rest e k).e) (evE 16777216 (runC 16777216 rest e k).rest (runC 16777216 rest e k).e)).l)] ((runC 16777216 rest e k).l ++ [(aC.mk (evV 16777216 (runC 16777216 rest e k).rest (runC 16777216 rest e k).e) (finL 16777216 (evR 16777216 (runC 16777216 rest e k).rest (runC 16777216 rest e k).e) (evE 16777216 (runC 16777216 rest e k).rest (runC 16777216 rest e k).e)).l)]) (runC 16777216 rest e k).l.length (sy := (.own 4 (kC false).sz 0 [(Z5x rest e k)].length)) (rhs := [(4, .live (arrK 38 (kC false) [(Z5x rest e k)]))]) elem_44 (by omega) (src_own 4 38 (kC false) [(aC.mk (evV 16777216 (runC 16777216 rest e k).rest (runC 16777216 rest e k).e) (finL 16777216 (evR 16777216 (runC 16777216 rest e k).rest (runC 16777216 rest e k).e) (evE 16777216 (runC 16777216 rest e k).rest (runC 16777216 rest e k).e)).l)]) (by rw [List.take_length]) (by (simp [maxLen, -List.getD_eq_getElem?_getD] <;> omega)) (by (simp [maxLen, -List.getD_eq_getElem?_getD] <;> omega)) (lt_of rfl) trivial)] (by kernel_rfl) (by kernel_rfl) ?_
  refine nB ?_
  refine nT ?_
  refine xK [hR 0 rfl rfl (r_bin (u1 := .int .i64 ((k : Nat) : Int)) (u2 := .int .i64 1) (v := .int .i64 ((k + 1 : Nat) : Int)) (b_add (by rw [IntKind.wrap_i64]; omega)) (lt_of rfl) ⟨rfl, trivial⟩)] ?_
  refine nL (k + 1) (show (k + 1) ≤ rdC rest e 8 from (by omega)) (show (rdC rest e 8 - (k + 1) : Nat) < rdC rest e 8 - k from (by omega)) (fun _ _ hG => Gs.i2 [0, 1, 5] (bm 8 198) (t1 := [aa, pv 1 0, ownV 5 (kC false) 0 (runC 16777216 rest e (k + 1)).l.length, aa, aa, aa, (Z5n rest e), (Z5y k)]) (t2 := [aa, pv 1 0, ownV 5 (kC false) 0 ((Z5q rest e k).l ++ [(Z5x rest e k)]).length, aa, aa, aa, (Z5n rest e), (Z5y k)]) (h1 := (Z5z rest e k)) (h2 := [.live (.box 160 [dU (Z5w rest e k).rest, dI (Z5w rest e k).e]), Z5p, .live (arrK 38 (kC false) ((Z5q rest e k).l ++ [(Z5x rest e k)]))]) (congrArg (fun (q1 : Nat) => ([aa, pv 1 0, ownV 5 (kC false) 0 q1, aa, aa, aa, (Z5n rest e), (Z5y k)] : List AV)) (by rfl)) (cg3 (fun (q1 : List UInt8) (q2 : Int) (q3 : List aC) => ([.live (.box 160 [dU q1, dI q2]), Z5p, .live (arrK 38 (kC false) q3)] : List HS)) (by rfl) (by rfl) (by rfl)) hG)
 refine cF (dF hq1) ?_
 refine T.exit ?_
 refine xT ?_
 refine xT ?_
 refine xH ?_
 refine nT ?_
 refine sR [] ?_
 refine T.ret ?_
 refine eN ⟨(Z60 rest e k), (Z5r rest e k)⟩ ?_
 refine Ends.turn (s' := ⟨[aa, pv 1 0, slV false false (kC false) (Z5q rest e k).l, aa, aa, aa, (Z5n rest e), vI ((k : Nat) : Int), vB (decide (((k : Nat) : Int) < ((rdC rest e 8 : Nat) : Int)))], [.live (.box 160 [dU (Z5q rest e k).rest, dI (Z5q rest e k).e]), Z5p, .dead]⟩) (fun _ _ hG => Gs.freeze (s := ⟨(Z60 rest e k), (Z5r rest e k)⟩) 2 (el := elOf (kC false) (runC 16777216 rest e k).l) (sz := (kC false).sz) (n := (runC 16777216 rest e k).l.length) rfl (kk2 ⟨(.inr (.inr ⟨rfl, rfl, rfl, (fun h => by cases h), rfl, rfl, Nat.le_of_eq (Nat.zero_add _), fun i j _ => by rw [Nat.zero_add]⟩)), (kk2 (kk4 trivial))⟩) ⟨(.inr ⟨by decide, .inl rfl⟩), ⟨(.inr ⟨by decide, .inl rfl⟩), ⟨(.inl ⟨rfl, rfl⟩), trivial⟩⟩⟩ hG) ?_
 exact eRt 2 (.one (.d (dsl false false (kC false) (Z5q rest e k).l))) [0] (by have e1 : ((finC 16777216 rest e).l : List aC) = (runC 16777216 rest e k).l := (by (rw [finC, show rdC rest e 8 = k by omega]; done)); have hE := congrArg (fun (q1 : List aC) => (slV false false (kC false) q1 : AV)) e1; exact hE) ⟨⟨rfl, (by have e1 : ((runC 16777216 rest e k).rest : List UInt8) = (finC 16777216 rest e).rest := (by (rw [finC, show rdC rest e 8 = k by omega]; done)); have e2 : ((runC 16777216 rest e k).e : Int) = (finC 16777216 rest e).e := (by (rw [finC, show rdC rest e 8 = k by omega]; done)); have hE := congr (congrArg (fun (q1 : List UInt8) (q2 : Int) => (.live (.box 160 [dU q1, dI q2]) : HS)) e1) e2; exact Eq.trans (by kernel_rfl) hE)⟩, trivial⟩
end Go.Proofs.YtalapplihdmenaaGreat.Q
