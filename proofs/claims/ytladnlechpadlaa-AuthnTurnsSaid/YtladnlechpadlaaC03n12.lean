import Derived.Test.YtladnlechpadlaaC03n11
namespace Go.Proofs.Ytladnlechpadlaa.Q
open Go Go.RowKit
set_option linter.unusedVariables false
set_option linter.unusedSimpArgs false
set_option maxRecDepth 100000
set_option maxHeartbeats 4000000
abbrev zf27d_0 (v : Int) : AV := dv (.int .i64 (max 0 (min v 1099511627776)))
abbrev zf27d_1 : HS := .live (mpK f_authn_pair kBool ([] : List (authn_pair × Bool)))
abbrev zf27d_2 (x : quaestorlaw03_Size) (v : Int) (k : Nat) := (trnL (fOf x.f_F) (max 0 (min v 1099511627776)) k)
abbrev zf27d_3 (x : quaestorlaw03_Size) (v : Int) (k : Nat) := (primaryA (fOf x.f_F) ((max 0 (min v 1099511627776)) + ((k : Nat) : Int)))
abbrev zf27d_4 (k : Nat) : AV := dv (.int .i64 ((k + 1 : Nat) : Int))
-- quaestor/quaestorlaw03.AuthnTurns
theorem law_AuthnTurns (x : quaestorlaw03_Size) (v : Int) (hv : -9223372036854775808 ≤ v ∧ v ≤ 9223372036854775807) : Holds Try.prog 8 ⟨[.tv (.agg [.d (.val (.int .i64 x.f_F)), .d (.val (.int .i64 x.f_Clients))]), dv (.int .i64 v)], [], dv (.bool true), []⟩ := by
 refine Holds.of Try.func8 rfl (N := 44) Try.ntmps8 rfl fun w0 B0 S0 U0 => ?_
 show T _ (mkBase 44 0 w0 S0 U0 B0) ⟨[.tv (.agg [.d (.val (.int .i64 x.f_F)), .d (.val (.int .i64 x.f_Clients))]), dv (.int .i64 v)], []⟩ _ _
 have hfx := fOf_ok x.f_F
 have hux := cOf_ok x.f_Clients
 refine T.seq ?_
 refine xR [] (by kernel_rfl) (by kernel_rfl) ?_
 refine nT ?_
 refine T.seq ?_
 refine xR [hR 4 rfl rfl (r_call (authn_New x.f_F x.f_Clients ) Try.func11 rfl (by decide) [1, 2] [] (l := [(.tmp 9, dv (.int .i64 x.f_F)), (.tmp 11, dv (.int .i64 x.f_Clients))]) [] rfl 0 2 rfl rfl rfl rfl rfl rfl rfl rfl rfl ⟨.inl ⟨rfl, rfl⟩, ⟨.inl ⟨rfl, rfl⟩, trivial⟩⟩ rfl (fun b hb => by cases hb) (.inl rfl) (lt_of rfl) trivial)] (by kernel_rfl) (by kernel_rfl) ?_
 refine nT ?_
 refine T.seq ?_
 refine xR [hR 1 rfl rfl (r_min (k := .i64) (a := v) (b := 1099511627776) (lt_of rfl) ⟨rfl, trivial⟩),
   hR 2 rfl rfl (r_max (k := .i64) (a := 0) (b := min v 1099511627776) (lt_of rfl) ⟨rfl, trivial⟩)] (by kernel_rfl) (by kernel_rfl) ?_
 refine nT ?_
 refine T.seq ?_
 refine xR [] (by kernel_rfl) (by kernel_rfl) ?_
 refine nT ?_
 refine T.seq ?_
 refine T.seq ?_
 refine xR [] (by kernel_rfl) (by kernel_rfl) ?_
 refine nT ?_
 refine T.block ?_
 refine T.turn (s' := ⟨[.tv (.agg [.d (.val (.int .i64 x.f_F)), .d (.val (.int .i64 x.f_Clients))]), (zf27d_0 v), pv 0 0, aa, dv (.bool false), pv 1 0, dv (.slice none 0 0), dv (.int .i64 0)], [.live (.box 23 [.d (.val (.int .i64 x.f_F)), .d (.val (.int .i64 x.f_Clients))]), .live (.box 58 [.d (.val (.int .i64 (3 * (fOf x.f_F) + 1))), .d (.val (.int .i64 (cOf x.f_Clients))), .mref 2]), zf27d_1]⟩) (fun _ _ hG => Gs.norm (by kernel_rfl) hG) ?_
 refine T.turn (s' := ⟨[.tv (.agg [.d (.val (.int .i64 x.f_F)), .d (.val (.int .i64 x.f_Clients))]), (zf27d_0 v), pv 0 0, aa, dv (.bool false), pv 1 0, ownV 3 (kInt .i64) 0 0, dv (.int .i64 0)], [.live (.box 23 [.d (.val (.int .i64 x.f_F)), .d (.val (.int .i64 x.f_Clients))]), .live (.box 58 [.d (.val (.int .i64 (3 * (fOf x.f_F) + 1))), .d (.val (.int .i64 (cOf x.f_Clients))), .mref 2]), zf27d_1, .live (arrK 3 (kInt .i64) ([] : List Int))]⟩) (fun _ _ hG => Gs.absent 3 6 3 (kInt .i64) rfl rfl hG) ?_
 refine T.loop (ι := Nat) (fun (k : Nat) => ⟨[aa, (zf27d_0 v), aa, aa, aa, pv 1 0, ownV 3 (kInt .i64) 0 (zf27d_2 x v k).length, dv (.int .i64 ((k : Nat) : Int))], [.live (.box 23 [.d (.val (.int .i64 x.f_F)), .d (.val (.int .i64 x.f_Clients))]), .live (.box 58 [.d (.val (.int .i64 (3 * (fOf x.f_F) + 1))), .d (.val (.int .i64 (cOf x.f_Clients))), .mref 2]), zf27d_1, .live (arrK 3 (kInt .i64) (zf27d_2 x v k))]⟩) (fun (k : Nat) => (((k : Nat) : Int) ≤ 3 * (fOf x.f_F) + 1)) (fun (k : Nat) => (3 * (fOf x.f_F) + 1).toNat - k) (0) (show ((0 : Nat) : Int) ≤ 3 * (fOf x.f_F) + 1 from (by omega)) (fun _ _ hG => Gs.into2 (s' := ⟨[aa, (zf27d_0 v), aa, aa, aa, pv 1 0, ownV 3 (kInt .i64) 0 (trnL (fOf x.f_F) (max 0 (min v 1099511627776)) 0).length, dv (.int .i64 0)], [.live (.box 23 [.d (.val (.int .i64 x.f_F)), .d (.val (.int .i64 x.f_Clients))]), .live (.box 58 [.d (.val (.int .i64 (3 * (fOf x.f_F) + 1))), .d (.val (.int .i64 (cOf x.f_Clients))), .mref 2]), zf27d_1, .live (arrK 3 (kInt .i64) (trnL (fOf x.f_F) (max 0 (min v 1099511627776)) 0))]⟩) [0, 1, 2, 3] (bm 8 226) (t1 := [aa, (zf27d_0 v), aa, aa, aa, pv 1 0, ownV 3 (kInt .i64) 0 (trnL (fOf x.f_F) (max 0 (min v 1099511627776)) 0).length, dv (.int .i64 0)]) (t2 := [aa, (zf27d_0 v), aa, aa, aa, pv 1 0, ownV 3 (kInt .i64) 0 0, dv (.int .i64 0)]) (h1 := [.live (.box 23 [.d (.val (.int .i64 x.f_F)), .d (.val (.int .i64 x.f_Clients))]), .live (.box 58 [.d (.val (.int .i64 (3 * (fOf x.f_F) + 1))), .d (.val (.int .i64 (cOf x.f_Clients))), .mref 2]), zf27d_1, .live (arrK 3 (kInt .i64) (trnL (fOf x.f_F) (max 0 (min v 1099511627776)) 0))]) (h2 := [.live (.box 23 [.d (.val (.int .i64 x.f_F)), .d (.val (.int .i64 x.f_Clients))]), .live (.box 58 [.d (.val (.int .i64 (3 * (fOf x.f_F) + 1))), .d (.val (.int .i64 (cOf x.f_Clients))), .mref 2]), zf27d_1, .live (arrK 3 (kInt .i64) ([] : List Int))]) (by have e1 : ((trnL (fOf x.f_F) (max 0 (min v 1099511627776)) 0).length : Nat) = 0 := (by first | rfl); have hE := congrArg (fun (q1 : Nat) => ([aa, (zf27d_0 v), aa, aa, aa, pv 1 0, ownV 3 (kInt .i64) 0 q1, dv (.int .i64 0)] : List AV)) e1; exact hE) (by have e1 : ((trnL (fOf x.f_F) (max 0 (min v 1099511627776)) 0) : List Int) = ([] : List Int) := (by first | rfl); have hE := congrArg (fun (q1 : List Int) => ([.live (.box 23 [.d (.val (.int .i64 x.f_F)), .d (.val (.int .i64 x.f_Clients))]), .live (.box 58 [.d (.val (.int .i64 (3 * (fOf x.f_F) + 1))), .d (.val (.int .i64 (cOf x.f_Clients))), .mref 2]), zf27d_1, .live (arrK 3 (kInt .i64) q1)] : List HS)) e1; exact hE) (by kernel_rfl) (by kernel_rfl) (by kernel_rfl) (by kernel_rfl) (by kernel_rfl) (by kernel_rfl) (by kernel_rfl) (by kernel_rfl) (by kernel_rfl) (by kernel_rfl) (by kernel_rfl) hG) ?_
 rintro k hk
 show T _ _ ⟨[aa, (zf27d_0 v), aa, aa, aa, pv 1 0, ownV 3 (kInt .i64) 0 (zf27d_2 x v k).length, dv (.int .i64 ((k : Nat) : Int))], [.live (.box 23 [.d (.val (.int .i64 x.f_F)), .d (.val (.int .i64 x.f_Clients))]), .live (.box 58 [.d (.val (.int .i64 (3 * (fOf x.f_F) + 1))), .d (.val (.int .i64 (cOf x.f_Clients))), .mref 2]), zf27d_1, .live (arrK 3 (kInt .i64) (zf27d_2 x v k))]⟩ _ _
 replace hk : ((k : Nat) : Int) ≤ 3 * (fOf x.f_F) + 1 := hk
 have htl := trn_len (fOf x.f_F) (max 0 (min v 1099511627776)) k
 refine T.seq ?_
 refine T.seq ?_
 refine xR [hR 2 rfl rfl (r_call (authn_N (fOf x.f_F) (cOf x.f_Clients) ([] : List (authn_pair × Bool)) (by first | assumption | omega | (unfold maxLen; omega) | (simp [maxLen, -List.getD_eq_getElem?_getD] <;> omega) | decide) (by first | assumption | omega | (unfold maxLen; omega) | (simp [maxLen, -List.getD_eq_getElem?_getD] <;> omega) | decide)) Try.func26 rfl (by decide) [1, 2] [] (l := [(.tmp 17, pv 1 0)]) [] rfl 2 2 rfl rfl rfl rfl rfl rfl rfl rfl rfl ⟨.inl ⟨rfl, rfl⟩, trivial⟩ rfl (fun b hb => by cases hb) (.inl rfl) (lt_of rfl) trivial)] (by kernel_rfl) (by kernel_rfl) ?_
 refine nT ?_
 by_cases hq1 : ((k : Nat) : Int) < (3 * (fOf x.f_F) + 1)
 ·refine T.condT (by kernel_rfl) (decide_eq_true hq1) ?_
  refine T.skip ?_
  refine nT ?_
  refine T.seq ?_
  refine T.block ?_
  refine xR [hR 4 rfl rfl (r_bin (u1 := .int .i64 (max 0 (min v 1099511627776))) (u2 := .int .i64 ((k : Nat) : Int)) (v := .int .i64 ((max 0 (min v 1099511627776)) + ((k : Nat) : Int))) (b_add (by rw [IntKind.wrap_i64]; omega)) (lt_of rfl) trivial),
    hR 5 rfl rfl (r_call (authn_Primary (fOf x.f_F) (cOf x.f_Clients) ([] : List (authn_pair × Bool)) ((max 0 (min v 1099511627776)) + ((k : Nat) : Int)) (by first | assumption | omega | (unfold maxLen; omega) | (simp [maxLen, -List.getD_eq_getElem?_getD] <;> omega) | decide) (by first | assumption | omega | (unfold maxLen; omega) | (simp [maxLen, -List.getD_eq_getElem?_getD] <;> omega) | decide)) Try.func27 rfl (by decide) [1, 2] [] (l := [(.tmp 23, pv 1 0), (.tmp 26, dv (.int .i64 ((max 0 (min v 1099511627776)) + ((k : Nat) : Int))))]) [] rfl 2 2 rfl rfl rfl rfl rfl rfl rfl rfl rfl ⟨.inl ⟨rfl, rfl⟩, ⟨.inl ⟨rfl, rfl⟩, trivial⟩⟩ rfl (fun b hb => by cases hb) (.inl rfl) (lt_of rfl) trivial),
    hR 6 rfl rfl (q_buildSlice 4 3 (kInt .i64) (kInt_ok .i64) [(primaryA (fOf x.f_F) ((max 0 (min v 1099511627776)) + ((k : Nat) : Int)))] [⟨0, .tmp 27, .one (.d (.val (.int .i64 (zf27d_3 x v k)))), 0⟩] (cs := [.d (.val (.int .i64 (zf27d_3 x v k)))]) Try.underlying50 iat_3 rfl zero_3 rfl rfl rfl (Nat.le_of_ble_eq_true rfl) (part_cons rfl rfl (Nat.le_of_ble_eq_true rfl) part_ok) (by kernel_rfl) (wk_eq (by kernel_rfl)) (lt_of rfl) trivial),
    hR 7 rfl rfl (q_appendO 3 5 3 8 (kInt .i64) (kInt_ok .i64) (trnL (fOf x.f_F) (max 0 (min v 1099511627776)) k) [(primaryA (fOf x.f_F) ((max 0 (min v 1099511627776)) + ((k : Nat) : Int)))] ((trnL (fOf x.f_F) (max 0 (min v 1099511627776)) k) ++ [(primaryA (fOf x.f_F) ((max 0 (min v 1099511627776)) + ((k : Nat) : Int)))]) (trnL (fOf x.f_F) (max 0 (min v 1099511627776)) k).length (sy := (.own 4 (kInt .i64).sz 0 [(zf27d_3 x v k)].length)) (rhs := [(4, .live (arrK 3 (kInt .i64) [(zf27d_3 x v k)]))]) elem_50 (by first | assumption | omega | (unfold maxLen; omega) | (simp [maxLen, -List.getD_eq_getElem?_getD] <;> omega) | decide) (src_own 4 3 (kInt .i64) [(primaryA (fOf x.f_F) ((max 0 (min v 1099511627776)) + ((k : Nat) : Int)))]) (by rw [List.take_length]) (by first | assumption | omega | (unfold maxLen; omega) | (simp [maxLen, -List.getD_eq_getElem?_getD] <;> omega) | decide) (by first | assumption | omega | (unfold maxLen; omega) | (simp [maxLen, -List.getD_eq_getElem?_getD] <;> omega) | decide) (lt_of rfl) trivial)] (by kernel_rfl) (by kernel_rfl) ?_
  refine nB ?_
  refine nT ?_
  refine xR [hR 1 rfl rfl (r_bin (u1 := .int .i64 ((k : Nat) : Int)) (u2 := .int .i64 1) (v := .int .i64 ((k + 1 : Nat) : Int)) (b_add (by rw [IntKind.wrap_i64]; omega)) (lt_of rfl) ⟨rfl, trivial⟩)] (by kernel_rfl) (by kernel_rfl) ?_
  refine nL (k + 1) (show (((k + 1) : Nat) : Int) ≤ 3 * (fOf x.f_F) + 1 from (by omega)) (show ((3 * (fOf x.f_F) + 1).toNat - (k + 1) : Nat) < (3 * (fOf x.f_F) + 1).toNat - k from (by omega)) (fun _ _ hG => Gs.into2 (s' := ⟨[aa, (zf27d_0 v), aa, aa, aa, pv 1 0, ownV 3 (kInt .i64) 0 (trnL (fOf x.f_F) (max 0 (min v 1099511627776)) (k + 1)).length, (zf27d_4 k)], [.live (.box 23 [.d (.val (.int .i64 x.f_F)), .d (.val (.int .i64 x.f_Clients))]), .live (.box 58 [.d (.val (.int .i64 (3 * (fOf x.f_F) + 1))), .d (.val (.int .i64 (cOf x.f_Clients))), .mref 2]), zf27d_1, .live (arrK 3 (kInt .i64) (trnL (fOf x.f_F) (max 0 (min v 1099511627776)) (k + 1)))]⟩) [0, 1, 2, 5] (bm 8 226) (t1 := [aa, (zf27d_0 v), aa, aa, aa, pv 1 0, ownV 5 (kInt .i64) 0 (trnL (fOf x.f_F) (max 0 (min v 1099511627776)) (k + 1)).length, (zf27d_4 k)]) (t2 := [aa, (zf27d_0 v), aa, aa, aa, pv 1 0, ownV 5 (kInt .i64) 0 ((zf27d_2 x v k) ++ [(zf27d_3 x v k)]).length, (zf27d_4 k)]) (h1 := [.live (.box 23 [.d (.val (.int .i64 x.f_F)), .d (.val (.int .i64 x.f_Clients))]), .live (.box 58 [.d (.val (.int .i64 (3 * (fOf x.f_F) + 1))), .d (.val (.int .i64 (cOf x.f_Clients))), .mref 2]), zf27d_1, .live (arrK 3 (kInt .i64) (trnL (fOf x.f_F) (max 0 (min v 1099511627776)) (k + 1)))]) (h2 := [.live (.box 23 [.d (.val (.int .i64 x.f_F)), .d (.val (.int .i64 x.f_Clients))]), .live (.box 58 [.d (.val (.int .i64 (3 * (fOf x.f_F) + 1))), .d (.val (.int .i64 (cOf x.f_Clients))), .mref 2]), zf27d_1, .live (arrK 3 (kInt .i64) ((zf27d_2 x v k) ++ [(zf27d_3 x v k)]))]) (by have e1 : ((trnL (fOf x.f_F) (max 0 (min v 1099511627776)) (k + 1)).length : Nat) = ((trnL (fOf x.f_F) (max 0 (min v 1099511627776)) k) ++ [(primaryA (fOf x.f_F) ((max 0 (min v 1099511627776)) + ((k : Nat) : Int)))]).length := (by first | rfl | (rw [trn_succ])); have hE := congrArg (fun (q1 : Nat) => ([aa, (zf27d_0 v), aa, aa, aa, pv 1 0, ownV 5 (kInt .i64) 0 q1, (zf27d_4 k)] : List AV)) e1; exact hE) (by have e1 : ((trnL (fOf x.f_F) (max 0 (min v 1099511627776)) (k + 1)) : List Int) = (trnL (fOf x.f_F) (max 0 (min v 1099511627776)) k) ++ [(primaryA (fOf x.f_F) ((max 0 (min v 1099511627776)) + ((k : Nat) : Int)))] := (by first | rfl | (rw [trn_succ])); have hE := congrArg (fun (q1 : List Int) => ([.live (.box 23 [.d (.val (.int .i64 x.f_F)), .d (.val (.int .i64 x.f_Clients))]), .live (.box 58 [.d (.val (.int .i64 (3 * (fOf x.f_F) + 1))), .d (.val (.int .i64 (cOf x.f_Clients))), .mref 2]), zf27d_1, .live (arrK 3 (kInt .i64) q1)] : List HS)) e1; exact hE) (by kernel_rfl) (by kernel_rfl) (by kernel_rfl) (by kernel_rfl) (by kernel_rfl) (by kernel_rfl) (by kernel_rfl) (by kernel_rfl) (by kernel_rfl) (by kernel_rfl) (by kernel_rfl) hG)
 ·have htu := turns (v := (max 0 (min v 1099511627776))) hfx (by omega) hq1
  refine T.condF (by kernel_rfl) (decide_eq_false hq1) ?_
  refine T.exit ?_
  refine xT ?_
  refine xT ?_
  refine xH ?_
  refine nT ?_
  refine T.seq ?_
  by_cases hq2 : ((cntR (fOf x.f_F) (trnL (fOf x.f_F) (max 0 (min v 1099511627776)) k) : Nat) : Int) = (3 * (fOf x.f_F) + 1)
  ·by_cases hq3 : (3 * (fOf x.f_F) + 1) > 0
   ·refine xR [hR 2 rfl rfl (r_call (authn_Count (fOf x.f_F) (cOf x.f_Clients) ([] : List (authn_pair × Bool)) true false (trnL (fOf x.f_F) (max 0 (min v 1099511627776)) k) (by first | assumption | omega | (unfold maxLen; omega) | (simp [maxLen, -List.getD_eq_getElem?_getD] <;> omega) | decide) (by first | assumption | omega | (unfold maxLen; omega) | (simp [maxLen, -List.getD_eq_getElem?_getD] <;> omega) | decide) (by first | assumption | omega | (unfold maxLen; omega) | (simp [maxLen, -List.getD_eq_getElem?_getD] <;> omega) | decide)) Try.func22 rfl (by decide) [1, 2] [3] (l := [(.tmp 30, pv 1 0), (.tmp 31, ownV 3 (kInt .i64) 0 (zf27d_2 x v k).length)]) [(3, .live (arrK 3 (kInt .i64) (zf27d_2 x v k)))] rfl 2 2 rfl rfl rfl rfl rfl rfl rfl rfl rfl ⟨.inl ⟨rfl, rfl⟩, ⟨.inr (.inl ⟨rfl, (fun h => by cases h), rfl, rfl, by simp, 3, (trnL (fOf x.f_F) (max 0 (min v 1099511627776)) k).length, elOf (kInt .i64) (trnL (fOf x.f_F) (max 0 (min v 1099511627776)) k), List.Mem.head _, (by first | exact Nat.le_of_eq (Nat.zero_add _) | omega), fun i j => by rw [Nat.zero_add]⟩), trivial⟩⟩ rfl (by intro b hb; simp only [List.mem_cons, List.not_mem_nil, or_false] at hb; rcases hb with rfl; exact ⟨_, List.Mem.head _⟩) (.inr ⟨trivial, (And.intro (And.intro trivial (And.intro trivial (And.intro trivial trivial))) (And.intro (mp_ntH kBool_nt) trivial))⟩) (lt_of rfl) trivial),
      hR 4 rfl rfl (r_call (authn_N (fOf x.f_F) (cOf x.f_Clients) ([] : List (authn_pair × Bool)) (by first | assumption | omega | (unfold maxLen; omega) | (simp [maxLen, -List.getD_eq_getElem?_getD] <;> omega) | decide) (by first | assumption | omega | (unfold maxLen; omega) | (simp [maxLen, -List.getD_eq_getElem?_getD] <;> omega) | decide)) Try.func26 rfl (by decide) [1, 2] [] (l := [(.tmp 33, pv 1 0)]) [] rfl 2 2 rfl rfl rfl rfl rfl rfl rfl rfl rfl ⟨.inl ⟨rfl, rfl⟩, trivial⟩ rfl (fun b hb => by cases hb) (.inl rfl) (lt_of rfl) trivial),
      hY 7 (decide_eq_true hq2),
      hS 8 (oY rfl rfl rfl rfl (lt_of rfl) (decide_eq_true hq2) (r_call (authn_N (fOf x.f_F) (cOf x.f_Clients) ([] : List (authn_pair × Bool)) (by first | assumption | omega | (unfold maxLen; omega) | (simp [maxLen, -List.getD_eq_getElem?_getD] <;> omega) | decide) (by first | assumption | omega | (unfold maxLen; omega) | (simp [maxLen, -List.getD_eq_getElem?_getD] <;> omega) | decide)) Try.func26 rfl (by decide) [1, 2] [] (l := [(.tmp 37, pv 1 0)]) [] rfl 2 2 rfl rfl rfl rfl rfl rfl rfl rfl rfl ⟨.inl ⟨rfl, rfl⟩, trivial⟩ rfl (fun b hb => by cases hb) (.inl rfl) (lt_of rfl) (by exact trivial))),
      hY 9 (decide_eq_true hq2),
      hP 10 (decide_eq_true hq2),
      hS 12 (oY rfl rfl rfl rfl (lt_of rfl) (decide_eq_true hq3) (r_call (law_awake  ) Try.func15 rfl (by decide) [] [] (l := []) [] rfl 0 0 rfl rfl rfl rfl rfl rfl rfl rfl rfl trivial rfl (fun b hb => by cases hb) (.inl rfl) (lt_of rfl) (by exact trivial))),
      hP 13 (decide_eq_true hq3)] (by kernel_rfl) (by kernel_rfl) ?_
    refine nT ?_
    refine T.ret ?_
    exact tE (.inl rfl) [.t 4 (.one (.d (.val (.bool true))))] ⟨⟨rfl, by kernel_rfl⟩, trivial⟩ [] rfl rfl rfl rfl rfl rfl trivial
   ·exact absurd (by first | exact htu | omega) hq3
  ·exact absurd (by first | exact htu | omega) hq2
end Go.Proofs.Ytladnlechpadlaa.Q
