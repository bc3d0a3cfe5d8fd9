import Derived.Test.YtladnlechpadlaaC03n11
namespace Go.Proofs.Ytladnlechpadlaa.Q
open Go Go.RowKit
set_option linter.unusedVariables false
set_option linter.unusedSimpArgs false
set_option maxRecDepth 100000
set_option maxHeartbeats 4000000
abbrev za733_0 (l : List Int) : AV := slV false false (kInt .i64) l
abbrev za733_1 : TV := .one (.d (.val (.bool true)))
abbrev za733_2 (x : quaestorlaw03_Size) : HS := .live (.box 23 [.d (.val (.int .i64 x.f_F)), .d (.val (.int .i64 x.f_Clients))])
abbrev za733_3 (x : quaestorlaw03_Size) : HS := .live (.box 58 [.d (.val (.int .i64 (3 * (fOf x.f_F) + 1))), .d (.val (.int .i64 (cOf x.f_Clients))), .mref 2])
abbrev za733_4 : HS := .live (mpK f_authn_pair kBool ([] : List (authn_pair × Bool)))
abbrev za733_5 (x : quaestorlaw03_Size) : HS := .live (.box 48 [.d (.val (.bool true)), .d (.val (.int .i64 (fOf x.f_F))), .d (.val (.int .i64 (cOf x.f_Clients))), .own 4 (k_api_Envelope false).sz 0 ([] : List api_Envelope).length])
abbrev za733_6 : HS := .live (arrK 32 (k_api_Envelope false) ([] : List api_Envelope))
abbrev za733_7 (k : Nat) : AV := dv (.int .i64 ((k : Nat) : Int))
abbrev za733_8 (x : quaestorlaw03_Size) (l : List Int) (k : Nat) : List HS := [(za733_2 x), (za733_3 x), za733_4, (za733_5 x), za733_6, .live (arrK 32 (k_api_Envelope false) ((l.take k).map mkE))]
abbrev za733_9 (l : List Int) : List AV := [aa, (za733_0 l), aa, aa, aa, pv 1 0, pv 3 0, ownV 5 (k_api_Envelope false) 0 ((l.take 0).map mkE).length, dv (.int .i64 0)]
abbrev za733_a (l : List Int) (k : Nat) := (api_Envelope.mk (l.getD k 0) ([] : List UInt8))
abbrev za733_b (k : Nat) : AV := dv (.int .i64 ((k + 1 : Nat) : Int))
abbrev za733_c (l : List Int) (k : Nat) : AV := dv (.bool (decide (((k : Nat) : Int) < ((l.length : Nat) : Int))))
abbrev za733_d (l : List Int) (k : Nat) : List AV := [aa, (za733_0 l), aa, aa, aa, pv 1 0, pv 3 0, ownV 5 (k_api_Envelope false) 0 ((l.take k).map mkE).length, (za733_7 k), aa, aa, aa, aa, aa, aa, aa, aa, aa, aa, aa, aa, aa, aa, aa, aa, aa, aa, aa, (za733_c l k)]
abbrev za733_e (l : List Int) : AV := ownV 5 (k_api_Envelope false) 0 (l.map mkE).length
abbrev za733_f (l : List Int) (k : Nat) : List AV := [aa, (za733_0 l), aa, aa, aa, pv 1 0, pv 3 0, (za733_e l), (za733_7 k), aa, aa, aa, aa, aa, aa, aa, aa, aa, aa, aa, aa, aa, aa, aa, aa, aa, aa, aa, (za733_c l k)]
abbrev za733_g (l : List Int) : HS := .live (arrK 32 (k_api_Envelope false) (l.map mkE))
abbrev za733_h (l : List Int) : AV := ownV 7 (kInt .i64) 0 l.length
abbrev za733_i (x : quaestorlaw03_Size) (l : List Int) : List HS := [(za733_2 x), (za733_3 x), za733_4, (za733_5 x), za733_6, (za733_g l), .dead, .live (arrK 3 (kInt .i64) l)]
abbrev za733_j (x : quaestorlaw03_Size) (l : List Int) (k : Nat) : List AV := [aa, (za733_0 l), aa, aa, aa, pv 1 0, pv 3 0, (za733_e l), (za733_7 k), (za733_h l), dv (.int .i64 ((cntR (fOf x.f_F) l : Nat) : Int)), dv (.int .i64 0), aa, aa, aa, aa, aa, aa, aa, aa, aa, aa, aa, aa, aa, aa, aa, aa, (za733_c l k)]
abbrev za733_k (x : quaestorlaw03_Size) (l : List Int) (k : Nat) (k2 : Nat) : List AV := [aa, (za733_0 l), aa, aa, aa, pv 1 0, pv 3 0, (za733_e l), (za733_7 k), (za733_h l), dv (.int .i64 ((cntR (fOf x.f_F) l : Nat) : Int)), dv (.int .i64 ((k2 + 1 : Nat) : Int)), aa, aa, aa, aa, aa, aa, aa, aa, aa, aa, aa, aa, aa, aa, aa, aa, (za733_c l k)]
-- quaestor/quaestorlaw03.AuthnCounts
theorem law_AuthnCounts (x : quaestorlaw03_Size) (l : List Int) (hll : l.length ≤ 9223372036854775807) : Holds Try.prog 9 ⟨[.tv (.agg [.d (.val (.int .i64 x.f_F)), .d (.val (.int .i64 x.f_Clients))]), slV false false (kInt .i64) l], [], dv (.bool true), []⟩ := by
 refine Holds.of Try.func9 rfl (N := 89) Try.ntmps9 rfl fun w0 B0 S0 U0 => ?_
 show T _ (mkBase 89 0 w0 S0 U0 B0) ⟨[.tv (.agg [.d (.val (.int .i64 x.f_F)), .d (.val (.int .i64 x.f_Clients))]), (za733_0 l)], []⟩ _ _
 have hfx := fOf_ok x.f_F
 have hux := cOf_ok x.f_Clients
 have hmm : (l.map mkE).length = l.length := List.length_map ..
 refine T.seq ?_
 refine xR [] (by kernel_rfl) (by kernel_rfl) ?_
 refine nT ?_
 refine T.seq ?_
 refine T.seq ?_
 refine xR [] (by kernel_rfl) (by kernel_rfl) ?_
 refine nT ?_
 by_cases hq1 : ((l.length : Nat) : Int) > 1000
 ·refine T.condT (by kernel_rfl) (decide_eq_true hq1) ?_
  refine T.seq ?_
  refine xR [] (by kernel_rfl) (by kernel_rfl) ?_
  refine nT ?_
  refine T.ret ?_
  refine rT ?_
  exact tE (.inl rfl) [.t 4 (za733_1)] ⟨⟨rfl, by kernel_rfl⟩, trivial⟩ [] rfl rfl rfl rfl rfl rfl trivial
 ·refine T.condF (by kernel_rfl) (decide_eq_false hq1) ?_
  refine T.skip ?_
  refine nT ?_
  refine T.seq ?_
  refine xD [[], [0], [], [2], [0, 1, 2, 3], [], [5], [], [7], [0, 1, 2, 3, 4, 5, 6, 7, 8], [0, 1, 2, 3, 4, 5, 6, 7, 8, 9], [0, 1, 2, 3, 4, 5, 6, 7, 8, 9, 10]] [hR 4 rfl rfl (r_call (authn_New x.f_F x.f_Clients ) Try.func11 rfl (by decide) [1, 2] [] (l := [(.tmp 16, dv (.int .i64 x.f_F)), (.tmp 18, dv (.int .i64 x.f_Clients))]) [] rfl 0 2 rfl rfl rfl rfl rfl rfl rfl rfl rfl ⟨.inl ⟨rfl, rfl⟩, ⟨.inl ⟨rfl, rfl⟩, trivial⟩⟩ rfl (fun b hb => by cases hb) (.inl rfl) (lt_of rfl) trivial),
    hR 9 rfl rfl (r_call (ref03_New x.f_F x.f_Clients ) Try.func16 rfl (by decide) [3, 4] [] (l := [(.tmp 21, dv (.int .i64 x.f_F)), (.tmp 23, dv (.int .i64 x.f_Clients))]) [] rfl 0 2 rfl rfl rfl rfl rfl rfl rfl rfl rfl ⟨.inl ⟨rfl, rfl⟩, ⟨.inl ⟨rfl, rfl⟩, trivial⟩⟩ rfl (fun b hb => by cases hb) (.inl rfl) (lt_of rfl) trivial)] (by kernel_rfl) (by kernel_rfl) (by kernel_rfl) (by kernel_rfl) (by kernel_rfl) (by kernel_rfl) ?_
  refine nT ?_
  refine T.seq ?_
  refine xR [] (by kernel_rfl) (by kernel_rfl) ?_
  refine nT ?_
  refine T.seq ?_
  refine T.seq ?_
  refine xR [] (by kernel_rfl) (by kernel_rfl) ?_
  refine nT ?_
  refine T.block ?_
  refine T.turn (s' := ⟨[.tv (.agg [.d (.val (.int .i64 x.f_F)), .d (.val (.int .i64 x.f_Clients))]), (za733_0 l), pv 0 0, aa, dv (.bool false), pv 1 0, pv 3 0, dv (.slice none 0 0), dv (.int .i64 0), aa, aa, aa, aa, aa, dv (.bool (decide (((l.length : Nat) : Int) > 1000)))], [(za733_2 x), (za733_3 x), za733_4, (za733_5 x), za733_6]⟩) (fun _ _ hG => Gs.norm (by kernel_rfl) hG) ?_
  refine T.turn (s' := ⟨[.tv (.agg [.d (.val (.int .i64 x.f_F)), .d (.val (.int .i64 x.f_Clients))]), (za733_0 l), pv 0 0, aa, dv (.bool false), pv 1 0, pv 3 0, ownV 5 (k_api_Envelope false) 0 0, dv (.int .i64 0), aa, aa, aa, aa, aa, dv (.bool (decide (((l.length : Nat) : Int) > 1000)))], [(za733_2 x), (za733_3 x), za733_4, (za733_5 x), za733_6, za733_6]⟩) (fun _ _ hG => Gs.absent 5 7 32 (k_api_Envelope false) rfl rfl hG) ?_
  refine T.loop (ι := Nat) (fun (k : Nat) => ⟨[aa, (za733_0 l), aa, aa, aa, pv 1 0, pv 3 0, ownV 5 (k_api_Envelope false) 0 ((l.take k).map mkE).length, (za733_7 k)], (za733_8 x l k)⟩) (fun (k : Nat) => (k ≤ l.length)) (fun (k : Nat) => l.length - k) (0) (Nat.zero_le _) (fun _ _ hG => Gs.into2 (s' := ⟨(za733_9 l), [(za733_2 x), (za733_3 x), za733_4, (za733_5 x), za733_6, .live (arrK 32 (k_api_Envelope false) ((l.take 0).map mkE))]⟩) [0, 1, 2, 3, 4, 5] (bm 9 482) (t1 := (za733_9 l)) (t2 := [aa, (za733_0 l), aa, aa, aa, pv 1 0, pv 3 0, ownV 5 (k_api_Envelope false) 0 0, dv (.int .i64 0)]) (h1 := [(za733_2 x), (za733_3 x), za733_4, (za733_5 x), za733_6, .live (arrK 32 (k_api_Envelope false) ((l.take 0).map mkE))]) (h2 := [(za733_2 x), (za733_3 x), za733_4, (za733_5 x), za733_6, za733_6]) (by have e1 : (((l.take 0).map mkE).length : Nat) = 0 := (by first | rfl); have hE := congrArg (fun (q1 : Nat) => ([aa, (za733_0 l), aa, aa, aa, pv 1 0, pv 3 0, ownV 5 (k_api_Envelope false) 0 q1, dv (.int .i64 0)] : List AV)) e1; exact hE) (by have e1 : (((l.take 0).map mkE) : List api_Envelope) = ([] : List api_Envelope) := (by first | rfl); have hE := congrArg (fun (q1 : List api_Envelope) => ([(za733_2 x), (za733_3 x), za733_4, (za733_5 x), za733_6, .live (arrK 32 (k_api_Envelope false) q1)] : List HS)) e1; exact hE) (by kernel_rfl) (by kernel_rfl) (by kernel_rfl) (by kernel_rfl) (by kernel_rfl) (by kernel_rfl) (by kernel_rfl) (by kernel_rfl) (by kernel_rfl) (by kernel_rfl) (by kernel_rfl) hG) ?_
  rintro k hk
  show T _ _ ⟨[aa, (za733_0 l), aa, aa, aa, pv 1 0, pv 3 0, ownV 5 (k_api_Envelope false) 0 ((l.take k).map mkE).length, (za733_7 k)], (za733_8 x l k)⟩ _ _
  replace hk : k ≤ l.length := hk
  have hml : ((l.take k).map mkE).length = k := (by rw [List.length_map, List.length_take]; omega)
  refine T.seq ?_
  refine T.seq ?_
  refine xR [] (by kernel_rfl) (by kernel_rfl) ?_
  refine nT ?_
  by_cases hq2 : ((k : Nat) : Int) < ((l.length : Nat) : Int)
  ·refine T.condT (by kernel_rfl) (decide_eq_true hq2) ?_
   refine T.skip ?_
   refine nT ?_
   refine T.seq ?_
   refine T.block ?_
   refine xR [hR 3 rfl rfl (q_index false false (kInt .i64) l k (k := .i64) (i := ((k : Nat) : Int)) Try.underlying50 iat_3 rfl rfl (by first | assumption | omega | (unfold maxLen; omega) | (simp [maxLen, -List.getD_eq_getElem?_getD] <;> omega) | decide) (lt_of rfl) trivial),
     hR 6 rfl rfl (q_buildSlice 6 32 (k_api_Envelope false) (k_api_Envelope_ok false) [(api_Envelope.mk (l.getD k 0) ([] : List UInt8))] [⟨0, .tmp 36, .agg [.d (.val (.int .i64 (l.getD k 0))), .d (.val (.slice none 0 0))], 0⟩] (cs := [.d (.val (.int .i64 (l.getD k 0))), .d (.val (.slice none 0 0))]) Try.underlying46 iat_32 rfl zero_32 rfl rfl rfl (Nat.le_of_ble_eq_true rfl) (part_cons rfl rfl (Nat.le_of_ble_eq_true rfl) part_ok) (by kernel_rfl) ⟨.inl rfl, ⟨(.inr ⟨rfl, rfl, rfl⟩), trivial⟩⟩ (lt_of rfl) trivial),
     hR 7 rfl rfl (q_appendO 5 7 32 32 (k_api_Envelope false) (k_api_Envelope_ok false) ((l.take k).map mkE) [(api_Envelope.mk (l.getD k 0) ([] : List UInt8))] (((l.take k).map mkE) ++ [(api_Envelope.mk (l.getD k 0) ([] : List UInt8))]) ((l.take k).map mkE).length (sy := (.own 6 (k_api_Envelope false).sz 0 [(za733_a l k)].length)) (rhs := [(6, .live (arrK 32 (k_api_Envelope false) [(za733_a l k)]))]) elem_46 (by first | assumption | omega | (unfold maxLen; omega) | (simp [maxLen, -List.getD_eq_getElem?_getD] <;> omega) | decide) (src_own 6 32 (k_api_Envelope false) [(api_Envelope.mk (l.getD k 0) ([] : List UInt8))]) (by rw [List.take_length]) (by first | assumption | omega | (unfold maxLen; omega) | (simp [maxLen, -List.getD_eq_getElem?_getD] <;> omega) | decide) (by first | assumption | omega | (unfold maxLen; omega) | (simp [maxLen, -List.getD_eq_getElem?_getD] <;> omega) | decide) (lt_of rfl) trivial)] (by kernel_rfl) (by kernel_rfl) ?_
   refine nB ?_
   refine nT ?_
   refine xR [hR 1 rfl rfl (r_bin (u1 := .int .i64 ((k : Nat) : Int)) (u2 := .int .i64 1) (v := .int .i64 ((k + 1 : Nat) : Int)) (b_add (by rw [IntKind.wrap_i64]; omega)) (lt_of rfl) ⟨rfl, trivial⟩)] (by kernel_rfl) (by kernel_rfl) ?_
   refine nL (k + 1) (show (k + 1) ≤ l.length from (by omega)) (show (l.length - (k + 1) : Nat) < l.length - k from (by omega)) (fun _ _ hG => Gs.into2 (s' := ⟨[aa, (za733_0 l), aa, aa, aa, pv 1 0, pv 3 0, ownV 5 (k_api_Envelope false) 0 ((l.take (k + 1)).map mkE).length, (za733_b k)], [(za733_2 x), (za733_3 x), za733_4, (za733_5 x), za733_6, .live (arrK 32 (k_api_Envelope false) ((l.take (k + 1)).map mkE))]⟩) [0, 1, 2, 3, 4, 7] (bm 9 482) (t1 := [aa, (za733_0 l), aa, aa, aa, pv 1 0, pv 3 0, ownV 7 (k_api_Envelope false) 0 ((l.take (k + 1)).map mkE).length, (za733_b k)]) (t2 := [aa, (za733_0 l), aa, aa, aa, pv 1 0, pv 3 0, ownV 7 (k_api_Envelope false) 0 (((l.take k).map mkE) ++ [(za733_a l k)]).length, (za733_b k)]) (h1 := [(za733_2 x), (za733_3 x), za733_4, (za733_5 x), za733_6, .live (arrK 32 (k_api_Envelope false) ((l.take (k + 1)).map mkE))]) (h2 := [(za733_2 x), (za733_3 x), za733_4, (za733_5 x), za733_6, .live (arrK 32 (k_api_Envelope false) (((l.take k).map mkE) ++ [(za733_a l k)]))]) (by have e1 : (((l.take (k + 1)).map mkE).length : Nat) = (((l.take k).map mkE) ++ [(api_Envelope.mk (l.getD k 0) ([] : List UInt8))]).length := (by first | rfl | (rw [tk_succ (z := 0) (by omega), List.map_append]; rfl)); have hE := congrArg (fun (q1 : Nat) => ([aa, (za733_0 l), aa, aa, aa, pv 1 0, pv 3 0, ownV 7 (k_api_Envelope false) 0 q1, (za733_b k)] : List AV)) e1; exact hE) (by have e1 : (((l.take (k + 1)).map mkE) : List api_Envelope) = ((l.take k).map mkE) ++ [(api_Envelope.mk (l.getD k 0) ([] : List UInt8))] := (by first | rfl | (rw [tk_succ (z := 0) (by omega), List.map_append]; rfl)); have hE := congrArg (fun (q1 : List api_Envelope) => ([(za733_2 x), (za733_3 x), za733_4, (za733_5 x), za733_6, .live (arrK 32 (k_api_Envelope false) q1)] : List HS)) e1; exact hE) (by kernel_rfl) (by kernel_rfl) (by kernel_rfl) (by kernel_rfl) (by kernel_rfl) (by kernel_rfl) (by kernel_rfl) (by kernel_rfl) (by kernel_rfl) (by kernel_rfl) (by kernel_rfl) hG)
  ·have htk : l.take k = l := List.take_of_length_le (by omega)
   refine T.condF (by kernel_rfl) (decide_eq_false hq2) ?_
   refine T.exit ?_
   refine xT ?_
   refine xT ?_
   refine xH ?_
   refine nT ?_
   refine T.seq ?_
   refine T.turn (s' := ⟨(za733_d l k), (za733_8 x l k)⟩) (fun _ _ hG => Gs.norm (by kernel_rfl) hG) ?_
   refine T.turn (s' := ⟨(za733_f l k), [(za733_2 x), (za733_3 x), za733_4, (za733_5 x), za733_6, (za733_g l)]⟩) (fun _ _ hG => Gs.into2 (s' := ⟨(za733_f l k), [(za733_2 x), (za733_3 x), za733_4, (za733_5 x), za733_6, (za733_g l)]⟩) [0, 1, 2, 3, 4, 5] (bm 29 268435938) (t1 := (za733_f l k)) (t2 := (za733_d l k)) (h1 := [(za733_2 x), (za733_3 x), za733_4, (za733_5 x), za733_6, (za733_g l)]) (h2 := (za733_8 x l k)) (by have e1 : ((l.map mkE).length : Nat) = ((l.take k).map mkE).length := (by (rw [htk])); have hE := congrArg (fun (q1 : Nat) => ([aa, (za733_0 l), aa, aa, aa, pv 1 0, pv 3 0, ownV 5 (k_api_Envelope false) 0 q1, (za733_7 k), aa, aa, aa, aa, aa, aa, aa, aa, aa, aa, aa, aa, aa, aa, aa, aa, aa, aa, aa, (za733_c l k)] : List AV)) e1; exact hE) (by have e1 : ((l.map mkE) : List api_Envelope) = ((l.take k).map mkE) := (by (rw [htk])); have hE := congrArg (fun (q1 : List api_Envelope) => ([(za733_2 x), (za733_3 x), za733_4, (za733_5 x), za733_6, .live (arrK 32 (k_api_Envelope false) q1)] : List HS)) e1; exact hE) (by kernel_rfl) (by kernel_rfl) (by kernel_rfl) (by kernel_rfl) (by kernel_rfl) (by kernel_rfl) (by kernel_rfl) (by kernel_rfl) (by kernel_rfl) (by kernel_rfl) (by kernel_rfl) hG) ?_
   refine xR [hR 0 rfl rfl (q_buildSlice 6 3 (kInt .i64) (kInt_ok .i64) ([] : List Int) [] (cs := []) Try.underlying50 iat_3 rfl zero_3 rfl rfl rfl (Nat.le_of_ble_eq_true rfl) part_ok (by kernel_rfl) (wk_eq (by kernel_rfl)) (lt_of rfl) trivial),
     hR 2 rfl rfl (q_appendO 6 7 3 8 (kInt .i64) (kInt_ok .i64) ([] : List Int) l l ([] : List Int).length (sy := (.d (dsl false false (kInt .i64) l))) (rhs := []) elem_50 (by first | assumption | omega | (unfold maxLen; omega) | (simp [maxLen, -List.getD_eq_getElem?_getD] <;> omega) | decide) (src_sl false false (kInt .i64) l) (by simp) (by first | assumption | omega | (unfold maxLen; omega) | (simp [maxLen, -List.getD_eq_getElem?_getD] <;> omega) | decide) (by first | assumption | omega | (unfold maxLen; omega) | (simp [maxLen, -List.getD_eq_getElem?_getD] <;> omega) | decide) (lt_of rfl) trivial)] (by kernel_rfl) (by kernel_rfl) ?_
   refine nT ?_
   refine T.seq ?_
   refine xR [hR 2 rfl rfl (r_call (authn_Count (fOf x.f_F) (cOf x.f_Clients) ([] : List (authn_pair × Bool)) true false l (by first | assumption | omega | (unfold maxLen; omega) | (simp [maxLen, -List.getD_eq_getElem?_getD] <;> omega) | decide) (by first | assumption | omega | (unfold maxLen; omega) | (simp [maxLen, -List.getD_eq_getElem?_getD] <;> omega) | decide) (by first | assumption | omega | (unfold maxLen; omega) | (simp [maxLen, -List.getD_eq_getElem?_getD] <;> omega) | decide)) Try.func22 rfl (by decide) [1, 2] [7] (l := [(.tmp 42, pv 1 0), (.tmp 43, (za733_h l))]) [(7, .live (arrK 3 (kInt .i64) l))] rfl 2 2 rfl rfl rfl rfl rfl rfl rfl rfl rfl ⟨.inl ⟨rfl, rfl⟩, ⟨.inr (.inl ⟨rfl, (fun h => by cases h), rfl, rfl, by simp, 3, l.length, elOf (kInt .i64) l, List.Mem.head _, (by first | exact Nat.le_of_eq (Nat.zero_add _) | omega), fun i j => by rw [Nat.zero_add]⟩), trivial⟩⟩ rfl (by intro b hb; simp only [List.mem_cons, List.not_mem_nil, or_false] at hb; rcases hb with rfl; exact ⟨_, List.Mem.head _⟩) (.inr ⟨trivial, (And.intro (And.intro trivial (And.intro trivial (And.intro trivial trivial))) (And.intro (mp_ntH kBool_nt) trivial))⟩) (lt_of rfl) trivial)] (by kernel_rfl) (by kernel_rfl) ?_
   refine nT ?_
   refine T.seq ?_
   refine T.seq ?_
   refine xR [] (by kernel_rfl) (by kernel_rfl) ?_
   refine nT ?_
   refine T.block ?_
   refine T.loop (ι := Nat) (fun (k2 : Nat) => ⟨[aa, (za733_0 l), aa, aa, aa, pv 1 0, pv 3 0, (za733_e l), (za733_7 k), (za733_h l), dv (.int .i64 ((cntR (fOf x.f_F) l : Nat) : Int)), dv (.int .i64 ((k2 : Nat) : Int)), aa, aa, aa, aa, aa, aa, aa, aa, aa, aa, aa, aa, aa, aa, aa, aa, (za733_c l k)], (za733_i x l)⟩) (fun (k2 : Nat) => (k2 ≤ l.length)) (fun (k2 : Nat) => l.length - k2) (0) (Nat.zero_le _) (fun _ _ hG => Gs.into2 (s' := ⟨(za733_j x l k), (za733_i x l)⟩) [0, 1, 2, 3, 4, 5, 15, 7] (bm 29 268439522) (t1 := (za733_j x l k)) (h1 := (za733_i x l)) rfl rfl (by kernel_rfl) (by kernel_rfl) (by kernel_rfl) (by kernel_rfl) (by kernel_rfl) (by kernel_rfl) (by kernel_rfl) (by kernel_rfl) (by kernel_rfl) (by kernel_rfl) (by kernel_rfl) hG) ?_
   rintro k2 hk2
   show T _ _ ⟨[aa, (za733_0 l), aa, aa, aa, pv 1 0, pv 3 0, (za733_e l), (za733_7 k), (za733_h l), dv (.int .i64 ((cntR (fOf x.f_F) l : Nat) : Int)), dv (.int .i64 ((k2 : Nat) : Int)), aa, aa, aa, aa, aa, aa, aa, aa, aa, aa, aa, aa, aa, aa, aa, aa, (za733_c l k)], (za733_i x l)⟩ _ _
   replace hk2 : k2 ≤ l.length := hk2
   refine T.seq ?_
   refine T.seq ?_
   refine xR [] (by kernel_rfl) (by kernel_rfl) ?_
   refine nT ?_
   by_cases hq3 : ((k2 : Nat) : Int) < ((l.length : Nat) : Int)
   ·refine T.condT (by kernel_rfl) (decide_eq_true hq3) ?_
    refine T.skip ?_
    refine nT ?_
    refine T.seq ?_
    refine T.block ?_
    refine T.seq ?_
    refine xD [[], [], [0, 1], [0, 1, 2], [], [], [4, 5], [4, 5, 6], [0, 1, 2, 3, 4, 5, 6, 7]] [hR 2 rfl rfl (r_indexO (k := .i64) (l := 7) (sz := (kInt .i64).sz) (off := 0) (n := l.length) (i := ((k2 : Nat) : Int)) (m := k2) (o' := k2 * (kInt .i64).sz + 0) Try.underlying50 iat_3 rfl rfl (by first | assumption | omega | (unfold maxLen; omega) | (simp [maxLen, -List.getD_eq_getElem?_getD] <;> omega) | decide) (by first | rfl | simp) (lt_of rfl) trivial),
      hR 3 rfl rfl (r_loadA (l := 7) (off := k2 * (kInt .i64).sz + 0) (i := k2) (j := 0) (T := 3) (sz := (kInt .i64).sz) (n := l.length) (el := elOf (kInt .i64) l) (c := .val (.int .i64 (l.getD k2 0))) wide_3 rfl (by first | assumption | omega | (unfold maxLen; omega) | (simp [maxLen, -List.getD_eq_getElem?_getD] <;> omega) | decide) (by decide) rfl (lt_of rfl) trivial),
      hR 6 rfl rfl (q_index false false (kInt .i64) l k2 (k := .i64) (i := ((k2 : Nat) : Int)) Try.underlying50 iat_3 rfl rfl (by first | assumption | omega | (unfold maxLen; omega) | (simp [maxLen, -List.getD_eq_getElem?_getD] <;> omega) | decide) (lt_of rfl) trivial)] (by kernel_rfl) (by kernel_rfl) (by kernel_rfl) (by kernel_rfl) (by kernel_rfl) (by kernel_rfl) ?_
    refine nT ?_
    refine T.condF (by kernel_rfl) (show decide ((l.getD k2 0) ≠ (l.getD k2 0)) = false from decide_eq_false (fun h => h rfl)) ?_
    refine T.skip ?_
    refine nB ?_
    refine nT ?_
    refine xR [hR 1 rfl rfl (r_bin (u1 := .int .i64 ((k2 : Nat) : Int)) (u2 := .int .i64 1) (v := .int .i64 ((k2 + 1 : Nat) : Int)) (b_add (by rw [IntKind.wrap_i64]; omega)) (lt_of rfl) ⟨rfl, trivial⟩)] (by kernel_rfl) (by kernel_rfl) ?_
    refine nL (k2 + 1) (show (k2 + 1) ≤ l.length from (by omega)) (show (l.length - (k2 + 1) : Nat) < l.length - k2 from (by omega)) (fun _ _ hG => Gs.into2 (s' := ⟨(za733_k x l k k2), (za733_i x l)⟩) [0, 1, 2, 3, 4, 5, 15, 7] (bm 29 268439522) (t1 := (za733_k x l k k2)) (h1 := (za733_i x l)) rfl rfl (by kernel_rfl) (by kernel_rfl) (by kernel_rfl) (by kernel_rfl) (by kernel_rfl) (by kernel_rfl) (by kernel_rfl) (by kernel_rfl) (by kernel_rfl) (by kernel_rfl) (by kernel_rfl) hG)
   ·refine T.condF (by kernel_rfl) (decide_eq_false hq3) ?_
    refine T.exit ?_
    refine xT ?_
    refine xT ?_
    refine xH ?_
    refine nT ?_
    refine T.seq ?_
    by_cases hq4 : (dstE (fOf x.f_F) (l.map mkE)) ≠ 0
    ·refine xR [hR 3 rfl rfl (r_call (ref03_Count (fOf x.f_F) (cOf x.f_Clients) ([] : List api_Envelope) false false l (by first | assumption | omega | (unfold maxLen; omega) | (simp [maxLen, -List.getD_eq_getElem?_getD] <;> omega) | decide) (by first | assumption | omega | (unfold maxLen; omega) | (simp [maxLen, -List.getD_eq_getElem?_getD] <;> omega) | decide) (by first | assumption | omega | (unfold maxLen; omega) | (simp [maxLen, -List.getD_eq_getElem?_getD] <;> omega) | decide)) Try.func28 rfl (by decide) [3, 4] [] (l := [(.tmp 61, pv 3 0), (.tmp 62, (za733_0 l))]) [] rfl 2 2 rfl rfl rfl rfl rfl rfl rfl rfl rfl ⟨.inl ⟨rfl, rfl⟩, ⟨.inl ⟨rfl, rfl⟩, trivial⟩⟩ rfl (fun b hb => by cases hb) (.inl rfl) (lt_of rfl) trivial),
       hY 6 (show decide (((cntR (fOf x.f_F) l : Nat) : Int) = ((cntR (fOf x.f_F) l : Nat) : Int)) = true from decide_eq_true (Eq.refl _)),
       hY 7 (show decide (((cntR (fOf x.f_F) l : Nat) : Int) = ((cntR (fOf x.f_F) l : Nat) : Int)) = true from decide_eq_true (Eq.refl _)),
       hS 8 (oY rfl rfl rfl rfl (lt_of rfl) (show decide (((cntR (fOf x.f_F) l : Nat) : Int) = ((cntR (fOf x.f_F) l : Nat) : Int)) = true from decide_eq_true (Eq.refl _)) (r_call (authn_Distinct (fOf x.f_F) (cOf x.f_Clients) ([] : List (authn_pair × Bool)) true false false (l.map mkE) (by first | assumption | omega | (unfold maxLen; omega) | (simp [maxLen, -List.getD_eq_getElem?_getD] <;> omega) | decide) (by first | assumption | omega | (unfold maxLen; omega) | (simp [maxLen, -List.getD_eq_getElem?_getD] <;> omega) | decide) (by first | assumption | omega | (unfold maxLen; omega) | (simp [maxLen, -List.getD_eq_getElem?_getD] <;> omega) | decide)) Try.func29 rfl (by decide) [1, 2] [5] (l := [(.tmp 66, pv 1 0), (.tmp 67, (za733_e l))]) [(5, (za733_g l))] rfl 2 2 rfl rfl rfl rfl rfl rfl rfl rfl rfl ⟨.inl ⟨rfl, rfl⟩, ⟨.inr (.inl ⟨rfl, (fun h => by cases h), rfl, rfl, by simp, 32, (l.map mkE).length, elOf (k_api_Envelope false) (l.map mkE), List.Mem.head _, (by first | exact Nat.le_of_eq (Nat.zero_add _) | omega), fun i j => by rw [Nat.zero_add]⟩), trivial⟩⟩ rfl (by intro b hb; simp only [List.mem_cons, List.not_mem_nil, or_false] at hb; rcases hb with rfl; exact ⟨_, List.Mem.head _⟩) (.inr ⟨trivial, (And.intro (And.intro trivial (And.intro trivial (And.intro trivial trivial))) (And.intro (mp_ntH kBool_nt) trivial))⟩) (lt_of rfl) (by exact trivial))),
       hY 9 (show decide (((cntR (fOf x.f_F) l : Nat) : Int) = ((cntR (fOf x.f_F) l : Nat) : Int)) = true from decide_eq_true (Eq.refl _)),
       hY 10 (show decide (((cntR (fOf x.f_F) l : Nat) : Int) = ((cntR (fOf x.f_F) l : Nat) : Int)) = true from decide_eq_true (Eq.refl _)),
       hS 11 (oY rfl rfl rfl rfl (lt_of rfl) (show decide (((cntR (fOf x.f_F) l : Nat) : Int) = ((cntR (fOf x.f_F) l : Nat) : Int)) = true from decide_eq_true (Eq.refl _)) (r_call (ref03_Distinct (fOf x.f_F) (cOf x.f_Clients) ([] : List api_Envelope) true false false (l.map mkE) (by first | assumption | omega | (unfold maxLen; omega) | (simp [maxLen, -List.getD_eq_getElem?_getD] <;> omega) | decide) (by first | assumption | omega | (unfold maxLen; omega) | (simp [maxLen, -List.getD_eq_getElem?_getD] <;> omega) | decide) (by first | assumption | omega | (unfold maxLen; omega) | (simp [maxLen, -List.getD_eq_getElem?_getD] <;> omega) | decide)) Try.func30 rfl (by decide) [3, 4] [5] (l := [(.tmp 69, pv 3 0), (.tmp 70, (za733_e l))]) [(5, (za733_g l))] rfl 2 2 rfl rfl rfl rfl rfl rfl rfl rfl rfl ⟨.inl ⟨rfl, rfl⟩, ⟨.inr (.inl ⟨rfl, (fun h => by cases h), rfl, rfl, by simp, 32, (l.map mkE).length, elOf (k_api_Envelope false) (l.map mkE), List.Mem.head _, (by first | exact Nat.le_of_eq (Nat.zero_add _) | omega), fun i j => by rw [Nat.zero_add]⟩), trivial⟩⟩ rfl (by intro b hb; simp only [List.mem_cons, List.not_mem_nil, or_false] at hb; rcases hb with rfl; exact ⟨_, List.Mem.head _⟩) (.inr ⟨trivial, (And.intro (And.intro trivial (And.intro trivial (And.intro trivial (And.intro trivial trivial)))) (And.intro (arr_nt k_api_Envelope_nt) trivial))⟩) (lt_of rfl) (by exact trivial))),
       hY 12 (show decide (((cntR (fOf x.f_F) l : Nat) : Int) = ((cntR (fOf x.f_F) l : Nat) : Int)) = true from decide_eq_true (Eq.refl _)),
       hP 13 (show decide (((cntR (fOf x.f_F) l : Nat) : Int) = ((cntR (fOf x.f_F) l : Nat) : Int)) = true from decide_eq_true (Eq.refl _)),
       hY 15 (show decide ((dstE (fOf x.f_F) (l.map mkE)) = (dstE (fOf x.f_F) (l.map mkE))) = true from decide_eq_true (Eq.refl _)),
       hY 16 (show decide ((dstE (fOf x.f_F) (l.map mkE)) = (dstE (fOf x.f_F) (l.map mkE))) = true from decide_eq_true (Eq.refl _)),
       hS 17 (oY rfl rfl rfl rfl (lt_of rfl) (show decide ((dstE (fOf x.f_F) (l.map mkE)) = (dstE (fOf x.f_F) (l.map mkE))) = true from decide_eq_true (Eq.refl _)) (r_call (authn_Distinct (fOf x.f_F) (cOf x.f_Clients) ([] : List (authn_pair × Bool)) true false false (l.map mkE) (by first | assumption | omega | (unfold maxLen; omega) | (simp [maxLen, -List.getD_eq_getElem?_getD] <;> omega) | decide) (by first | assumption | omega | (unfold maxLen; omega) | (simp [maxLen, -List.getD_eq_getElem?_getD] <;> omega) | decide) (by first | assumption | omega | (unfold maxLen; omega) | (simp [maxLen, -List.getD_eq_getElem?_getD] <;> omega) | decide)) Try.func29 rfl (by decide) [1, 2] [5] (l := [(.tmp 75, pv 1 0), (.tmp 76, (za733_e l))]) [(5, (za733_g l))] rfl 2 2 rfl rfl rfl rfl rfl rfl rfl rfl rfl ⟨.inl ⟨rfl, rfl⟩, ⟨.inr (.inl ⟨rfl, (fun h => by cases h), rfl, rfl, by simp, 32, (l.map mkE).length, elOf (k_api_Envelope false) (l.map mkE), List.Mem.head _, (by first | exact Nat.le_of_eq (Nat.zero_add _) | omega), fun i j => by rw [Nat.zero_add]⟩), trivial⟩⟩ rfl (by intro b hb; simp only [List.mem_cons, List.not_mem_nil, or_false] at hb; rcases hb with rfl; exact ⟨_, List.Mem.head _⟩) (.inr ⟨trivial, (And.intro (And.intro trivial (And.intro trivial (And.intro trivial trivial))) (And.intro (mp_ntH kBool_nt) trivial))⟩) (lt_of rfl) (by exact trivial))),
       hY 18 (show decide ((dstE (fOf x.f_F) (l.map mkE)) = (dstE (fOf x.f_F) (l.map mkE))) = true from decide_eq_true (Eq.refl _)),
       hY 19 (show decide ((dstE (fOf x.f_F) (l.map mkE)) = (dstE (fOf x.f_F) (l.map mkE))) = true from decide_eq_true (Eq.refl _)),
       hN 20 false (decide_eq_true hq4),
       hN 21 false (decide_eq_true hq4),
       hN 22 false (decide_eq_true hq4),
       hN 23 false (decide_eq_true hq4),
       hS 24 (oY rfl rfl rfl rfl (lt_of rfl) (show decide ((dstE (fOf x.f_F) (l.map mkE)) = (dstE (fOf x.f_F) (l.map mkE))) = true from decide_eq_true (Eq.refl _)) (r_pickT (b := (decide ((dstE (fOf x.f_F) (l.map mkE)) ≠ 0))) (av := dv (.bool true)) (lt_of rfl) ⟨rfl, trivial⟩ (decide_eq_true hq4))),
       hP 25 (show decide ((dstE (fOf x.f_F) (l.map mkE)) = (dstE (fOf x.f_F) (l.map mkE))) = true from decide_eq_true (Eq.refl _)),
       hS 27 (oY (b := true) rfl rfl rfl rfl (lt_of rfl) rfl (r_call (law_awake  ) Try.func15 rfl (by decide) [] [] (l := []) [] rfl 0 0 rfl rfl rfl rfl rfl rfl rfl rfl rfl trivial rfl (fun b hb => by cases hb) (.inl rfl) (lt_of rfl) (by exact trivial))),
       hP 28 (b := true) (w := true) rfl] (by kernel_rfl) (by kernel_rfl) ?_
     refine nT ?_
     refine T.ret ?_
     exact tE (.inl rfl) [.t 4 (za733_1)] ⟨⟨rfl, by kernel_rfl⟩, trivial⟩ [] rfl rfl rfl rfl rfl rfl trivial
    ·have hd9 := dst_cnt hfx (Classical.not_not.1 hq4)
     by_cases hq5 : ((cntR (fOf x.f_F) l : Nat) : Int) = ((l.length : Nat) : Int)
     ·refine xR [hR 3 rfl rfl (r_call (ref03_Count (fOf x.f_F) (cOf x.f_Clients) ([] : List api_Envelope) false false l (by first | assumption | omega | (unfold maxLen; omega) | (simp [maxLen, -List.getD_eq_getElem?_getD] <;> omega) | decide) (by first | assumption | omega | (unfold maxLen; omega) | (simp [maxLen, -List.getD_eq_getElem?_getD] <;> omega) | decide) (by first | assumption | omega | (unfold maxLen; omega) | (simp [maxLen, -List.getD_eq_getElem?_getD] <;> omega) | decide)) Try.func28 rfl (by decide) [3, 4] [] (l := [(.tmp 61, pv 3 0), (.tmp 62, (za733_0 l))]) [] rfl 2 2 rfl rfl rfl rfl rfl rfl rfl rfl rfl ⟨.inl ⟨rfl, rfl⟩, ⟨.inl ⟨rfl, rfl⟩, trivial⟩⟩ rfl (fun b hb => by cases hb) (.inl rfl) (lt_of rfl) trivial),
        hY 6 (show decide (((cntR (fOf x.f_F) l : Nat) : Int) = ((cntR (fOf x.f_F) l : Nat) : Int)) = true from decide_eq_true (Eq.refl _)),
        hY 7 (show decide (((cntR (fOf x.f_F) l : Nat) : Int) = ((cntR (fOf x.f_F) l : Nat) : Int)) = true from decide_eq_true (Eq.refl _)),
        hS 8 (oY rfl rfl rfl rfl (lt_of rfl) (show decide (((cntR (fOf x.f_F) l : Nat) : Int) = ((cntR (fOf x.f_F) l : Nat) : Int)) = true from decide_eq_true (Eq.refl _)) (r_call (authn_Distinct (fOf x.f_F) (cOf x.f_Clients) ([] : List (authn_pair × Bool)) true false false (l.map mkE) (by first | assumption | omega | (unfold maxLen; omega) | (simp [maxLen, -List.getD_eq_getElem?_getD] <;> omega) | decide) (by first | assumption | omega | (unfold maxLen; omega) | (simp [maxLen, -List.getD_eq_getElem?_getD] <;> omega) | decide) (by first | assumption | omega | (unfold maxLen; omega) | (simp [maxLen, -List.getD_eq_getElem?_getD] <;> omega) | decide)) Try.func29 rfl (by decide) [1, 2] [5] (l := [(.tmp 66, pv 1 0), (.tmp 67, (za733_e l))]) [(5, (za733_g l))] rfl 2 2 rfl rfl rfl rfl rfl rfl rfl rfl rfl ⟨.inl ⟨rfl, rfl⟩, ⟨.inr (.inl ⟨rfl, (fun h => by cases h), rfl, rfl, by simp, 32, (l.map mkE).length, elOf (k_api_Envelope false) (l.map mkE), List.Mem.head _, (by first | exact Nat.le_of_eq (Nat.zero_add _) | omega), fun i j => by rw [Nat.zero_add]⟩), trivial⟩⟩ rfl (by intro b hb; simp only [List.mem_cons, List.not_mem_nil, or_false] at hb; rcases hb with rfl; exact ⟨_, List.Mem.head _⟩) (.inr ⟨trivial, (And.intro (And.intro trivial (And.intro trivial (And.intro trivial trivial))) (And.intro (mp_ntH kBool_nt) trivial))⟩) (lt_of rfl) (by exact trivial))),
        hY 9 (show decide (((cntR (fOf x.f_F) l : Nat) : Int) = ((cntR (fOf x.f_F) l : Nat) : Int)) = true from decide_eq_true (Eq.refl _)),
        hY 10 (show decide (((cntR (fOf x.f_F) l : Nat) : Int) = ((cntR (fOf x.f_F) l : Nat) : Int)) = true from decide_eq_true (Eq.refl _)),
        hS 11 (oY rfl rfl rfl rfl (lt_of rfl) (show decide (((cntR (fOf x.f_F) l : Nat) : Int) = ((cntR (fOf x.f_F) l : Nat) : Int)) = true from decide_eq_true (Eq.refl _)) (r_call (ref03_Distinct (fOf x.f_F) (cOf x.f_Clients) ([] : List api_Envelope) true false false (l.map mkE) (by first | assumption | omega | (unfold maxLen; omega) | (simp [maxLen, -List.getD_eq_getElem?_getD] <;> omega) | decide) (by first | assumption | omega | (unfold maxLen; omega) | (simp [maxLen, -List.getD_eq_getElem?_getD] <;> omega) | decide) (by first | assumption | omega | (unfold maxLen; omega) | (simp [maxLen, -List.getD_eq_getElem?_getD] <;> omega) | decide)) Try.func30 rfl (by decide) [3, 4] [5] (l := [(.tmp 69, pv 3 0), (.tmp 70, (za733_e l))]) [(5, (za733_g l))] rfl 2 2 rfl rfl rfl rfl rfl rfl rfl rfl rfl ⟨.inl ⟨rfl, rfl⟩, ⟨.inr (.inl ⟨rfl, (fun h => by cases h), rfl, rfl, by simp, 32, (l.map mkE).length, elOf (k_api_Envelope false) (l.map mkE), List.Mem.head _, (by first | exact Nat.le_of_eq (Nat.zero_add _) | omega), fun i j => by rw [Nat.zero_add]⟩), trivial⟩⟩ rfl (by intro b hb; simp only [List.mem_cons, List.not_mem_nil, or_false] at hb; rcases hb with rfl; exact ⟨_, List.Mem.head _⟩) (.inr ⟨trivial, (And.intro (And.intro trivial (And.intro trivial (And.intro trivial (And.intro trivial trivial)))) (And.intro (arr_nt k_api_Envelope_nt) trivial))⟩) (lt_of rfl) (by exact trivial))),
        hY 12 (show decide (((cntR (fOf x.f_F) l : Nat) : Int) = ((cntR (fOf x.f_F) l : Nat) : Int)) = true from decide_eq_true (Eq.refl _)),
        hP 13 (show decide (((cntR (fOf x.f_F) l : Nat) : Int) = ((cntR (fOf x.f_F) l : Nat) : Int)) = true from decide_eq_true (Eq.refl _)),
        hY 15 (show decide ((dstE (fOf x.f_F) (l.map mkE)) = (dstE (fOf x.f_F) (l.map mkE))) = true from decide_eq_true (Eq.refl _)),
        hY 16 (show decide ((dstE (fOf x.f_F) (l.map mkE)) = (dstE (fOf x.f_F) (l.map mkE))) = true from decide_eq_true (Eq.refl _)),
        hS 17 (oY rfl rfl rfl rfl (lt_of rfl) (show decide ((dstE (fOf x.f_F) (l.map mkE)) = (dstE (fOf x.f_F) (l.map mkE))) = true from decide_eq_true (Eq.refl _)) (r_call (authn_Distinct (fOf x.f_F) (cOf x.f_Clients) ([] : List (authn_pair × Bool)) true false false (l.map mkE) (by first | assumption | omega | (unfold maxLen; omega) | (simp [maxLen, -List.getD_eq_getElem?_getD] <;> omega) | decide) (by first | assumption | omega | (unfold maxLen; omega) | (simp [maxLen, -List.getD_eq_getElem?_getD] <;> omega) | decide) (by first | assumption | omega | (unfold maxLen; omega) | (simp [maxLen, -List.getD_eq_getElem?_getD] <;> omega) | decide)) Try.func29 rfl (by decide) [1, 2] [5] (l := [(.tmp 75, pv 1 0), (.tmp 76, (za733_e l))]) [(5, (za733_g l))] rfl 2 2 rfl rfl rfl rfl rfl rfl rfl rfl rfl ⟨.inl ⟨rfl, rfl⟩, ⟨.inr (.inl ⟨rfl, (fun h => by cases h), rfl, rfl, by simp, 32, (l.map mkE).length, elOf (k_api_Envelope false) (l.map mkE), List.Mem.head _, (by first | exact Nat.le_of_eq (Nat.zero_add _) | omega), fun i j => by rw [Nat.zero_add]⟩), trivial⟩⟩ rfl (by intro b hb; simp only [List.mem_cons, List.not_mem_nil, or_false] at hb; rcases hb with rfl; exact ⟨_, List.Mem.head _⟩) (.inr ⟨trivial, (And.intro (And.intro trivial (And.intro trivial (And.intro trivial trivial))) (And.intro (mp_ntH kBool_nt) trivial))⟩) (lt_of rfl) (by exact trivial))),
        hY 18 (show decide ((dstE (fOf x.f_F) (l.map mkE)) = (dstE (fOf x.f_F) (l.map mkE))) = true from decide_eq_true (Eq.refl _)),
        hY 19 (show decide ((dstE (fOf x.f_F) (l.map mkE)) = (dstE (fOf x.f_F) (l.map mkE))) = true from decide_eq_true (Eq.refl _)),
        hY 20 (decide_eq_false hq4),
        hY 21 (decide_eq_false hq4),
        hY 22 (decide_eq_false hq4),
        hY 23 (decide_eq_false hq4),
        hS 24 (oY rfl rfl rfl rfl (lt_of rfl) (show decide ((dstE (fOf x.f_F) (l.map mkE)) = (dstE (fOf x.f_F) (l.map mkE))) = true from decide_eq_true (Eq.refl _)) (r_pickF (b := (decide ((dstE (fOf x.f_F) (l.map mkE)) ≠ 0))) (av := dv (.bool (decide (((cntR (fOf x.f_F) l : Nat) : Int) = ((l.length : Nat) : Int))))) (lt_of rfl) trivial (decide_eq_false hq4))),
        hP 25 (show decide ((dstE (fOf x.f_F) (l.map mkE)) = (dstE (fOf x.f_F) (l.map mkE))) = true from decide_eq_true (Eq.refl _)),
        hS 27 (oY rfl rfl rfl rfl (lt_of rfl) (decide_eq_true hq5) (r_call (law_awake  ) Try.func15 rfl (by decide) [] [] (l := []) [] rfl 0 0 rfl rfl rfl rfl rfl rfl rfl rfl rfl trivial rfl (fun b hb => by cases hb) (.inl rfl) (lt_of rfl) (by exact trivial))),
        hP 28 (decide_eq_true hq5)] (by kernel_rfl) (by kernel_rfl) ?_
      refine nT ?_
      refine T.ret ?_
      exact tE (.inl rfl) [.t 4 (za733_1)] ⟨⟨rfl, by kernel_rfl⟩, trivial⟩ [] rfl rfl rfl rfl rfl rfl trivial
     ·exact absurd (by rw [hd9]) hq5
end Go.Proofs.Ytladnlechpadlaa.Q
