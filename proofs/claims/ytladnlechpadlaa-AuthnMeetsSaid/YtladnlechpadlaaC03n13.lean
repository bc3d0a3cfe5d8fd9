import Derived.Test.YtladnlechpadlaaC03n11
namespace Go.Proofs.Ytladnlechpadlaa.Q
open Go Go.RowKit
set_option linter.unusedVariables false
set_option linter.unusedSimpArgs false
set_option maxRecDepth 100000
set_option maxHeartbeats 4000000
abbrev za295_0 (l : List Int) : AV := slV false false (kInt .i64) l
abbrev za295_1 (m : List Int) : AV := slV false false (kInt .i64) m
abbrev za295_2 : TV := .one (.d (.val (.bool true)))
abbrev za295_3 (x : quaestorlaw03_Size) : HS := .live (.box 23 [.d (.val (.int .i64 x.f_F)), .d (.val (.int .i64 x.f_Clients))])
abbrev za295_4 (x : quaestorlaw03_Size) : HS := .live (.box 58 [.d (.val (.int .i64 (3 * (fOf x.f_F) + 1))), .d (.val (.int .i64 (cOf x.f_Clients))), .mref 2])
abbrev za295_5 : HS := .live (mpK f_authn_pair kBool ([] : List (authn_pair × Bool)))
abbrev za295_6 (l : List Int) (m : List Int) (k : Nat) : AV := ownV 3 (kInt .i64) 0 (meetL l m k).length
abbrev za295_7 (k : Nat) : AV := dv (.int .i64 ((k : Nat) : Int))
abbrev za295_8 (x : quaestorlaw03_Size) (l : List Int) (m : List Int) (k : Nat) : List HS := [(za295_3 x), (za295_4 x), za295_5, .live (arrK 3 (kInt .i64) (meetL l m k))]
abbrev za295_9 (l : List Int) (m : List Int) : List AV := [aa, (za295_0 l), (za295_1 m), aa, aa, aa, aa, pv 1 0, ownV 3 (kInt .i64) 0 (meetL l m 0).length, dv (.int .i64 0)]
abbrev za295_a (l : List Int) (k : Nat) : AV := dv (.bool (decide (((k : Nat) : Int) < ((l.length : Nat) : Int))))
abbrev za295_b (l : List Int) (m : List Int) (k : Nat) : List AV := [aa, (za295_0 l), (za295_1 m), aa, aa, aa, aa, pv 1 0, (za295_6 l m k), (za295_7 k), dv (.int .i64 0), aa, aa, aa, aa, aa, aa, aa, aa, aa, aa, aa, aa, aa, aa, aa, aa, aa, aa, aa, aa, aa, aa, aa, aa, aa, aa, aa, aa, aa, aa, aa, (za295_a l k)]
abbrev za295_c (k : Nat) : AV := dv (.int .i64 ((k + 1 : Nat) : Int))
abbrev za295_d (l : List Int) (m : List Int) (k : Nat) : List AV := [aa, (za295_0 l), (za295_1 m), aa, aa, aa, aa, pv 1 0, ownV 3 (kInt .i64) 0 (meetL l m (k + 1)).length, (za295_c k)]
abbrev za295_e (l : List Int) (m : List Int) (k : Nat) (k2 : Nat) : List AV := [aa, (za295_0 l), (za295_1 m), aa, aa, aa, aa, pv 1 0, (za295_6 l m k), (za295_7 k), dv (.int .i64 ((k2 + 1 : Nat) : Int)), aa, aa, aa, aa, aa, aa, aa, aa, aa, aa, aa, aa, aa, aa, aa, aa, aa, aa, aa, aa, aa, aa, aa, aa, aa, aa, aa, aa, aa, aa, aa, (za295_a l k)]
-- quaestor/quaestorlaw03.AuthnMeets
theorem law_AuthnMeets (x : quaestorlaw03_Size) (l : List Int) (m : List Int) (hll : l.length ≤ 9223372036854775807) (hlm : m.length ≤ 9223372036854775807) : Holds Try.prog 7 ⟨[.tv (.agg [.d (.val (.int .i64 x.f_F)), .d (.val (.int .i64 x.f_Clients))]), slV false false (kInt .i64) l, slV false false (kInt .i64) m], [], dv (.bool true), []⟩ := by
 refine Holds.of Try.func7 rfl (N := 94) Try.ntmps7 rfl fun w0 B0 S0 U0 => ?_
 show T _ (mkBase 94 0 w0 S0 U0 B0) ⟨[.tv (.agg [.d (.val (.int .i64 x.f_F)), .d (.val (.int .i64 x.f_Clients))]), (za295_0 l), (za295_1 m)], []⟩ _ _
 have hfx := fOf_ok x.f_F
 have hux := cOf_ok x.f_Clients
 refine T.seq ?_
 refine xR [] (by kernel_rfl) (by kernel_rfl) ?_
 refine nT ?_
 refine T.seq ?_
 refine T.seq ?_
 by_cases hq1 : ((l.length : Nat) : Int) > 1000
 ·refine xR [hN 4 false (decide_eq_true hq1),
    hN 5 false (decide_eq_true hq1),
    hN 6 false (decide_eq_true hq1),
    hP 7 (decide_eq_true hq1)] (by kernel_rfl) (by kernel_rfl) ?_
  refine nT ?_
  refine T.condT (b := true) (by kernel_rfl) rfl ?_
  refine T.seq ?_
  refine xR [] (by kernel_rfl) (by kernel_rfl) ?_
  refine nT ?_
  refine T.ret ?_
  refine rT ?_
  exact tE (.inl rfl) [.t 6 (za295_2)] ⟨⟨rfl, by kernel_rfl⟩, trivial⟩ [] rfl rfl rfl rfl rfl rfl trivial
 ·refine xR [hY 4 (decide_eq_false hq1),
    hY 5 (decide_eq_false hq1),
    hY 6 (decide_eq_false hq1),
    hP 7 (decide_eq_false hq1)] (by kernel_rfl) (by kernel_rfl) ?_
  refine nT ?_
  by_cases hq2 : ((m.length : Nat) : Int) > 1000
  ·refine T.condT (by kernel_rfl) (decide_eq_true hq2) ?_
   refine T.seq ?_
   refine xR [] (by kernel_rfl) (by kernel_rfl) ?_
   refine nT ?_
   refine T.ret ?_
   refine rT ?_
   exact tE (.inl rfl) [.t 6 (za295_2)] ⟨⟨rfl, by kernel_rfl⟩, trivial⟩ [] rfl rfl rfl rfl rfl rfl trivial
  ·refine T.condF (by kernel_rfl) (decide_eq_false hq2) ?_
   refine T.skip ?_
   refine nT ?_
   refine T.seq ?_
   refine xR [hR 4 rfl rfl (r_call (authn_New x.f_F x.f_Clients ) Try.func11 rfl (by decide) [1, 2] [] (l := [(.tmp 20, dv (.int .i64 x.f_F)), (.tmp 22, dv (.int .i64 x.f_Clients))]) [] rfl 0 2 rfl rfl rfl rfl rfl rfl rfl rfl rfl ⟨.inl ⟨rfl, rfl⟩, ⟨.inl ⟨rfl, rfl⟩, trivial⟩⟩ rfl (fun b hb => by cases hb) (.inl rfl) (lt_of rfl) trivial)] (by kernel_rfl) (by kernel_rfl) ?_
   refine nT ?_
   refine T.seq ?_
   refine T.seq ?_
   by_cases hq3 : ((cntR (fOf x.f_F) l : Nat) : Int) < (2 * (fOf x.f_F) + 1)
   ·refine xR [hR 2 rfl rfl (r_call (authn_Count (fOf x.f_F) (cOf x.f_Clients) ([] : List (authn_pair × Bool)) false false l (by first | assumption | omega | (unfold maxLen; omega) | (simp [maxLen, -List.getD_eq_getElem?_getD] <;> omega) | decide) (by first | assumption | omega | (unfold maxLen; omega) | (simp [maxLen, -List.getD_eq_getElem?_getD] <;> omega) | decide) (by first | assumption | omega | (unfold maxLen; omega) | (simp [maxLen, -List.getD_eq_getElem?_getD] <;> omega) | decide)) Try.func22 rfl (by decide) [1, 2] [] (l := [(.tmp 24, pv 1 0), (.tmp 25, (za295_0 l))]) [] rfl 2 2 rfl rfl rfl rfl rfl rfl rfl rfl rfl ⟨.inl ⟨rfl, rfl⟩, ⟨.inl ⟨rfl, rfl⟩, trivial⟩⟩ rfl (fun b hb => by cases hb) (.inl rfl) (lt_of rfl) trivial),
      hR 4 rfl rfl (r_call (authn_Quorum (fOf x.f_F) (cOf x.f_Clients) ([] : List (authn_pair × Bool)) (by first | assumption | omega | (unfold maxLen; omega) | (simp [maxLen, -List.getD_eq_getElem?_getD] <;> omega) | decide) (by first | assumption | omega | (unfold maxLen; omega) | (simp [maxLen, -List.getD_eq_getElem?_getD] <;> omega) | decide)) Try.func23 rfl (by decide) [1, 2] [] (l := [(.tmp 27, pv 1 0)]) [] rfl 2 2 rfl rfl rfl rfl rfl rfl rfl rfl rfl ⟨.inl ⟨rfl, rfl⟩, trivial⟩ rfl (fun b hb => by cases hb) (.inl rfl) (lt_of rfl) trivial),
      hN 7 false (decide_eq_true hq3),
      hN 8 false (decide_eq_true hq3),
      hN 9 false (decide_eq_true hq3),
      hN 10 false (decide_eq_true hq3),
      hN 11 false (decide_eq_true hq3),
      hN 12 false (decide_eq_true hq3),
      hP 13 (decide_eq_true hq3)] (by kernel_rfl) (by kernel_rfl) ?_
    refine nT ?_
    refine T.condT (b := true) (by kernel_rfl) rfl ?_
    refine T.seq ?_
    refine xR [hR 0 rfl rfl (r_call (law_awake  ) Try.func15 rfl (by decide) [] [] (l := []) [] rfl 0 0 rfl rfl rfl rfl rfl rfl rfl rfl rfl trivial rfl (fun b hb => by cases hb) (.inl rfl) (lt_of rfl) trivial)] (by kernel_rfl) (by kernel_rfl) ?_
    refine nT ?_
    refine T.ret ?_
    refine rT ?_
    exact tE (.inl rfl) [.t 6 (za295_2)] ⟨⟨rfl, by kernel_rfl⟩, trivial⟩ [] rfl rfl rfl rfl rfl rfl trivial
   ·have hcl := hq3
    refine xR [hR 2 rfl rfl (r_call (authn_Count (fOf x.f_F) (cOf x.f_Clients) ([] : List (authn_pair × Bool)) false false l (by first | assumption | omega | (unfold maxLen; omega) | (simp [maxLen, -List.getD_eq_getElem?_getD] <;> omega) | decide) (by first | assumption | omega | (unfold maxLen; omega) | (simp [maxLen, -List.getD_eq_getElem?_getD] <;> omega) | decide) (by first | assumption | omega | (unfold maxLen; omega) | (simp [maxLen, -List.getD_eq_getElem?_getD] <;> omega) | decide)) Try.func22 rfl (by decide) [1, 2] [] (l := [(.tmp 24, pv 1 0), (.tmp 25, (za295_0 l))]) [] rfl 2 2 rfl rfl rfl rfl rfl rfl rfl rfl rfl ⟨.inl ⟨rfl, rfl⟩, ⟨.inl ⟨rfl, rfl⟩, trivial⟩⟩ rfl (fun b hb => by cases hb) (.inl rfl) (lt_of rfl) trivial),
      hR 4 rfl rfl (r_call (authn_Quorum (fOf x.f_F) (cOf x.f_Clients) ([] : List (authn_pair × Bool)) (by first | assumption | omega | (unfold maxLen; omega) | (simp [maxLen, -List.getD_eq_getElem?_getD] <;> omega) | decide) (by first | assumption | omega | (unfold maxLen; omega) | (simp [maxLen, -List.getD_eq_getElem?_getD] <;> omega) | decide)) Try.func23 rfl (by decide) [1, 2] [] (l := [(.tmp 27, pv 1 0)]) [] rfl 2 2 rfl rfl rfl rfl rfl rfl rfl rfl rfl ⟨.inl ⟨rfl, rfl⟩, trivial⟩ rfl (fun b hb => by cases hb) (.inl rfl) (lt_of rfl) trivial),
      hY 7 (decide_eq_false hq3),
      hY 8 (decide_eq_false hq3),
      hS 9 (oY rfl rfl rfl rfl (lt_of rfl) (decide_eq_false hq3) (r_call (authn_Count (fOf x.f_F) (cOf x.f_Clients) ([] : List (authn_pair × Bool)) false false m (by first | assumption | omega | (unfold maxLen; omega) | (simp [maxLen, -List.getD_eq_getElem?_getD] <;> omega) | decide) (by first | assumption | omega | (unfold maxLen; omega) | (simp [maxLen, -List.getD_eq_getElem?_getD] <;> omega) | decide) (by first | assumption | omega | (unfold maxLen; omega) | (simp [maxLen, -List.getD_eq_getElem?_getD] <;> omega) | decide)) Try.func22 rfl (by decide) [1, 2] [] (l := [(.tmp 31, pv 1 0), (.tmp 32, (za295_1 m))]) [] rfl 2 2 rfl rfl rfl rfl rfl rfl rfl rfl rfl ⟨.inl ⟨rfl, rfl⟩, ⟨.inl ⟨rfl, rfl⟩, trivial⟩⟩ rfl (fun b hb => by cases hb) (.inl rfl) (lt_of rfl) (by exact trivial))),
      hY 10 (decide_eq_false hq3),
      hS 11 (oY rfl rfl rfl rfl (lt_of rfl) (decide_eq_false hq3) (r_call (authn_Quorum (fOf x.f_F) (cOf x.f_Clients) ([] : List (authn_pair × Bool)) (by first | assumption | omega | (unfold maxLen; omega) | (simp [maxLen, -List.getD_eq_getElem?_getD] <;> omega) | decide) (by first | assumption | omega | (unfold maxLen; omega) | (simp [maxLen, -List.getD_eq_getElem?_getD] <;> omega) | decide)) Try.func23 rfl (by decide) [1, 2] [] (l := [(.tmp 34, pv 1 0)]) [] rfl 2 2 rfl rfl rfl rfl rfl rfl rfl rfl rfl ⟨.inl ⟨rfl, rfl⟩, trivial⟩ rfl (fun b hb => by cases hb) (.inl rfl) (lt_of rfl) (by exact trivial))),
      hY 12 (decide_eq_false hq3),
      hP 13 (decide_eq_false hq3)] (by kernel_rfl) (by kernel_rfl) ?_
    refine nT ?_
    by_cases hq4 : ((cntR (fOf x.f_F) m : Nat) : Int) < (2 * (fOf x.f_F) + 1)
    ·refine T.condT (by kernel_rfl) (decide_eq_true hq4) ?_
     refine T.seq ?_
     refine xR [hR 0 rfl rfl (r_call (law_awake  ) Try.func15 rfl (by decide) [] [] (l := []) [] rfl 0 0 rfl rfl rfl rfl rfl rfl rfl rfl rfl trivial rfl (fun b hb => by cases hb) (.inl rfl) (lt_of rfl) trivial)] (by kernel_rfl) (by kernel_rfl) ?_
     refine nT ?_
     refine T.ret ?_
     refine rT ?_
     exact tE (.inl rfl) [.t 6 (za295_2)] ⟨⟨rfl, by kernel_rfl⟩, trivial⟩ [] rfl rfl rfl rfl rfl rfl trivial
    ·have hcm := hq4
     refine T.condF (by kernel_rfl) (decide_eq_false hq4) ?_
     refine T.skip ?_
     refine nT ?_
     refine T.seq ?_
     refine xR [] (by kernel_rfl) (by kernel_rfl) ?_
     refine nT ?_
     refine T.seq ?_
     refine T.seq ?_
     refine xR [] (by kernel_rfl) (by kernel_rfl) ?_
     refine nT ?_
     refine T.block ?_
     refine T.turn (s' := ⟨[.tv (.agg [.d (.val (.int .i64 x.f_F)), .d (.val (.int .i64 x.f_Clients))]), (za295_0 l), (za295_1 m), pv 0 0, aa, aa, dv (.bool false), pv 1 0, dv (.slice none 0 0), dv (.int .i64 0), aa, aa, aa, aa, aa, aa, aa, aa, dv (.bool (decide (((m.length : Nat) : Int) > 1000))), aa, aa, aa, aa, aa, aa, aa, aa, aa, aa, aa, aa, aa, aa, aa, aa, aa, aa, dv (.bool (decide (((cntR (fOf x.f_F) m : Nat) : Int) < (2 * (fOf x.f_F) + 1))))], [(za295_3 x), (za295_4 x), za295_5]⟩) (fun _ _ hG => Gs.norm (by kernel_rfl) hG) ?_
     refine T.turn (s' := ⟨[.tv (.agg [.d (.val (.int .i64 x.f_F)), .d (.val (.int .i64 x.f_Clients))]), (za295_0 l), (za295_1 m), pv 0 0, aa, aa, dv (.bool false), pv 1 0, ownV 3 (kInt .i64) 0 0, dv (.int .i64 0), aa, aa, aa, aa, aa, aa, aa, aa, dv (.bool (decide (((m.length : Nat) : Int) > 1000))), aa, aa, aa, aa, aa, aa, aa, aa, aa, aa, aa, aa, aa, aa, aa, aa, aa, aa, dv (.bool (decide (((cntR (fOf x.f_F) m : Nat) : Int) < (2 * (fOf x.f_F) + 1))))], [(za295_3 x), (za295_4 x), za295_5, .live (arrK 3 (kInt .i64) ([] : List Int))]⟩) (fun _ _ hG => Gs.absent 3 8 3 (kInt .i64) rfl rfl hG) ?_
     refine T.loop (ι := Nat) (fun (k : Nat) => ⟨[aa, (za295_0 l), (za295_1 m), aa, aa, aa, aa, pv 1 0, (za295_6 l m k), (za295_7 k)], (za295_8 x l m k)⟩) (fun (k : Nat) => (k ≤ l.length)) (fun (k : Nat) => l.length - k) (0) (Nat.zero_le _) (fun _ _ hG => Gs.into2 (s' := ⟨(za295_9 l m), [(za295_3 x), (za295_4 x), za295_5, .live (arrK 3 (kInt .i64) (meetL l m 0))]⟩) [0, 1, 2, 3] (bm 10 902) (t1 := (za295_9 l m)) (t2 := [aa, (za295_0 l), (za295_1 m), aa, aa, aa, aa, pv 1 0, ownV 3 (kInt .i64) 0 0, dv (.int .i64 0)]) (h1 := [(za295_3 x), (za295_4 x), za295_5, .live (arrK 3 (kInt .i64) (meetL l m 0))]) (h2 := [(za295_3 x), (za295_4 x), za295_5, .live (arrK 3 (kInt .i64) ([] : List Int))]) (by have e1 : ((meetL l m 0).length : Nat) = 0 := (by first | rfl); have hE := congrArg (fun (q1 : Nat) => ([aa, (za295_0 l), (za295_1 m), aa, aa, aa, aa, pv 1 0, ownV 3 (kInt .i64) 0 q1, dv (.int .i64 0)] : List AV)) e1; exact hE) (by have e1 : ((meetL l m 0) : List Int) = ([] : List Int) := (by first | rfl); have hE := congrArg (fun (q1 : List Int) => ([(za295_3 x), (za295_4 x), za295_5, .live (arrK 3 (kInt .i64) q1)] : List HS)) e1; exact hE) (by kernel_rfl) (by kernel_rfl) (by kernel_rfl) (by kernel_rfl) (by kernel_rfl) (by kernel_rfl) (by kernel_rfl) (by kernel_rfl) (by kernel_rfl) (by kernel_rfl) (by kernel_rfl) hG) ?_
     rintro k hk
     show T _ _ ⟨[aa, (za295_0 l), (za295_1 m), aa, aa, aa, aa, pv 1 0, (za295_6 l m k), (za295_7 k)], (za295_8 x l m k)⟩ _ _
     replace hk : k ≤ l.length := hk
     have hml := meet_len l m k
     refine T.seq ?_
     refine T.seq ?_
     refine xR [] (by kernel_rfl) (by kernel_rfl) ?_
     refine nT ?_
     by_cases hq5 : ((k : Nat) : Int) < ((l.length : Nat) : Int)
     ·refine T.condT (by kernel_rfl) (decide_eq_true hq5) ?_
      refine T.skip ?_
      refine nT ?_
      refine T.seq ?_
      refine T.block ?_
      refine T.seq ?_
      refine xR [] (by kernel_rfl) (by kernel_rfl) ?_
      refine nT ?_
      refine T.block ?_
      refine T.loop (ι := Nat) (fun (k2 : Nat) => ⟨[aa, (za295_0 l), (za295_1 m), aa, aa, aa, aa, pv 1 0, (za295_6 l m k), (za295_7 k), dv (.int .i64 ((k2 : Nat) : Int)), aa, aa, aa, aa, aa, aa, aa, aa, aa, aa, aa, aa, aa, aa, aa, aa, aa, aa, aa, aa, aa, aa, aa, aa, aa, aa, aa, aa, aa, aa, aa, (za295_a l k)], (za295_8 x l m k)⟩) (fun (k2 : Nat) => (k2 ≤ m.length) ∧ (∀ j, j < k2 → ¬ l.getD k 0 = m.getD j 0)) (fun (k2 : Nat) => m.length - k2) (0) ⟨(Nat.zero_le _), (fun j hj => absurd hj (Nat.not_lt_zero _))⟩ (fun _ _ hG => Gs.into2 (s' := ⟨(za295_b l m k), (za295_8 x l m k)⟩) [0, 1, 2, 3] (bm 43 4398046513030) (t1 := (za295_b l m k)) (h1 := (za295_8 x l m k)) rfl rfl (by kernel_rfl) (by kernel_rfl) (by kernel_rfl) (by kernel_rfl) (by kernel_rfl) (by kernel_rfl) (by kernel_rfl) (by kernel_rfl) (by kernel_rfl) (by kernel_rfl) (by kernel_rfl) hG) ?_
      rintro k2 ⟨hk2, hb2⟩
      show T _ _ ⟨[aa, (za295_0 l), (za295_1 m), aa, aa, aa, aa, pv 1 0, (za295_6 l m k), (za295_7 k), dv (.int .i64 ((k2 : Nat) : Int)), aa, aa, aa, aa, aa, aa, aa, aa, aa, aa, aa, aa, aa, aa, aa, aa, aa, aa, aa, aa, aa, aa, aa, aa, aa, aa, aa, aa, aa, aa, aa, (za295_a l k)], (za295_8 x l m k)⟩ _ _
      replace hk2 : k2 ≤ m.length := hk2
      replace hb2 : ∀ j, j < k2 → ¬ l.getD k 0 = m.getD j 0 := hb2
      refine T.seq ?_
      refine T.seq ?_
      refine xR [] (by kernel_rfl) (by kernel_rfl) ?_
      refine nT ?_
      by_cases hq6 : ((k2 : Nat) : Int) < ((m.length : Nat) : Int)
      ·refine T.condT (by kernel_rfl) (decide_eq_true hq6) ?_
       refine T.skip ?_
       refine nT ?_
       refine T.seq ?_
       refine T.block ?_
       refine T.seq ?_
       refine xD [[], [], [0, 1], [0, 1, 2], [], [], [4, 5], [4, 5, 6], [0, 1, 2, 3, 4, 5, 6, 7]] [hR 2 rfl rfl (q_index false false (kInt .i64) l k (k := .i64) (i := ((k : Nat) : Int)) Try.underlying50 iat_3 rfl rfl (by first | assumption | omega | (unfold maxLen; omega) | (simp [maxLen, -List.getD_eq_getElem?_getD] <;> omega) | decide) (lt_of rfl) trivial),
         hR 6 rfl rfl (q_index false false (kInt .i64) m k2 (k := .i64) (i := ((k2 : Nat) : Int)) Try.underlying50 iat_3 rfl rfl (by first | assumption | omega | (unfold maxLen; omega) | (simp [maxLen, -List.getD_eq_getElem?_getD] <;> omega) | decide) (lt_of rfl) trivial)] (by kernel_rfl) (by kernel_rfl) (by kernel_rfl) (by kernel_rfl) (by kernel_rfl) (by kernel_rfl) ?_
       refine nT ?_
       by_cases hq7 : (l.getD k 0) = (m.getD k2 0)
       ·have hin : l.getD k 0 ∈ m := memI_get (k := k2) (by omega) hq7.symm
        refine T.condT (by kernel_rfl) (decide_eq_true hq7) ?_
        refine T.seq ?_
        refine xR [hR 3 rfl rfl (q_index false false (kInt .i64) l k (k := .i64) (i := ((k : Nat) : Int)) Try.underlying50 iat_3 rfl rfl (by first | assumption | omega | (unfold maxLen; omega) | (simp [maxLen, -List.getD_eq_getElem?_getD] <;> omega) | decide) (lt_of rfl) trivial),
          hR 5 rfl rfl (q_buildSlice 4 3 (kInt .i64) (kInt_ok .i64) [(l.getD k 0)] [⟨0, .tmp 64, .one (.d (.val (.int .i64 (l.getD k 0)))), 0⟩] (cs := [.d (.val (.int .i64 (l.getD k 0)))]) Try.underlying50 iat_3 rfl zero_3 rfl rfl rfl (Nat.le_of_ble_eq_true rfl) (part_cons rfl rfl (Nat.le_of_ble_eq_true rfl) part_ok) (by kernel_rfl) (wk_eq (by kernel_rfl)) (lt_of rfl) trivial),
          hR 6 rfl rfl (q_appendO 3 5 3 8 (kInt .i64) (kInt_ok .i64) (meetL l m k) [(l.getD k 0)] ((meetL l m k) ++ [(l.getD k 0)]) (meetL l m k).length (sy := (.own 4 (kInt .i64).sz 0 [(l.getD k 0)].length)) (rhs := [(4, .live (arrK 3 (kInt .i64) [(l.getD k 0)]))]) elem_50 (by first | assumption | omega | (unfold maxLen; omega) | (simp [maxLen, -List.getD_eq_getElem?_getD] <;> omega) | decide) (src_own 4 3 (kInt .i64) [(l.getD k 0)]) (by rw [List.take_length]) (by first | assumption | omega | (unfold maxLen; omega) | (simp [maxLen, -List.getD_eq_getElem?_getD] <;> omega) | decide) (by first | assumption | omega | (unfold maxLen; omega) | (simp [maxLen, -List.getD_eq_getElem?_getD] <;> omega) | decide) (lt_of rfl) trivial)] (by kernel_rfl) (by kernel_rfl) ?_
        refine nT ?_
        refine T.exit ?_
        refine xM rfl ?_
        refine xT ?_
        refine xT ?_
        refine xH ?_
        refine nB ?_
        refine nT ?_
        refine xR [hR 1 rfl rfl (r_bin (u1 := .int .i64 ((k : Nat) : Int)) (u2 := .int .i64 1) (v := .int .i64 ((k + 1 : Nat) : Int)) (b_add (by rw [IntKind.wrap_i64]; omega)) (lt_of rfl) ⟨rfl, trivial⟩)] (by kernel_rfl) (by kernel_rfl) ?_
        refine nL (k + 1) (show (k + 1) ≤ l.length from (by omega)) (show (l.length - (k + 1) : Nat) < l.length - k from (by omega)) (fun _ _ hG => Gs.into2 (s' := ⟨(za295_d l m k), [(za295_3 x), (za295_4 x), za295_5, .live (arrK 3 (kInt .i64) (meetL l m (k + 1)))]⟩) [0, 1, 2, 5] (bm 10 902) (t1 := [aa, (za295_0 l), (za295_1 m), aa, aa, aa, aa, pv 1 0, ownV 5 (kInt .i64) 0 (meetL l m (k + 1)).length, (za295_c k)]) (t2 := [aa, (za295_0 l), (za295_1 m), aa, aa, aa, aa, pv 1 0, ownV 5 (kInt .i64) 0 ((meetL l m k) ++ [(l.getD k 0)]).length, (za295_c k)]) (h1 := [(za295_3 x), (za295_4 x), za295_5, .live (arrK 3 (kInt .i64) (meetL l m (k + 1)))]) (h2 := [(za295_3 x), (za295_4 x), za295_5, .live (arrK 3 (kInt .i64) ((meetL l m k) ++ [(l.getD k 0)]))]) (by have e1 : ((meetL l m (k + 1)).length : Nat) = ((meetL l m k) ++ [(l.getD k 0)]).length := (by first | rfl | (rw [meet_yes (by omega) (by assumption)]) | (rw [meet_no (by omega) (by assumption)])); have hE := congrArg (fun (q1 : Nat) => ([aa, (za295_0 l), (za295_1 m), aa, aa, aa, aa, pv 1 0, ownV 5 (kInt .i64) 0 q1, (za295_c k)] : List AV)) e1; exact hE) (by have e1 : ((meetL l m (k + 1)) : List Int) = (meetL l m k) ++ [(l.getD k 0)] := (by first | rfl | (rw [meet_yes (by omega) (by assumption)]) | (rw [meet_no (by omega) (by assumption)])); have hE := congrArg (fun (q1 : List Int) => ([(za295_3 x), (za295_4 x), za295_5, .live (arrK 3 (kInt .i64) q1)] : List HS)) e1; exact hE) (by kernel_rfl) (by kernel_rfl) (by kernel_rfl) (by kernel_rfl) (by kernel_rfl) (by kernel_rfl) (by kernel_rfl) (by kernel_rfl) (by kernel_rfl) (by kernel_rfl) (by kernel_rfl) hG)
       ·refine T.condF (by kernel_rfl) (decide_eq_false hq7) ?_
        refine T.skip ?_
        refine nB ?_
        refine nT ?_
        refine xR [hR 1 rfl rfl (r_bin (u1 := .int .i64 ((k2 : Nat) : Int)) (u2 := .int .i64 1) (v := .int .i64 ((k2 + 1 : Nat) : Int)) (b_add (by rw [IntKind.wrap_i64]; omega)) (lt_of rfl) ⟨rfl, trivial⟩)] (by kernel_rfl) (by kernel_rfl) ?_
        refine nL (k2 + 1) ⟨(show (k2 + 1) ≤ m.length from (by omega)), (show ∀ j, j < (k2 + 1) → ¬ l.getD k 0 = m.getD j 0 from (all_succ hb2 (by assumption)))⟩ (show (m.length - (k2 + 1) : Nat) < m.length - k2 from (by omega)) (fun _ _ hG => Gs.into2 (s' := ⟨(za295_e l m k k2), (za295_8 x l m k)⟩) [0, 1, 2, 3] (bm 43 4398046513030) (t1 := (za295_e l m k k2)) (h1 := (za295_8 x l m k)) rfl rfl (by kernel_rfl) (by kernel_rfl) (by kernel_rfl) (by kernel_rfl) (by kernel_rfl) (by kernel_rfl) (by kernel_rfl) (by kernel_rfl) (by kernel_rfl) (by kernel_rfl) (by kernel_rfl) hG)
      ·have hni : ¬ l.getD k 0 ∈ m := memI_not (fun j hj w => hb2 j hj w.symm) (by omega)
       refine T.condF (by kernel_rfl) (decide_eq_false hq6) ?_
       refine T.exit ?_
       refine xT ?_
       refine xT ?_
       refine xH ?_
       refine nB ?_
       refine nT ?_
       refine xR [hR 1 rfl rfl (r_bin (u1 := .int .i64 ((k : Nat) : Int)) (u2 := .int .i64 1) (v := .int .i64 ((k + 1 : Nat) : Int)) (b_add (by rw [IntKind.wrap_i64]; omega)) (lt_of rfl) ⟨rfl, trivial⟩)] (by kernel_rfl) (by kernel_rfl) ?_
       refine nL (k + 1) (show (k + 1) ≤ l.length from (by omega)) (show (l.length - (k + 1) : Nat) < l.length - k from (by omega)) (fun _ _ hG => Gs.into2 (s' := ⟨(za295_d l m k), [(za295_3 x), (za295_4 x), za295_5, .live (arrK 3 (kInt .i64) (meetL l m (k + 1)))]⟩) [0, 1, 2, 3] (bm 10 902) (t1 := (za295_d l m k)) (t2 := [aa, (za295_0 l), (za295_1 m), aa, aa, aa, aa, pv 1 0, (za295_6 l m k), (za295_c k)]) (h1 := [(za295_3 x), (za295_4 x), za295_5, .live (arrK 3 (kInt .i64) (meetL l m (k + 1)))]) (h2 := (za295_8 x l m k)) (by have e1 : ((meetL l m (k + 1)).length : Nat) = (meetL l m k).length := (by first | rfl | (rw [meet_yes (by omega) (by assumption)]) | (rw [meet_no (by omega) (by assumption)])); have hE := congrArg (fun (q1 : Nat) => ([aa, (za295_0 l), (za295_1 m), aa, aa, aa, aa, pv 1 0, ownV 3 (kInt .i64) 0 q1, (za295_c k)] : List AV)) e1; exact hE) (by have e1 : ((meetL l m (k + 1)) : List Int) = (meetL l m k) := (by first | rfl | (rw [meet_yes (by omega) (by assumption)]) | (rw [meet_no (by omega) (by assumption)])); have hE := congrArg (fun (q1 : List Int) => ([(za295_3 x), (za295_4 x), za295_5, .live (arrK 3 (kInt .i64) q1)] : List HS)) e1; exact hE) (by kernel_rfl) (by kernel_rfl) (by kernel_rfl) (by kernel_rfl) (by kernel_rfl) (by kernel_rfl) (by kernel_rfl) (by kernel_rfl) (by kernel_rfl) (by kernel_rfl) (by kernel_rfl) hG)
     ·have hme := meetsR (m := m) hfx (k := k) (by omega) hcl hcm
      refine T.condF (by kernel_rfl) (decide_eq_false hq5) ?_
      refine T.exit ?_
      refine xT ?_
      refine xT ?_
      refine xH ?_
      refine nT ?_
      refine T.seq ?_
      by_cases hq8 : ((cntR (fOf x.f_F) (meetL l m k) : Nat) : Int) > (fOf x.f_F)
      ·by_cases hq9 : ((cntR (fOf x.f_F) (meetL l m k) : Nat) : Int) ≥ ((fOf x.f_F) + 1)
       ·by_cases hq10 : ((3 * (fOf x.f_F) + 1) - (fOf x.f_F)) ≥ (2 * (fOf x.f_F) + 1)
        ·refine xR [hR 2 rfl rfl (r_call (authn_Count (fOf x.f_F) (cOf x.f_Clients) ([] : List (authn_pair × Bool)) true false (meetL l m k) (by first | assumption | omega | (unfold maxLen; omega) | (simp [maxLen, -List.getD_eq_getElem?_getD] <;> omega) | decide) (by first | assumption | omega | (unfold maxLen; omega) | (simp [maxLen, -List.getD_eq_getElem?_getD] <;> omega) | decide) (by first | assumption | omega | (unfold maxLen; omega) | (simp [maxLen, -List.getD_eq_getElem?_getD] <;> omega) | decide)) Try.func22 rfl (by decide) [1, 2] [3] (l := [(.tmp 67, pv 1 0), (.tmp 68, (za295_6 l m k))]) [(3, .live (arrK 3 (kInt .i64) (meetL l m k)))] rfl 2 2 rfl rfl rfl rfl rfl rfl rfl rfl rfl ⟨.inl ⟨rfl, rfl⟩, ⟨.inr (.inl ⟨rfl, (fun h => by cases h), rfl, rfl, by simp, 3, (meetL l m k).length, elOf (kInt .i64) (meetL l m k), List.Mem.head _, (by first | exact Nat.le_of_eq (Nat.zero_add _) | omega), fun i j => by rw [Nat.zero_add]⟩), trivial⟩⟩ rfl (by intro b hb; simp only [List.mem_cons, List.not_mem_nil, or_false] at hb; rcases hb with rfl; exact ⟨_, List.Mem.head _⟩) (.inr ⟨trivial, (And.intro (And.intro trivial (And.intro trivial (And.intro trivial trivial))) (And.intro (mp_ntH kBool_nt) trivial))⟩) (lt_of rfl) trivial),
           hR 4 rfl rfl (r_call (authn_F (fOf x.f_F) (cOf x.f_Clients) ([] : List (authn_pair × Bool)) (by first | assumption | omega | (unfold maxLen; omega) | (simp [maxLen, -List.getD_eq_getElem?_getD] <;> omega) | decide) (by first | assumption | omega | (unfold maxLen; omega) | (simp [maxLen, -List.getD_eq_getElem?_getD] <;> omega) | decide)) Try.func24 rfl (by decide) [1, 2] [] (l := [(.tmp 70, pv 1 0)]) [] rfl 2 2 rfl rfl rfl rfl rfl rfl rfl rfl rfl ⟨.inl ⟨rfl, rfl⟩, trivial⟩ rfl (fun b hb => by cases hb) (.inl rfl) (lt_of rfl) trivial),
           hY 7 (decide_eq_true hq8),
           hY 8 (decide_eq_true hq8),
           hS 9 (oY rfl rfl rfl rfl (lt_of rfl) (decide_eq_true hq8) (r_call (authn_Count (fOf x.f_F) (cOf x.f_Clients) ([] : List (authn_pair × Bool)) true false (meetL l m k) (by first | assumption | omega | (unfold maxLen; omega) | (simp [maxLen, -List.getD_eq_getElem?_getD] <;> omega) | decide) (by first | assumption | omega | (unfold maxLen; omega) | (simp [maxLen, -List.getD_eq_getElem?_getD] <;> omega) | decide) (by first | assumption | omega | (unfold maxLen; omega) | (simp [maxLen, -List.getD_eq_getElem?_getD] <;> omega) | decide)) Try.func22 rfl (by decide) [1, 2] [3] (l := [(.tmp 74, pv 1 0), (.tmp 75, (za295_6 l m k))]) [(3, .live (arrK 3 (kInt .i64) (meetL l m k)))] rfl 2 2 rfl rfl rfl rfl rfl rfl rfl rfl rfl ⟨.inl ⟨rfl, rfl⟩, ⟨.inr (.inl ⟨rfl, (fun h => by cases h), rfl, rfl, by simp, 3, (meetL l m k).length, elOf (kInt .i64) (meetL l m k), List.Mem.head _, (by first | exact Nat.le_of_eq (Nat.zero_add _) | omega), fun i j => by rw [Nat.zero_add]⟩), trivial⟩⟩ rfl (by intro b hb; simp only [List.mem_cons, List.not_mem_nil, or_false] at hb; rcases hb with rfl; exact ⟨_, List.Mem.head _⟩) (.inr ⟨trivial, (And.intro (And.intro trivial (And.intro trivial (And.intro trivial trivial))) (And.intro (mp_ntH kBool_nt) trivial))⟩) (lt_of rfl) (by exact trivial))),
           hY 10 (decide_eq_true hq8),
           hS 11 (oY rfl rfl rfl rfl (lt_of rfl) (decide_eq_true hq8) (r_call (authn_Weak (fOf x.f_F) (cOf x.f_Clients) ([] : List (authn_pair × Bool)) (by first | assumption | omega | (unfold maxLen; omega) | (simp [maxLen, -List.getD_eq_getElem?_getD] <;> omega) | decide) (by first | assumption | omega | (unfold maxLen; omega) | (simp [maxLen, -List.getD_eq_getElem?_getD] <;> omega) | decide)) Try.func25 rfl (by decide) [1, 2] [] (l := [(.tmp 77, pv 1 0)]) [] rfl 2 2 rfl rfl rfl rfl rfl rfl rfl rfl rfl ⟨.inl ⟨rfl, rfl⟩, trivial⟩ rfl (fun b hb => by cases hb) (.inl rfl) (lt_of rfl) (by exact trivial))),
           hY 12 (decide_eq_true hq8),
           hP 13 (decide_eq_true hq8),
           hY 15 (decide_eq_true hq9),
           hS 16 (oY rfl rfl rfl rfl (lt_of rfl) (decide_eq_true hq9) (r_call (authn_N (fOf x.f_F) (cOf x.f_Clients) ([] : List (authn_pair × Bool)) (by first | assumption | omega | (unfold maxLen; omega) | (simp [maxLen, -List.getD_eq_getElem?_getD] <;> omega) | decide) (by first | assumption | omega | (unfold maxLen; omega) | (simp [maxLen, -List.getD_eq_getElem?_getD] <;> omega) | decide)) Try.func26 rfl (by decide) [1, 2] [] (l := [(.tmp 82, pv 1 0)]) [] rfl 2 2 rfl rfl rfl rfl rfl rfl rfl rfl rfl ⟨.inl ⟨rfl, rfl⟩, trivial⟩ rfl (fun b hb => by cases hb) (.inl rfl) (lt_of rfl) (by exact trivial))),
           hY 17 (decide_eq_true hq9),
           hS 18 (oY rfl rfl rfl rfl (lt_of rfl) (decide_eq_true hq9) (r_call (authn_F (fOf x.f_F) (cOf x.f_Clients) ([] : List (authn_pair × Bool)) (by first | assumption | omega | (unfold maxLen; omega) | (simp [maxLen, -List.getD_eq_getElem?_getD] <;> omega) | decide) (by first | assumption | omega | (unfold maxLen; omega) | (simp [maxLen, -List.getD_eq_getElem?_getD] <;> omega) | decide)) Try.func24 rfl (by decide) [1, 2] [] (l := [(.tmp 84, pv 1 0)]) [] rfl 2 2 rfl rfl rfl rfl rfl rfl rfl rfl rfl ⟨.inl ⟨rfl, rfl⟩, trivial⟩ rfl (fun b hb => by cases hb) (.inl rfl) (lt_of rfl) (by exact trivial))),
           hS 19 (oY rfl rfl rfl rfl (lt_of rfl) (decide_eq_true hq9) (r_bin (u1 := .int .i64 (3 * (fOf x.f_F) + 1)) (u2 := .int .i64 (fOf x.f_F)) (v := .int .i64 ((3 * (fOf x.f_F) + 1) - (fOf x.f_F))) (b_sub (by rw [IntKind.wrap_i64]; omega)) (lt_of rfl) (by exact trivial))),
           hY 20 (decide_eq_true hq9),
           hS 21 (oY rfl rfl rfl rfl (lt_of rfl) (decide_eq_true hq9) (r_call (authn_Quorum (fOf x.f_F) (cOf x.f_Clients) ([] : List (authn_pair × Bool)) (by first | assumption | omega | (unfold maxLen; omega) | (simp [maxLen, -List.getD_eq_getElem?_getD] <;> omega) | decide) (by first | assumption | omega | (unfold maxLen; omega) | (simp [maxLen, -List.getD_eq_getElem?_getD] <;> omega) | decide)) Try.func23 rfl (by decide) [1, 2] [] (l := [(.tmp 87, pv 1 0)]) [] rfl 2 2 rfl rfl rfl rfl rfl rfl rfl rfl rfl ⟨.inl ⟨rfl, rfl⟩, trivial⟩ rfl (fun b hb => by cases hb) (.inl rfl) (lt_of rfl) (by exact trivial))),
           hY 22 (decide_eq_true hq9),
           hP 23 (decide_eq_true hq9),
           hS 25 (oY rfl rfl rfl rfl (lt_of rfl) (decide_eq_true hq10) (r_call (law_awake  ) Try.func15 rfl (by decide) [] [] (l := []) [] rfl 0 0 rfl rfl rfl rfl rfl rfl rfl rfl rfl trivial rfl (fun b hb => by cases hb) (.inl rfl) (lt_of rfl) (by exact trivial))),
           hP 26 (decide_eq_true hq10)] (by kernel_rfl) (by kernel_rfl) ?_
         refine nT ?_
         refine T.ret ?_
         exact tE (.inl rfl) [.t 6 (za295_2)] ⟨⟨rfl, by kernel_rfl⟩, trivial⟩ [] rfl rfl rfl rfl rfl rfl trivial
        ·exact absurd (by omega) hq10
       ·exact absurd (by omega) hq9
      ·exact absurd (by omega) hq8
end Go.Proofs.Ytladnlechpadlaa.Q
