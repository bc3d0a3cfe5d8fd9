import Derived.Test.YtladnlechpadlaaC03n1
namespace Go.Proofs.Ytladnlechpadlaa.Q
open Go Go.RowKit
set_option linter.unusedVariables false
set_option linter.unusedSimpArgs false
set_option maxRecDepth 100000
set_option maxHeartbeats 4000000
theorem fld_48_3 : FieldAt Try.prog 48 3 3 := ⟨_, _, _, Try.underlying48, rfl, iat_46, by decide, rfl⟩
theorem wide_46 : Wide Try.prog 46 none := ⟨_, Try.underlying46, (fun _ h => by cases h), (fun _ _ h => by cases h)⟩
abbrev z3b2d_0 (te : Bool) (e : api_Envelope) (k : Nat) : List AV := [pv 0 0, .tv (.agg [.d (.val (.int .i64 e.f_Signer)), .d (dsl te false kU8 e.f_Body)]), aa, pv 2 0, dv (.bool false), dv (.int .i64 ((k + 1 : Nat) : Int))]
-- (*quaestor/quaestorref03.Authority).Has
theorem ref03_Has (f : Int) (u : Int) (l : List api_Envelope) (te : Bool) (e : api_Envelope) (hl : l.length ≤ 9223372036854775806) : Holds Try.prog 43 ⟨[pv 0 0, .tv (.agg [.d (.val (.int .i64 e.f_Signer)), .d (dsl te false kU8 e.f_Body)])], [.box 48 [.d (.val (.bool true)), .d (.val (.int .i64 f)), .d (.val (.int .i64 u)), .own 1 (k_api_Envelope false).sz 0 l.length], arrK 32 (k_api_Envelope false) l], dv (.bool (decide (e ∈ l))), [.live (.box 48 [.d (.val (.bool true)), .d (.val (.int .i64 f)), .d (.val (.int .i64 u)), .own 1 (k_api_Envelope false).sz 0 l.length]), .live (arrK 32 (k_api_Envelope false) l)]⟩ := by
 refine Holds.of Try.func43 rfl (N := 39) Try.ntmps43 rfl fun w0 B0 S0 U0 => ?_
 show T _ (mkBase 39 2 w0 S0 U0 B0) ⟨[pv 0 0, .tv (.agg [.d (.val (.int .i64 e.f_Signer)), .d (dsl te false kU8 e.f_Body)])], [.live (.box 48 [.d (.val (.bool true)), .d (.val (.int .i64 f)), .d (.val (.int .i64 u)), .own 1 (k_api_Envelope false).sz 0 l.length]), .live (arrK 32 (k_api_Envelope false) l)]⟩ _ _
 refine T.seq ?_
 refine xR [] (by kernel_rfl) (by kernel_rfl) ?_
 refine nT ?_
 refine T.seq ?_
 refine T.seq ?_
 refine xR [] (by kernel_rfl) (by kernel_rfl) ?_
 refine nT ?_
 refine T.block ?_
 refine T.loop (ι := Nat) (fun (k : Nat) => ⟨[pv 0 0, .tv (.agg [.d (.val (.int .i64 e.f_Signer)), .d (dsl te false kU8 e.f_Body)]), aa, pv 2 0, dv (.bool false), dv (.int .i64 ((k : Nat) : Int))], [.live (.box 48 [.d (.val (.bool true)), .d (.val (.int .i64 f)), .d (.val (.int .i64 u)), .own 1 (k_api_Envelope false).sz 0 l.length]), .live (arrK 32 (k_api_Envelope false) l), .live (.box 32 [.d (.val (.int .i64 e.f_Signer)), .d (dsl te false kU8 e.f_Body)])]⟩) (fun (k : Nat) => (k ≤ l.length) ∧ (∀ j, j < k → ¬ l.getD j z_api_Envelope = e)) (fun (k : Nat) => l.length - k) (0) ⟨(Nat.zero_le _), (fun j hj => absurd hj (Nat.not_lt_zero _))⟩ (fun _ _ hG => Gs.into2 (s' := ⟨[pv 0 0, .tv (.agg [.d (.val (.int .i64 e.f_Signer)), .d (dsl te false kU8 e.f_Body)]), aa, pv 2 0, dv (.bool false), dv (.int .i64 0)], [.live (.box 48 [.d (.val (.bool true)), .d (.val (.int .i64 f)), .d (.val (.int .i64 u)), .own 1 (k_api_Envelope false).sz 0 l.length]), .live (arrK 32 (k_api_Envelope false) l), .live (.box 32 [.d (.val (.int .i64 e.f_Signer)), .d (dsl te false kU8 e.f_Body)])]⟩) [0, 1, 2] (bm 6 59) (t1 := [pv 0 0, .tv (.agg [.d (.val (.int .i64 e.f_Signer)), .d (dsl te false kU8 e.f_Body)]), aa, pv 2 0, dv (.bool false), dv (.int .i64 0)]) (h1 := [.live (.box 48 [.d (.val (.bool true)), .d (.val (.int .i64 f)), .d (.val (.int .i64 u)), .own 1 (k_api_Envelope false).sz 0 l.length]), .live (arrK 32 (k_api_Envelope false) l), .live (.box 32 [.d (.val (.int .i64 e.f_Signer)), .d (dsl te false kU8 e.f_Body)])]) rfl rfl (by kernel_rfl) (by kernel_rfl) (by kernel_rfl) (by kernel_rfl) (by kernel_rfl) (by kernel_rfl) (by kernel_rfl) (by kernel_rfl) (by kernel_rfl) (by kernel_rfl) (by kernel_rfl) hG) ?_
 rintro k ⟨hk, hb⟩
 show T _ _ ⟨[pv 0 0, .tv (.agg [.d (.val (.int .i64 e.f_Signer)), .d (dsl te false kU8 e.f_Body)]), aa, pv 2 0, dv (.bool false), dv (.int .i64 ((k : Nat) : Int))], [.live (.box 48 [.d (.val (.bool true)), .d (.val (.int .i64 f)), .d (.val (.int .i64 u)), .own 1 (k_api_Envelope false).sz 0 l.length]), .live (arrK 32 (k_api_Envelope false) l), .live (.box 32 [.d (.val (.int .i64 e.f_Signer)), .d (dsl te false kU8 e.f_Body)])]⟩ _ _
 replace hk : k ≤ l.length := hk
 replace hb : ∀ j, j < k → ¬ l.getD j z_api_Envelope = e := hb
 refine T.seq ?_
 refine T.seq ?_
 refine xR [] (by kernel_rfl) (by kernel_rfl) ?_
 refine nT ?_
 by_cases hq1 : ((k : Nat) : Int) < ((l.length : Nat) : Int)
 ·refine T.condT (by kernel_rfl) (decide_eq_true hq1) ?_
  refine T.skip ?_
  refine nT ?_
  refine T.seq ?_
  refine T.block ?_
  refine T.seq ?_
  by_cases hq2 : (l.getD k z_api_Envelope).f_Signer = e.f_Signer
  ·refine xD [[], [0], [0, 1], [0, 1, 2], [], [0, 1, 2, 3, 4], [0, 1, 2, 3, 4, 5], [0, 1, 2, 3, 4, 5, 6], [], [8], [0, 1, 2, 3, 4, 5, 6, 7, 8, 9], [0, 1, 2, 3, 4, 5, 6, 7, 8, 9, 10], [0, 1, 2, 3, 4, 5, 6, 7, 8, 9, 10, 11], [0, 1, 2, 3, 4, 5, 6, 7, 8, 9, 10, 11, 12], [0, 1, 2, 3, 4, 5, 6, 7, 8, 9, 10, 11, 12, 13], [0, 1, 2, 3, 4, 5, 6, 7, 8, 9, 10, 11, 12, 13, 14], [0, 1, 2, 3, 4, 5, 6, 7, 8, 9, 10, 11], [0, 1, 2, 3, 4, 5, 6, 7, 8, 9, 10, 11, 12, 13, 14, 15, 16], [0, 1, 2, 3, 4, 5, 6, 7, 8, 9, 10, 11, 12, 13, 14, 15, 16, 17], [0, 1, 2, 3, 4, 5, 6, 7, 8, 9, 10, 11, 12, 13, 14, 15, 16, 17, 18], [0, 1, 2, 3, 4, 5, 6, 7, 8, 9, 10, 11], [0, 1, 2, 3, 4, 5, 6, 7, 8, 9, 10, 11, 20], [0, 1, 2, 3, 4, 5, 6, 7, 8, 9, 10, 11, 12, 13, 14, 15, 16, 17, 18, 19, 20, 21], [0, 1, 2, 3, 4, 5, 6, 7, 8, 9, 10, 11, 12, 13, 14, 15, 16, 17, 18, 19, 20, 21, 22]] [hR 5 rfl rfl (r_indexO (k := .i64) (l := 1) (sz := (k_api_Envelope false).sz) (off := 0) (n := l.length) (i := ((k : Nat) : Int)) (m := k) (o' := k * (k_api_Envelope false).sz + 0) Try.underlying46 iat_32 rfl rfl (by omega) (by simp) (lt_of rfl) trivial),
     hR 7 rfl rfl (r_loadA (l := 1) (off := k * (k_api_Envelope false).sz + 0) (i := k) (j := 0) (T := 32) (sz := (k_api_Envelope false).sz) (n := l.length) (el := elOf (k_api_Envelope false) l) (c := .val (.int .i64 (l.getD k z_api_Envelope).f_Signer)) wide_3 rfl (by omega) (by decide) rfl (lt_of rfl) trivial),
     hY 12 (decide_eq_true hq2),
     hY 13 (decide_eq_true hq2),
     hY 14 (decide_eq_true hq2),
     hY 15 (decide_eq_true hq2),
     hY 16 (decide_eq_true hq2),
     hS 17 (oY rfl rfl rfl rfl (lt_of rfl) (decide_eq_true hq2) (r_indexO (k := .i64) (l := 1) (sz := (k_api_Envelope false).sz) (off := 0) (n := l.length) (i := ((k : Nat) : Int)) (m := k) (o' := k * (k_api_Envelope false).sz + 0) Try.underlying46 iat_32 rfl rfl (by omega) (by simp) (lt_of rfl) (by exact trivial))),
     hY 18 (decide_eq_true hq2),
     hS 19 (oY rfl rfl rfl rfl (lt_of rfl) (decide_eq_true hq2) (r_loadA (l := 1) (off := k * (k_api_Envelope false).sz + 1) (i := k) (j := 1) (T := 32) (sz := (k_api_Envelope false).sz) (n := l.length) (el := elOf (k_api_Envelope false) l) (c := dsl false false kU8 (l.getD k z_api_Envelope).f_Body) wide_25 rfl (by omega) (by decide) rfl (lt_of rfl) (by exact trivial))),
     hY 20 (decide_eq_true hq2),
     hY 21 (decide_eq_true hq2),
     hS 22 (oY rfl rfl rfl rfl (lt_of rfl) (decide_eq_true hq2) (r_call (ref01_Same false false te false (l.getD k z_api_Envelope).f_Body e.f_Body ) Try.func13 rfl (by decide) [] [] (l := [(.tmp 34, slV false false kU8 (l.getD k z_api_Envelope).f_Body), (.tmp 36, slV te false kU8 e.f_Body)]) [] rfl 0 0 rfl rfl rfl rfl rfl rfl rfl rfl rfl ⟨.inl ⟨rfl, rfl⟩, ⟨.inl ⟨rfl, rfl⟩, trivial⟩⟩ rfl (fun b hb => by cases hb) (.inl rfl) (lt_of rfl) (by exact trivial))),
     hP 23 (decide_eq_true hq2)] (by kernel_rfl) (by kernel_rfl) (by kernel_rfl) (by kernel_rfl) (by kernel_rfl) (by kernel_rfl) ?_
   refine nT ?_
   by_cases hq3 : (l.getD k z_api_Envelope).f_Body = e.f_Body
   ·refine T.condT (by kernel_rfl) (decide_eq_true hq3) ?_
    refine T.seq ?_
    refine xR [] (by kernel_rfl) (by kernel_rfl) ?_
    refine nT ?_
    refine T.ret ?_
    refine rB ?_
    refine rT ?_
    refine rT ?_
    refine rB ?_
    refine rT ?_
    exact tE (.inl rfl) [.t 4 (.one (.d (.val (.bool true))))] ⟨⟨rfl, by kernel_rfl⟩, trivial⟩ [0, 1] (by have e1 : ((decide (e ∈ l)) : Bool) = true := (by exact decide_eq_true (mem_get (z := z_api_Envelope) (k := k) (by omega) (by rw [api_Envelope_iff]; exact ⟨by assumption, by assumption⟩))); have hE := congrArg (fun (q1 : Bool) => (dv (.bool q1) : AV)) e1; exact hE) rfl rfl rfl rfl rfl ⟨⟨rfl, (by kernel_rfl)⟩, ⟨⟨rfl, (by kernel_rfl)⟩, trivial⟩⟩
   ·refine T.condF (by kernel_rfl) (decide_eq_false hq3) ?_
    refine T.skip ?_
    refine nB ?_
    refine nT ?_
    refine xR [hR 1 rfl rfl (r_bin (u1 := .int .i64 ((k : Nat) : Int)) (u2 := .int .i64 1) (v := .int .i64 ((k + 1 : Nat) : Int)) (b_add (by rw [IntKind.wrap_i64]; omega)) (lt_of rfl) ⟨rfl, trivial⟩)] (by kernel_rfl) (by kernel_rfl) ?_
    refine nL (k + 1) ⟨(show (k + 1) ≤ l.length from (by omega)), (show ∀ j, j < (k + 1) → ¬ l.getD j z_api_Envelope = e from (all_succ hb (by rw [api_Envelope_iff]; intro h1; exact absurd h1.2 (by assumption))))⟩ (show (l.length - (k + 1) : Nat) < l.length - k from (by omega)) (fun _ _ hG => Gs.into2 (s' := ⟨(z3b2d_0 te e k), [.live (.box 48 [.d (.val (.bool true)), .d (.val (.int .i64 f)), .d (.val (.int .i64 u)), .own 1 (k_api_Envelope false).sz 0 l.length]), .live (arrK 32 (k_api_Envelope false) l), .live (.box 32 [.d (.val (.int .i64 e.f_Signer)), .d (dsl te false kU8 e.f_Body)])]⟩) [0, 1, 2] (bm 6 59) (t1 := (z3b2d_0 te e k)) (h1 := [.live (.box 48 [.d (.val (.bool true)), .d (.val (.int .i64 f)), .d (.val (.int .i64 u)), .own 1 (k_api_Envelope false).sz 0 l.length]), .live (arrK 32 (k_api_Envelope false) l), .live (.box 32 [.d (.val (.int .i64 e.f_Signer)), .d (dsl te false kU8 e.f_Body)])]) rfl rfl (by kernel_rfl) (by kernel_rfl) (by kernel_rfl) (by kernel_rfl) (by kernel_rfl) (by kernel_rfl) (by kernel_rfl) (by kernel_rfl) (by kernel_rfl) (by kernel_rfl) (by kernel_rfl) hG)
  ·refine xD [[], [0], [0, 1], [0, 1, 2], [], [0, 1, 2, 3, 4], [0, 1, 2, 3, 4, 5], [0, 1, 2, 3, 4, 5, 6], [], [8], [0, 1, 2, 3, 4, 5, 6, 7, 8, 9], [0, 1, 2, 3, 4, 5, 6, 7, 8, 9, 10], [0, 1, 2, 3, 4, 5, 6, 7, 8, 9, 10, 11], [0, 1, 2, 3, 4, 5, 6, 7, 8, 9, 10, 11, 12], [0, 1, 2, 3, 4, 5, 6, 7, 8, 9, 10, 11, 12, 13], [0, 1, 2, 3, 4, 5, 6, 7, 8, 9, 10, 11, 12, 13, 14], [0, 1, 2, 3, 4, 5, 6, 7, 8, 9, 10, 11], [0, 1, 2, 3, 4, 5, 6, 7, 8, 9, 10, 11, 12, 13, 14, 15, 16], [0, 1, 2, 3, 4, 5, 6, 7, 8, 9, 10, 11, 12, 13, 14, 15, 16, 17], [0, 1, 2, 3, 4, 5, 6, 7, 8, 9, 10, 11, 12, 13, 14, 15, 16, 17, 18], [0, 1, 2, 3, 4, 5, 6, 7, 8, 9, 10, 11], [0, 1, 2, 3, 4, 5, 6, 7, 8, 9, 10, 11, 20], [0, 1, 2, 3, 4, 5, 6, 7, 8, 9, 10, 11, 12, 13, 14, 15, 16, 17, 18, 19, 20, 21], [0, 1, 2, 3, 4, 5, 6, 7, 8, 9, 10, 11, 12, 13, 14, 15, 16, 17, 18, 19, 20, 21, 22]] [hR 5 rfl rfl (r_indexO (k := .i64) (l := 1) (sz := (k_api_Envelope false).sz) (off := 0) (n := l.length) (i := ((k : Nat) : Int)) (m := k) (o' := k * (k_api_Envelope false).sz + 0) Try.underlying46 iat_32 rfl rfl (by omega) (by simp) (lt_of rfl) trivial),
     hR 7 rfl rfl (r_loadA (l := 1) (off := k * (k_api_Envelope false).sz + 0) (i := k) (j := 0) (T := 32) (sz := (k_api_Envelope false).sz) (n := l.length) (el := elOf (k_api_Envelope false) l) (c := .val (.int .i64 (l.getD k z_api_Envelope).f_Signer)) wide_3 rfl (by omega) (by decide) rfl (lt_of rfl) trivial),
     hN 12 true (decide_eq_false hq2),
     hN 13 true (decide_eq_false hq2),
     hN 14 true (decide_eq_false hq2),
     hN 15 true (decide_eq_false hq2),
     hN 16 true (decide_eq_false hq2),
     hN 17 true (decide_eq_false hq2),
     hN 18 true (decide_eq_false hq2),
     hN 19 true (decide_eq_false hq2),
     hN 20 true (decide_eq_false hq2),
     hN 21 true (decide_eq_false hq2),
     hN 22 true (decide_eq_false hq2),
     hP 23 (decide_eq_false hq2)] (by kernel_rfl) (by kernel_rfl) (by kernel_rfl) (by kernel_rfl) (by kernel_rfl) (by kernel_rfl) ?_
   refine nT ?_
   refine T.condF (b := false) (by kernel_rfl) rfl ?_
   refine T.skip ?_
   refine nB ?_
   refine nT ?_
   refine xR [hR 1 rfl rfl (r_bin (u1 := .int .i64 ((k : Nat) : Int)) (u2 := .int .i64 1) (v := .int .i64 ((k + 1 : Nat) : Int)) (b_add (by rw [IntKind.wrap_i64]; omega)) (lt_of rfl) ⟨rfl, trivial⟩)] (by kernel_rfl) (by kernel_rfl) ?_
   refine nL (k + 1) ⟨(show (k + 1) ≤ l.length from (by omega)), (show ∀ j, j < (k + 1) → ¬ l.getD j z_api_Envelope = e from (all_succ hb (by rw [api_Envelope_iff]; intro h1; exact absurd h1.1 (by assumption))))⟩ (show (l.length - (k + 1) : Nat) < l.length - k from (by omega)) (fun _ _ hG => Gs.into2 (s' := ⟨(z3b2d_0 te e k), [.live (.box 48 [.d (.val (.bool true)), .d (.val (.int .i64 f)), .d (.val (.int .i64 u)), .own 1 (k_api_Envelope false).sz 0 l.length]), .live (arrK 32 (k_api_Envelope false) l), .live (.box 32 [.d (.val (.int .i64 e.f_Signer)), .d (dsl te false kU8 e.f_Body)])]⟩) [0, 1, 2] (bm 6 59) (t1 := (z3b2d_0 te e k)) (h1 := [.live (.box 48 [.d (.val (.bool true)), .d (.val (.int .i64 f)), .d (.val (.int .i64 u)), .own 1 (k_api_Envelope false).sz 0 l.length]), .live (arrK 32 (k_api_Envelope false) l), .live (.box 32 [.d (.val (.int .i64 e.f_Signer)), .d (dsl te false kU8 e.f_Body)])]) rfl rfl (by kernel_rfl) (by kernel_rfl) (by kernel_rfl) (by kernel_rfl) (by kernel_rfl) (by kernel_rfl) (by kernel_rfl) (by kernel_rfl) (by kernel_rfl) (by kernel_rfl) (by kernel_rfl) hG)
 ·refine T.condF (by kernel_rfl) (decide_eq_false hq1) ?_
  refine T.exit ?_
  refine xT ?_
  refine xT ?_
  refine xH ?_
  refine nT ?_
  refine T.seq ?_
  refine xR [] (by kernel_rfl) (by kernel_rfl) ?_
  refine nT ?_
  refine T.ret ?_
  exact tE (.inl rfl) [.t 4 (.one (.d (.val (.bool false))))] ⟨⟨rfl, by kernel_rfl⟩, trivial⟩ [0, 1] (by have e1 : ((decide (e ∈ l)) : Bool) = false := (by exact decide_eq_false (not_mem_get (z := z_api_Envelope) (k := k) (by omega) hb)); have hE := congrArg (fun (q1 : Bool) => (dv (.bool q1) : AV)) e1; exact hE) rfl rfl rfl rfl rfl ⟨⟨rfl, (by kernel_rfl)⟩, ⟨⟨rfl, (by kernel_rfl)⟩, trivial⟩⟩
end Go.Proofs.Ytladnlechpadlaa.Q
namespace Go.Proofs.Ytladnlechpadlaa.Q
open Go Go.RowKit
set_option linter.unusedVariables false
set_option linter.unusedSimpArgs false
set_option maxRecDepth 100000
set_option maxHeartbeats 4000000
theorem elem_46 : Elem Try.prog 46 32 2 32 := ⟨Try.underlying46, _, _, iat_32, rfl, rfl, rfl, rfl, by decide⟩
theorem cells_46 : Cells Try.prog 46 1 := ⟨_, iat_46, rfl⟩
abbrev z67fa_0 (l : List api_Envelope) : HObj := arrK 32 (k_api_Envelope false) l
abbrev z67fa_1 (f : Int) (u : Int) (s : Int) : AV := dv (.bool (!(decide (isKnown f u s))))
abbrev z67fa_2 (b : List UInt8) : AV := dv (.bool (decide (((b.length : Nat) : Int) > 16777216)))
abbrev z67fa_3 (f : Int) (u : Int) (s : Int) (tb : Bool) (nb : Bool) (b : List UInt8) : List AV := [pv 0 0, dv (.int .i64 s), slV tb nb kU8 b, aa, aa, aa, pv 2 0, dv (.int .i64 11), aa, aa, aa, aa, (z67fa_1 f u s), aa, aa, aa, (z67fa_2 b)]
abbrev z67fa_4 (f : Int) (u : Int) (s : Int) (tb : Bool) (nb : Bool) (b : List UInt8) : List AV := [pv 0 0, dv (.int .i64 s), slV tb nb kU8 b, aa, aa, aa, pv 2 0, dv (.int .i64 0), pv 5 0, aa, aa, aa, (z67fa_1 f u s), aa, aa, aa, (z67fa_2 b)]
abbrev z67fa_5 (f : Int) (u : Int) (l : List api_Envelope) (s : Int) (tb : Bool) (nb : Bool) (b : List UInt8) : List AV := [pv 0 0, dv (.int .i64 s), slV tb nb kU8 b, aa, aa, aa, pv 2 0, dv (.int .i64 0), pv 5 0, aa, aa, aa, (z67fa_1 f u s), aa, aa, aa, (z67fa_2 b), aa, aa, aa, aa, aa, aa, aa, aa, aa, dv (.bool (!(decide ((api_Envelope.mk s b) ∈ l))))]
abbrev z67fa_6 (f : Int) (u : Int) (s : Int) (tb : Bool) (nb : Bool) (b : List UInt8) : List AV := [pv 0 0, dv (.int .i64 s), slV tb nb kU8 b, aa, aa, aa, pv 2 0, dv (.int .i64 30), aa, aa, aa, aa, (z67fa_1 f u s)]
-- (*quaestor/quaestorref03.Authority).Sign
theorem ref03_Sign (f : Int) (u : Int) (l : List api_Envelope) (s : Int) (tb : Bool) (nb : Bool) (b : List UInt8) (hf : 0 ≤ f ∧ f ≤ 2) (hu : 0 ≤ u ∧ u ≤ 8) (hs : -9223372036854775808 ≤ s ∧ s ≤ 9223372036854775807) (hb : b.length ≤ 140737488355328) (hl : l.length ≤ 2147483648) : Holds Try.prog 20 ⟨[pv 0 0, dv (.int .i64 s), slV tb nb kU8 b], [.box 48 [.d (.val (.bool true)), .d (.val (.int .i64 f)), .d (.val (.int .i64 u)), .own 1 (k_api_Envelope false).sz 0 l.length], arrK 32 (k_api_Envelope false) l], .tup [.agg [.d (.val (.int .i64 (signV f u s b).f_Signer)), .d (dsl false false kU8 (signV f u s b).f_Body)], .one (.d (.val (.int .i64 (signE f u s b))))], [.live (.box 48 [.d (.val (.bool true)), .d (.val (.int .i64 f)), .d (.val (.int .i64 u)), .own 2 (k_api_Envelope false).sz 0 (signL f u l s b).length]), .dead, .live (arrK 32 (k_api_Envelope false) (signL f u l s b))]⟩ := by
 refine Holds.of Try.func20 rfl (N := 38) Try.ntmps20 rfl fun w0 B0 S0 U0 => ?_
 show T _ (mkBase 38 2 w0 S0 U0 B0) ⟨[pv 0 0, dv (.int .i64 s), slV tb nb kU8 b], [.live (.box 48 [.d (.val (.bool true)), .d (.val (.int .i64 f)), .d (.val (.int .i64 u)), .own 1 (k_api_Envelope false).sz 0 l.length]), .live ((z67fa_0 l))]⟩ _ _
 refine T.seq ?_
 refine xR [] (by kernel_rfl) (by kernel_rfl) ?_
 refine nT ?_
 refine T.seq ?_
 refine T.seq ?_
 refine xR [hR 2 rfl rfl (r_call (ref03_Known f u l s (by assumption) (by assumption) (by assumption)) Try.func40 rfl (by decide) [0, 1] [] (l := [(.tmp 9, pv 0 0), (.tmp 10, dv (.int .i64 s))]) [] rfl 2 2 rfl rfl rfl rfl rfl rfl rfl rfl rfl ⟨.inl ⟨rfl, rfl⟩, ⟨.inl ⟨rfl, rfl⟩, trivial⟩⟩ rfl (fun b hb => by cases hb) (.inl rfl) (lt_of rfl) trivial)] (by kernel_rfl) (by kernel_rfl) ?_
 refine nT ?_
 by_cases hq1 : isKnown f u s
 ·refine T.condF (by kernel_rfl) (congrArg Bool.not (decide_eq_true hq1)) ?_
  refine T.skip ?_
  refine nT ?_
  refine T.seq ?_
  refine T.seq ?_
  refine xR [] (by kernel_rfl) (by kernel_rfl) ?_
  refine nT ?_
  by_cases hq2 : ((b.length : Nat) : Int) > 16777216
  ·refine T.condT (by kernel_rfl) (decide_eq_true hq2) ?_
   refine T.seq ?_
   refine xR [] (by kernel_rfl) (by kernel_rfl) ?_
   refine nT ?_
   refine T.ret ?_
   refine rT ?_
   refine Ends.turn (s' := ⟨(z67fa_3 f u s tb nb b), [.live (.box 48 [.d (.val (.bool true)), .d (.val (.int .i64 f)), .d (.val (.int .i64 u)), .own 1 (k_api_Envelope false).sz 0 l.length]), .live ((z67fa_0 l)), .live (.box 32 [.d (.val (.int .i64 0)), .d (.val (.slice none 0 0))])]⟩) (fun _ _ hG => Gs.norm (by kernel_rfl) hG) ?_
   refine Ends.turn (s' := ⟨(z67fa_3 f u s tb nb b), [.live (.box 48 [.d (.val (.bool true)), .d (.val (.int .i64 f)), .d (.val (.int .i64 u)), .own 3 (k_api_Envelope false).sz 0 l.length]), .dead, .live (.box 32 [.d (.val (.int .i64 0)), .d (.val (.slice none 0 0))]), .live ((z67fa_0 l))]⟩) (fun _ _ hG => Gs.move (s := ⟨(z67fa_3 f u s tb nb b), [.live (.box 48 [.d (.val (.bool true)), .d (.val (.int .i64 f)), .d (.val (.int .i64 u)), .own 1 (k_api_Envelope false).sz 0 l.length]), .live ((z67fa_0 l)), .live (.box 32 [.d (.val (.int .i64 0)), .d (.val (.slice none 0 0))])]⟩) 1 3 (o := (z67fa_0 l)) rfl rfl rfl ⟨.inl rfl, (k16 trivial)⟩ ⟨(.inr (.inr ⟨by decide, by decide, (.inr ⟨rfl, ⟨.inl rfl, (k2 ⟨(.inr rfl), trivial⟩)⟩⟩)⟩)), ⟨(.inl ⟨rfl, rfl⟩), ⟨(.inr (.inr ⟨by decide, by decide, (.inl rfl)⟩)), ⟨(.inr (.inl ⟨rfl, rfl⟩)), trivial⟩⟩⟩⟩ hG) ?_
   refine Ends.turn (s' := ⟨(z67fa_3 f u s tb nb b), [.live (.box 48 [.d (.val (.bool true)), .d (.val (.int .i64 f)), .d (.val (.int .i64 u)), .own 3 (k_api_Envelope false).sz 0 l.length]), .dead, .live (.box 32 [.d (.val (.int .i64 0)), .d (.val (.slice none 0 0))]), .live ((z67fa_0 l))]⟩) (fun _ _ hG => Gs.norm (by kernel_rfl) hG) ?_
   refine Ends.turn (s' := ⟨(z67fa_3 f u s tb nb b), [.live (.box 48 [.d (.val (.bool true)), .d (.val (.int .i64 f)), .d (.val (.int .i64 u)), .own 3 (k_api_Envelope false).sz 0 l.length]), .dead, .live (.box 32 [.d (.val (.int .i64 0)), .d (dsl false false kU8 ([] : List UInt8))]), .live ((z67fa_0 l))]⟩) (fun _ _ hG => Gs.less (s := ⟨(z67fa_3 f u s tb nb b), [.live (.box 48 [.d (.val (.bool true)), .d (.val (.int .i64 f)), .d (.val (.int .i64 u)), .own 3 (k_api_Envelope false).sz 0 l.length]), .dead, .live (.box 32 [.d (.val (.int .i64 0)), .d (.val (.slice none 0 0))]), .live ((z67fa_0 l))]⟩) ⟨.inl rfl, (k16 trivial)⟩ (k2 ⟨(.inr ⟨rfl, ⟨.inl rfl, ⟨(.inr ⟨rfl, rfl, rfl⟩), trivial⟩⟩⟩), ⟨.inl rfl, trivial⟩⟩) hG) ?_
   exact tE (.inl rfl) [.c 6 2 32 0 32 [.d (.val (.int .i64 0)), .d (dsl false false kU8 ([] : List UInt8))] (.agg [.d (.val (.int .i64 0)), .d (dsl false false kU8 ([] : List UInt8))]), .t 7 (.one (.d (.val (.int .i64 11))))] ⟨⟨rfl, rfl, by kernel_rfl, by kernel_rfl, .inl ⟨2, wide_32, rfl, Nat.le_of_ble_eq_true rfl⟩⟩, ⟨⟨rfl, by kernel_rfl⟩, trivial⟩⟩ [0, 1, 3] (by have e1 : ((signV f u s b).f_Signer : Int) = 0 := (by (simp [signE, signV, signL, putL, z_api_Envelope, *]; done)); have e2 : ((signV f u s b).f_Body : List UInt8) = ([] : List UInt8) := (by (simp [signE, signV, signL, putL, z_api_Envelope, *]; done)); have e3 : ((signE f u s b) : Int) = 11 := (by (simp [signE, signV, signL, putL, z_api_Envelope, *]; done)); have hE := congr (congr (congrArg (fun (q1 : Int) (q2 : List UInt8) (q3 : Int) => (.tup [.agg [.d (.val (.int .i64 q1)), .d (dsl false false kU8 q2)], .one (.d (.val (.int .i64 q3)))] : AV)) e1) e2) e3; exact hE) rfl rfl rfl rfl rfl ⟨⟨rfl, (by have e1 : (l.length : Nat) = (signL f u l s b).length := (by (simp [signE, signV, signL, putL, z_api_Envelope, *]; done)); have hE := congrArg (fun (q1 : Nat) => (.live (.box 48 [.d (.val (.bool true)), .d (.val (.int .i64 f)), .d (.val (.int .i64 u)), .own 3 (k_api_Envelope false).sz 0 q1]) : HS)) e1; exact Eq.trans (by kernel_rfl) hE)⟩, ⟨⟨rfl, (by have e1 : (l : List api_Envelope) = (signL f u l s b) := (by (simp [signE, signV, signL, putL, z_api_Envelope, *]; done)); have hE := congrArg (fun (q1 : List api_Envelope) => (.live (arrK 32 (k_api_Envelope false) q1) : HS)) e1; exact Eq.trans (by kernel_rfl) hE)⟩, trivial⟩⟩
  ·refine T.condF (by kernel_rfl) (decide_eq_false hq2) ?_
   refine T.skip ?_
   refine nT ?_
   refine T.seq ?_
   refine xR [hR 1 rfl rfl (q_buildSlice 3 5 kU8 kU8_ok ([] : List UInt8) [] (cs := []) Try.underlying25 iat_5 rfl zero_5 rfl rfl rfl (Nat.le_of_ble_eq_true rfl) part_ok (by kernel_rfl) (wk_eq (by kernel_rfl)) (lt_of rfl) trivial),
     hR 3 rfl rfl (q_appendO 3 4 5 1 kU8 kU8_ok ([] : List UInt8) b b ([] : List UInt8).length (sy := (.d (dsl tb nb kU8 b))) (rhs := []) elem_25 (by omega) (src_sl tb nb kU8 b) (by simp) (by (simp [maxLen, -List.getD_eq_getElem?_getD] <;> omega)) (by (simp [maxLen, -List.getD_eq_getElem?_getD] <;> omega)) (lt_of rfl) trivial)] (by kernel_rfl) (by kernel_rfl) ?_
   refine nT ?_
   refine T.seq ?_
   refine T.seq ?_
   refine T.turn (s' := ⟨(z67fa_4 f u s tb nb b), [.live (.box 48 [.d (.val (.bool true)), .d (.val (.int .i64 f)), .d (.val (.int .i64 u)), .own 1 (k_api_Envelope false).sz 0 l.length]), .live ((z67fa_0 l)), .live (.box 32 [.d (.val (.int .i64 0)), .d (.val (.slice none 0 0))]), .dead, .live (arrK 5 kU8 b), .live (.box 32 [.d (.val (.int .i64 s)), .own 4 kU8.sz 0 b.length])]⟩) (fun _ _ hG => Gs.norm (by kernel_rfl) hG) ?_
   refine T.turn (s' := ⟨(z67fa_4 f u s tb nb b), [.live (.box 48 [.d (.val (.bool true)), .d (.val (.int .i64 f)), .d (.val (.int .i64 u)), .own 1 (k_api_Envelope false).sz 0 l.length]), .live ((z67fa_0 l)), .live (.box 32 [.d (.val (.int .i64 0)), .d (.val (.slice none 0 0))]), .dead, .dead, .live (.box 32 [.d (.val (.int .i64 s)), .d (dsl false false kU8 b)])]⟩) (fun _ _ hG => Gs.freeze (s := ⟨(z67fa_4 f u s tb nb b), [.live (.box 48 [.d (.val (.bool true)), .d (.val (.int .i64 f)), .d (.val (.int .i64 u)), .own 1 (k_api_Envelope false).sz 0 l.length]), .live ((z67fa_0 l)), .live (.box 32 [.d (.val (.int .i64 0)), .d (.val (.slice none 0 0))]), .dead, .live (arrK 5 kU8 b), .live (.box 32 [.d (.val (.int .i64 s)), .own 4 kU8.sz 0 b.length])]⟩) 4 (el := elOf kU8 b) (sz := kU8.sz) (n := b.length) rfl ⟨.inl rfl, (k16 trivial)⟩ ⟨(.inr ⟨by decide, .inl rfl⟩), ⟨(.inr ⟨by decide, .inl rfl⟩), ⟨(.inr ⟨by decide, .inl rfl⟩), ⟨(.inr ⟨by decide, .inl rfl⟩), ⟨(.inl ⟨rfl, rfl⟩), ⟨(.inr ⟨by decide, .inr ⟨rfl, ⟨.inl rfl, ⟨(.inr ⟨rfl, rfl, rfl, (fun h => by cases h), rfl, rfl, Nat.le_of_eq (Nat.zero_add _), fun i j _ => by rw [Nat.zero_add]⟩), trivial⟩⟩⟩⟩), trivial⟩⟩⟩⟩⟩⟩ hG) ?_
   refine xR [hR 2 rfl rfl (r_call (ref03_Has f u l false (api_Envelope.mk s b) (by omega)) Try.func43 rfl (by decide) [0, 1] [] (l := [(.tmp 23, pv 0 0), (.tmp 24, .tv (.agg [.d (.val (.int .i64 s)), .d (dsl false false kU8 b)]))]) [] rfl 2 2 rfl rfl rfl rfl rfl rfl rfl rfl rfl ⟨.inl ⟨rfl, rfl⟩, ⟨⟨.inl ⟨rfl, rfl⟩, ⟨.inl ⟨rfl, rfl⟩, trivial⟩⟩, trivial⟩⟩ rfl (fun b hb => by cases hb) (.inl rfl) (lt_of rfl) trivial)] (by kernel_rfl) (by kernel_rfl) ?_
   refine nT ?_
   by_cases hq3 : (api_Envelope.mk s b) ∈ l
   ·refine T.condF (by kernel_rfl) (congrArg Bool.not (decide_eq_true hq3)) ?_
    refine T.skip ?_
    refine nT ?_
    refine T.seq ?_
    refine xR [] (by kernel_rfl) (by kernel_rfl) ?_
    refine nT ?_
    refine T.ret ?_
    refine Ends.turn (s' := ⟨(z67fa_5 f u l s tb nb b), [.live (.box 48 [.d (.val (.bool true)), .d (.val (.int .i64 f)), .d (.val (.int .i64 u)), .own 1 (k_api_Envelope false).sz 0 l.length]), .live ((z67fa_0 l)), .live (.box 32 [.d (.val (.int .i64 s)), .d (dsl false false kU8 b)]), .dead, .dead, .live (.box 32 [.d (.val (.int .i64 s)), .d (dsl false false kU8 b)])]⟩) (fun _ _ hG => Gs.norm (by kernel_rfl) hG) ?_
    refine Ends.turn (s' := ⟨(z67fa_5 f u l s tb nb b), [.live (.box 48 [.d (.val (.bool true)), .d (.val (.int .i64 f)), .d (.val (.int .i64 u)), .own 6 (k_api_Envelope false).sz 0 l.length]), .dead, .live (.box 32 [.d (.val (.int .i64 s)), .d (dsl false false kU8 b)]), .dead, .dead, .live (.box 32 [.d (.val (.int .i64 s)), .d (dsl false false kU8 b)]), .live ((z67fa_0 l))]⟩) (fun _ _ hG => Gs.move (s := ⟨(z67fa_5 f u l s tb nb b), [.live (.box 48 [.d (.val (.bool true)), .d (.val (.int .i64 f)), .d (.val (.int .i64 u)), .own 1 (k_api_Envelope false).sz 0 l.length]), .live ((z67fa_0 l)), .live (.box 32 [.d (.val (.int .i64 s)), .d (dsl false false kU8 b)]), .dead, .dead, .live (.box 32 [.d (.val (.int .i64 s)), .d (dsl false false kU8 b)])]⟩) 1 6 (o := (z67fa_0 l)) rfl rfl rfl ⟨.inl rfl, (k2 (k8 (k16 trivial)))⟩ ⟨(.inr (.inr ⟨by decide, by decide, (.inr ⟨rfl, ⟨.inl rfl, (k2 ⟨(.inr rfl), trivial⟩)⟩⟩)⟩)), ⟨(.inl ⟨rfl, rfl⟩), ⟨(.inr (.inr ⟨by decide, by decide, (.inl rfl)⟩)), ⟨(.inr (.inr ⟨by decide, by decide, (.inl rfl)⟩)), ⟨(.inr (.inr ⟨by decide, by decide, (.inl rfl)⟩)), ⟨(.inr (.inr ⟨by decide, by decide, (.inl rfl)⟩)), ⟨(.inr (.inl ⟨rfl, rfl⟩)), trivial⟩⟩⟩⟩⟩⟩⟩ hG) ?_
    exact tE (.inl rfl) [.c 6 2 32 0 32 [.d (.val (.int .i64 s)), .d (dsl false false kU8 b)] (.agg [.d (.val (.int .i64 s)), .d (dsl false false kU8 b)]), .t 7 (.one (.d (.val (.int .i64 0))))] ⟨⟨rfl, rfl, by kernel_rfl, by kernel_rfl, .inl ⟨2, wide_32, rfl, Nat.le_of_ble_eq_true rfl⟩⟩, ⟨⟨rfl, by kernel_rfl⟩, trivial⟩⟩ [0, 1, 6] (by have e1 : ((signV f u s b).f_Signer : Int) = s := (by (simp [signE, signV, signL, putL, z_api_Envelope, *]; done)); have e2 : ((signV f u s b).f_Body : List UInt8) = b := (by (simp [signE, signV, signL, putL, z_api_Envelope, *]; done)); have e3 : ((signE f u s b) : Int) = 0 := (by (simp [signE, signV, signL, putL, z_api_Envelope, *]; done)); have hE := congr (congr (congrArg (fun (q1 : Int) (q2 : List UInt8) (q3 : Int) => (.tup [.agg [.d (.val (.int .i64 q1)), .d (dsl false false kU8 q2)], .one (.d (.val (.int .i64 q3)))] : AV)) e1) e2) e3; exact hE) rfl rfl rfl rfl rfl ⟨⟨rfl, (by have e1 : (l.length : Nat) = (signL f u l s b).length := (by (simp [signE, signV, signL, putL, z_api_Envelope, *]; done)); have hE := congrArg (fun (q1 : Nat) => (.live (.box 48 [.d (.val (.bool true)), .d (.val (.int .i64 f)), .d (.val (.int .i64 u)), .own 6 (k_api_Envelope false).sz 0 q1]) : HS)) e1; exact Eq.trans (by kernel_rfl) hE)⟩, ⟨⟨rfl, (by have e1 : (l : List api_Envelope) = (signL f u l s b) := (by (simp [signE, signV, signL, putL, z_api_Envelope, *]; done)); have hE := congrArg (fun (q1 : List api_Envelope) => (.live (arrK 32 (k_api_Envelope false) q1) : HS)) e1; exact Eq.trans (by kernel_rfl) hE)⟩, trivial⟩⟩
   ·refine T.condT (by kernel_rfl) (congrArg Bool.not (decide_eq_false hq3)) ?_
    refine xD [[], [], [1], [1, 2], [1, 2, 3], [], [5], [1, 2, 3, 4, 5, 6], [0, 1, 2, 3, 4, 5, 6, 7], [0, 1, 2, 3, 4, 5, 6, 7, 8], [0, 1, 2, 3, 4, 5, 6, 7, 8, 9]] [hR 6 rfl rfl (q_buildSlice 6 32 (k_api_Envelope false) (k_api_Envelope_ok false) [(api_Envelope.mk s b)] [⟨0, .tmp 32, .agg [.d (.val (.int .i64 s)), .d (dsl false false kU8 b)], 0⟩] (cs := [.d (.val (.int .i64 s)), .d (dsl false false kU8 b)]) Try.underlying46 iat_32 rfl zero_32 rfl rfl rfl (Nat.le_of_ble_eq_true rfl) (part_cons rfl rfl (Nat.le_of_ble_eq_true rfl) part_ok) (by kernel_rfl) (wk_eq (by kernel_rfl)) (lt_of rfl) trivial),
      hR 7 rfl rfl (q_appendO 1 7 32 32 (k_api_Envelope false) (k_api_Envelope_ok false) l [(api_Envelope.mk s b)] (l ++ [(api_Envelope.mk s b)]) l.length (sy := (.own 6 (k_api_Envelope false).sz 0 [(api_Envelope.mk s b)].length)) (rhs := [(6, .live (arrK 32 (k_api_Envelope false) [(api_Envelope.mk s b)]))]) elem_46 (by omega) (src_own 6 32 (k_api_Envelope false) [(api_Envelope.mk s b)]) (by rw [List.take_length]) (by (simp [maxLen, -List.getD_eq_getElem?_getD] <;> omega)) (by (simp [maxLen, -List.getD_eq_getElem?_getD] <;> omega)) (lt_of rfl) trivial)] (by kernel_rfl) (by kernel_rfl) (by kernel_rfl) (by kernel_rfl) (by kernel_rfl) (by kernel_rfl) ?_
    refine nT ?_
    refine T.seq ?_
    refine xR [] (by kernel_rfl) (by kernel_rfl) ?_
    refine nT ?_
    refine T.ret ?_
    exact tE (.inl rfl) [.c 6 2 32 0 32 [.d (.val (.int .i64 s)), .d (dsl false false kU8 b)] (.agg [.d (.val (.int .i64 s)), .d (dsl false false kU8 b)]), .t 7 (.one (.d (.val (.int .i64 0))))] ⟨⟨rfl, rfl, by kernel_rfl, by kernel_rfl, .inl ⟨2, wide_32, rfl, Nat.le_of_ble_eq_true rfl⟩⟩, ⟨⟨rfl, by kernel_rfl⟩, trivial⟩⟩ [0, 1, 7] (by have e1 : ((signV f u s b).f_Signer : Int) = s := (by (simp [signE, signV, signL, putL, z_api_Envelope, *]; done)); have e2 : ((signV f u s b).f_Body : List UInt8) = b := (by (simp [signE, signV, signL, putL, z_api_Envelope, *]; done)); have e3 : ((signE f u s b) : Int) = 0 := (by (simp [signE, signV, signL, putL, z_api_Envelope, *]; done)); have hE := congr (congr (congrArg (fun (q1 : Int) (q2 : List UInt8) (q3 : Int) => (.tup [.agg [.d (.val (.int .i64 q1)), .d (dsl false false kU8 q2)], .one (.d (.val (.int .i64 q3)))] : AV)) e1) e2) e3; exact hE) rfl rfl rfl rfl rfl ⟨⟨rfl, (by have e1 : ((l ++ [(api_Envelope.mk s b)]).length : Nat) = (signL f u l s b).length := (by (simp [signE, signV, signL, putL, z_api_Envelope, *]; done)); have hE := congrArg (fun (q1 : Nat) => (.live (.box 48 [.d (.val (.bool true)), .d (.val (.int .i64 f)), .d (.val (.int .i64 u)), .own 7 (k_api_Envelope false).sz 0 q1]) : HS)) e1; exact Eq.trans (by kernel_rfl) hE)⟩, ⟨⟨rfl, (by have e1 : (l ++ [(api_Envelope.mk s b)] : List api_Envelope) = (signL f u l s b) := (by (simp [signE, signV, signL, putL, z_api_Envelope, *]; done)); have hE := congrArg (fun (q1 : List api_Envelope) => (.live (arrK 32 (k_api_Envelope false) q1) : HS)) e1; exact Eq.trans (by kernel_rfl) hE)⟩, trivial⟩⟩
 ·refine T.condT (by kernel_rfl) (congrArg Bool.not (decide_eq_false hq1)) ?_
  refine T.seq ?_
  refine xR [] (by kernel_rfl) (by kernel_rfl) ?_
  refine nT ?_
  refine T.ret ?_
  refine rT ?_
  refine Ends.turn (s' := ⟨(z67fa_6 f u s tb nb b), [.live (.box 48 [.d (.val (.bool true)), .d (.val (.int .i64 f)), .d (.val (.int .i64 u)), .own 1 (k_api_Envelope false).sz 0 l.length]), .live ((z67fa_0 l)), .live (.box 32 [.d (.val (.int .i64 0)), .d (.val (.slice none 0 0))])]⟩) (fun _ _ hG => Gs.norm (by kernel_rfl) hG) ?_
  refine Ends.turn (s' := ⟨(z67fa_6 f u s tb nb b), [.live (.box 48 [.d (.val (.bool true)), .d (.val (.int .i64 f)), .d (.val (.int .i64 u)), .own 3 (k_api_Envelope false).sz 0 l.length]), .dead, .live (.box 32 [.d (.val (.int .i64 0)), .d (.val (.slice none 0 0))]), .live ((z67fa_0 l))]⟩) (fun _ _ hG => Gs.move (s := ⟨(z67fa_6 f u s tb nb b), [.live (.box 48 [.d (.val (.bool true)), .d (.val (.int .i64 f)), .d (.val (.int .i64 u)), .own 1 (k_api_Envelope false).sz 0 l.length]), .live ((z67fa_0 l)), .live (.box 32 [.d (.val (.int .i64 0)), .d (.val (.slice none 0 0))])]⟩) 1 3 (o := (z67fa_0 l)) rfl rfl rfl ⟨.inl rfl, (k4 (k8 trivial))⟩ ⟨(.inr (.inr ⟨by decide, by decide, (.inr ⟨rfl, ⟨.inl rfl, (k2 ⟨(.inr rfl), trivial⟩)⟩⟩)⟩)), ⟨(.inl ⟨rfl, rfl⟩), ⟨(.inr (.inr ⟨by decide, by decide, (.inl rfl)⟩)), ⟨(.inr (.inl ⟨rfl, rfl⟩)), trivial⟩⟩⟩⟩ hG) ?_
  refine Ends.turn (s' := ⟨(z67fa_6 f u s tb nb b), [.live (.box 48 [.d (.val (.bool true)), .d (.val (.int .i64 f)), .d (.val (.int .i64 u)), .own 3 (k_api_Envelope false).sz 0 l.length]), .dead, .live (.box 32 [.d (.val (.int .i64 0)), .d (.val (.slice none 0 0))]), .live ((z67fa_0 l))]⟩) (fun _ _ hG => Gs.norm (by kernel_rfl) hG) ?_
  refine Ends.turn (s' := ⟨(z67fa_6 f u s tb nb b), [.live (.box 48 [.d (.val (.bool true)), .d (.val (.int .i64 f)), .d (.val (.int .i64 u)), .own 3 (k_api_Envelope false).sz 0 l.length]), .dead, .live (.box 32 [.d (.val (.int .i64 0)), .d (dsl false false kU8 ([] : List UInt8))]), .live ((z67fa_0 l))]⟩) (fun _ _ hG => Gs.less (s := ⟨(z67fa_6 f u s tb nb b), [.live (.box 48 [.d (.val (.bool true)), .d (.val (.int .i64 f)), .d (.val (.int .i64 u)), .own 3 (k_api_Envelope false).sz 0 l.length]), .dead, .live (.box 32 [.d (.val (.int .i64 0)), .d (.val (.slice none 0 0))]), .live ((z67fa_0 l))]⟩) ⟨.inl rfl, (k4 (k8 trivial))⟩ (k2 ⟨(.inr ⟨rfl, ⟨.inl rfl, ⟨(.inr ⟨rfl, rfl, rfl⟩), trivial⟩⟩⟩), ⟨.inl rfl, trivial⟩⟩) hG) ?_
  exact tE (.inl rfl) [.c 6 2 32 0 32 [.d (.val (.int .i64 0)), .d (dsl false false kU8 ([] : List UInt8))] (.agg [.d (.val (.int .i64 0)), .d (dsl false false kU8 ([] : List UInt8))]), .t 7 (.one (.d (.val (.int .i64 30))))] ⟨⟨rfl, rfl, by kernel_rfl, by kernel_rfl, .inl ⟨2, wide_32, rfl, Nat.le_of_ble_eq_true rfl⟩⟩, ⟨⟨rfl, by kernel_rfl⟩, trivial⟩⟩ [0, 1, 3] (by have e1 : ((signV f u s b).f_Signer : Int) = 0 := (by (simp [signE, signV, signL, putL, z_api_Envelope, *]; done)); have e2 : ((signV f u s b).f_Body : List UInt8) = ([] : List UInt8) := (by (simp [signE, signV, signL, putL, z_api_Envelope, *]; done)); have e3 : ((signE f u s b) : Int) = 30 := (by (simp [signE, signV, signL, putL, z_api_Envelope, *]; done)); have hE := congr (congr (congrArg (fun (q1 : Int) (q2 : List UInt8) (q3 : Int) => (.tup [.agg [.d (.val (.int .i64 q1)), .d (dsl false false kU8 q2)], .one (.d (.val (.int .i64 q3)))] : AV)) e1) e2) e3; exact hE) rfl rfl rfl rfl rfl ⟨⟨rfl, (by have e1 : (l.length : Nat) = (signL f u l s b).length := (by (simp [signE, signV, signL, putL, z_api_Envelope, *]; done)); have hE := congrArg (fun (q1 : Nat) => (.live (.box 48 [.d (.val (.bool true)), .d (.val (.int .i64 f)), .d (.val (.int .i64 u)), .own 3 (k_api_Envelope false).sz 0 q1]) : HS)) e1; exact Eq.trans (by kernel_rfl) hE)⟩, ⟨⟨rfl, (by have e1 : (l : List api_Envelope) = (signL f u l s b) := (by (simp [signE, signV, signL, putL, z_api_Envelope, *]; done)); have hE := congrArg (fun (q1 : List api_Envelope) => (.live (arrK 32 (k_api_Envelope false) q1) : HS)) e1; exact Eq.trans (by kernel_rfl) hE)⟩, trivial⟩⟩
end Go.Proofs.Ytladnlechpadlaa.Q
namespace Go.Proofs.Ytladnlechpadlaa.Q
open Go Go.RowKit
set_option linter.unusedVariables false
set_option linter.unusedSimpArgs false
set_option maxRecDepth 100000
set_option maxHeartbeats 4000000
-- (*quaestor/quaestorref03.Authority).Check
theorem ref03_Check (f : Int) (u : Int) (l : List api_Envelope) (te : Bool) (e : api_Envelope) (hf : 0 ≤ f ∧ f ≤ 2) (hu : 0 ≤ u ∧ u ≤ 8) (hs : -9223372036854775808 ≤ e.f_Signer ∧ e.f_Signer ≤ 9223372036854775807) (hl : l.length ≤ 9223372036854775806) : Holds Try.prog 19 ⟨[pv 0 0, .tv (.agg [.d (.val (.int .i64 e.f_Signer)), .d (dsl te false kU8 e.f_Body)])], [.box 48 [.d (.val (.bool true)), .d (.val (.int .i64 f)), .d (.val (.int .i64 u)), .own 1 (k_api_Envelope false).sz 0 l.length], arrK 32 (k_api_Envelope false) l], dv (.int .i64 (checkL f u l e)), [.live (.box 48 [.d (.val (.bool true)), .d (.val (.int .i64 f)), .d (.val (.int .i64 u)), .own 1 (k_api_Envelope false).sz 0 l.length]), .live (arrK 32 (k_api_Envelope false) l)]⟩ := by
 refine Holds.of Try.func19 rfl (N := 14) Try.ntmps19 rfl fun w0 B0 S0 U0 => ?_
 show T _ (mkBase 14 2 w0 S0 U0 B0) ⟨[pv 0 0, .tv (.agg [.d (.val (.int .i64 e.f_Signer)), .d (dsl te false kU8 e.f_Body)])], [.live (.box 48 [.d (.val (.bool true)), .d (.val (.int .i64 f)), .d (.val (.int .i64 u)), .own 1 (k_api_Envelope false).sz 0 l.length]), .live (arrK 32 (k_api_Envelope false) l)]⟩ _ _
 refine T.seq ?_
 refine xR [] (by kernel_rfl) (by kernel_rfl) ?_
 refine nT ?_
 refine T.seq ?_
 refine T.seq ?_
 refine xR [hR 3 rfl rfl (r_call (ref03_Known f u l e.f_Signer (by assumption) (by assumption) (by assumption)) Try.func40 rfl (by decide) [0, 1] [] (l := [(.tmp 5, pv 0 0), (.tmp 7, dv (.int .i64 e.f_Signer))]) [] rfl 2 2 rfl rfl rfl rfl rfl rfl rfl rfl rfl ⟨.inl ⟨rfl, rfl⟩, ⟨.inl ⟨rfl, rfl⟩, trivial⟩⟩ rfl (fun b hb => by cases hb) (.inl rfl) (lt_of rfl) trivial)] (by kernel_rfl) (by kernel_rfl) ?_
 refine nT ?_
 by_cases hq1 : isKnown f u e.f_Signer
 ·refine T.condF (by kernel_rfl) (congrArg Bool.not (decide_eq_true hq1)) ?_
  refine T.skip ?_
  refine nT ?_
  refine T.seq ?_
  refine T.seq ?_
  refine xR [hR 2 rfl rfl (r_call (ref03_Has f u l te e (by assumption)) Try.func43 rfl (by decide) [0, 1] [] (l := [(.tmp 10, pv 0 0), (.tmp 11, .tv (.agg [.d (.val (.int .i64 e.f_Signer)), .d (dsl te false kU8 e.f_Body)]))]) [] rfl 2 2 rfl rfl rfl rfl rfl rfl rfl rfl rfl ⟨.inl ⟨rfl, rfl⟩, ⟨⟨.inl ⟨rfl, rfl⟩, ⟨.inl ⟨rfl, rfl⟩, trivial⟩⟩, trivial⟩⟩ rfl (fun b hb => by cases hb) (.inl rfl) (lt_of rfl) trivial)] (by kernel_rfl) (by kernel_rfl) ?_
  refine nT ?_
  by_cases hq2 : e ∈ l
  ·refine T.condF (by kernel_rfl) (congrArg Bool.not (decide_eq_true hq2)) ?_
   refine T.skip ?_
   refine nT ?_
   refine T.seq ?_
   refine xR [] (by kernel_rfl) (by kernel_rfl) ?_
   refine nT ?_
   refine T.ret ?_
   exact tE (.inl rfl) [.t 4 (.one (.d (.val (.int .i64 0))))] ⟨⟨rfl, by kernel_rfl⟩, trivial⟩ [0, 1] (by have e1 : ((checkL f u l e) : Int) = 0 := (by (simp [checkL, *]; done)); have hE := congrArg (fun (q1 : Int) => (dv (.int .i64 q1) : AV)) e1; exact hE) rfl rfl rfl rfl rfl ⟨⟨rfl, (by kernel_rfl)⟩, ⟨⟨rfl, (by kernel_rfl)⟩, trivial⟩⟩
  ·refine T.condT (by kernel_rfl) (congrArg Bool.not (decide_eq_false hq2)) ?_
   refine T.seq ?_
   refine xR [] (by kernel_rfl) (by kernel_rfl) ?_
   refine nT ?_
   refine T.ret ?_
   refine rT ?_
   exact tE (.inl rfl) [.t 4 (.one (.d (.val (.int .i64 31))))] ⟨⟨rfl, by kernel_rfl⟩, trivial⟩ [0, 1] (by have e1 : ((checkL f u l e) : Int) = 31 := (by (simp [checkL, *]; done)); have hE := congrArg (fun (q1 : Int) => (dv (.int .i64 q1) : AV)) e1; exact hE) rfl rfl rfl rfl rfl ⟨⟨rfl, (by kernel_rfl)⟩, ⟨⟨rfl, (by kernel_rfl)⟩, trivial⟩⟩
 ·refine T.condT (by kernel_rfl) (congrArg Bool.not (decide_eq_false hq1)) ?_
  refine T.seq ?_
  refine xR [] (by kernel_rfl) (by kernel_rfl) ?_
  refine nT ?_
  refine T.ret ?_
  refine rT ?_
  exact tE (.inl rfl) [.t 4 (.one (.d (.val (.int .i64 30))))] ⟨⟨rfl, by kernel_rfl⟩, trivial⟩ [0, 1] (by have e1 : ((checkL f u l e) : Int) = 30 := (by (simp [checkL, *]; done)); have hE := congrArg (fun (q1 : Int) => (dv (.int .i64 q1) : AV)) e1; exact hE) rfl rfl rfl rfl rfl ⟨⟨rfl, (by kernel_rfl)⟩, ⟨⟨rfl, (by kernel_rfl)⟩, trivial⟩⟩
end Go.Proofs.Ytladnlechpadlaa.Q
namespace Go.Proofs.Ytladnlechpadlaa.Q
open Go Go.RowKit
set_option linter.unusedVariables false
set_option linter.unusedSimpArgs false
set_option maxRecDepth 100000
set_option maxHeartbeats 4000000
theorem iat_27 : Try.prog.info? 27 = some Try.t27 := by kernel_rfl
theorem fld_27_1 : FieldAt Try.prog 27 1 1 := ⟨_, _, _, Try.underlying27, rfl, iat_25, by decide, rfl⟩
abbrev z8ca7_0 (l : List quaestorlaw03_Deed) : AV := slV false false (k_quaestorlaw03_Deed false) l
abbrev z8ca7_1 (l : List quaestorlaw03_Deed) : AV := dv (.bool (decide (((l.length : Nat) : Int) > 100)))
abbrev z8ca7_2 (l : List quaestorlaw03_Deed) : List AV := [(z8ca7_0 l), aa, dv (.bool false), dv (.int .i64 0), aa, aa, (z8ca7_1 l)]
-- quaestor/quaestorlaw03.few
theorem law_few (l : List quaestorlaw03_Deed) (hl : l.length ≤ 9223372036854775807) : Holds Try.prog 10 ⟨[slV false false (k_quaestorlaw03_Deed false) l], [], dv (.bool (decide (fewD l))), []⟩ := by
 refine Holds.of Try.func10 rfl (N := 20) Try.ntmps10 rfl fun w0 B0 S0 U0 => ?_
 show T _ (mkBase 20 0 w0 S0 U0 B0) ⟨[(z8ca7_0 l)], []⟩ _ _
 refine T.seq ?_
 refine xR [] (by kernel_rfl) (by kernel_rfl) ?_
 refine nT ?_
 refine T.seq ?_
 refine T.seq ?_
 refine xR [] (by kernel_rfl) (by kernel_rfl) ?_
 refine nT ?_
 by_cases hq1 : ((l.length : Nat) : Int) > 100
 ·refine T.condT (by kernel_rfl) (decide_eq_true hq1) ?_
  refine T.seq ?_
  refine xR [] (by kernel_rfl) (by kernel_rfl) ?_
  refine nT ?_
  refine T.ret ?_
  refine rT ?_
  exact tE (.inl rfl) [.t 2 (.one (.d (.val (.bool false))))] ⟨⟨rfl, by kernel_rfl⟩, trivial⟩ [] (by have e1 : ((decide (fewD l)) : Bool) = false := (by first | exact decide_eq_false (few_no1 hq1) | exact decide_eq_false (few_no2 (by omega) hq3) | exact decide_eq_true (few_yes hq1 (by omega) hb)); have hE := congrArg (fun (q1 : Bool) => (dv (.bool q1) : AV)) e1; exact hE) rfl rfl rfl rfl rfl trivial
 ·refine T.condF (by kernel_rfl) (decide_eq_false hq1) ?_
  refine T.skip ?_
  refine nT ?_
  refine T.seq ?_
  refine T.seq ?_
  refine xR [] (by kernel_rfl) (by kernel_rfl) ?_
  refine nT ?_
  refine T.block ?_
  refine T.loop (ι := Nat) (fun (k : Nat) => ⟨[(z8ca7_0 l), aa, dv (.bool false), dv (.int .i64 ((k : Nat) : Int)), aa, aa, (z8ca7_1 l)], []⟩) (fun (k : Nat) => (k ≤ l.length) ∧ (∀ j, j < k → (l.getD j z_quaestorlaw03_Deed).f_Body.length ≤ 1000)) (fun (k : Nat) => l.length - k) (0) ⟨(Nat.zero_le _), (fun j hj => absurd hj (Nat.not_lt_zero _))⟩ (fun _ _ hG => Gs.into2 (s' := ⟨(z8ca7_2 l), []⟩) [] (bm 7 77) (t1 := (z8ca7_2 l)) (h1 := []) rfl rfl (by kernel_rfl) (by kernel_rfl) (by kernel_rfl) (by kernel_rfl) (by kernel_rfl) (by kernel_rfl) (by kernel_rfl) (by kernel_rfl) (by kernel_rfl) (by kernel_rfl) (by kernel_rfl) hG) ?_
  rintro k ⟨hk, hb⟩
  show T _ _ ⟨[(z8ca7_0 l), aa, dv (.bool false), dv (.int .i64 ((k : Nat) : Int)), aa, aa, (z8ca7_1 l)], []⟩ _ _
  replace hk : k ≤ l.length := hk
  replace hb : ∀ j, j < k → (l.getD j z_quaestorlaw03_Deed).f_Body.length ≤ 1000 := hb
  refine T.seq ?_
  refine T.seq ?_
  refine xR [] (by kernel_rfl) (by kernel_rfl) ?_
  refine nT ?_
  by_cases hq2 : ((k : Nat) : Int) < ((l.length : Nat) : Int)
  ·refine T.condT (by kernel_rfl) (decide_eq_true hq2) ?_
   refine T.skip ?_
   refine nT ?_
   refine T.seq ?_
   refine T.block ?_
   refine T.seq ?_
   refine xR [hR 2 rfl rfl (q_index false false (k_quaestorlaw03_Deed false) l k (k := .i64) (i := ((k : Nat) : Int)) Try.underlying24 iat_27 rfl rfl (by first | assumption | omega | (unfold maxLen; omega) | (simp [maxLen, -List.getD_eq_getElem?_getD] <;> omega) | decide) (lt_of rfl) trivial)] (by kernel_rfl) (by kernel_rfl) ?_
   refine nT ?_
   by_cases hq3 : (((l.getD k z_quaestorlaw03_Deed).f_Body.length : Nat) : Int) > 1000
   ·refine T.condT (by kernel_rfl) (decide_eq_true hq3) ?_
    refine T.seq ?_
    refine xR [] (by kernel_rfl) (by kernel_rfl) ?_
    refine nT ?_
    refine T.ret ?_
    refine rB ?_
    refine rT ?_
    refine rT ?_
    refine rB ?_
    refine rT ?_
    exact tE (.inl rfl) [.t 2 (.one (.d (.val (.bool false))))] ⟨⟨rfl, by kernel_rfl⟩, trivial⟩ [] (by have e1 : ((decide (fewD l)) : Bool) = false := (by first | exact decide_eq_false (few_no1 hq1) | exact decide_eq_false (few_no2 (by omega) hq3) | exact decide_eq_true (few_yes hq1 (by omega) hb)); have hE := congrArg (fun (q1 : Bool) => (dv (.bool q1) : AV)) e1; exact hE) rfl rfl rfl rfl rfl trivial
   ·refine T.condF (by kernel_rfl) (decide_eq_false hq3) ?_
    refine T.skip ?_
    refine nB ?_
    refine nT ?_
    refine xR [hR 1 rfl rfl (r_bin (u1 := .int .i64 ((k : Nat) : Int)) (u2 := .int .i64 1) (v := .int .i64 ((k + 1 : Nat) : Int)) (b_add (by rw [IntKind.wrap_i64]; omega)) (lt_of rfl) ⟨rfl, trivial⟩)] (by kernel_rfl) (by kernel_rfl) ?_
    refine nL (k + 1) ⟨(show (k + 1) ≤ l.length from (by omega)), (show ∀ j, j < (k + 1) → (l.getD j z_quaestorlaw03_Deed).f_Body.length ≤ 1000 from (all_succ hb (by omega)))⟩ (show (l.length - (k + 1) : Nat) < l.length - k from (by omega)) (fun _ _ hG => Gs.into2 (s' := ⟨[(z8ca7_0 l), aa, dv (.bool false), dv (.int .i64 ((k + 1 : Nat) : Int)), aa, aa, (z8ca7_1 l)], []⟩) [] (bm 7 77) (t1 := [(z8ca7_0 l), aa, dv (.bool false), dv (.int .i64 ((k + 1 : Nat) : Int)), aa, aa, (z8ca7_1 l)]) (h1 := []) rfl rfl (by kernel_rfl) (by kernel_rfl) (by kernel_rfl) (by kernel_rfl) (by kernel_rfl) (by kernel_rfl) (by kernel_rfl) (by kernel_rfl) (by kernel_rfl) (by kernel_rfl) (by kernel_rfl) hG)
  ·refine T.condF (by kernel_rfl) (decide_eq_false hq2) ?_
   refine T.exit ?_
   refine xT ?_
   refine xT ?_
   refine xH ?_
   refine nT ?_
   refine T.seq ?_
   refine xR [] (by kernel_rfl) (by kernel_rfl) ?_
   refine nT ?_
   refine T.ret ?_
   exact tE (.inl rfl) [.t 2 (.one (.d (.val (.bool true))))] ⟨⟨rfl, by kernel_rfl⟩, trivial⟩ [] (by have e1 : ((decide (fewD l)) : Bool) = true := (by first | exact decide_eq_false (few_no1 hq1) | exact decide_eq_false (few_no2 (by omega) hq3) | exact decide_eq_true (few_yes hq1 (by omega) hb)); have hE := congrArg (fun (q1 : Bool) => (dv (.bool q1) : AV)) e1; exact hE) rfl rfl rfl rfl rfl trivial
end Go.Proofs.Ytladnlechpadlaa.Q
