import Derived.Test.YtacikihlgpnjhaaC10n5
namespace Go.Proofs.Ytacikihlgpnjhaa.Q
open Go Go.RowKit
set_option linter.unusedVariables false
set_option linter.unusedSimpArgs false
set_option maxRecDepth 100000
set_option maxHeartbeats 4000000
theorem seq_67 : SEq Try.prog 67 (fun x : api_Step => .agg #[.bool x.f_Left, strV x.f_Digest]) := seq_of (g := fun x : api_Step => #[.bool x.f_Left, strV x.f_Digest]) (bs' := fun a b => [decide (a.f_Left = b.f_Left), decide (a.f_Digest = b.f_Digest)]) Try.underlying67 (by kernel_rfl) (by kernel_rfl) (fun a b => ⟨by decide, ⟨_, _, rfl, rfl, .bool Try.underlying4⟩, ⟨by decide, ⟨_, _, rfl, rfl, .str Try.underlying22⟩, trivial⟩⟩) (fun a b => by rw [Bool.eq_iff_iff]; simp [api_Step_iff])
-- quaestor/quaestorref09.Same
theorem ref09_Same (ta : Bool) (na : Bool) (sa : Bool) (tb : Bool) (nb : Bool) (sb : Bool) (a : List api_Step) (b : List api_Step) (hl : a.length ≤ 9223372036854775807) : Holds Try.prog 21 ⟨[slV ta na (k_api_Step sa) a, slV tb nb (k_api_Step sb) b], [], dv (.bool (decide (a = b))), []⟩ := by
  refine Holds.of Try.func21 rfl (N := 26) Try.ntmps21 rfl fun w0 B0 S0 U0 => ?_
  show T _ (mkBase 26 0 w0 S0 U0 B0) ⟨[slV ta na (k_api_Step sa) a, slV tb nb (k_api_Step sb) b], []⟩ _ _
  refine T.seq ?_
  refine xR [] (by kernel_rfl) (by kernel_rfl) ?_
  refine nT ?_
  refine T.seq ?_
  refine T.seq ?_
  refine xR [] (by kernel_rfl) (by kernel_rfl) ?_
  refine nT ?_
  by_cases hq1 : ((a.length : Nat) : Int) ≠ ((b.length : Nat) : Int)
  · refine T.condT (by kernel_rfl) (decide_eq_true hq1) ?_
    refine T.seq ?_
    refine xR [] (by kernel_rfl) (by kernel_rfl) ?_
    refine nT ?_
    refine T.ret ?_
    refine rT ?_
    exact tE (.inl rfl) [.t 4 (.one (.d (.val (.bool false))))] ⟨⟨rfl, by kernel_rfl⟩, trivial⟩ [] (by have e1 : ((decide (a = b)) : Bool) = false := (by first | exact decide_eq_true (rows_eq (z := z_api_Step) (k := k) hab (by omega) hb) | exact (decide_eq_true (rows_eq (z := z_api_Step) (k := k) hab (by omega) hb)).symm | exact decide_eq_false (fun e => by have h9 : a.length ≠ b.length := (by omega); exact h9 (by rw [e])) | exact (decide_eq_false (fun e => by have h9 : a.length ≠ b.length := (by omega); exact h9 (by rw [e]))).symm | exact decide_eq_false (fun e => by have h9 : a.getD k z_api_Step ≠ b.getD k z_api_Step := (by assumption); exact h9 (by rw [e])) | exact (decide_eq_false (fun e => by have h9 : a.getD k z_api_Step ≠ b.getD k z_api_Step := (by assumption); exact h9 (by rw [e]))).symm); have hE := congrArg (fun (q1 : Bool) => (dv (.bool q1) : AV)) e1; exact hE) rfl rfl rfl rfl rfl trivial
  · refine T.condF (by kernel_rfl) (decide_eq_false hq1) ?_
    refine T.skip ?_
    refine nT ?_
    refine T.seq ?_
    refine T.seq ?_
    refine xR [] (by kernel_rfl) (by kernel_rfl) ?_
    refine nT ?_
    refine T.block ?_
    refine T.loop (ι := Nat) (fun (k : Nat) => ⟨[slV ta na (k_api_Step sa) a, slV tb nb (k_api_Step sb) b, aa, aa, dv (.bool false), dv (.int .i64 ((k : Nat) : Int)), aa, aa, aa, aa, dv (.bool (decide (((a.length : Nat) : Int) ≠ ((b.length : Nat) : Int))))], []⟩) (fun (k : Nat) => (k ≤ a.length) ∧ (a.length = b.length) ∧ (∀ j, j < k → a.getD j z_api_Step = b.getD j z_api_Step)) (fun (k : Nat) => a.length - k) (0) ⟨(Nat.zero_le _), (by omega), (fun j hj => absurd hj (Nat.not_lt_zero _))⟩ (fun _ _ hG => Gs.into2 (s' := ⟨[slV ta na (k_api_Step sa) a, slV tb nb (k_api_Step sb) b, aa, aa, dv (.bool false), dv (.int .i64 0), aa, aa, aa, aa, dv (.bool (decide (((a.length : Nat) : Int) ≠ ((b.length : Nat) : Int))))], []⟩) [] (bm 11 1075) (t1 := [slV ta na (k_api_Step sa) a, slV tb nb (k_api_Step sb) b, aa, aa, dv (.bool false), dv (.int .i64 0), aa, aa, aa, aa, dv (.bool (decide (((a.length : Nat) : Int) ≠ ((b.length : Nat) : Int))))]) (h1 := []) rfl rfl (by kernel_rfl) (by kernel_rfl) (by kernel_rfl) (by kernel_rfl) (by kernel_rfl) (by kernel_rfl) (by kernel_rfl) (by kernel_rfl) (by kernel_rfl) (by kernel_rfl) (by kernel_rfl) hG) ?_
    rintro k ⟨hk, hab, hb⟩
    show T _ _ ⟨[slV ta na (k_api_Step sa) a, slV tb nb (k_api_Step sb) b, aa, aa, dv (.bool false), dv (.int .i64 ((k : Nat) : Int)), aa, aa, aa, aa, dv (.bool (decide (((a.length : Nat) : Int) ≠ ((b.length : Nat) : Int))))], []⟩ _ _
    replace hk : k ≤ a.length := hk
    replace hab : a.length = b.length := hab
    replace hb : ∀ j, j < k → a.getD j z_api_Step = b.getD j z_api_Step := hb
    refine T.seq ?_
    refine T.seq ?_
    refine xR [] (by kernel_rfl) (by kernel_rfl) ?_
    refine nT ?_
    by_cases hq2 : ((k : Nat) : Int) < ((a.length : Nat) : Int)
    · refine T.condT (by kernel_rfl) (decide_eq_true hq2) ?_
      refine T.skip ?_
      refine nT ?_
      refine T.seq ?_
      refine T.block ?_
      refine T.seq ?_
      refine xD [[], [], [0, 1], [0, 1, 2], [], [], [4, 5], [4, 5, 6], [0, 1, 2, 3, 4, 5, 6, 7]] [hR 2 rfl rfl (q_index ta na (k_api_Step sa) a k (k := .i64) (i := ((k : Nat) : Int)) Try.underlying42 iat_67 rfl rfl (by first | assumption | omega | (unfold maxLen; omega) | (simp [maxLen, -List.getD_eq_getElem?_getD] <;> omega) | decide) (lt_of rfl) trivial),
        hR 6 rfl rfl (q_index tb nb (k_api_Step sb) b k (k := .i64) (i := ((k : Nat) : Int)) Try.underlying42 iat_67 rfl rfl (by first | assumption | omega | (unfold maxLen; omega) | (simp [maxLen, -List.getD_eq_getElem?_getD] <;> omega) | decide) (lt_of rfl) trivial),
        hR 8 rfl rfl (r_neSt (ax := .tv (.agg [.d (.val (.bool (a.getD k z_api_Step).f_Left)), .d (.val (strV (a.getD k z_api_Step).f_Digest))])) (ay := .tv (.agg [.d (.val (.bool (b.getD k z_api_Step).f_Left)), .d (.val (strV (b.getD k z_api_Step).f_Digest))])) (a := (a.getD k z_api_Step)) (b := (b.getD k z_api_Step)) seq_67 ⟨[.bool (a.getD k z_api_Step).f_Left, strV (a.getD k z_api_Step).f_Digest], rfl, rfl⟩ ⟨[.bool (b.getD k z_api_Step).f_Left, strV (b.getD k z_api_Step).f_Digest], rfl, rfl⟩ (lt_of rfl) trivial)] (by kernel_rfl) (by kernel_rfl) (by kernel_rfl) (by kernel_rfl) (by kernel_rfl) (by kernel_rfl) ?_
      refine nT ?_
      by_cases hq3 : (a.getD k z_api_Step) ≠ (b.getD k z_api_Step)
      · refine T.condT (by kernel_rfl) (decide_eq_true hq3) ?_
        refine T.seq ?_
        refine xR [] (by kernel_rfl) (by kernel_rfl) ?_
        refine nT ?_
        refine T.ret ?_
        refine rB ?_
        refine rT ?_
        refine rT ?_
        refine rB ?_
        refine rT ?_
        exact tE (.inl rfl) [.t 4 (.one (.d (.val (.bool false))))] ⟨⟨rfl, by kernel_rfl⟩, trivial⟩ [] (by have e1 : ((decide (a = b)) : Bool) = false := (by first | exact decide_eq_true (rows_eq (z := z_api_Step) (k := k) hab (by omega) hb) | exact (decide_eq_true (rows_eq (z := z_api_Step) (k := k) hab (by omega) hb)).symm | exact decide_eq_false (fun e => by have h9 : a.length ≠ b.length := (by omega); exact h9 (by rw [e])) | exact (decide_eq_false (fun e => by have h9 : a.length ≠ b.length := (by omega); exact h9 (by rw [e]))).symm | exact decide_eq_false (fun e => by have h9 : a.getD k z_api_Step ≠ b.getD k z_api_Step := (by assumption); exact h9 (by rw [e])) | exact (decide_eq_false (fun e => by have h9 : a.getD k z_api_Step ≠ b.getD k z_api_Step := (by assumption); exact h9 (by rw [e]))).symm); have hE := congrArg (fun (q1 : Bool) => (dv (.bool q1) : AV)) e1; exact hE) rfl rfl rfl rfl rfl trivial
      · refine T.condF (by kernel_rfl) (decide_eq_false hq3) ?_
        refine T.skip ?_
        refine nB ?_
        refine nT ?_
        refine xR [hR 1 rfl rfl (r_bin (u1 := .int .i64 ((k : Nat) : Int)) (u2 := .int .i64 1) (v := .int .i64 ((k + 1 : Nat) : Int)) (b_add (by rw [IntKind.wrap_i64]; omega)) (lt_of rfl) ⟨rfl, trivial⟩)] (by kernel_rfl) (by kernel_rfl) ?_
        refine nL (k + 1) ⟨(show (k + 1) ≤ a.length from (by omega)), (show a.length = b.length from hab), (show ∀ j, j < (k + 1) → a.getD j z_api_Step = b.getD j z_api_Step from (all_succ hb (by first | assumption | exact Classical.not_not.1 (by assumption))))⟩ (show (a.length - (k + 1) : Nat) < a.length - k from (by omega)) (fun _ _ hG => Gs.into2 (s' := ⟨[slV ta na (k_api_Step sa) a, slV tb nb (k_api_Step sb) b, aa, aa, dv (.bool false), dv (.int .i64 ((k + 1 : Nat) : Int)), aa, aa, aa, aa, dv (.bool (decide (((a.length : Nat) : Int) ≠ ((b.length : Nat) : Int))))], []⟩) [] (bm 11 1075) (t1 := [slV ta na (k_api_Step sa) a, slV tb nb (k_api_Step sb) b, aa, aa, dv (.bool false), dv (.int .i64 ((k + 1 : Nat) : Int)), aa, aa, aa, aa, dv (.bool (decide (((a.length : Nat) : Int) ≠ ((b.length : Nat) : Int))))]) (h1 := []) rfl rfl (by kernel_rfl) (by kernel_rfl) (by kernel_rfl) (by kernel_rfl) (by kernel_rfl) (by kernel_rfl) (by kernel_rfl) (by kernel_rfl) (by kernel_rfl) (by kernel_rfl) (by kernel_rfl) hG)
    · refine T.condF (by kernel_rfl) (decide_eq_false hq2) ?_
      refine T.exit ?_
      refine xT ?_
      refine xT ?_
      refine xH ?_
      refine nT ?_
      refine T.seq ?_
      refine xR [] (by kernel_rfl) (by kernel_rfl) ?_
      refine nT ?_
      refine T.ret ?_
      exact tE (.inl rfl) [.t 4 (.one (.d (.val (.bool true))))] ⟨⟨rfl, by kernel_rfl⟩, trivial⟩ [] (by have e1 : ((decide (a = b)) : Bool) = true := (by first | exact decide_eq_true (rows_eq (z := z_api_Step) (k := k) hab (by omega) hb) | exact (decide_eq_true (rows_eq (z := z_api_Step) (k := k) hab (by omega) hb)).symm | exact decide_eq_false (fun e => by have h9 : a.length ≠ b.length := (by omega); exact h9 (by rw [e])) | exact (decide_eq_false (fun e => by have h9 : a.length ≠ b.length := (by omega); exact h9 (by rw [e]))).symm | exact decide_eq_false (fun e => by have h9 : a.getD k z_api_Step ≠ b.getD k z_api_Step := (by assumption); exact h9 (by rw [e])) | exact (decide_eq_false (fun e => by have h9 : a.getD k z_api_Step ≠ b.getD k z_api_Step := (by assumption); exact h9 (by rw [e]))).symm); have hE := congrArg (fun (q1 : Bool) => (dv (.bool q1) : AV)) e1; exact hE) rfl rfl rfl rfl rfl trivial

theorem iat_3 : Try.prog.info? 3 = some Try.t3 := by kernel_rfl
theorem wide_3 : Wide Try.prog 3 none := ⟨_, Try.underlying3, (fun _ h => by cases h), (fun _ _ h => by cases h)⟩
-- quaestor/block.ints
theorem block_ints (tb : Bool) (nb : Bool) (b : List UInt8) (tl : Bool) (nl : Bool) (l : List Int) (hb : b.length ≤ 140737488350000) (hl : 1 ≤ l.length ∧ l.length ≤ 100) : Holds Try.prog 28 ⟨[slV tb nb kU8 b, slV tl nl (kInt .i64) l], [], ownV 0 kU8 0 (b ++ intsB l).length, [.live (arrK 5 kU8 (b ++ intsB l))]⟩ := by
  refine Holds.of Try.func28 rfl (N := 18) Try.ntmps28 rfl fun w0 B0 S0 U0 => ?_
  show T _ (mkBase 18 0 w0 S0 U0 B0) ⟨[slV tb nb kU8 b, slV tl nl (kInt .i64) l], []⟩ _ _
  refine T.seq ?_
  refine xR [] (by kernel_rfl) (by kernel_rfl) ?_
  refine nT ?_
  refine T.seq ?_
  refine T.seq ?_
  refine xR [] (by kernel_rfl) (by kernel_rfl) ?_
  refine nT ?_
  refine T.block ?_
  refine T.ofTL ?_
  refine TL.peel ?_
  refine T.seq ?_
  refine xR [] (by kernel_rfl) (by kernel_rfl) ?_
  refine nT ?_
  refine T.seq ?_
  by_cases hq1 : 0 < ((l.length : Nat) : Int)
  · refine T.condT (by kernel_rfl) (decide_eq_true hq1) ?_
    refine T.skip ?_
    refine nT ?_
    refine T.seq ?_
    refine T.block ?_
    refine T.seq ?_
    refine xR [hR 0 rfl rfl (q_index tl nl (kInt .i64) l 0 (k := .i64) (i := 0) Try.underlying77 iat_3 rfl rfl (by first | assumption | omega | (unfold maxLen; omega) | (simp [maxLen, -List.getD_eq_getElem?_getD] <;> omega) | decide) (lt_of rfl) trivial)] (by kernel_rfl) (by kernel_rfl) ?_
    refine nT ?_
    refine xR [hR 2 rfl rfl (r_call (wire_PutInt tb nb b (l.getD 0 0) (by first | assumption | omega | (unfold maxLen; omega) | (simp [maxLen, -List.getD_eq_getElem?_getD] <;> omega) | decide)) Try.func50 rfl (by decide) [0] [] (l := [(.tmp 13, slV tb nb kU8 b), (.tmp 14, dv (.int .i64 (l.getD 0 0)))]) [] rfl 0 1 rfl rfl rfl rfl rfl rfl rfl rfl rfl ⟨.inl ⟨rfl, rfl⟩, ⟨.inl ⟨rfl, rfl⟩, trivial⟩⟩ rfl (fun b hb => by cases hb) (.inl rfl) (lt_of rfl) trivial)] (by kernel_rfl) (by kernel_rfl) ?_
    refine nB ?_
    refine nT ?_
    refine xR [hR 0 rfl rfl (r_bin (u1 := .int .i64 0) (u2 := .int .i64 1) (v := .int .i64 1) (b_add (by rw [IntKind.wrap_i64]; omega)) (lt_of rfl) ⟨rfl, trivial⟩)] (by kernel_rfl) (by kernel_rfl) ?_
    refine nP ?_
    refine TL.loop (ι := Nat) (fun (k : Nat) => ⟨[ownV 0 kU8 0 (b ++ intsB (l.take k)).length, slV tl nl (kInt .i64) l, aa, aa, aa, aa, aa, slV tl nl (kInt .i64) l, dv (.int .i64 ((l.length : Nat) : Int)), dv (.int .i64 ((k : Nat) : Int))], [.live (arrK 5 kU8 (b ++ intsB (l.take k)))]⟩) (fun (k : Nat) => (1 ≤ k ∧ k ≤ l.length)) (fun (k : Nat) => l.length - k) (1) (by omega) (fun _ _ hG => Gs.into2 (s' := ⟨[ownV 0 kU8 0 (b ++ intsB (l.take 1)).length, slV tl nl (kInt .i64) l, aa, aa, aa, aa, aa, slV tl nl (kInt .i64) l, dv (.int .i64 ((l.length : Nat) : Int)), dv (.int .i64 1)], [.live (arrK 5 kU8 (b ++ intsB (l.take 1)))]⟩) [0] (bm 10 899) (t1 := [ownV 0 kU8 0 (b ++ intsB (l.take 1)).length, slV tl nl (kInt .i64) l, aa, aa, aa, aa, aa, slV tl nl (kInt .i64) l, dv (.int .i64 ((l.length : Nat) : Int)), dv (.int .i64 1)]) (t2 := [ownV 0 kU8 0 (b ++ intB (l.getD 0 0)).length, slV tl nl (kInt .i64) l, aa, aa, aa, aa, aa, slV tl nl (kInt .i64) l, dv (.int .i64 ((l.length : Nat) : Int)), dv (.int .i64 1)]) (h1 := [.live (arrK 5 kU8 (b ++ intsB (l.take 1)))]) (h2 := [.live (arrK 5 kU8 (b ++ intB (l.getD 0 0)))]) (by have e1 : ((b ++ intsB (l.take 1)).length : Nat) = (b ++ intB (l.getD 0 0)).length := (by first | rfl | (rw [ints_one (by omega)])); have hE := congrArg (fun (q1 : Nat) => ([ownV 0 kU8 0 q1, slV tl nl (kInt .i64) l, aa, aa, aa, aa, aa, slV tl nl (kInt .i64) l, dv (.int .i64 ((l.length : Nat) : Int)), dv (.int .i64 1)] : List AV)) e1; exact hE) (by have e1 : ((b ++ intsB (l.take 1)) : List UInt8) = b ++ intB (l.getD 0 0) := (by first | rfl | (rw [ints_one (by omega)])); have hE := congrArg (fun (q1 : List UInt8) => ([.live (arrK 5 kU8 q1)] : List HS)) e1; exact hE) (by kernel_rfl) (by kernel_rfl) (by kernel_rfl) (by kernel_rfl) (by kernel_rfl) (by kernel_rfl) (by kernel_rfl) (by kernel_rfl) (by kernel_rfl) (by kernel_rfl) (by kernel_rfl) hG) ?_
    rintro k hk
    show T _ _ ⟨[ownV 0 kU8 0 (b ++ intsB (l.take k)).length, slV tl nl (kInt .i64) l, aa, aa, aa, aa, aa, slV tl nl (kInt .i64) l, dv (.int .i64 ((l.length : Nat) : Int)), dv (.int .i64 ((k : Nat) : Int))], [.live (arrK 5 kU8 (b ++ intsB (l.take k)))]⟩ _ _
    replace hk : 1 ≤ k ∧ k ≤ l.length := hk
    have hil := ints_len (l.take k)
    have htk : (l.take k).length = k := (by rw [List.length_take]; omega)
    refine T.seq ?_
    refine xR [] (by kernel_rfl) (by kernel_rfl) ?_
    refine nT ?_
    refine T.seq ?_
    by_cases hq2 : ((k : Nat) : Int) < ((l.length : Nat) : Int)
    · refine T.condT (by kernel_rfl) (decide_eq_true hq2) ?_
      refine T.skip ?_
      refine nT ?_
      refine T.seq ?_
      refine T.block ?_
      refine T.seq ?_
      refine xR [hR 0 rfl rfl (q_index tl nl (kInt .i64) l k (k := .i64) (i := ((k : Nat) : Int)) Try.underlying77 iat_3 rfl rfl (by first | assumption | omega | (unfold maxLen; omega) | (simp [maxLen, -List.getD_eq_getElem?_getD] <;> omega) | decide) (lt_of rfl) trivial)] (by kernel_rfl) (by kernel_rfl) ?_
      refine nT ?_
      refine xR [hR 2 rfl rfl (r_call (wire_PutInt true false (b ++ intsB (l.take k)) (l.getD k 0) (by first | assumption | omega | (unfold maxLen; omega) | (simp [maxLen, -List.getD_eq_getElem?_getD] <;> omega) | decide)) Try.func50 rfl (by decide) [1] [0] (l := [(.tmp 13, ownV 0 kU8 0 (b ++ intsB (l.take k)).length), (.tmp 14, dv (.int .i64 (l.getD k 0)))]) [(0, .live (arrK 5 kU8 (b ++ intsB (l.take k))))] rfl 0 1 rfl rfl rfl rfl rfl rfl rfl rfl rfl ⟨.inr (.inl ⟨rfl, (fun h => by cases h), rfl, rfl, by simp, 5, (b ++ intsB (l.take k)).length, elOf kU8 (b ++ intsB (l.take k)), List.Mem.head _, by omega, fun i j => by rw [Nat.zero_add]⟩), ⟨.inl ⟨rfl, rfl⟩, trivial⟩⟩ rfl (by intro b hb; simp only [List.mem_cons, List.not_mem_nil, or_false] at hb; rcases hb with rfl; exact ⟨_, List.Mem.head _⟩) (.inr ⟨trivial, (And.intro (arr_nt kU8_nt) trivial)⟩) (lt_of rfl) trivial)] (by kernel_rfl) (by kernel_rfl) ?_
      refine nB ?_
      refine nT ?_
      refine xR [hR 0 rfl rfl (r_bin (u1 := .int .i64 ((k : Nat) : Int)) (u2 := .int .i64 1) (v := .int .i64 ((k + 1 : Nat) : Int)) (b_add (by rw [IntKind.wrap_i64]; omega)) (lt_of rfl) ⟨rfl, trivial⟩)] (by kernel_rfl) (by kernel_rfl) ?_
      refine nL (k + 1) (show 1 ≤ (k + 1) ∧ (k + 1) ≤ l.length from (by omega)) (show (l.length - (k + 1) : Nat) < l.length - k from (by omega)) (fun _ _ hG => Gs.into2 (s' := ⟨[ownV 0 kU8 0 (b ++ intsB (l.take (k + 1))).length, slV tl nl (kInt .i64) l, aa, aa, aa, aa, aa, slV tl nl (kInt .i64) l, dv (.int .i64 ((l.length : Nat) : Int)), dv (.int .i64 ((k + 1 : Nat) : Int))], [.live (arrK 5 kU8 (b ++ intsB (l.take (k + 1))))]⟩) [1] (bm 10 899) (t1 := [ownV 1 kU8 0 (b ++ intsB (l.take (k + 1))).length, slV tl nl (kInt .i64) l, aa, aa, aa, aa, aa, slV tl nl (kInt .i64) l, dv (.int .i64 ((l.length : Nat) : Int)), dv (.int .i64 ((k + 1 : Nat) : Int))]) (t2 := [ownV 1 kU8 0 ((b ++ intsB (l.take k)) ++ intB (l.getD k 0)).length, slV tl nl (kInt .i64) l, aa, aa, aa, aa, aa, slV tl nl (kInt .i64) l, dv (.int .i64 ((l.length : Nat) : Int)), dv (.int .i64 ((k + 1 : Nat) : Int))]) (h1 := [.live (arrK 5 kU8 (b ++ intsB (l.take (k + 1))))]) (h2 := [.live (arrK 5 kU8 ((b ++ intsB (l.take k)) ++ intB (l.getD k 0)))]) (by have e1 : ((b ++ intsB (l.take (k + 1))).length : Nat) = ((b ++ intsB (l.take k)) ++ intB (l.getD k 0)).length := (by first | rfl | (rw [ints_succ (by omega), List.append_assoc]) | (rw [ints_succ (by omega), ← List.append_assoc])); have hE := congrArg (fun (q1 : Nat) => ([ownV 1 kU8 0 q1, slV tl nl (kInt .i64) l, aa, aa, aa, aa, aa, slV tl nl (kInt .i64) l, dv (.int .i64 ((l.length : Nat) : Int)), dv (.int .i64 ((k + 1 : Nat) : Int))] : List AV)) e1; exact hE) (by have e1 : ((b ++ intsB (l.take (k + 1))) : List UInt8) = (b ++ intsB (l.take k)) ++ intB (l.getD k 0) := (by first | rfl | (rw [ints_succ (by omega), List.append_assoc]) | (rw [ints_succ (by omega), ← List.append_assoc])); have hE := congrArg (fun (q1 : List UInt8) => ([.live (arrK 5 kU8 q1)] : List HS)) e1; exact hE) (by kernel_rfl) (by kernel_rfl) (by kernel_rfl) (by kernel_rfl) (by kernel_rfl) (by kernel_rfl) (by kernel_rfl) (by kernel_rfl) (by kernel_rfl) (by kernel_rfl) (by kernel_rfl) hG)
    · refine T.condF (by kernel_rfl) (decide_eq_false hq2) ?_
      refine T.exit ?_
      refine xT ?_
      refine xT ?_
      refine xH ?_
      refine nT ?_
      refine T.seq ?_
      refine xR [] (by kernel_rfl) (by kernel_rfl) ?_
      refine nT ?_
      refine T.ret ?_
      exact tE (.inl rfl) [.t 4 (.one (.own 0 kU8.sz 0 (b ++ intsB (l.take k)).length))] ⟨⟨rfl, by kernel_rfl⟩, trivial⟩ [0] (by have e1 : ((b ++ intsB l).length : Nat) = (b ++ intsB (l.take k)).length := (by first | rfl | (have hke : l.take k = l := List.take_of_length_le (by omega); rw [hke])); have hE := congrArg (fun (q1 : Nat) => (ownV 0 kU8 0 q1 : AV)) e1; exact hE) rfl rfl rfl rfl rfl ⟨⟨rfl, (by have e1 : ((b ++ intsB (l.take k)) : List UInt8) = b ++ intsB l := (by first | rfl | (have hke : l.take k = l := List.take_of_length_le (by omega); rw [hke])); have hE := congrArg (fun (q1 : List UInt8) => (.live (arrK 5 kU8 q1) : HS)) e1; exact Eq.trans (by kernel_rfl) hE)⟩, trivial⟩
  · exact absurd (by omega) hq1

theorem fld_32_0 : FieldAt Try.prog 32 0 0 := ⟨_, _, _, Try.underlying32, rfl, iat_3, by decide, rfl⟩
theorem zero_3 : Zero Try.prog 3 [.int .i64 0] := ⟨_, _, iat_3, rfl, rfl⟩
theorem fld_32_1 : FieldAt Try.prog 32 1 1 := ⟨_, _, _, Try.underlying32, rfl, iat_29, by decide, rfl⟩
theorem iat_33 : Try.prog.info? 33 = some Try.t33 := by kernel_rfl
theorem fld_35_0 : FieldAt Try.prog 35 0 0 := ⟨_, _, _, Try.underlying35, rfl, iat_33, by decide, rfl⟩
theorem wide_33 : Wide Try.prog 33 none := ⟨_, Try.underlying33, (fun _ h => by cases h), (fun _ _ h => by cases h)⟩
theorem fld_35_1 : FieldAt Try.prog 35 1 1 := ⟨_, _, _, Try.underlying35, rfl, iat_3, by decide, rfl⟩
-- quaestor/block.Leaf
theorem block_Leaf (te : Bool) (e : api_Envelope) (r : api_Result) (hb : e.f_Body.length ≤ 100000000) : Holds Try.prog 10 ⟨[.tv (.agg [.d (.val (.int .i64 e.f_Signer)), .d (dsl te false kU8 e.f_Body)]), .tv (.agg [.d (.val (.int .i64 r.f_Code)), .d (.val (.int .i64 r.f_Stage))])], [], ownV 0 kU8 0 (leafB e r).length, [.live (arrK 5 kU8 (leafB e r))]⟩ := by
  refine Holds.of Try.func10 rfl (N := 18) Try.ntmps10 rfl fun w0 B0 S0 U0 => ?_
  show T _ (mkBase 18 0 w0 S0 U0 B0) ⟨[.tv (.agg [.d (.val (.int .i64 e.f_Signer)), .d (dsl te false kU8 e.f_Body)]), .tv (.agg [.d (.val (.int .i64 r.f_Code)), .d (.val (.int .i64 r.f_Stage))])], []⟩ _ _
  have hi1 := int_len e.f_Signer
  have hi2 : (intsB [e.f_Signer]).length = 8 := ints_len [e.f_Signer]
  have hi2n : (([] : List UInt8) ++ intsB [e.f_Signer]).length = 8 := ints_len [e.f_Signer]
  have hy := bytes_len e.f_Body
  refine T.seq ?_
  refine xR [] (by kernel_rfl) (by kernel_rfl) ?_
  refine nT ?_
  refine T.seq ?_
  refine xD [[], [0], [0, 1], [0, 1, 2], [], [4], [0, 1, 2, 3, 4, 5], [], [7], [], [9], [7, 8, 9, 10], [0, 1, 2, 3, 4, 5, 6, 7, 8, 9, 10, 11], [0, 1, 2, 3, 4, 5, 6, 7, 8, 9, 10, 11, 12]] [hR 2 rfl rfl (q_buildSlice 2 3 (kInt .i64) (kInt_ok .i64) [e.f_Signer] [⟨0, .tmp 6, .one (.d (.val (.int .i64 e.f_Signer))), 0⟩] (cs := [.d (.val (.int .i64 e.f_Signer))]) Try.underlying77 iat_3 rfl zero_3 rfl rfl rfl (Nat.le_of_ble_eq_true rfl) (part_cons rfl rfl (Nat.le_of_ble_eq_true rfl) part_ok) rfl ⟨(.inl rfl), trivial⟩ (lt_of rfl) trivial),
    hR 3 rfl rfl (r_call (block_ints false false ([] : List UInt8) true false [e.f_Signer] (by first | assumption | omega | (unfold maxLen; omega) | (simp [maxLen, -List.getD_eq_getElem?_getD] <;> omega) | decide) (by first | assumption | omega | (unfold maxLen; omega) | (simp [maxLen, -List.getD_eq_getElem?_getD] <;> omega) | decide)) Try.func28 rfl (by decide) [3] [2] (l := [(.const (.slice none 0 0), dv (.slice none 0 0)), (.tmp 7, ownV 2 (kInt .i64) 0 [e.f_Signer].length)]) [(2, .live (arrK 3 (kInt .i64) [e.f_Signer]))] rfl 0 1 rfl rfl rfl rfl rfl rfl rfl rfl rfl ⟨.inr (.inr ⟨rfl, rfl, rfl⟩), ⟨.inr (.inl ⟨rfl, (fun h => by cases h), rfl, rfl, by simp, 3, [e.f_Signer].length, elOf (kInt .i64) [e.f_Signer], List.Mem.head _, by omega, fun i j => by rw [Nat.zero_add]⟩), trivial⟩⟩ rfl (by intro b hb; simp only [List.mem_cons, List.not_mem_nil, or_false] at hb; rcases hb with rfl; exact ⟨_, List.Mem.head _⟩) (.inr ⟨trivial, (And.intro (arr_nt kU8_nt) trivial)⟩) (lt_of rfl) ⟨rfl, trivial⟩),
    hR 6 rfl rfl (r_call (wire_PutBytes true false (([] : List UInt8) ++ intsB [e.f_Signer]) te false e.f_Body (by first | assumption | omega | (unfold maxLen; omega) | (simp [maxLen, -List.getD_eq_getElem?_getD] <;> omega) | decide)) Try.func29 rfl (by decide) [4] [3] (l := [(.tmp 8, ownV 3 kU8 0 (([] : List UInt8) ++ intsB [e.f_Signer]).length), (.tmp 10, slV te false kU8 e.f_Body)]) [(3, .live (arrK 5 kU8 (([] : List UInt8) ++ intsB [e.f_Signer])))] rfl 0 1 rfl rfl rfl rfl rfl rfl rfl rfl rfl ⟨.inr (.inl ⟨rfl, (fun h => by cases h), rfl, rfl, by simp, 5, (([] : List UInt8) ++ intsB [e.f_Signer]).length, elOf kU8 (([] : List UInt8) ++ intsB [e.f_Signer]), List.Mem.head _, by omega, fun i j => by rw [Nat.zero_add]⟩), ⟨.inl ⟨rfl, rfl⟩, trivial⟩⟩ rfl (by intro b hb; simp only [List.mem_cons, List.not_mem_nil, or_false] at hb; rcases hb with rfl; exact ⟨_, List.Mem.head _⟩) (.inr ⟨trivial, (And.intro (arr_nt kU8_nt) trivial)⟩) (lt_of rfl) trivial),
    hR 11 rfl rfl (q_buildSlice 5 3 (kInt .i64) (kInt_ok .i64) [r.f_Code, r.f_Stage] [⟨0, .tmp 13, .one (.d (.val (.int .i64 r.f_Code))), 0⟩, ⟨1, .tmp 15, .one (.d (.val (.int .i64 r.f_Stage))), 1⟩] (cs := [.d (.val (.int .i64 r.f_Code)), .d (.val (.int .i64 r.f_Stage))]) Try.underlying77 iat_3 rfl zero_3 rfl rfl rfl (Nat.le_of_ble_eq_true rfl) (part_cons rfl rfl (Nat.le_of_ble_eq_true rfl) (part_cons rfl rfl (Nat.le_of_ble_eq_true rfl) part_ok)) rfl ⟨(.inl rfl), ⟨(.inl rfl), trivial⟩⟩ (lt_of rfl) trivial),
    hR 12 rfl rfl (r_call (block_ints true false (([] : List UInt8) ++ intsB [e.f_Signer] ++ bytesB e.f_Body) true false [r.f_Code, r.f_Stage] (by first | assumption | omega | (unfold maxLen; omega) | (simp [maxLen, -List.getD_eq_getElem?_getD] <;> omega) | decide) (by first | assumption | omega | (unfold maxLen; omega) | (simp [maxLen, -List.getD_eq_getElem?_getD] <;> omega) | decide)) Try.func28 rfl (by decide) [6] [4, 5] (l := [(.tmp 11, ownV 4 kU8 0 (([] : List UInt8) ++ intsB [e.f_Signer] ++ bytesB e.f_Body).length), (.tmp 16, ownV 5 (kInt .i64) 0 [r.f_Code, r.f_Stage].length)]) [(4, .live (arrK 5 kU8 (([] : List UInt8) ++ intsB [e.f_Signer] ++ bytesB e.f_Body))), (5, .live (arrK 3 (kInt .i64) [r.f_Code, r.f_Stage]))] rfl 0 1 rfl rfl rfl rfl rfl rfl rfl rfl rfl ⟨.inr (.inl ⟨rfl, (fun h => by cases h), rfl, rfl, by simp, 5, (([] : List UInt8) ++ intsB [e.f_Signer] ++ bytesB e.f_Body).length, elOf kU8 (([] : List UInt8) ++ intsB [e.f_Signer] ++ bytesB e.f_Body), List.Mem.head _, by omega, fun i j => by rw [Nat.zero_add]⟩), ⟨.inr (.inl ⟨rfl, (fun h => by cases h), rfl, rfl, by simp, 3, [r.f_Code, r.f_Stage].length, elOf (kInt .i64) [r.f_Code, r.f_Stage], List.Mem.tail _ (List.Mem.head _), by omega, fun i j => by rw [Nat.zero_add]⟩), trivial⟩⟩ rfl (by intro b hb; simp only [List.mem_cons, List.not_mem_nil, or_false] at hb; rcases hb with rfl | rfl; exact ⟨_, List.Mem.head _⟩; exact ⟨_, List.Mem.tail _ (List.Mem.head _)⟩) (.inr ⟨trivial, (And.intro (arr_nt kU8_nt) trivial)⟩) (lt_of rfl) trivial)] (by kernel_rfl) (by kernel_rfl) (by kernel_rfl) (by kernel_rfl) (by kernel_rfl) (by kernel_rfl) ?_
  refine nT ?_
  refine T.ret ?_
  exact tE (.inl rfl) [.t 4 (.one (.own 6 kU8.sz 0 (([] : List UInt8) ++ intsB [e.f_Signer] ++ bytesB e.f_Body ++ intsB [r.f_Code, r.f_Stage]).length))] ⟨⟨rfl, by kernel_rfl⟩, trivial⟩ [6] (by have e1 : ((leafB e r).length : Nat) = (([] : List UInt8) ++ intsB [e.f_Signer] ++ bytesB e.f_Body ++ intsB [r.f_Code, r.f_Stage]).length := (by first | rfl | (simp [leafB, intsB]; done)); have hE := congrArg (fun (q1 : Nat) => (ownV 6 kU8 0 q1 : AV)) e1; exact hE) rfl rfl rfl rfl rfl ⟨⟨rfl, (by have e1 : (([] : List UInt8) ++ intsB [e.f_Signer] ++ bytesB e.f_Body ++ intsB [r.f_Code, r.f_Stage] : List UInt8) = leafB e r := (by first | rfl | (simp [leafB, intsB]; done)); have hE := congrArg (fun (q1 : List UInt8) => (.live (arrK 5 kU8 q1) : HS)) e1; exact Eq.trans (by kernel_rfl) hE)⟩, trivial⟩

-- quaestor/quaestorref10.Leaf
theorem ref10_Leaf (te : Bool) (e : api_Envelope) (r : api_Result) (hb : e.f_Body.length ≤ 100000000) : Holds Try.prog 11 ⟨[.tv (.agg [.d (.val (.int .i64 e.f_Signer)), .d (dsl te false kU8 e.f_Body)]), .tv (.agg [.d (.val (.int .i64 r.f_Code)), .d (.val (.int .i64 r.f_Stage))])], [], ownV 0 kU8 0 (leafB e r).length, [.live (arrK 5 kU8 (leafB e r))]⟩ := by
  refine Holds.of Try.func11 rfl (N := 19) Try.ntmps11 rfl fun w0 B0 S0 U0 => ?_
  show T _ (mkBase 19 0 w0 S0 U0 B0) ⟨[.tv (.agg [.d (.val (.int .i64 e.f_Signer)), .d (dsl te false kU8 e.f_Body)]), .tv (.agg [.d (.val (.int .i64 r.f_Code)), .d (.val (.int .i64 r.f_Stage))])], []⟩ _ _
  have hi1 := int_len e.f_Signer
  have hi2 := int_len r.f_Code
  have hy := bytes_len e.f_Body
  refine T.seq ?_
  refine xR [] (by kernel_rfl) (by kernel_rfl) ?_
  refine nT ?_
  refine T.seq ?_
  refine xD [[], [0], [0, 1], [], [3], [0, 1, 2, 3, 4], [0, 1, 2, 3, 4, 5]] [hR 2 rfl rfl (r_call (ref01_Int false false ([] : List UInt8) e.f_Signer (by first | assumption | omega | (unfold maxLen; omega) | (simp [maxLen, -List.getD_eq_getElem?_getD] <;> omega) | decide)) Try.func31 rfl (by decide) [2] [] (l := [(.const (.slice none 0 0), dv (.slice none 0 0)), (.tmp 7, dv (.int .i64 e.f_Signer))]) [] rfl 0 1 rfl rfl rfl rfl rfl rfl rfl rfl rfl ⟨.inr (.inr ⟨rfl, rfl, rfl⟩), ⟨.inl ⟨rfl, rfl⟩, trivial⟩⟩ rfl (fun b hb => by cases hb) (.inl rfl) (lt_of rfl) ⟨rfl, trivial⟩),
    hR 5 rfl rfl (r_call (ref01_Bytes true false (([] : List UInt8) ++ intB e.f_Signer) te false e.f_Body (by first | assumption | omega | (unfold maxLen; omega) | (simp [maxLen, -List.getD_eq_getElem?_getD] <;> omega) | decide)) Try.func30 rfl (by decide) [3] [2] (l := [(.tmp 8, ownV 2 kU8 0 (([] : List UInt8) ++ intB e.f_Signer).length), (.tmp 10, slV te false kU8 e.f_Body)]) [(2, .live (arrK 5 kU8 (([] : List UInt8) ++ intB e.f_Signer)))] rfl 0 1 rfl rfl rfl rfl rfl rfl rfl rfl rfl ⟨.inr (.inl ⟨rfl, (fun h => by cases h), rfl, rfl, by simp, 5, (([] : List UInt8) ++ intB e.f_Signer).length, elOf kU8 (([] : List UInt8) ++ intB e.f_Signer), List.Mem.head _, by omega, fun i j => by rw [Nat.zero_add]⟩), ⟨.inl ⟨rfl, rfl⟩, trivial⟩⟩ rfl (by intro b hb; simp only [List.mem_cons, List.not_mem_nil, or_false] at hb; rcases hb with rfl; exact ⟨_, List.Mem.head _⟩) (.inr ⟨trivial, (And.intro (arr_nt kU8_nt) trivial)⟩) (lt_of rfl) trivial)] (by kernel_rfl) (by kernel_rfl) (by kernel_rfl) (by kernel_rfl) (by kernel_rfl) (by kernel_rfl) ?_
  refine nT ?_
  refine T.seq ?_
  refine xD [[], [], [1], [0, 1, 2], [], [4], [0, 1, 2, 3, 4, 5], [0, 1, 2, 3, 4, 5, 6]] [hR 3 rfl rfl (r_call (ref01_Int true false (([] : List UInt8) ++ intB e.f_Signer ++ bytesB e.f_Body) r.f_Code (by first | assumption | omega | (unfold maxLen; omega) | (simp [maxLen, -List.getD_eq_getElem?_getD] <;> omega) | decide)) Try.func31 rfl (by decide) [4] [3] (l := [(.tmp 12, ownV 3 kU8 0 (([] : List UInt8) ++ intB e.f_Signer ++ bytesB e.f_Body).length), (.tmp 14, dv (.int .i64 r.f_Code))]) [(3, .live (arrK 5 kU8 (([] : List UInt8) ++ intB e.f_Signer ++ bytesB e.f_Body)))] rfl 0 1 rfl rfl rfl rfl rfl rfl rfl rfl rfl ⟨.inr (.inl ⟨rfl, (fun h => by cases h), rfl, rfl, by simp, 5, (([] : List UInt8) ++ intB e.f_Signer ++ bytesB e.f_Body).length, elOf kU8 (([] : List UInt8) ++ intB e.f_Signer ++ bytesB e.f_Body), List.Mem.head _, by omega, fun i j => by rw [Nat.zero_add]⟩), ⟨.inl ⟨rfl, rfl⟩, trivial⟩⟩ rfl (by intro b hb; simp only [List.mem_cons, List.not_mem_nil, or_false] at hb; rcases hb with rfl; exact ⟨_, List.Mem.head _⟩) (.inr ⟨trivial, (And.intro (arr_nt kU8_nt) trivial)⟩) (lt_of rfl) trivial),
    hR 6 rfl rfl (r_call (ref01_Int true false (([] : List UInt8) ++ intB e.f_Signer ++ bytesB e.f_Body ++ intB r.f_Code) r.f_Stage (by first | assumption | omega | (unfold maxLen; omega) | (simp [maxLen, -List.getD_eq_getElem?_getD] <;> omega) | decide)) Try.func31 rfl (by decide) [5] [4] (l := [(.tmp 15, ownV 4 kU8 0 (([] : List UInt8) ++ intB e.f_Signer ++ bytesB e.f_Body ++ intB r.f_Code).length), (.tmp 17, dv (.int .i64 r.f_Stage))]) [(4, .live (arrK 5 kU8 (([] : List UInt8) ++ intB e.f_Signer ++ bytesB e.f_Body ++ intB r.f_Code)))] rfl 0 1 rfl rfl rfl rfl rfl rfl rfl rfl rfl ⟨.inr (.inl ⟨rfl, (fun h => by cases h), rfl, rfl, by simp, 5, (([] : List UInt8) ++ intB e.f_Signer ++ bytesB e.f_Body ++ intB r.f_Code).length, elOf kU8 (([] : List UInt8) ++ intB e.f_Signer ++ bytesB e.f_Body ++ intB r.f_Code), List.Mem.head _, by omega, fun i j => by rw [Nat.zero_add]⟩), ⟨.inl ⟨rfl, rfl⟩, trivial⟩⟩ rfl (by intro b hb; simp only [List.mem_cons, List.not_mem_nil, or_false] at hb; rcases hb with rfl; exact ⟨_, List.Mem.head _⟩) (.inr ⟨trivial, (And.intro (arr_nt kU8_nt) trivial)⟩) (lt_of rfl) trivial)] (by kernel_rfl) (by kernel_rfl) (by kernel_rfl) (by kernel_rfl) (by kernel_rfl) (by kernel_rfl) ?_
  refine nT ?_
  refine T.ret ?_
  exact tE (.inl rfl) [.t 4 (.one (.own 5 kU8.sz 0 (([] : List UInt8) ++ intB e.f_Signer ++ bytesB e.f_Body ++ intB r.f_Code ++ intB r.f_Stage).length))] ⟨⟨rfl, by kernel_rfl⟩, trivial⟩ [5] (by have e1 : ((leafB e r).length : Nat) = (([] : List UInt8) ++ intB e.f_Signer ++ bytesB e.f_Body ++ intB r.f_Code ++ intB r.f_Stage).length := (by first | rfl | (simp [leafB]; done)); have hE := congrArg (fun (q1 : Nat) => (ownV 5 kU8 0 q1 : AV)) e1; exact hE) rfl rfl rfl rfl rfl ⟨⟨rfl, (by have e1 : (([] : List UInt8) ++ intB e.f_Signer ++ bytesB e.f_Body ++ intB r.f_Code ++ intB r.f_Stage : List UInt8) = leafB e r := (by first | rfl | (simp [leafB]; done)); have hE := congrArg (fun (q1 : List UInt8) => (.live (arrK 5 kU8 q1) : HS)) e1; exact Eq.trans (by kernel_rfl) hE)⟩, trivial⟩

theorem fld_26_0 : FieldAt Try.prog 26 0 0 := ⟨_, _, _, Try.underlying26, rfl, iat_3, by decide, rfl⟩
theorem iat_23 : Try.prog.info? 23 = some Try.t23 := by kernel_rfl
theorem fld_26_2 : FieldAt Try.prog 26 2 2 := ⟨_, _, _, Try.underlying26, rfl, iat_23, by decide, rfl⟩
theorem wide_23 : Wide Try.prog 23 none := ⟨_, Try.underlying23, (fun _ h => by cases h), (fun _ _ h => by cases h)⟩
theorem iat_24 : Try.prog.info? 24 = some Try.t24 := by kernel_rfl
theorem fld_26_3 : FieldAt Try.prog 26 3 3 := ⟨_, _, _, Try.underlying26, rfl, iat_24, by decide, rfl⟩
theorem wide_24 : Wide Try.prog 24 none := ⟨_, Try.underlying24, (fun _ h => by cases h), (fun _ _ h => by cases h)⟩
-- quaestor/block.Check
theorem block_Check (tb_ : Bool) (b : api_Block) (hq : b.f_Requests.length ≤ 9223372036854775807) (hr : b.f_Results.length ≤ 9223372036854775807) : Holds Try.prog 14 ⟨[.tv (.agg [.d (.val (.int .i64 b.f_Height)), .d (.val (strV b.f_Prev)), .d (dsl tb_ false (k_api_Envelope tb_) b.f_Requests), .d (dsl tb_ false (k_api_Result tb_) b.f_Results)])], [], dv (.int .i64 (chkB b)), []⟩ := by
  refine Holds.of Try.func14 rfl (N := 26) Try.ntmps14 rfl fun w0 B0 S0 U0 => ?_
  show T _ (mkBase 26 0 w0 S0 U0 B0) ⟨[.tv (.agg [.d (.val (.int .i64 b.f_Height)), .d (.val (strV b.f_Prev)), .d (dsl tb_ false (k_api_Envelope tb_) b.f_Requests), .d (dsl tb_ false (k_api_Result tb_) b.f_Results)])], []⟩ _ _
  refine T.seq ?_
  refine xR [] (by kernel_rfl) (by kernel_rfl) ?_
  refine nT ?_
  refine T.seq ?_
  refine T.block ?_
  refine T.seq ?_
  by_cases hq1 : b.f_Height < 1
  · refine xR [hN 4 false (decide_eq_true hq1),
      hN 5 false (decide_eq_true hq1),
      hN 6 false (decide_eq_true hq1),
      hP 7 (decide_eq_true hq1)] (by kernel_rfl) (by kernel_rfl) ?_
    refine nT ?_
    refine T.condT (b := true) (by kernel_rfl) rfl ?_
    refine T.seq ?_
    refine xR [] (by kernel_rfl) (by kernel_rfl) ?_
    refine nT ?_
    refine T.ret ?_
    refine rB ?_
    refine rT ?_
    exact tE (.inl rfl) [.t 2 (.one (.d (.val (.int .i64 100))))] ⟨⟨rfl, by kernel_rfl⟩, trivial⟩ [] (by have e1 : ((chkB b) : Int) = 100 := (by first | rfl | (unfold chkB; first | rw [if_pos (by omega)] | (rw [if_neg (by omega)]; first | rw [if_pos (by omega)] | rw [if_neg (by omega)]))); have hE := congrArg (fun (q1 : Int) => (dv (.int .i64 q1) : AV)) e1; exact hE) rfl rfl rfl rfl rfl trivial
  · refine xR [hY 4 (decide_eq_false hq1),
      hY 5 (decide_eq_false hq1),
      hY 6 (decide_eq_false hq1),
      hP 7 (decide_eq_false hq1)] (by kernel_rfl) (by kernel_rfl) ?_
    refine nT ?_
    by_cases hq2 : b.f_Height > 1099511627776
    · refine T.condT (by kernel_rfl) (decide_eq_true hq2) ?_
      refine T.seq ?_
      refine xR [] (by kernel_rfl) (by kernel_rfl) ?_
      refine nT ?_
      refine T.ret ?_
      refine rB ?_
      refine rT ?_
      exact tE (.inl rfl) [.t 2 (.one (.d (.val (.int .i64 100))))] ⟨⟨rfl, by kernel_rfl⟩, trivial⟩ [] (by have e1 : ((chkB b) : Int) = 100 := (by first | rfl | (unfold chkB; first | rw [if_pos (by omega)] | (rw [if_neg (by omega)]; first | rw [if_pos (by omega)] | rw [if_neg (by omega)]))); have hE := congrArg (fun (q1 : Int) => (dv (.int .i64 q1) : AV)) e1; exact hE) rfl rfl rfl rfl rfl trivial
    · refine T.condF (by kernel_rfl) (decide_eq_false hq2) ?_
      refine T.seq ?_
      by_cases hq3 : ((b.f_Requests.length : Nat) : Int) ≠ ((b.f_Results.length : Nat) : Int)
      · refine xR [hN 8 false (decide_eq_true hq3),
          hN 9 false (decide_eq_true hq3),
          hN 10 false (decide_eq_true hq3),
          hN 11 false (decide_eq_true hq3),
          hP 12 (decide_eq_true hq3)] (by kernel_rfl) (by kernel_rfl) ?_
        refine nT ?_
        refine T.condT (b := true) (by kernel_rfl) rfl ?_
        refine T.seq ?_
        refine xR [] (by kernel_rfl) (by kernel_rfl) ?_
        refine nT ?_
        refine T.ret ?_
        refine rB ?_
        refine rT ?_
        exact tE (.inl rfl) [.t 2 (.one (.d (.val (.int .i64 102))))] ⟨⟨rfl, by kernel_rfl⟩, trivial⟩ [] (by have e1 : ((chkB b) : Int) = 102 := (by first | rfl | (unfold chkB; first | rw [if_pos (by omega)] | (rw [if_neg (by omega)]; first | rw [if_pos (by omega)] | rw [if_neg (by omega)]))); have hE := congrArg (fun (q1 : Int) => (dv (.int .i64 q1) : AV)) e1; exact hE) rfl rfl rfl rfl rfl trivial
      · refine xR [hY 8 (decide_eq_false hq3),
          hY 9 (decide_eq_false hq3),
          hY 10 (decide_eq_false hq3),
          hY 11 (decide_eq_false hq3),
          hP 12 (decide_eq_false hq3)] (by kernel_rfl) (by kernel_rfl) ?_
        refine nT ?_
        by_cases hq4 : ((b.f_Results.length : Nat) : Int) > 4
        · refine T.condT (by kernel_rfl) (decide_eq_true hq4) ?_
          refine T.seq ?_
          refine xR [] (by kernel_rfl) (by kernel_rfl) ?_
          refine nT ?_
          refine T.ret ?_
          refine rB ?_
          refine rT ?_
          exact tE (.inl rfl) [.t 2 (.one (.d (.val (.int .i64 102))))] ⟨⟨rfl, by kernel_rfl⟩, trivial⟩ [] (by have e1 : ((chkB b) : Int) = 102 := (by first | rfl | (unfold chkB; first | rw [if_pos (by omega)] | (rw [if_neg (by omega)]; first | rw [if_pos (by omega)] | rw [if_neg (by omega)]))); have hE := congrArg (fun (q1 : Int) => (dv (.int .i64 q1) : AV)) e1; exact hE) rfl rfl rfl rfl rfl trivial
        · refine T.condF (by kernel_rfl) (decide_eq_false hq4) ?_
          refine T.skip ?_
          refine nB ?_
          refine nT ?_
          refine T.seq ?_
          refine xR [] (by kernel_rfl) (by kernel_rfl) ?_
          refine nT ?_
          refine T.ret ?_
          exact tE (.inl rfl) [.t 2 (.one (.d (.val (.int .i64 0))))] ⟨⟨rfl, by kernel_rfl⟩, trivial⟩ [] (by have e1 : ((chkB b) : Int) = 0 := (by first | rfl | (unfold chkB; first | rw [if_pos (by omega)] | (rw [if_neg (by omega)]; first | rw [if_pos (by omega)] | rw [if_neg (by omega)]))); have hE := congrArg (fun (q1 : Int) => (dv (.int .i64 q1) : AV)) e1; exact hE) rfl rfl rfl rfl rfl trivial

-- quaestor/quaestorref10.Check
theorem ref10_Check (tb_ : Bool) (b : api_Block) (hq : b.f_Requests.length ≤ 9223372036854775807) (hr : b.f_Results.length ≤ 9223372036854775807) : Holds Try.prog 15 ⟨[.tv (.agg [.d (.val (.int .i64 b.f_Height)), .d (.val (strV b.f_Prev)), .d (dsl tb_ false (k_api_Envelope tb_) b.f_Requests), .d (dsl tb_ false (k_api_Result tb_) b.f_Results)])], [], dv (.int .i64 (chkB b)), []⟩ := by
  refine Holds.of Try.func15 rfl (N := 24) Try.ntmps15 rfl fun w0 B0 S0 U0 => ?_
  show T _ (mkBase 24 0 w0 S0 U0 B0) ⟨[.tv (.agg [.d (.val (.int .i64 b.f_Height)), .d (.val (strV b.f_Prev)), .d (dsl tb_ false (k_api_Envelope tb_) b.f_Requests), .d (dsl tb_ false (k_api_Result tb_) b.f_Results)])], []⟩ _ _
  refine T.seq ?_
  refine xR [] (by kernel_rfl) (by kernel_rfl) ?_
  refine nT ?_
  refine T.seq ?_
  refine T.seq ?_
  by_cases hq1 : b.f_Height < 1
  · refine xR [hN 4 false (decide_eq_true hq1),
      hN 5 false (decide_eq_true hq1),
      hN 6 false (decide_eq_true hq1),
      hP 7 (decide_eq_true hq1)] (by kernel_rfl) (by kernel_rfl) ?_
    refine nT ?_
    refine T.condT (b := true) (by kernel_rfl) rfl ?_
    refine T.seq ?_
    refine xR [] (by kernel_rfl) (by kernel_rfl) ?_
    refine nT ?_
    refine T.ret ?_
    refine rT ?_
    exact tE (.inl rfl) [.t 2 (.one (.d (.val (.int .i64 100))))] ⟨⟨rfl, by kernel_rfl⟩, trivial⟩ [] (by have e1 : ((chkB b) : Int) = 100 := (by first | rfl | (unfold chkB; first | rw [if_pos (by omega)] | (rw [if_neg (by omega)]; first | rw [if_pos (by omega)] | rw [if_neg (by omega)]))); have hE := congrArg (fun (q1 : Int) => (dv (.int .i64 q1) : AV)) e1; exact hE) rfl rfl rfl rfl rfl trivial
  · refine xR [hY 4 (decide_eq_false hq1),
      hY 5 (decide_eq_false hq1),
      hY 6 (decide_eq_false hq1),
      hP 7 (decide_eq_false hq1)] (by kernel_rfl) (by kernel_rfl) ?_
    refine nT ?_
    by_cases hq2 : b.f_Height > 1099511627776
    · refine T.condT (by kernel_rfl) (decide_eq_true hq2) ?_
      refine T.seq ?_
      refine xR [] (by kernel_rfl) (by kernel_rfl) ?_
      refine nT ?_
      refine T.ret ?_
      refine rT ?_
      exact tE (.inl rfl) [.t 2 (.one (.d (.val (.int .i64 100))))] ⟨⟨rfl, by kernel_rfl⟩, trivial⟩ [] (by have e1 : ((chkB b) : Int) = 100 := (by first | rfl | (unfold chkB; first | rw [if_pos (by omega)] | (rw [if_neg (by omega)]; first | rw [if_pos (by omega)] | rw [if_neg (by omega)]))); have hE := congrArg (fun (q1 : Int) => (dv (.int .i64 q1) : AV)) e1; exact hE) rfl rfl rfl rfl rfl trivial
    · refine T.condF (by kernel_rfl) (decide_eq_false hq2) ?_
      refine T.skip ?_
      refine nT ?_
      refine T.seq ?_
      refine T.seq ?_
      by_cases hq3 : ((b.f_Requests.length : Nat) : Int) ≠ ((b.f_Results.length : Nat) : Int)
      · refine xR [hN 8 false (decide_eq_true hq3),
          hN 9 false (decide_eq_true hq3),
          hN 10 false (decide_eq_true hq3),
          hN 11 false (decide_eq_true hq3),
          hP 12 (decide_eq_true hq3)] (by kernel_rfl) (by kernel_rfl) ?_
        refine nT ?_
        refine T.condT (b := true) (by kernel_rfl) rfl ?_
        refine T.seq ?_
        refine xR [] (by kernel_rfl) (by kernel_rfl) ?_
        refine nT ?_
        refine T.ret ?_
        refine rT ?_
        exact tE (.inl rfl) [.t 2 (.one (.d (.val (.int .i64 102))))] ⟨⟨rfl, by kernel_rfl⟩, trivial⟩ [] (by have e1 : ((chkB b) : Int) = 102 := (by first | rfl | (unfold chkB; first | rw [if_pos (by omega)] | (rw [if_neg (by omega)]; first | rw [if_pos (by omega)] | rw [if_neg (by omega)]))); have hE := congrArg (fun (q1 : Int) => (dv (.int .i64 q1) : AV)) e1; exact hE) rfl rfl rfl rfl rfl trivial
      · refine xR [hY 8 (decide_eq_false hq3),
          hY 9 (decide_eq_false hq3),
          hY 10 (decide_eq_false hq3),
          hY 11 (decide_eq_false hq3),
          hP 12 (decide_eq_false hq3)] (by kernel_rfl) (by kernel_rfl) ?_
        refine nT ?_
        by_cases hq4 : ((b.f_Requests.length : Nat) : Int) > 4
        · refine T.condT (by kernel_rfl) (decide_eq_true hq4) ?_
          refine T.seq ?_
          refine xR [] (by kernel_rfl) (by kernel_rfl) ?_
          refine nT ?_
          refine T.ret ?_
          refine rT ?_
          exact tE (.inl rfl) [.t 2 (.one (.d (.val (.int .i64 102))))] ⟨⟨rfl, by kernel_rfl⟩, trivial⟩ [] (by have e1 : ((chkB b) : Int) = 102 := (by first | rfl | (unfold chkB; first | rw [if_pos (by omega)] | (rw [if_neg (by omega)]; first | rw [if_pos (by omega)] | rw [if_neg (by omega)]))); have hE := congrArg (fun (q1 : Int) => (dv (.int .i64 q1) : AV)) e1; exact hE) rfl rfl rfl rfl rfl trivial
        · refine T.condF (by kernel_rfl) (decide_eq_false hq4) ?_
          refine T.skip ?_
          refine nT ?_
          refine T.seq ?_
          refine xR [] (by kernel_rfl) (by kernel_rfl) ?_
          refine nT ?_
          refine T.ret ?_
          exact tE (.inl rfl) [.t 2 (.one (.d (.val (.int .i64 0))))] ⟨⟨rfl, by kernel_rfl⟩, trivial⟩ [] (by have e1 : ((chkB b) : Int) = 0 := (by first | rfl | (unfold chkB; first | rw [if_pos (by omega)] | (rw [if_neg (by omega)]; first | rw [if_pos (by omega)] | rw [if_neg (by omega)]))); have hE := congrArg (fun (q1 : Int) => (dv (.int .i64 q1) : AV)) e1; exact hE) rfl rfl rfl rfl rfl trivial
end Go.Proofs.Ytacikihlgpnjhaa.Q
