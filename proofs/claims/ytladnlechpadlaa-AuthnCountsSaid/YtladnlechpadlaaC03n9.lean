import Derived.Test.YtladnlechpadlaaC03n8
namespace Go.Proofs.Ytladnlechpadlaa.Q
open Go Go.RowKit
set_option linter.unusedVariables false
set_option linter.unusedSimpArgs false
set_option maxRecDepth 100000
set_option maxHeartbeats 4000000
theorem cells_3 : Cells Try.prog 3 1 := ⟨_, iat_3, rfl⟩
abbrev z83f9_0 (xs : List Int) : AV := ownV 0 (kInt .i64) 0 xs.length
abbrev z83f9_1 : HS := .live (.box 29 [.ptr 2 0])
abbrev z83f9_2 (f : Int) (u : Int) (rows : List (authn_pair × Bool)) (xs : List Int) : List HS := [.live (arrK 3 (kInt .i64) xs), z83f9_1, .live (.box 58 [.d (.val (.int .i64 (3 * f + 1))), .d (.val (.int .i64 u)), .mref 3]), .live (mpK f_authn_pair kBool rows)]
abbrev z83f9_3 (f : Int) (xs : List Int) : List AV := [(z83f9_0 xs), sv (.clo 46 [1]), aa, aa, dv (.slice none 0 0), dv (.int .i64 (idxR f xs)), aa, aa, aa, aa, aa, aa, dv (.bool (decide ((idxR f xs) = (-1))))]
abbrev z83f9_4 (f : Int) (xs : List Int) : List AV := [(z83f9_0 xs), sv (.clo 46 [1]), aa, aa, dv (.slice none 0 0), dv (.int .i64 ((idxN f xs : Nat) : Int)), aa, aa, aa, aa, aa, aa, dv (.bool (decide ((idxR f xs) = (-1))))]
abbrev z83f9_5 (f : Int) (xs : List Int) : List AV := [(z83f9_0 xs), sv (.clo 46 [1]), aa, aa, aa, dv (.int .i64 (((idxN f xs) : Nat) : Int)), dv (.int .i64 ((((idxN f xs) + 1) : Nat) : Int))]
abbrev z83f9_6 (xs : List Int) (i : Nat) (j : Nat) : List AV := [(z83f9_0 xs), sv (.clo 46 [1]), aa, aa, ownV 0 (kInt .i64) 0 i, dv (.int .i64 ((i : Nat) : Int)), dv (.int .i64 ((j : Nat) : Int)), aa, aa, aa, aa, aa, aa, aa, aa, aa, aa, aa, aa, dv (.bool (decide (((j : Nat) : Int) < ((xs.length : Nat) : Int))))]
-- slices.DeleteFunc[[]int,int]
theorem delete_int (f : Int) (u : Int) (rows : List (authn_pair × Bool)) (xs : List Int) (hf : 0 ≤ f ∧ f ≤ 2) (hu : 0 ≤ u ∧ u ≤ 8) (hx : xs.length ≤ 1000000) : Holds Try.prog 44 ⟨[ownV 0 (kInt .i64) 0 xs.length, sv (.clo 46 [1])], [arrK 3 (kInt .i64) xs, .box 29 [.ptr 2 0], .box 58 [.d (.val (.int .i64 (3 * f + 1))), .d (.val (.int .i64 u)), .mref 3], mpK f_authn_pair kBool rows], ownV 0 (kInt .i64) 0 (filR f xs).length, [.live (arrK 3 (kInt .i64) (filR f xs)), .live (.box 29 [.ptr 2 0]), .live (.box 58 [.d (.val (.int .i64 (3 * f + 1))), .d (.val (.int .i64 u)), .mref 3]), .live (mpK f_authn_pair kBool rows)]⟩ := by
 refine Holds.of Try.func44 rfl (N := 42) Try.ntmps44 rfl fun w0 B0 S0 U0 => ?_
 show T _ (mkBase 42 4 w0 S0 U0 B0) ⟨[(z83f9_0 xs), sv (.clo 46 [1])], (z83f9_2 f u rows xs)⟩ _ _
 refine T.seq ?_
 refine xR [] (by kernel_rfl) (by kernel_rfl) ?_
 refine nT ?_
 refine T.seq ?_
 refine xR [hR 2 rfl rfl (r_call (index_int f u rows true false xs (by first | assumption | omega | (unfold maxLen; omega) | (simp [maxLen, -List.getD_eq_getElem?_getD] <;> omega) | decide) (by first | assumption | omega | (unfold maxLen; omega) | (simp [maxLen, -List.getD_eq_getElem?_getD] <;> omega) | decide) (by first | assumption | omega | (unfold maxLen; omega) | (simp [maxLen, -List.getD_eq_getElem?_getD] <;> omega) | decide)) Try.func52 rfl (by decide) [1, 2, 3] [0] (l := [(.tmp 8, (z83f9_0 xs)), (.tmp 9, sv (.clo 46 [1]))]) [(0, .live (arrK 3 (kInt .i64) xs))] rfl 3 3 rfl rfl rfl rfl rfl rfl rfl rfl rfl ⟨.inr (.inl ⟨rfl, (fun h => by cases h), rfl, rfl, by simp, 3, xs.length, elOf (kInt .i64) xs, List.Mem.head _, (by first | exact Nat.le_of_eq (Nat.zero_add _) | omega), fun i j => by rw [Nat.zero_add]⟩), ⟨.inl ⟨rfl, rfl⟩, trivial⟩⟩ rfl (by intro b hb; simp only [List.mem_cons, List.not_mem_nil, or_false] at hb; rcases hb with rfl; exact ⟨_, List.Mem.head _⟩) (.inr ⟨trivial, (And.intro (And.intro trivial trivial) (And.intro (And.intro trivial (And.intro trivial (And.intro trivial trivial))) (And.intro (mp_ntH kBool_nt) trivial)))⟩) (lt_of rfl) trivial)] (by kernel_rfl) (by kernel_rfl) ?_
 refine nT ?_
 refine T.seq ?_
 refine T.seq ?_
 refine xR [] (by kernel_rfl) (by kernel_rfl) ?_
 refine nT ?_
 by_cases hq1 : (idxR f xs) = (-1)
 ·have hid := idxR_all hq1
  refine T.condT (by kernel_rfl) (decide_eq_true hq1) ?_
  refine T.seq ?_
  refine xR [] (by kernel_rfl) (by kernel_rfl) ?_
  refine nT ?_
  refine T.ret ?_
  refine rT ?_
  exact tE (.inl rfl) [.t 4 (.one (.own 0 (kInt .i64).sz 0 xs.length))] ⟨⟨rfl, by kernel_rfl⟩, trivial⟩ [0, 1, 2, 3] (by have e1 : ((filR f xs).length : Nat) = xs.length := (by first | rfl | exact hid | exact hid.symm | (rw [hid]) | (rw [cut_end (by omega), del_end (by omega) hys]) | (have h9 := congrArg List.length (del_end (by omega) hys); rw [List.length_take] at h9; omega)); have hE := congrArg (fun (q1 : Nat) => (ownV 0 (kInt .i64) 0 q1 : AV)) e1; exact hE) rfl rfl rfl rfl rfl ⟨⟨rfl, (by have e1 : (xs : List Int) = (filR f xs) := (by first | rfl | exact hid | exact hid.symm | (rw [hid]) | (rw [cut_end (by omega), del_end (by omega) hys]) | (have h9 := congrArg List.length (del_end (by omega) hys); rw [List.length_take] at h9; omega)); have hE := congrArg (fun (q1 : List Int) => (.live (arrK 3 (kInt .i64) q1) : HS)) e1; exact Eq.trans (by kernel_rfl) hE)⟩, ⟨⟨rfl, (by kernel_rfl)⟩, ⟨⟨rfl, (by kernel_rfl)⟩, ⟨⟨rfl, (by kernel_rfl)⟩, trivial⟩⟩⟩⟩
 ·have hid := idxR_is hq1; have hid1 := hid.1; have hid2 := hid.2.1; have hid3 := hid.2.2
  refine T.condF (by kernel_rfl) (decide_eq_false hq1) ?_
  refine T.skip ?_
  refine nT ?_
  refine T.seq ?_
  refine T.seq ?_
  refine T.turn (s' := ⟨(z83f9_3 f xs), (z83f9_2 f u rows xs)⟩) (fun _ _ hG => Gs.norm (by kernel_rfl) hG) ?_
  refine T.turn (s' := ⟨(z83f9_4 f xs), (z83f9_2 f u rows xs)⟩) (fun _ _ hG => Gs.into2 (s' := ⟨(z83f9_4 f xs), (z83f9_2 f u rows xs)⟩) [0, 1, 2, 3] (bm 13 4147) (t1 := (z83f9_4 f xs)) (t2 := (z83f9_3 f xs)) (h1 := (z83f9_2 f u rows xs)) (by have e1 : (((idxN f xs : Nat) : Int) : Int) = (idxR f xs) := (by first | exact hid1 | exact hid1.symm); have hE := congrArg (fun (q1 : Int) => ([(z83f9_0 xs), sv (.clo 46 [1]), aa, aa, dv (.slice none 0 0), dv (.int .i64 q1), aa, aa, aa, aa, aa, aa, dv (.bool (decide ((idxR f xs) = (-1))))] : List AV)) e1; exact hE) rfl (by kernel_rfl) (by kernel_rfl) (by kernel_rfl) (by kernel_rfl) (by kernel_rfl) (by kernel_rfl) (by kernel_rfl) (by kernel_rfl) (by kernel_rfl) (by kernel_rfl) (by kernel_rfl) hG) ?_
  refine xR [hR 1 rfl rfl (r_bin (u1 := .int .i64 ((idxN f xs : Nat) : Int)) (u2 := .int .i64 1) (v := .int .i64 (((idxN f xs) + 1 : Nat) : Int)) (b_add (by rw [IntKind.wrap_i64]; omega)) (lt_of rfl) ⟨rfl, trivial⟩)] (by kernel_rfl) (by kernel_rfl) ?_
  refine nT ?_
  refine T.block ?_
  refine T.loop (ι := Nat × Nat × (List Int)) (fun (x_ : Nat × Nat × (List Int)) => ⟨[(z83f9_0 xs), sv (.clo 46 [1]), aa, aa, aa, dv (.int .i64 ((x_.1 : Nat) : Int)), dv (.int .i64 ((x_.2.1 : Nat) : Int))], [.live (arrK 3 (kInt .i64) x_.2.2), z83f9_1, .live (.box 58 [.d (.val (.int .i64 (3 * f + 1))), .d (.val (.int .i64 u)), .mref 3]), .live (mpK f_authn_pair kBool rows)]⟩) (fun (x_ : Nat × Nat × (List Int)) => (x_.2.1 ≤ xs.length) ∧ (x_.1 < x_.2.1) ∧ (x_.2.2.length = xs.length) ∧ (x_.2.2.take x_.1 = filR f (xs.take x_.2.1)) ∧ (∀ m, x_.2.1 ≤ m → x_.2.2.getD m 0 = xs.getD m 0)) (fun (x_ : Nat × Nat × (List Int)) => xs.length - x_.2.1) ((idxN f xs), ((idxN f xs) + 1), xs) ⟨(show ((idxN f xs) + 1) ≤ xs.length from (by omega)), (show (idxN f xs) < ((idxN f xs) + 1) from (by omega)), (show xs.length = xs.length from rfl), (show xs.take (idxN f xs) = filR f (xs.take ((idxN f xs) + 1)) from hid3), (show ∀ m, ((idxN f xs) + 1) ≤ m → xs.getD m 0 = xs.getD m 0 from (fun _ _ => rfl))⟩ (fun _ _ hG => Gs.into2 (s' := ⟨(z83f9_5 f xs), (z83f9_2 f u rows xs)⟩) [0, 1, 2, 3] (bm 7 99) (t1 := (z83f9_5 f xs)) (t2 := [(z83f9_0 xs), sv (.clo 46 [1]), aa, aa, aa, dv (.int .i64 ((idxN f xs : Nat) : Int)), dv (.int .i64 (((idxN f xs) + 1 : Nat) : Int))]) (h1 := (z83f9_2 f u rows xs)) (by have e1 : ((((idxN f xs) : Nat) : Int) : Int) = ((idxN f xs : Nat) : Int) := (by first | rfl); have e2 : (((((idxN f xs) + 1) : Nat) : Int) : Int) = (((idxN f xs) + 1 : Nat) : Int) := (by first | rfl); have hE := congr (congrArg (fun (q1 : Int) (q2 : Int) => ([(z83f9_0 xs), sv (.clo 46 [1]), aa, aa, aa, dv (.int .i64 q1), dv (.int .i64 q2)] : List AV)) e1) e2; exact hE) rfl (by kernel_rfl) (by kernel_rfl) (by kernel_rfl) (by kernel_rfl) (by kernel_rfl) (by kernel_rfl) (by kernel_rfl) (by kernel_rfl) (by kernel_rfl) (by kernel_rfl) (by kernel_rfl) hG) ?_
  rintro ⟨i, j, ys⟩ ⟨hj, hij, hyl, hys, hyd⟩
  show T _ _ ⟨[(z83f9_0 xs), sv (.clo 46 [1]), aa, aa, aa, dv (.int .i64 ((i : Nat) : Int)), dv (.int .i64 ((j : Nat) : Int))], [.live (arrK 3 (kInt .i64) ys), z83f9_1, .live (.box 58 [.d (.val (.int .i64 (3 * f + 1))), .d (.val (.int .i64 u)), .mref 3]), .live (mpK f_authn_pair kBool rows)]⟩ _ _
  replace hj : j ≤ xs.length := hj
  replace hij : i < j := hij
  replace hyl : ys.length = xs.length := hyl
  replace hys : ys.take i = filR f (xs.take j) := hys
  replace hyd : ∀ m, j ≤ m → ys.getD m 0 = xs.getD m 0 := hyd
  refine T.seq ?_
  refine T.seq ?_
  refine xR [] (by kernel_rfl) (by kernel_rfl) ?_
  refine nT ?_
  by_cases hq2 : ((j : Nat) : Int) < ((xs.length : Nat) : Int)
  ·refine T.condT (by kernel_rfl) (decide_eq_true hq2) ?_
   refine T.skip ?_
   refine nT ?_
   refine T.seq ?_
   refine T.block ?_
   refine T.seq ?_
   refine xR [hR 2 rfl rfl (r_indexO (k := .i64) (l := 0) (sz := (kInt .i64).sz) (off := 0) (n := xs.length) (i := ((j : Nat) : Int)) (m := j) (o' := j * (kInt .i64).sz + 0) Try.underlying50 iat_3 rfl rfl (by first | assumption | omega | (unfold maxLen; omega) | (simp [maxLen, -List.getD_eq_getElem?_getD] <;> omega) | decide) (by first | rfl | simp) (lt_of rfl) trivial),
     hR 3 rfl rfl (r_loadA (l := 0) (off := j * (kInt .i64).sz + 0) (i := j) (j := 0) (T := 3) (sz := (kInt .i64).sz) (n := ys.length) (el := elOf (kInt .i64) ys) (c := .val (.int .i64 (ys.getD j 0))) wide_3 rfl (by first | assumption | omega | (unfold maxLen; omega) | (simp [maxLen, -List.getD_eq_getElem?_getD] <;> omega) | decide) (by decide) rfl (lt_of rfl) trivial)] (by kernel_rfl) (by kernel_rfl) ?_
   refine nT ?_
   refine T.seq ?_
   refine xR [hR 2 rfl rfl (r_callC (ls := [1]) (count_not f u rows (ys.getD j 0) (by first | assumption | omega | (unfold maxLen; omega) | (simp [maxLen, -List.getD_eq_getElem?_getD] <;> omega) | decide) (by first | assumption | omega | (unfold maxLen; omega) | (simp [maxLen, -List.getD_eq_getElem?_getD] <;> omega) | decide)) Try.func46 rfl (by decide) [1, 2, 3] [] (l := [(.tmp 27, dv (.int .i64 (ys.getD j 0)))]) [] rfl 3 3 rfl rfl rfl rfl rfl rfl rfl rfl rfl ⟨.inl ⟨rfl, rfl⟩, ⟨.inl ⟨rfl, rfl⟩, trivial⟩⟩ rfl (fun b hb => by cases hb) (.inl rfl) (lt_of rfl) trivial)] (by kernel_rfl) (by kernel_rfl) ?_
   refine nT ?_
   by_cases hq3 : ¬ isReplica f (ys.getD j 0)
   ·have hdn := del_no (by omega) hys hyd hq3; have hdn1 := hdn.1; have hdn2 := hdn.2
    refine T.condF (by kernel_rfl) (congrArg Bool.not (decide_eq_true hq3)) ?_
    refine T.skip ?_
    refine nB ?_
    refine nT ?_
    refine xR [hR 1 rfl rfl (r_bin (u1 := .int .i64 ((j : Nat) : Int)) (u2 := .int .i64 1) (v := .int .i64 ((j + 1 : Nat) : Int)) (b_add (by rw [IntKind.wrap_i64]; omega)) (lt_of rfl) ⟨rfl, trivial⟩)] (by kernel_rfl) (by kernel_rfl) ?_
    refine nL (i, j + 1, ys) ⟨(show (j + 1) ≤ xs.length from (by omega)), (show i < (j + 1) from (by omega)), (show ys.length = xs.length from (by first | assumption | (rw [List.length_set]; assumption))), (show ys.take i = filR f (xs.take (j + 1)) from hdn1), (show ∀ m, (j + 1) ≤ m → ys.getD m 0 = xs.getD m 0 from hdn2)⟩ (show (xs.length - (j + 1) : Nat) < xs.length - j from (by omega)) (fun _ _ hG => Gs.into2 (s' := ⟨[(z83f9_0 xs), sv (.clo 46 [1]), aa, aa, aa, dv (.int .i64 ((i : Nat) : Int)), dv (.int .i64 ((j + 1 : Nat) : Int))], [.live (arrK 3 (kInt .i64) ys), z83f9_1, .live (.box 58 [.d (.val (.int .i64 (3 * f + 1))), .d (.val (.int .i64 u)), .mref 3]), .live (mpK f_authn_pair kBool rows)]⟩) [0, 1, 2, 3] (bm 7 99) (t1 := [(z83f9_0 xs), sv (.clo 46 [1]), aa, aa, aa, dv (.int .i64 ((i : Nat) : Int)), dv (.int .i64 ((j + 1 : Nat) : Int))]) (h1 := [.live (arrK 3 (kInt .i64) ys), z83f9_1, .live (.box 58 [.d (.val (.int .i64 (3 * f + 1))), .d (.val (.int .i64 u)), .mref 3]), .live (mpK f_authn_pair kBool rows)]) rfl rfl (by kernel_rfl) (by kernel_rfl) (by kernel_rfl) (by kernel_rfl) (by kernel_rfl) (by kernel_rfl) (by kernel_rfl) (by kernel_rfl) (by kernel_rfl) (by kernel_rfl) (by kernel_rfl) hG)
   ·have hdn := del_yes hij (by omega) hyl hys hyd (Classical.not_not.1 hq3); have hdn1 := hdn.1; have hdn2 := hdn.2
    refine T.condT (by kernel_rfl) (congrArg Bool.not (decide_eq_false hq3)) ?_
    refine T.seq ?_
    refine xR [hR 3 rfl rfl (r_indexO (k := .i64) (l := 0) (sz := (kInt .i64).sz) (off := 0) (n := xs.length) (i := ((i : Nat) : Int)) (m := i) (o' := i * (kInt .i64).sz + 0) Try.underlying50 iat_3 rfl rfl (by first | assumption | omega | (unfold maxLen; omega) | (simp [maxLen, -List.getD_eq_getElem?_getD] <;> omega) | decide) (by first | rfl | simp) (lt_of rfl) trivial),
      hR 4 rfl rfl (q_storeA 0 3 (kInt .i64) ys (ys.getD j 0) i 0 1 [.val (.int .i64 (ys.getD j 0))] (tv := .one (.d (.val (.int .i64 (ys.getD j 0))))) (off := i * (kInt .i64).sz + 0) cells_3 ⟨.inl rfl, trivial⟩ rfl rfl (by first | assumption | omega | (unfold maxLen; omega) | (simp [maxLen, -List.getD_eq_getElem?_getD] <;> omega) | decide) (by decide) rfl (by intro j hj; replace hj : j < 1 := hj; rcases j with _ | j <;> first | rfl | omega) trivial)] (by kernel_rfl) (by kernel_rfl) ?_
    refine nT ?_
    refine xR [hR 1 rfl rfl (r_bin (u1 := .int .i64 ((i : Nat) : Int)) (u2 := .int .i64 1) (v := .int .i64 ((i + 1 : Nat) : Int)) (b_add (by rw [IntKind.wrap_i64]; omega)) (lt_of rfl) ⟨rfl, trivial⟩)] (by kernel_rfl) (by kernel_rfl) ?_
    refine nB ?_
    refine nT ?_
    refine xR [hR 1 rfl rfl (r_bin (u1 := .int .i64 ((j : Nat) : Int)) (u2 := .int .i64 1) (v := .int .i64 ((j + 1 : Nat) : Int)) (b_add (by rw [IntKind.wrap_i64]; omega)) (lt_of rfl) ⟨rfl, trivial⟩)] (by kernel_rfl) (by kernel_rfl) ?_
    refine nL (i + 1, j + 1, (ys.set i (ys.getD j 0))) ⟨(show (j + 1) ≤ xs.length from (by omega)), (show (i + 1) < (j + 1) from (by omega)), (show (ys.set i (ys.getD j 0)).length = xs.length from (by first | assumption | (rw [List.length_set]; assumption))), (show (ys.set i (ys.getD j 0)).take (i + 1) = filR f (xs.take (j + 1)) from hdn1), (show ∀ m, (j + 1) ≤ m → (ys.set i (ys.getD j 0)).getD m 0 = xs.getD m 0 from hdn2)⟩ (show (xs.length - (j + 1) : Nat) < xs.length - j from (by omega)) (fun _ _ hG => Gs.into2 (s' := ⟨[(z83f9_0 xs), sv (.clo 46 [1]), aa, aa, aa, dv (.int .i64 ((i + 1 : Nat) : Int)), dv (.int .i64 ((j + 1 : Nat) : Int))], [.live (arrK 3 (kInt .i64) (ys.set i (ys.getD j 0))), z83f9_1, .live (.box 58 [.d (.val (.int .i64 (3 * f + 1))), .d (.val (.int .i64 u)), .mref 3]), .live (mpK f_authn_pair kBool rows)]⟩) [0, 1, 2, 3] (bm 7 99) (t1 := [(z83f9_0 xs), sv (.clo 46 [1]), aa, aa, aa, dv (.int .i64 ((i + 1 : Nat) : Int)), dv (.int .i64 ((j + 1 : Nat) : Int))]) (h1 := [.live (arrK 3 (kInt .i64) (ys.set i (ys.getD j 0))), z83f9_1, .live (.box 58 [.d (.val (.int .i64 (3 * f + 1))), .d (.val (.int .i64 u)), .mref 3]), .live (mpK f_authn_pair kBool rows)]) rfl rfl (by kernel_rfl) (by kernel_rfl) (by kernel_rfl) (by kernel_rfl) (by kernel_rfl) (by kernel_rfl) (by kernel_rfl) (by kernel_rfl) (by kernel_rfl) (by kernel_rfl) (by kernel_rfl) hG)
  ·refine T.condF (by kernel_rfl) (decide_eq_false hq2) ?_
   refine T.exit ?_
   refine xT ?_
   refine xT ?_
   refine xH ?_
   refine nT ?_
   refine T.seq ?_
   refine xR [hR 2 rfl rfl (r_sliceO (lo0 := 0) (sz := (kInt .i64).sz) (off := 0) (n := xs.length) (l := i) (h := xs.length) (off' := i) (n' := (xs.length - i)) (lo := some (.tmp 37, ((i : Nat) : Int))) (hi := none) Try.underlying50 iat_3 rfl rfl rfl rfl rfl (by first | assumption | omega | (unfold maxLen; omega) | (simp [maxLen, -List.getD_eq_getElem?_getD] <;> omega) | decide) (by first | assumption | omega | (unfold maxLen; omega) | (simp [maxLen, -List.getD_eq_getElem?_getD] <;> omega) | decide) (by first | assumption | omega | (unfold maxLen; omega) | (simp [maxLen, -List.getD_eq_getElem?_getD] <;> omega) | decide) (by first | assumption | omega | (unfold maxLen; omega) | (simp [maxLen, -List.getD_eq_getElem?_getD] <;> omega) | decide) (lt_of rfl) trivial),
     hR 3 rfl rfl (q_clearI 0 3 ys (ys.take i ++ List.replicate (xs.length - i) 0 ++ ys.drop (i + (xs.length - i)) : List Int) i (xs.length - i) elem_50 zero_3 (by first | assumption | omega | (unfold maxLen; omega) | (simp [maxLen, -List.getD_eq_getElem?_getD] <;> omega) | decide) rfl trivial)] (by kernel_rfl) (by kernel_rfl) ?_
   refine nT ?_
   refine T.seq ?_
   refine xR [hR 2 rfl rfl (r_sliceO (lo0 := 0) (sz := (kInt .i64).sz) (off := 0) (n := xs.length) (l := 0) (h := i) (off' := 0) (n' := i) (lo := none) (hi := some (.tmp 40, ((i : Nat) : Int))) Try.underlying50 iat_3 rfl rfl rfl rfl rfl (by first | assumption | omega | (unfold maxLen; omega) | (simp [maxLen, -List.getD_eq_getElem?_getD] <;> omega) | decide) (by first | assumption | omega | (unfold maxLen; omega) | (simp [maxLen, -List.getD_eq_getElem?_getD] <;> omega) | decide) (by first | assumption | omega | (unfold maxLen; omega) | (simp [maxLen, -List.getD_eq_getElem?_getD] <;> omega) | decide) (by first | assumption | omega | (unfold maxLen; omega) | (simp [maxLen, -List.getD_eq_getElem?_getD] <;> omega) | decide) (lt_of rfl) trivial)] (by kernel_rfl) (by kernel_rfl) ?_
   refine nT ?_
   refine T.ret ?_
   refine Ends.turn (s' := ⟨(z83f9_6 xs i j), [.live (arrK 3 (kInt .i64) (ys.take i ++ List.replicate (xs.length - i) 0 ++ ys.drop (i + (xs.length - i)) : List Int)), z83f9_1, .live (.box 58 [.d (.val (.int .i64 (3 * f + 1))), .d (.val (.int .i64 u)), .mref 3]), .live (mpK f_authn_pair kBool rows)]⟩) (fun _ _ hG => Gs.norm (by kernel_rfl) hG) ?_
   refine Ends.turn (s' := ⟨(z83f9_6 xs i j), [.live (arrK 3 (kInt .i64) ((ys.take i ++ List.replicate (xs.length - i) 0 ++ ys.drop (i + (xs.length - i)) : List Int).take i)), z83f9_1, .live (.box 58 [.d (.val (.int .i64 (3 * f + 1))), .d (.val (.int .i64 u)), .mref 3]), .live (mpK f_authn_pair kBool rows)]⟩) (fun _ _ hG => Gs.trunc 0 3 (kInt .i64) (ys.take i ++ List.replicate (xs.length - i) 0 ++ ys.drop (i + (xs.length - i)) : List Int) ((ys.take i ++ List.replicate (xs.length - i) 0 ++ ys.drop (i + (xs.length - i)) : List Int).take i) i rfl rfl hG) ?_
   exact tE (.inl rfl) [.t 4 (.one (.own 0 (kInt .i64).sz 0 i))] ⟨⟨rfl, by kernel_rfl⟩, trivial⟩ [0, 1, 2, 3] (by have e1 : ((filR f xs).length : Nat) = i := (by first | rfl | exact hid | exact hid.symm | (rw [hid]) | (rw [cut_end (by omega), del_end (by omega) hys]) | (have h9 := congrArg List.length (del_end (by omega) hys); rw [List.length_take] at h9; omega)); have hE := congrArg (fun (q1 : Nat) => (ownV 0 (kInt .i64) 0 q1 : AV)) e1; exact hE) rfl rfl rfl rfl rfl ⟨⟨rfl, (by have e1 : (((ys.take i ++ List.replicate (xs.length - i) 0 ++ ys.drop (i + (xs.length - i)) : List Int).take i) : List Int) = (filR f xs) := (by first | rfl | exact hid | exact hid.symm | (rw [hid]) | (rw [cut_end (by omega), del_end (by omega) hys]) | (have h9 := congrArg List.length (del_end (by omega) hys); rw [List.length_take] at h9; omega)); have hE := congrArg (fun (q1 : List Int) => (.live (arrK 3 (kInt .i64) q1) : HS)) e1; exact Eq.trans (by kernel_rfl) hE)⟩, ⟨⟨rfl, (by kernel_rfl)⟩, ⟨⟨rfl, (by kernel_rfl)⟩, ⟨⟨rfl, (by kernel_rfl)⟩, trivial⟩⟩⟩⟩
end Go.Proofs.Ytladnlechpadlaa.Q
namespace Go.Proofs.Ytladnlechpadlaa.Q
open Go Go.RowKit
set_option linter.unusedVariables false
set_option linter.unusedSimpArgs false
set_option maxRecDepth 100000
set_option maxHeartbeats 4000000
theorem sort_int (xs : List Int) (hx : xs.length ≤ 1000000000) : Holds Try.prog 47 ⟨[ownV 0 (kInt .i64) 0 xs.length], [arrK 3 (kInt .i64) xs], .tup [], [.live (arrK 3 (kInt .i64) (sortI xs))]⟩ := sort_holds lays189 3 xs hx
end Go.Proofs.Ytladnlechpadlaa.Q
namespace Go.Proofs.Ytladnlechpadlaa.Q
open Go Go.RowKit
set_option linter.unusedVariables false
set_option linter.unusedSimpArgs false
set_option maxRecDepth 100000
set_option maxHeartbeats 4000000
abbrev z1f7b_0 (xs : List Int) : AV := ownV 0 (kInt .i64) 0 xs.length
abbrev z1f7b_1 (xs : List Int) : AV := dv (.bool (decide (((xs.length : Nat) : Int) < 2)))
abbrev z1f7b_2 (xs : List Int) : List AV := [(z1f7b_0 xs), aa, dv (.slice none 0 0), dv (.int .i64 1), aa, aa, aa, aa, (z1f7b_1 xs)]
abbrev z1f7b_3 (xs : List Int) (k : Nat) : AV := ownV 0 (kInt .i64) k (xs.length - k)
abbrev z1f7b_4 (xs : List Int) (k : Nat) (p : Nat) (q : Nat) : List AV := [(z1f7b_0 xs), aa, ownV 0 (kInt .i64) 0 p, dv (.int .i64 ((p : Nat) : Int)), (z1f7b_3 xs k), dv (.int .i64 ((q : Nat) : Int)), aa, aa, aa, aa, aa, aa, aa, aa, aa, aa, aa, aa, aa, aa, aa, aa, aa, aa, aa, aa, aa, aa, aa, aa, aa, aa, dv (.bool (decide (((q : Nat) : Int) < ((xs.length - k : Nat) : Int))))]
abbrev z1f7b_5 (xs : List Int) (k : Nat) : List AV := [(z1f7b_0 xs), aa, dv (.slice none 0 0), dv (.int .i64 ((k + 1 : Nat) : Int)), aa, aa, aa, aa, (z1f7b_1 xs)]
-- slices.Compact[[]int,int]
theorem compact_int (xs : List Int) (hx : xs.length ≤ 1000000) : Holds Try.prog 48 ⟨[ownV 0 (kInt .i64) 0 xs.length], [arrK 3 (kInt .i64) xs], ownV 0 (kInt .i64) 0 (cptL xs).length, [.live (arrK 3 (kInt .i64) (cptL xs))]⟩ := by
 refine Holds.of Try.func48 rfl (N := 61) Try.ntmps48 rfl fun w0 B0 S0 U0 => ?_
 show T _ (mkBase 61 1 w0 S0 U0 B0) ⟨[(z1f7b_0 xs)], [.live (arrK 3 (kInt .i64) xs)]⟩ _ _
 refine T.seq ?_
 refine xR [] (by kernel_rfl) (by kernel_rfl) ?_
 refine nT ?_
 refine T.seq ?_
 refine T.seq ?_
 refine xR [] (by kernel_rfl) (by kernel_rfl) ?_
 refine nT ?_
 by_cases hq1 : ((xs.length : Nat) : Int) < 2
 ·have hsh := cpt_short hq1
  refine T.condT (by kernel_rfl) (decide_eq_true hq1) ?_
  refine T.seq ?_
  refine xR [] (by kernel_rfl) (by kernel_rfl) ?_
  refine nT ?_
  refine T.ret ?_
  refine rT ?_
  exact tE (.inl rfl) [.t 2 (.one (.own 0 (kInt .i64).sz 0 xs.length))] ⟨⟨rfl, by kernel_rfl⟩, trivial⟩ [0] (by have e1 : ((cptL xs).length : Nat) = xs.length := (by first | rfl | exact hsh | exact hsh.symm | (rw [hsh]) | (rw [cut_end (by omega), cpt_end (by omega) hkq hys]) | (have h9 := congrArg List.length (cpt_end (by omega) hkq hys); rw [List.length_take] at h9; omega)); have hE := congrArg (fun (q1 : Nat) => (ownV 0 (kInt .i64) 0 q1 : AV)) e1; exact hE) rfl rfl rfl rfl rfl ⟨⟨rfl, (by have e1 : (xs : List Int) = (cptL xs) := (by first | rfl | exact hsh | exact hsh.symm | (rw [hsh]) | (rw [cut_end (by omega), cpt_end (by omega) hkq hys]) | (have h9 := congrArg List.length (cpt_end (by omega) hkq hys); rw [List.length_take] at h9; omega)); have hE := congrArg (fun (q1 : List Int) => (.live (arrK 3 (kInt .i64) q1) : HS)) e1; exact Eq.trans (by kernel_rfl) hE)⟩, trivial⟩
 ·refine T.condF (by kernel_rfl) (decide_eq_false hq1) ?_
  refine T.skip ?_
  refine nT ?_
  refine T.seq ?_
  refine T.seq ?_
  refine xR [] (by kernel_rfl) (by kernel_rfl) ?_
  refine nT ?_
  refine T.block ?_
  refine T.loop (ι := Nat) (fun (k : Nat) => ⟨[(z1f7b_0 xs), aa, dv (.slice none 0 0), dv (.int .i64 ((k : Nat) : Int)), aa, aa, aa, aa, (z1f7b_1 xs)], [.live (arrK 3 (kInt .i64) xs)]⟩) (fun (k : Nat) => (k ≤ xs.length) ∧ (1 ≤ k) ∧ (∀ m, 1 ≤ m → m < k → ¬ xs.getD m 0 = xs.getD (m - 1) 0)) (fun (k : Nat) => xs.length - k) (1) ⟨(by omega), (Nat.le_refl _), (fun m h1 h2 => by omega)⟩ (fun _ _ hG => Gs.into2 (s' := ⟨(z1f7b_2 xs), [.live (arrK 3 (kInt .i64) xs)]⟩) [0] (bm 9 269) (t1 := (z1f7b_2 xs)) (h1 := [.live (arrK 3 (kInt .i64) xs)]) rfl rfl (by kernel_rfl) (by kernel_rfl) (by kernel_rfl) (by kernel_rfl) (by kernel_rfl) (by kernel_rfl) (by kernel_rfl) (by kernel_rfl) (by kernel_rfl) (by kernel_rfl) (by kernel_rfl) hG) ?_
  rintro k ⟨hk, hk1, hb⟩
  show T _ _ ⟨[(z1f7b_0 xs), aa, dv (.slice none 0 0), dv (.int .i64 ((k : Nat) : Int)), aa, aa, aa, aa, (z1f7b_1 xs)], [.live (arrK 3 (kInt .i64) xs)]⟩ _ _
  replace hk : k ≤ xs.length := hk
  replace hk1 : 1 ≤ k := hk1
  replace hb : ∀ m, 1 ≤ m → m < k → ¬ xs.getD m 0 = xs.getD (m - 1) 0 := hb
  refine T.seq ?_
  refine T.seq ?_
  refine xR [] (by kernel_rfl) (by kernel_rfl) ?_
  refine nT ?_
  by_cases hq2 : ((k : Nat) : Int) < ((xs.length : Nat) : Int)
  ·refine T.condT (by kernel_rfl) (decide_eq_true hq2) ?_
   refine T.skip ?_
   refine nT ?_
   refine T.seq ?_
   refine T.block ?_
   refine T.seq ?_
   refine xD [[], [], [0, 1], [0, 1, 2], [], [], [5], [4, 5, 6], [4, 5, 6, 7], [0, 1, 2, 3, 4, 5, 6, 7, 8]] [hR 2 rfl rfl (r_indexO (k := .i64) (l := 0) (sz := (kInt .i64).sz) (off := 0) (n := xs.length) (i := ((k : Nat) : Int)) (m := k) (o' := k * (kInt .i64).sz + 0) Try.underlying50 iat_3 rfl rfl (by first | assumption | omega | (unfold maxLen; omega) | (simp [maxLen, -List.getD_eq_getElem?_getD] <;> omega) | decide) (by first | rfl | simp) (lt_of rfl) trivial),
     hR 3 rfl rfl (r_loadA (l := 0) (off := k * (kInt .i64).sz + 0) (i := k) (j := 0) (T := 3) (sz := (kInt .i64).sz) (n := xs.length) (el := elOf (kInt .i64) xs) (c := .val (.int .i64 (xs.getD k 0))) wide_3 rfl (by first | assumption | omega | (unfold maxLen; omega) | (simp [maxLen, -List.getD_eq_getElem?_getD] <;> omega) | decide) (by decide) rfl (lt_of rfl) trivial),
     hR 6 rfl rfl (r_bin (u1 := .int .i64 ((k : Nat) : Int)) (u2 := .int .i64 1) (v := .int .i64 ((k - 1 : Nat) : Int)) (b_sub (by rw [IntKind.wrap_i64]; omega)) (lt_of rfl) ⟨rfl, trivial⟩),
     hR 7 rfl rfl (r_indexO (k := .i64) (l := 0) (sz := (kInt .i64).sz) (off := 0) (n := xs.length) (i := ((k - 1 : Nat) : Int)) (m := (k - 1)) (o' := (k - 1) * (kInt .i64).sz + 0) Try.underlying50 iat_3 rfl rfl (by first | assumption | omega | (unfold maxLen; omega) | (simp [maxLen, -List.getD_eq_getElem?_getD] <;> omega) | decide) (by first | rfl | simp) (lt_of rfl) trivial),
     hR 8 rfl rfl (r_loadA (l := 0) (off := (k - 1) * (kInt .i64).sz + 0) (i := k - 1) (j := 0) (T := 3) (sz := (kInt .i64).sz) (n := xs.length) (el := elOf (kInt .i64) xs) (c := .val (.int .i64 (xs.getD (k - 1) 0))) wide_3 rfl (by first | assumption | omega | (unfold maxLen; omega) | (simp [maxLen, -List.getD_eq_getElem?_getD] <;> omega) | decide) (by decide) rfl (lt_of rfl) trivial)] (by kernel_rfl) (by kernel_rfl) (by kernel_rfl) (by kernel_rfl) (by kernel_rfl) (by kernel_rfl) ?_
   refine nT ?_
   by_cases hq3 : (xs.getD k 0) = (xs.getD (k - 1) 0)
   ·have hst := cpt_start hk1 (by omega) hb hq3
    refine T.condT (by kernel_rfl) (decide_eq_true hq3) ?_
    refine T.seq ?_
    refine xR [hR 2 rfl rfl (r_sliceO (lo0 := 0) (sz := (kInt .i64).sz) (off := 0) (n := xs.length) (l := k) (h := xs.length) (off' := k) (n' := (xs.length - k)) (lo := some (.tmp 27, ((k : Nat) : Int))) (hi := none) Try.underlying50 iat_3 rfl rfl rfl rfl rfl (by first | assumption | omega | (unfold maxLen; omega) | (simp [maxLen, -List.getD_eq_getElem?_getD] <;> omega) | decide) (by first | assumption | omega | (unfold maxLen; omega) | (simp [maxLen, -List.getD_eq_getElem?_getD] <;> omega) | decide) (by first | assumption | omega | (unfold maxLen; omega) | (simp [maxLen, -List.getD_eq_getElem?_getD] <;> omega) | decide) (by first | assumption | omega | (unfold maxLen; omega) | (simp [maxLen, -List.getD_eq_getElem?_getD] <;> omega) | decide) (lt_of rfl) trivial)] (by kernel_rfl) (by kernel_rfl) ?_
    refine nT ?_
    refine T.seq ?_
    refine T.seq ?_
    refine xR [] (by kernel_rfl) (by kernel_rfl) ?_
    refine nT ?_
    refine T.block ?_
    refine T.loop (ι := Nat × Nat × (List Int)) (fun (x_ : Nat × Nat × (List Int)) => ⟨[(z1f7b_0 xs), aa, aa, dv (.int .i64 ((x_.1 : Nat) : Int)), (z1f7b_3 xs k), dv (.int .i64 ((x_.2.1 : Nat) : Int))], [.live (arrK 3 (kInt .i64) x_.2.2)]⟩) (fun (x_ : Nat × Nat × (List Int)) => (x_.1 < k + x_.2.1) ∧ (1 ≤ x_.2.1) ∧ (k + x_.2.1 ≤ xs.length) ∧ (x_.2.2.length = xs.length) ∧ (x_.2.2.take x_.1 = cptN xs (k + x_.2.1)) ∧ (∀ m, k + x_.2.1 - 1 ≤ m → x_.2.2.getD m 0 = xs.getD m 0)) (fun (x_ : Nat × Nat × (List Int)) => xs.length - k - x_.2.1) (k, 1, xs) ⟨(show k < k + 1 from (by omega)), (show 1 ≤ 1 from (Nat.le_refl _)), (show k + 1 ≤ xs.length from (by omega)), (show xs.length = xs.length from rfl), (show xs.take k = cptN xs (k + 1) from hst), (show ∀ m, k + 1 - 1 ≤ m → xs.getD m 0 = xs.getD m 0 from (fun _ _ => rfl))⟩ (fun _ _ hG => Gs.into2 (s' := ⟨[(z1f7b_0 xs), aa, aa, dv (.int .i64 ((k : Nat) : Int)), (z1f7b_3 xs k), dv (.int .i64 1)], [.live (arrK 3 (kInt .i64) xs)]⟩) [0] (bm 6 57) (t1 := [(z1f7b_0 xs), aa, aa, dv (.int .i64 ((k : Nat) : Int)), (z1f7b_3 xs k), dv (.int .i64 1)]) (h1 := [.live (arrK 3 (kInt .i64) xs)]) rfl rfl (by kernel_rfl) (by kernel_rfl) (by kernel_rfl) (by kernel_rfl) (by kernel_rfl) (by kernel_rfl) (by kernel_rfl) (by kernel_rfl) (by kernel_rfl) (by kernel_rfl) (by kernel_rfl) hG) ?_
    rintro ⟨p, q, ys⟩ ⟨hp, hq1, hkq, hyl, hys, hyd⟩
    show T _ _ ⟨[(z1f7b_0 xs), aa, aa, dv (.int .i64 ((p : Nat) : Int)), (z1f7b_3 xs k), dv (.int .i64 ((q : Nat) : Int))], [.live (arrK 3 (kInt .i64) ys)]⟩ _ _
    replace hp : p < k + q := hp
    replace hq1 : 1 ≤ q := hq1
    replace hkq : k + q ≤ xs.length := hkq
    replace hyl : ys.length = xs.length := hyl
    replace hys : ys.take p = cptN xs (k + q) := hys
    replace hyd : ∀ m, k + q - 1 ≤ m → ys.getD m 0 = xs.getD m 0 := hyd
    refine T.seq ?_
    refine T.seq ?_
    refine xR [] (by kernel_rfl) (by kernel_rfl) ?_
    refine nT ?_
    by_cases hq4 : ((q : Nat) : Int) < ((xs.length - k : Nat) : Int)
    ·refine T.condT (by kernel_rfl) (decide_eq_true hq4) ?_
     refine T.skip ?_
     refine nT ?_
     refine T.seq ?_
     refine T.block ?_
     refine T.seq ?_
     refine xD [[], [], [0, 1], [0, 1, 2], [], [], [5], [4, 5, 6], [4, 5, 6, 7], [0, 1, 2, 3, 4, 5, 6, 7, 8]] [hR 2 rfl rfl (r_indexO (k := .i64) (l := 0) (sz := (kInt .i64).sz) (off := k) (n := (xs.length - k)) (i := ((q : Nat) : Int)) (m := q) (o' := (k + q) * (kInt .i64).sz + 0) Try.underlying50 iat_3 rfl rfl (by first | assumption | omega | (unfold maxLen; omega) | (simp [maxLen, -List.getD_eq_getElem?_getD] <;> omega) | decide) (by first | rfl | simp) (lt_of rfl) trivial),
       hR 3 rfl rfl (r_loadA (l := 0) (off := (k + q) * (kInt .i64).sz + 0) (i := k + q) (j := 0) (T := 3) (sz := (kInt .i64).sz) (n := ys.length) (el := elOf (kInt .i64) ys) (c := .val (.int .i64 (ys.getD (k + q) 0))) wide_3 rfl (by first | assumption | omega | (unfold maxLen; omega) | (simp [maxLen, -List.getD_eq_getElem?_getD] <;> omega) | decide) (by decide) rfl (lt_of rfl) trivial),
       hR 6 rfl rfl (r_bin (u1 := .int .i64 ((q : Nat) : Int)) (u2 := .int .i64 1) (v := .int .i64 ((q - 1 : Nat) : Int)) (b_sub (by rw [IntKind.wrap_i64]; omega)) (lt_of rfl) ⟨rfl, trivial⟩),
       hR 7 rfl rfl (r_indexO (k := .i64) (l := 0) (sz := (kInt .i64).sz) (off := k) (n := (xs.length - k)) (i := ((q - 1 : Nat) : Int)) (m := (q - 1)) (o' := (k + (q - 1)) * (kInt .i64).sz + 0) Try.underlying50 iat_3 rfl rfl (by first | assumption | omega | (unfold maxLen; omega) | (simp [maxLen, -List.getD_eq_getElem?_getD] <;> omega) | decide) (by first | rfl | simp) (lt_of rfl) trivial),
       hR 8 rfl rfl (r_loadA (l := 0) (off := (k + (q - 1)) * (kInt .i64).sz + 0) (i := k + (q - 1)) (j := 0) (T := 3) (sz := (kInt .i64).sz) (n := ys.length) (el := elOf (kInt .i64) ys) (c := .val (.int .i64 (ys.getD (k + (q - 1)) 0))) wide_3 rfl (by first | assumption | omega | (unfold maxLen; omega) | (simp [maxLen, -List.getD_eq_getElem?_getD] <;> omega) | decide) (by decide) rfl (lt_of rfl) trivial)] (by kernel_rfl) (by kernel_rfl) (by kernel_rfl) (by kernel_rfl) (by kernel_rfl) (by kernel_rfl) ?_
     refine nT ?_
     by_cases hq5 : (ys.getD (k + q) 0) ≠ (ys.getD (k + (q - 1)) 0)
     ·have hcn := cpt_yes hp hq1 hyl (by omega) hys hyd hq5; have hcn1 := hcn.1; have hcn2 := hcn.2
      refine T.condT (by kernel_rfl) (decide_eq_true hq5) ?_
      refine T.seq ?_
      refine xR [hR 4 rfl rfl (r_indexO (k := .i64) (l := 0) (sz := (kInt .i64).sz) (off := k) (n := (xs.length - k)) (i := ((q : Nat) : Int)) (m := q) (o' := (k + q) * (kInt .i64).sz + 0) Try.underlying50 iat_3 rfl rfl (by first | assumption | omega | (unfold maxLen; omega) | (simp [maxLen, -List.getD_eq_getElem?_getD] <;> omega) | decide) (by first | rfl | simp) (lt_of rfl) trivial),
        hR 5 rfl rfl (r_loadA (l := 0) (off := (k + q) * (kInt .i64).sz + 0) (i := k + q) (j := 0) (T := 3) (sz := (kInt .i64).sz) (n := ys.length) (el := elOf (kInt .i64) ys) (c := .val (.int .i64 (ys.getD (k + q) 0))) wide_3 rfl (by first | assumption | omega | (unfold maxLen; omega) | (simp [maxLen, -List.getD_eq_getElem?_getD] <;> omega) | decide) (by decide) rfl (lt_of rfl) trivial),
        hR 6 rfl rfl (r_indexO (k := .i64) (l := 0) (sz := (kInt .i64).sz) (off := 0) (n := xs.length) (i := ((p : Nat) : Int)) (m := p) (o' := p * (kInt .i64).sz + 0) Try.underlying50 iat_3 rfl rfl (by first | assumption | omega | (unfold maxLen; omega) | (simp [maxLen, -List.getD_eq_getElem?_getD] <;> omega) | decide) (by first | rfl | simp) (lt_of rfl) trivial),
        hR 7 rfl rfl (q_storeA 0 3 (kInt .i64) ys (ys.getD (k + q) 0) p 0 1 [.val (.int .i64 (ys.getD (k + q) 0))] (tv := .one (.d (.val (.int .i64 (ys.getD (k + q) 0))))) (off := p * (kInt .i64).sz + 0) cells_3 ⟨.inl rfl, trivial⟩ rfl rfl (by first | assumption | omega | (unfold maxLen; omega) | (simp [maxLen, -List.getD_eq_getElem?_getD] <;> omega) | decide) (by decide) rfl (by intro j hj; replace hj : j < 1 := hj; rcases j with _ | j <;> first | rfl | omega) trivial)] (by kernel_rfl) (by kernel_rfl) ?_
      refine nT ?_
      refine xR [hR 1 rfl rfl (r_bin (u1 := .int .i64 ((p : Nat) : Int)) (u2 := .int .i64 1) (v := .int .i64 ((p + 1 : Nat) : Int)) (b_add (by rw [IntKind.wrap_i64]; omega)) (lt_of rfl) ⟨rfl, trivial⟩)] (by kernel_rfl) (by kernel_rfl) ?_
      refine nB ?_
      refine nT ?_
      refine xR [hR 1 rfl rfl (r_bin (u1 := .int .i64 ((q : Nat) : Int)) (u2 := .int .i64 1) (v := .int .i64 ((q + 1 : Nat) : Int)) (b_add (by rw [IntKind.wrap_i64]; omega)) (lt_of rfl) ⟨rfl, trivial⟩)] (by kernel_rfl) (by kernel_rfl) ?_
      refine nL (p + 1, q + 1, (ys.set p (ys.getD (k + q) 0))) ⟨(show (p + 1) < k + (q + 1) from (by omega)), (show 1 ≤ (q + 1) from (by omega)), (show k + (q + 1) ≤ xs.length from (by omega)), (show (ys.set p (ys.getD (k + q) 0)).length = xs.length from (by first | assumption | (rw [List.length_set]; assumption))), (show (ys.set p (ys.getD (k + q) 0)).take (p + 1) = cptN xs (k + (q + 1)) from hcn1), (show ∀ m, k + (q + 1) - 1 ≤ m → (ys.set p (ys.getD (k + q) 0)).getD m 0 = xs.getD m 0 from hcn2)⟩ (show (xs.length - k - (q + 1) : Nat) < xs.length - k - q from (by omega)) (fun _ _ hG => Gs.into2 (s' := ⟨[(z1f7b_0 xs), aa, aa, dv (.int .i64 ((p + 1 : Nat) : Int)), (z1f7b_3 xs k), dv (.int .i64 ((q + 1 : Nat) : Int))], [.live (arrK 3 (kInt .i64) (ys.set p (ys.getD (k + q) 0)))]⟩) [0] (bm 6 57) (t1 := [(z1f7b_0 xs), aa, aa, dv (.int .i64 ((p + 1 : Nat) : Int)), (z1f7b_3 xs k), dv (.int .i64 ((q + 1 : Nat) : Int))]) (h1 := [.live (arrK 3 (kInt .i64) (ys.set p (ys.getD (k + q) 0)))]) rfl rfl (by kernel_rfl) (by kernel_rfl) (by kernel_rfl) (by kernel_rfl) (by kernel_rfl) (by kernel_rfl) (by kernel_rfl) (by kernel_rfl) (by kernel_rfl) (by kernel_rfl) (by kernel_rfl) hG)
     ·have hcn := cpt_no hp hq1 (by omega) hys hyd hq5; have hcn1 := hcn.1; have hcn2 := hcn.2
      refine T.condF (by kernel_rfl) (decide_eq_false hq5) ?_
      refine T.skip ?_
      refine nB ?_
      refine nT ?_
      refine xR [hR 1 rfl rfl (r_bin (u1 := .int .i64 ((q : Nat) : Int)) (u2 := .int .i64 1) (v := .int .i64 ((q + 1 : Nat) : Int)) (b_add (by rw [IntKind.wrap_i64]; omega)) (lt_of rfl) ⟨rfl, trivial⟩)] (by kernel_rfl) (by kernel_rfl) ?_
      refine nL (p, q + 1, ys) ⟨(show p < k + (q + 1) from (by omega)), (show 1 ≤ (q + 1) from (by omega)), (show k + (q + 1) ≤ xs.length from (by omega)), (show ys.length = xs.length from (by first | assumption | (rw [List.length_set]; assumption))), (show ys.take p = cptN xs (k + (q + 1)) from hcn1), (show ∀ m, k + (q + 1) - 1 ≤ m → ys.getD m 0 = xs.getD m 0 from hcn2)⟩ (show (xs.length - k - (q + 1) : Nat) < xs.length - k - q from (by omega)) (fun _ _ hG => Gs.into2 (s' := ⟨[(z1f7b_0 xs), aa, aa, dv (.int .i64 ((p : Nat) : Int)), (z1f7b_3 xs k), dv (.int .i64 ((q + 1 : Nat) : Int))], [.live (arrK 3 (kInt .i64) ys)]⟩) [0] (bm 6 57) (t1 := [(z1f7b_0 xs), aa, aa, dv (.int .i64 ((p : Nat) : Int)), (z1f7b_3 xs k), dv (.int .i64 ((q + 1 : Nat) : Int))]) (h1 := [.live (arrK 3 (kInt .i64) ys)]) rfl rfl (by kernel_rfl) (by kernel_rfl) (by kernel_rfl) (by kernel_rfl) (by kernel_rfl) (by kernel_rfl) (by kernel_rfl) (by kernel_rfl) (by kernel_rfl) (by kernel_rfl) (by kernel_rfl) hG)
    ·refine T.condF (by kernel_rfl) (decide_eq_false hq4) ?_
     refine T.exit ?_
     refine xT ?_
     refine xT ?_
     refine xH ?_
     refine nT ?_
     refine T.seq ?_
     refine xR [hR 2 rfl rfl (r_sliceO (lo0 := 0) (sz := (kInt .i64).sz) (off := 0) (n := xs.length) (l := p) (h := xs.length) (off' := p) (n' := (xs.length - p)) (lo := some (.tmp 55, ((p : Nat) : Int))) (hi := none) Try.underlying50 iat_3 rfl rfl rfl rfl rfl (by first | assumption | omega | (unfold maxLen; omega) | (simp [maxLen, -List.getD_eq_getElem?_getD] <;> omega) | decide) (by first | assumption | omega | (unfold maxLen; omega) | (simp [maxLen, -List.getD_eq_getElem?_getD] <;> omega) | decide) (by first | assumption | omega | (unfold maxLen; omega) | (simp [maxLen, -List.getD_eq_getElem?_getD] <;> omega) | decide) (by first | assumption | omega | (unfold maxLen; omega) | (simp [maxLen, -List.getD_eq_getElem?_getD] <;> omega) | decide) (lt_of rfl) trivial),
       hR 3 rfl rfl (q_clearI 0 3 ys (ys.take p ++ List.replicate (xs.length - p) 0 ++ ys.drop (p + (xs.length - p)) : List Int) p (xs.length - p) elem_50 zero_3 (by first | assumption | omega | (unfold maxLen; omega) | (simp [maxLen, -List.getD_eq_getElem?_getD] <;> omega) | decide) rfl trivial)] (by kernel_rfl) (by kernel_rfl) ?_
     refine nT ?_
     refine T.seq ?_
     refine xR [hR 2 rfl rfl (r_sliceO (lo0 := 0) (sz := (kInt .i64).sz) (off := 0) (n := xs.length) (l := 0) (h := p) (off' := 0) (n' := p) (lo := none) (hi := some (.tmp 58, ((p : Nat) : Int))) Try.underlying50 iat_3 rfl rfl rfl rfl rfl (by first | assumption | omega | (unfold maxLen; omega) | (simp [maxLen, -List.getD_eq_getElem?_getD] <;> omega) | decide) (by first | assumption | omega | (unfold maxLen; omega) | (simp [maxLen, -List.getD_eq_getElem?_getD] <;> omega) | decide) (by first | assumption | omega | (unfold maxLen; omega) | (simp [maxLen, -List.getD_eq_getElem?_getD] <;> omega) | decide) (by first | assumption | omega | (unfold maxLen; omega) | (simp [maxLen, -List.getD_eq_getElem?_getD] <;> omega) | decide) (lt_of rfl) trivial)] (by kernel_rfl) (by kernel_rfl) ?_
     refine nT ?_
     refine T.ret ?_
     refine rB ?_
     refine rT ?_
     refine rT ?_
     refine rB ?_
     refine rT ?_
     refine Ends.turn (s' := ⟨(z1f7b_4 xs k p q), [.live (arrK 3 (kInt .i64) (ys.take p ++ List.replicate (xs.length - p) 0 ++ ys.drop (p + (xs.length - p)) : List Int))]⟩) (fun _ _ hG => Gs.norm (by kernel_rfl) hG) ?_
     refine Ends.turn (s' := ⟨(z1f7b_4 xs k p q), [.live (arrK 3 (kInt .i64) ((ys.take p ++ List.replicate (xs.length - p) 0 ++ ys.drop (p + (xs.length - p)) : List Int).take p))]⟩) (fun _ _ hG => Gs.trunc 0 3 (kInt .i64) (ys.take p ++ List.replicate (xs.length - p) 0 ++ ys.drop (p + (xs.length - p)) : List Int) ((ys.take p ++ List.replicate (xs.length - p) 0 ++ ys.drop (p + (xs.length - p)) : List Int).take p) p rfl rfl hG) ?_
     exact tE (.inl rfl) [.t 2 (.one (.own 0 (kInt .i64).sz 0 p))] ⟨⟨rfl, by kernel_rfl⟩, trivial⟩ [0] (by have e1 : ((cptL xs).length : Nat) = p := (by first | rfl | exact hsh | exact hsh.symm | (rw [hsh]) | (rw [cut_end (by omega), cpt_end (by omega) hkq hys]) | (have h9 := congrArg List.length (cpt_end (by omega) hkq hys); rw [List.length_take] at h9; omega)); have hE := congrArg (fun (q1 : Nat) => (ownV 0 (kInt .i64) 0 q1 : AV)) e1; exact hE) rfl rfl rfl rfl rfl ⟨⟨rfl, (by have e1 : (((ys.take p ++ List.replicate (xs.length - p) 0 ++ ys.drop (p + (xs.length - p)) : List Int).take p) : List Int) = (cptL xs) := (by first | rfl | exact hsh | exact hsh.symm | (rw [hsh]) | (rw [cut_end (by omega), cpt_end (by omega) hkq hys]) | (have h9 := congrArg List.length (cpt_end (by omega) hkq hys); rw [List.length_take] at h9; omega)); have hE := congrArg (fun (q1 : List Int) => (.live (arrK 3 (kInt .i64) q1) : HS)) e1; exact Eq.trans (by kernel_rfl) hE)⟩, trivial⟩
   ·refine T.condF (by kernel_rfl) (decide_eq_false hq3) ?_
    refine T.skip ?_
    refine nB ?_
    refine nT ?_
    refine xR [hR 1 rfl rfl (r_bin (u1 := .int .i64 ((k : Nat) : Int)) (u2 := .int .i64 1) (v := .int .i64 ((k + 1 : Nat) : Int)) (b_add (by rw [IntKind.wrap_i64]; omega)) (lt_of rfl) ⟨rfl, trivial⟩)] (by kernel_rfl) (by kernel_rfl) ?_
    refine nL (k + 1) ⟨(show (k + 1) ≤ xs.length from (by omega)), (show 1 ≤ (k + 1) from (by omega)), (show ∀ m, 1 ≤ m → m < (k + 1) → ¬ xs.getD m 0 = xs.getD (m - 1) 0 from (fun m h1 h2 => by rcases Nat.lt_or_ge m k with h9 | h9; exact hb m h1 h9; have h8 : m = k := (by omega); subst h8; assumption))⟩ (show (xs.length - (k + 1) : Nat) < xs.length - k from (by omega)) (fun _ _ hG => Gs.into2 (s' := ⟨(z1f7b_5 xs k), [.live (arrK 3 (kInt .i64) xs)]⟩) [0] (bm 9 269) (t1 := (z1f7b_5 xs k)) (h1 := [.live (arrK 3 (kInt .i64) xs)]) rfl rfl (by kernel_rfl) (by kernel_rfl) (by kernel_rfl) (by kernel_rfl) (by kernel_rfl) (by kernel_rfl) (by kernel_rfl) (by kernel_rfl) (by kernel_rfl) (by kernel_rfl) (by kernel_rfl) hG)
  ·have hsh := cpt_none (k := k) (by omega) hb
   refine T.condF (by kernel_rfl) (decide_eq_false hq2) ?_
   refine T.exit ?_
   refine xT ?_
   refine xT ?_
   refine xH ?_
   refine nT ?_
   refine T.seq ?_
   refine xR [] (by kernel_rfl) (by kernel_rfl) ?_
   refine nT ?_
   refine T.ret ?_
   exact tE (.inl rfl) [.t 2 (.one (.own 0 (kInt .i64).sz 0 xs.length))] ⟨⟨rfl, by kernel_rfl⟩, trivial⟩ [0] (by have e1 : ((cptL xs).length : Nat) = xs.length := (by first | rfl | exact hsh | exact hsh.symm | (rw [hsh]) | (rw [cut_end (by omega), cpt_end (by omega) hkq hys]) | (have h9 := congrArg List.length (cpt_end (by omega) hkq hys); rw [List.length_take] at h9; omega)); have hE := congrArg (fun (q1 : Nat) => (ownV 0 (kInt .i64) 0 q1 : AV)) e1; exact hE) rfl rfl rfl rfl rfl ⟨⟨rfl, (by have e1 : (xs : List Int) = (cptL xs) := (by first | rfl | exact hsh | exact hsh.symm | (rw [hsh]) | (rw [cut_end (by omega), cpt_end (by omega) hkq hys]) | (have h9 := congrArg List.length (cpt_end (by omega) hkq hys); rw [List.length_take] at h9; omega)); have hE := congrArg (fun (q1 : List Int) => (.live (arrK 3 (kInt .i64) q1) : HS)) e1; exact Eq.trans (by kernel_rfl) hE)⟩, trivial⟩
end Go.Proofs.Ytladnlechpadlaa.Q
namespace Go.Proofs.Ytladnlechpadlaa.Q
open Go Go.RowKit
set_option linter.unusedVariables false
set_option linter.unusedSimpArgs false
set_option maxRecDepth 100000
set_option maxHeartbeats 4000000
-- (*quaestor/authn.Authority).Count
theorem authn_Count (f : Int) (u : Int) (rows : List (authn_pair × Bool)) (tx : Bool) (nx : Bool) (x : List Int) (hf : 0 ≤ f ∧ f ≤ 2) (hu : 0 ≤ u ∧ u ≤ 8) (hx : x.length ≤ 1000000) : Holds Try.prog 22 ⟨[pv 0 0, slV tx nx (kInt .i64) x], [.box 58 [.d (.val (.int .i64 (3 * f + 1))), .d (.val (.int .i64 u)), .mref 1], mpK f_authn_pair kBool rows], dv (.int .i64 ((cntR f x : Nat) : Int)), [.live (.box 58 [.d (.val (.int .i64 (3 * f + 1))), .d (.val (.int .i64 u)), .mref 1]), .live (mpK f_authn_pair kBool rows)]⟩ := by
 refine Holds.of Try.func22 rfl (N := 15) Try.ntmps22 rfl fun w0 B0 S0 U0 => ?_
 show T _ (mkBase 15 2 w0 S0 U0 B0) ⟨[pv 0 0, slV tx nx (kInt .i64) x], [.live (.box 58 [.d (.val (.int .i64 (3 * f + 1))), .d (.val (.int .i64 u)), .mref 1]), .live (mpK f_authn_pair kBool rows)]⟩ _ _
 have hfl := fil_len f x
 have hsl := sort_len (filR f x)
 have hci := cnt_is hf x
 refine T.seq ?_
 refine xR [] (by kernel_rfl) (by kernel_rfl) ?_
 refine nT ?_
 refine T.seq ?_
 refine xR [hR 1 rfl rfl (r_call (clone_int tx nx x (by first | assumption | omega | (unfold maxLen; omega) | (simp [maxLen, -List.getD_eq_getElem?_getD] <;> omega) | decide)) Try.func45 rfl (by decide) [3] [] (l := [(.tmp 6, slV tx nx (kInt .i64) x)]) [] rfl 0 1 rfl rfl rfl rfl rfl rfl rfl rfl rfl ⟨.inl ⟨rfl, rfl⟩, trivial⟩ rfl (fun b hb => by cases hb) (.inl rfl) (lt_of rfl) trivial),
   hR 2 rfl rfl (r_makeClo (f := 46) (ls := [(.tmp 2, 2)]) rfl (lt_of rfl) trivial),
   hR 3 rfl rfl (r_call (delete_int f u rows x (by first | assumption | omega | (unfold maxLen; omega) | (simp [maxLen, -List.getD_eq_getElem?_getD] <;> omega) | decide) (by first | assumption | omega | (unfold maxLen; omega) | (simp [maxLen, -List.getD_eq_getElem?_getD] <;> omega) | decide) (by first | assumption | omega | (unfold maxLen; omega) | (simp [maxLen, -List.getD_eq_getElem?_getD] <;> omega) | decide)) Try.func44 rfl (by decide) [3, 2, 0, 1] [] (l := [(.tmp 7, ownV 3 (kInt .i64) 0 x.length), (.tmp 8, sv (.clo 46 [2]))]) [] rfl 4 4 rfl rfl rfl rfl rfl rfl rfl rfl rfl ⟨.inl ⟨rfl, rfl⟩, ⟨.inl ⟨rfl, rfl⟩, trivial⟩⟩ rfl (fun b hb => by cases hb) (.inl rfl) (lt_of rfl) trivial)] (by kernel_rfl) (by kernel_rfl) ?_
 refine nT ?_
 refine T.seq ?_
 refine xR [hR 1 rfl rfl (r_call (sort_int (filR f x) (by first | assumption | omega | (unfold maxLen; omega) | (simp [maxLen, -List.getD_eq_getElem?_getD] <;> omega) | decide)) Try.func47 rfl (by decide) [3] [] (l := [(.tmp 10, ownV 3 (kInt .i64) 0 (filR f x).length)]) [] rfl 1 1 rfl rfl rfl rfl rfl rfl rfl rfl rfl ⟨.inl ⟨rfl, rfl⟩, trivial⟩ rfl (fun b hb => by cases hb) (.inl rfl) (lt_of rfl) trivial)] (by kernel_rfl) (by kernel_rfl) ?_
 refine nT ?_
 refine T.seq ?_
 refine T.turn (s' := ⟨[pv 0 0, slV tx nx (kInt .i64) x, pv 2 0, aa, dv (.int .i64 0), ownV 3 (kInt .i64) 0 (filR f x).length], [.live (.box 58 [.d (.val (.int .i64 (3 * f + 1))), .d (.val (.int .i64 u)), .mref 1]), .live (mpK f_authn_pair kBool rows), .live (.box 29 [.ptr 0 0]), .live (arrK 3 (kInt .i64) (sortI (filR f x)))]⟩) (fun _ _ hG => Gs.norm (by kernel_rfl) hG) ?_
 refine T.turn (s' := ⟨[pv 0 0, slV tx nx (kInt .i64) x, pv 2 0, aa, dv (.int .i64 0), ownV 3 (kInt .i64) 0 (sortI (filR f x)).length], [.live (.box 58 [.d (.val (.int .i64 (3 * f + 1))), .d (.val (.int .i64 u)), .mref 1]), .live (mpK f_authn_pair kBool rows), .live (.box 29 [.ptr 0 0]), .live (arrK 3 (kInt .i64) (sortI (filR f x)))]⟩) (fun _ _ hG => Gs.into2 (s' := ⟨[pv 0 0, slV tx nx (kInt .i64) x, pv 2 0, aa, dv (.int .i64 0), ownV 3 (kInt .i64) 0 (sortI (filR f x)).length], [.live (.box 58 [.d (.val (.int .i64 (3 * f + 1))), .d (.val (.int .i64 u)), .mref 1]), .live (mpK f_authn_pair kBool rows), .live (.box 29 [.ptr 0 0]), .live (arrK 3 (kInt .i64) (sortI (filR f x)))]⟩) [0, 1, 2, 3] (bm 6 55) (t1 := [pv 0 0, slV tx nx (kInt .i64) x, pv 2 0, aa, dv (.int .i64 0), ownV 3 (kInt .i64) 0 (sortI (filR f x)).length]) (t2 := [pv 0 0, slV tx nx (kInt .i64) x, pv 2 0, aa, dv (.int .i64 0), ownV 3 (kInt .i64) 0 (filR f x).length]) (h1 := [.live (.box 58 [.d (.val (.int .i64 (3 * f + 1))), .d (.val (.int .i64 u)), .mref 1]), .live (mpK f_authn_pair kBool rows), .live (.box 29 [.ptr 0 0]), .live (arrK 3 (kInt .i64) (sortI (filR f x)))]) (by have e1 : ((sortI (filR f x)).length : Nat) = (filR f x).length := (by first | exact sort_len _ | exact (sort_len _).symm); have hE := congrArg (fun (q1 : Nat) => ([pv 0 0, slV tx nx (kInt .i64) x, pv 2 0, aa, dv (.int .i64 0), ownV 3 (kInt .i64) 0 q1] : List AV)) e1; exact hE) rfl (by kernel_rfl) (by kernel_rfl) (by kernel_rfl) (by kernel_rfl) (by kernel_rfl) (by kernel_rfl) (by kernel_rfl) (by kernel_rfl) (by kernel_rfl) (by kernel_rfl) (by kernel_rfl) hG) ?_
 refine xR [hR 1 rfl rfl (r_call (compact_int (sortI (filR f x)) (by first | assumption | omega | (unfold maxLen; omega) | (simp [maxLen, -List.getD_eq_getElem?_getD] <;> omega) | decide)) Try.func48 rfl (by decide) [3] [] (l := [(.tmp 12, ownV 3 (kInt .i64) 0 (sortI (filR f x)).length)]) [] rfl 1 1 rfl rfl rfl rfl rfl rfl rfl rfl rfl ⟨.inl ⟨rfl, rfl⟩, trivial⟩ rfl (fun b hb => by cases hb) (.inl rfl) (lt_of rfl) trivial)] (by kernel_rfl) (by kernel_rfl) ?_
 refine nT ?_
 refine T.ret ?_
 exact tE (.inl rfl) [.t 4 (.one (.d (.val (.int .i64 (((cptL (sortI (filR f x))).length : Nat) : Int)))))] ⟨⟨rfl, by kernel_rfl⟩, trivial⟩ [0, 1] (by have e1 : (((cntR f x : Nat) : Int) : Int) = (((cptL (sortI (filR f x))).length : Nat) : Int) := (by first | rfl | (rw [hci])); have hE := congrArg (fun (q1 : Int) => (dv (.int .i64 q1) : AV)) e1; exact hE) rfl rfl rfl rfl rfl ⟨⟨rfl, (by kernel_rfl)⟩, ⟨⟨rfl, (by kernel_rfl)⟩, trivial⟩⟩
end Go.Proofs.Ytladnlechpadlaa.Q
