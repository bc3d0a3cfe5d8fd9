import Derived.Test.YtalapplihdmenaaGreatC13n2
namespace Go.Proofs.YtalapplihdmenaaGreat.Q
open Go Go.RowKit
set_option linter.unusedVariables false
set_option linter.unusedSimpArgs false
set_option maxRecDepth 100000
set_option maxHeartbeats 4000000
theorem cells_3 : Cells Tryz.prog 3 1 := ⟨_, iat_3, rfl⟩
section
variable (f : Int) (u : Int) (rows : List (authn_pair × Bool)) (xs : List Int) (i : Nat) (j : Nat)
abbrev Zg : AV := ownV 0 (kInt .i64) 0 xs.length
abbrev Zh : HS := .live (.box 28 [.ptr 2 0])
abbrev Zi : HS := .live (.box 98 [dI (3 * f + 1), dI u, .mref 3])
abbrev Zj : HS := .live (mpK f_authn_pair kBool rows)
abbrev Zk : List HS := [.live (arrK 3 (kInt .i64) xs), Zh, (Zi f u), (Zj rows)]
abbrev Zl : List AV := [(Zg xs), sv (.clo 38 [1]), aa, aa, dv (.slice none 0 0), vI (idxR f xs), aa, aa, aa, aa, aa, aa, vB (decide ((idxR f xs) = (-1)))]
abbrev Zm : List AV := [(Zg xs), sv (.clo 38 [1]), aa, aa, dv (.slice none 0 0), vI ((idxN f xs : Nat) : Int), aa, aa, aa, aa, aa, aa, vB (decide ((idxR f xs) = (-1)))]
abbrev Zq : List AV := [(Zg xs), sv (.clo 38 [1]), aa, aa, ownV 0 (kInt .i64) 0 i, vI ((i : Nat) : Int), vI ((j : Nat) : Int), aa, aa, aa, aa, aa, aa, aa, aa, aa, aa, aa, aa, vB (decide (((j : Nat) : Int) < ((xs.length : Nat) : Int)))]
end
theorem delete_int (f : Int) (u : Int) (rows : List (authn_pair × Bool)) (xs : List Int) (hf : 0 ≤ f ∧ f ≤ 2) (hu : 0 ≤ u ∧ u ≤ 8) (hx : xs.length ≤ 1000000) : Holds Tryz.prog 36 ⟨[ownV 0 (kInt .i64) 0 xs.length, sv (.clo 38 [1])], [arrK 3 (kInt .i64) xs, .box 28 [.ptr 2 0], .box 98 [dI (3 * f + 1), dI u, .mref 3], mpK f_authn_pair kBool rows], ownV 0 (kInt .i64) 0 (filR f xs).length, [.live (arrK 3 (kInt .i64) (filR f xs)), .live (.box 28 [.ptr 2 0]), .live (.box 98 [dI (3 * f + 1), dI u, .mref 3]), .live (mpK f_authn_pair kBool rows)]⟩ := by
 refine Holds.of Tryz.func36 rfl (N := 42) Tryz.ntmps36 rfl fun w0 B0 S0 U0 => ?_
 show T _ (mkBase 42 4 w0 S0 U0 B0) ⟨[(Zg xs), sv (.clo 38 [1])], (Zk f u rows xs)⟩ _ _
 refine sR [] ?_
 refine sR [hR 2 rfl rfl (r_call (index_int f u rows true false xs ‹_› ‹_› ‹_›) Tryz.func60 rfl (by decide) [1, 2, 3] [0] (l := [(.tmp 8, (Zg xs)), (.tmp 9, sv (.clo 38 [1]))]) [(0, .live (arrK 3 (kInt .i64) xs))] rfl 3 3 rfl rfl rfl rfl rfl rfl rfl rfl rfl ⟨.inr (.inl ⟨rfl, (fun h => by cases h), rfl, rfl, by simp, 3, xs.length, elOf (kInt .i64) xs, List.Mem.head _, (by exact Nat.le_of_eq (Nat.zero_add _)), fun i j => by rw [Nat.zero_add]⟩), ⟨.inl ⟨rfl, rfl⟩, trivial⟩⟩ rfl (by intro b hb; simp only [List.mem_cons, List.not_mem_nil, or_false] at hb; rcases hb with rfl; exact ⟨_, List.Mem.head _⟩) (.inr ⟨trivial, (And.intro (And.intro trivial trivial) (And.intro (And.intro trivial (And.intro trivial (And.intro trivial trivial))) (And.intro (mp_ntH kBool_nt) trivial)))⟩) (lt_of rfl) trivial)] ?_
 refine T.seq ?_
 refine sR [] ?_
 by_cases hq1 : (idxR f xs) = (-1)
 ·have hid := idxR_all hq1
  refine cT (dT hq1) ?_
  refine sR [] ?_
  refine T.ret (rT ?_)
  exact eRt 4 (.one (.own 0 (kInt .i64).sz 0 xs.length)) [0, 1, 2, 3] (by have e1 : ((filR f xs).length : Nat) = xs.length := (by (rw [hid])); have hE := congrArg (fun (q1 : Nat) => (ownV 0 (kInt .i64) 0 q1 : AV)) e1; exact hE) ⟨⟨rfl, (by have e1 : (xs : List Int) = (filR f xs) := (by exact hid.symm); have hE := congrArg (fun (q1 : List Int) => (.live (arrK 3 (kInt .i64) q1) : HS)) e1; exact Eq.trans (by kernel_rfl) hE)⟩, (ix (ix (ix trivial)))⟩
 have hid := idxR_is hq1; have hid1 := hid.1; have hid2 := hid.2.1; have hid3 := hid.2.2
 refine cF (dF hq1) ?_
 refine T.skip (nT (T.seq ?_))
 refine tN ⟨(Zl f xs), (Zk f u rows xs)⟩ ?_
 refine T.turn (s' := ⟨(Zm f xs), (Zk f u rows xs)⟩) (fun _ _ hG => Gs.iI [0, 1, 2, 3] (bm 13 4147) (t2 := (Zl f xs)) (congrArg (fun (q1 : Int) => ([(Zg xs), sv (.clo 38 [1]), aa, aa, dv (.slice none 0 0), vI q1, aa, aa, aa, aa, aa, aa, vB (decide ((idxR f xs) = (-1)))] : List AV)) (by exact hid1.symm)) rfl hG) ?_
 refine sR [hR 1 rfl rfl (r_bin (u1 := .int .i64 ((idxN f xs : Nat) : Int)) (u2 := .int .i64 1) (v := .int .i64 (((idxN f xs) + 1 : Nat) : Int)) (b_add (by rw [IntKind.wrap_i64]; omega)) (lt_of rfl) ⟨rfl, trivial⟩)] ?_
 refine T.block ?_
 refine T.loop (ι := Nat × Nat × (List Int)) (fun (x_ : Nat × Nat × (List Int)) => ⟨[(Zg xs), sv (.clo 38 [1]), aa, aa, aa, vI ((x_.1 : Nat) : Int), vI ((x_.2.1 : Nat) : Int)], [.live (arrK 3 (kInt .i64) x_.2.2), Zh, (Zi f u), (Zj rows)]⟩) (fun (x_ : Nat × Nat × (List Int)) => (x_.2.1 ≤ xs.length) ∧ (x_.1 < x_.2.1) ∧ (x_.2.2.length = xs.length) ∧ (x_.2.2.take x_.1 = filR f (xs.take x_.2.1)) ∧ (∀ m, x_.2.1 ≤ m → x_.2.2.getD m 0 = xs.getD m 0)) (fun (x_ : Nat × Nat × (List Int)) => xs.length - x_.2.1) ((idxN f xs), ((idxN f xs) + 1), xs) ⟨(show ((idxN f xs) + 1) ≤ xs.length from (by omega)), (show (idxN f xs) < ((idxN f xs) + 1) from (by omega)), (show xs.length = xs.length from rfl), (show xs.take (idxN f xs) = filR f (xs.take ((idxN f xs) + 1)) from hid3), (show ∀ m, ((idxN f xs) + 1) ≤ m → xs.getD m 0 = xs.getD m 0 from (fun _ _ => rfl))⟩ (fun _ _ hG => Gs.iI [0, 1, 2, 3] (bm 7 99) (t2 := [(Zg xs), sv (.clo 38 [1]), aa, aa, aa, vI ((idxN f xs : Nat) : Int), vI (((idxN f xs) + 1 : Nat) : Int)]) (cg2 (fun (q1 : Int) (q2 : Int) => ([(Zg xs), sv (.clo 38 [1]), aa, aa, aa, vI q1, vI q2] : List AV)) (by rfl) (by rfl)) rfl hG) ?_
 rintro ⟨i, j, ys⟩ ⟨hj, hij, hyl, hys, hyd⟩
 show T _ _ ⟨[(Zg xs), sv (.clo 38 [1]), aa, aa, aa, vI ((i : Nat) : Int), vI ((j : Nat) : Int)], [.live (arrK 3 (kInt .i64) ys), Zh, (Zi f u), (Zj rows)]⟩ _ _
 replace hj : j ≤ xs.length := hj
 replace hij : i < j := hij
 replace hyl : ys.length = xs.length := hyl
 replace hys : ys.take i = filR f (xs.take j) := hys
 replace hyd : ∀ m, j ≤ m → ys.getD m 0 = xs.getD m 0 := hyd
 refine T.seq ?_
 refine sR [] ?_
 by_cases hq2 : ((j : Nat) : Int) < ((xs.length : Nat) : Int)
 ·refine cT (dT hq2) ?_
  refine T.skip (nT (T.seq ?_))
  refine T.block ?_
  refine sR [hR 2 rfl rfl (r_indexO (k := .i64) (l := 0) (sz := (kInt .i64).sz) (off := 0) (n := xs.length) (i := ((j : Nat) : Int)) (m := j) (o' := j * (kInt .i64).sz + 0) Tryz.underlying55 iat_3 rfl rfl (by omega) (by simp) (lt_of rfl) trivial),
    hR 3 rfl rfl (r_loadA (l := 0) (off := j * (kInt .i64).sz + 0) (i := j) (j := 0) (T := 3) (sz := (kInt .i64).sz) (n := ys.length) (el := elOf (kInt .i64) ys) (c := .val (.int .i64 (ys.getD j 0))) wide_3 rfl (by omega) (by decide) rfl (lt_of rfl) trivial)] ?_
  refine sR [hR 2 rfl rfl (r_callC (ls := [1]) (count_not f u rows (ys.getD j 0) ‹_› ‹_›) Tryz.func38 rfl (by decide) [1, 2, 3] [] (l := [(.tmp 27, vI (ys.getD j 0))]) [] rfl 3 3 rfl rfl rfl rfl rfl rfl rfl rfl rfl ⟨.inl ⟨rfl, rfl⟩, ⟨.inl ⟨rfl, rfl⟩, trivial⟩⟩ rfl (fun b hb => by cases hb) (.inl rfl) (lt_of rfl) trivial)] ?_
  by_cases hq3 : ¬ isReplica f (ys.getD j 0)
  ·have hdn := del_no (by omega) hys hyd hq3; have hdn1 := hdn.1; have hdn2 := hdn.2
   refine cF (cn (dT hq3)) ?_
   refine T.skip ?_
   refine nB ?_
   refine nT ?_
   refine xK [hR 1 rfl rfl (r_bin (u1 := .int .i64 ((j : Nat) : Int)) (u2 := .int .i64 1) (v := .int .i64 ((j + 1 : Nat) : Int)) (b_add (by rw [IntKind.wrap_i64]; omega)) (lt_of rfl) ⟨rfl, trivial⟩)] ?_
   refine nL (i, j + 1, ys) ⟨(show (j + 1) ≤ xs.length from (by omega)), (show i < (j + 1) from (by omega)), (show ys.length = xs.length from ‹_›), (show ys.take i = filR f (xs.take (j + 1)) from hdn1), (show ∀ m, (j + 1) ≤ m → ys.getD m 0 = xs.getD m 0 from hdn2)⟩ (show (xs.length - (j + 1) : Nat) < xs.length - j from (by omega)) (fun _ _ hG => Gs.iI [0, 1, 2, 3] (bm 7 99) rfl rfl hG)
  have hdn := del_yes hij (by omega) hyl hys hyd (Classical.not_not.1 hq3); have hdn1 := hdn.1; have hdn2 := hdn.2
  refine cT (cn (dF hq3)) ?_
  refine sR [hR 3 rfl rfl (r_indexO (k := .i64) (l := 0) (sz := (kInt .i64).sz) (off := 0) (n := xs.length) (i := ((i : Nat) : Int)) (m := i) (o' := i * (kInt .i64).sz + 0) Tryz.underlying55 iat_3 rfl rfl (by omega) (by simp) (lt_of rfl) trivial),
    hR 4 rfl rfl (q_storeA 0 3 (kInt .i64) ys (ys.getD j 0) i 0 1 [.val (.int .i64 (ys.getD j 0))] (tv := .one (dI (ys.getD j 0))) (off := i * (kInt .i64).sz + 0) cells_3 ⟨.inl rfl, trivial⟩ rfl rfl (by omega) (by decide) rfl (by intro j hj; replace hj : j < 1 := hj; rcases j with _ | j <;> first | rfl | omega) trivial)] ?_
  refine xK [hR 1 rfl rfl (r_bin (u1 := .int .i64 ((i : Nat) : Int)) (u2 := .int .i64 1) (v := .int .i64 ((i + 1 : Nat) : Int)) (b_add (by rw [IntKind.wrap_i64]; omega)) (lt_of rfl) ⟨rfl, trivial⟩)] ?_
  refine nB ?_
  refine nT ?_
  refine xK [hR 1 rfl rfl (r_bin (u1 := .int .i64 ((j : Nat) : Int)) (u2 := .int .i64 1) (v := .int .i64 ((j + 1 : Nat) : Int)) (b_add (by rw [IntKind.wrap_i64]; omega)) (lt_of rfl) ⟨rfl, trivial⟩)] ?_
  refine nL (i + 1, j + 1, (ys.set i (ys.getD j 0))) ⟨(show (j + 1) ≤ xs.length from (by omega)), (show (i + 1) < (j + 1) from (by omega)), (show (ys.set i (ys.getD j 0)).length = xs.length from (by (rw [List.length_set]; assumption))), (show (ys.set i (ys.getD j 0)).take (i + 1) = filR f (xs.take (j + 1)) from hdn1), (show ∀ m, (j + 1) ≤ m → (ys.set i (ys.getD j 0)).getD m 0 = xs.getD m 0 from hdn2)⟩ (show (xs.length - (j + 1) : Nat) < xs.length - j from (by omega)) (fun _ _ hG => Gs.iI [0, 1, 2, 3] (bm 7 99) rfl rfl hG)
 refine cF (dF hq2) ?_
 refine T.exit ?_
 refine xT ?_
 refine xT ?_
 refine xH ?_
 refine nT ?_
 refine sR [hR 2 rfl rfl (r_sliceO (lo0 := 0) (sz := (kInt .i64).sz) (off := 0) (n := xs.length) (l := i) (h := xs.length) (off' := i) (n' := (xs.length - i)) (lo := some (.tmp 37, ((i : Nat) : Int))) (hi := none) Tryz.underlying55 iat_3 rfl rfl rfl rfl rfl (by omega) (by omega) (by omega) (by omega) (lt_of rfl) trivial),
   hR 3 rfl rfl (q_clearI 0 3 ys (ys.take i ++ List.replicate (xs.length - i) 0 ++ ys.drop (i + (xs.length - i)) : List Int) i (xs.length - i) elem_55 zero_3 (by omega) rfl trivial)] ?_
 refine sR [hR 2 rfl rfl (r_sliceO (lo0 := 0) (sz := (kInt .i64).sz) (off := 0) (n := xs.length) (l := 0) (h := i) (off' := 0) (n' := i) (lo := none) (hi := some (.tmp 40, ((i : Nat) : Int))) Tryz.underlying55 iat_3 rfl rfl rfl rfl rfl (by omega) (by omega) (by omega) (by omega) (lt_of rfl) trivial)] ?_
 refine T.ret ?_
 refine eN ⟨(Zq xs i j), [.live (arrK 3 (kInt .i64) (ys.take i ++ List.replicate (xs.length - i) 0 ++ ys.drop (i + (xs.length - i)) : List Int)), Zh, (Zi f u), (Zj rows)]⟩ ?_
 refine Ends.turn (s' := ⟨(Zq xs i j), [.live (arrK 3 (kInt .i64) ((ys.take i ++ List.replicate (xs.length - i) 0 ++ ys.drop (i + (xs.length - i)) : List Int).take i)), Zh, (Zi f u), (Zj rows)]⟩) (fun _ _ hG => Gs.trunc 0 3 (kInt .i64) (ys.take i ++ List.replicate (xs.length - i) 0 ++ ys.drop (i + (xs.length - i)) : List Int) ((ys.take i ++ List.replicate (xs.length - i) 0 ++ ys.drop (i + (xs.length - i)) : List Int).take i) i rfl rfl hG) ?_
 exact eRt 4 (.one (.own 0 (kInt .i64).sz 0 i)) [0, 1, 2, 3] (by have e1 : ((filR f xs).length : Nat) = i := (by (have h9 := congrArg List.length (del_end (by omega) hys); rw [List.length_take] at h9; omega)); have hE := congrArg (fun (q1 : Nat) => (ownV 0 (kInt .i64) 0 q1 : AV)) e1; exact hE) ⟨⟨rfl, (by have e1 : (((ys.take i ++ List.replicate (xs.length - i) 0 ++ ys.drop (i + (xs.length - i)) : List Int).take i) : List Int) = (filR f xs) := (by (rw [cut_end (by omega), del_end (by omega) hys])); have hE := congrArg (fun (q1 : List Int) => (.live (arrK 3 (kInt .i64) q1) : HS)) e1; exact Eq.trans (by kernel_rfl) hE)⟩, (ix (ix (ix trivial)))⟩
theorem sort_int (xs : List Int) (hx : xs.length ≤ 1000000000) : Holds Tryz.prog 40 ⟨[ownV 0 (kInt .i64) 0 xs.length], [arrK 3 (kInt .i64) xs], .tup [], [.live (arrK 3 (kInt .i64) (sortI xs))]⟩ := sort_holds lays189 3 xs hx
section
variable (xs : List Int) (k : Nat) (p : Nat) (q : Nat)
abbrev Zr : AV := ownV 0 (kInt .i64) 0 xs.length
abbrev Zs : List HS := [.live (arrK 3 (kInt .i64) xs)]
abbrev Zt : AV := vB (decide (((xs.length : Nat) : Int) < 2))
abbrev Zu : List AV := [(Zr xs), aa, dv (.slice none 0 0), vI ((k : Nat) : Int), aa, aa, aa, aa, (Zt xs)]
abbrev Zw : AV := ownV 0 (kInt .i64) k (xs.length - k)
abbrev Zy : List AV := [(Zr xs), aa, ownV 0 (kInt .i64) 0 p, vI ((p : Nat) : Int), (Zw xs k), vI ((q : Nat) : Int), aa, aa, aa, aa, aa, aa, aa, aa, aa, aa, aa, aa, aa, aa, aa, aa, aa, aa, aa, aa, aa, aa, aa, aa, aa, aa, vB (decide (((q : Nat) : Int) < ((xs.length - k : Nat) : Int)))]
end
theorem compact_int (xs : List Int) (hx : xs.length ≤ 1000000) : Holds Tryz.prog 41 ⟨[ownV 0 (kInt .i64) 0 xs.length], [arrK 3 (kInt .i64) xs], ownV 0 (kInt .i64) 0 (cptL xs).length, [.live (arrK 3 (kInt .i64) (cptL xs))]⟩ := by
 refine Holds.of Tryz.func41 rfl (N := 61) Tryz.ntmps41 rfl fun w0 B0 S0 U0 => ?_
 show T _ (mkBase 61 1 w0 S0 U0 B0) ⟨[(Zr xs)], (Zs xs)⟩ _ _
 refine sR [] ?_
 refine T.seq ?_
 refine sR [] ?_
 by_cases hq1 : ((xs.length : Nat) : Int) < 2
 ·have hsh := cpt_short hq1
  refine cT (dT hq1) ?_
  refine sR [] ?_
  refine T.ret (rT ?_)
  exact eRt 2 (.one (.own 0 (kInt .i64).sz 0 xs.length)) [0] (by have e1 : ((cptL xs).length : Nat) = xs.length := (by (rw [hsh])); have hE := congrArg (fun (q1 : Nat) => (ownV 0 (kInt .i64) 0 q1 : AV)) e1; exact hE) ⟨⟨rfl, (by have e1 : (xs : List Int) = (cptL xs) := (by exact hsh.symm); have hE := congrArg (fun (q1 : List Int) => (.live (arrK 3 (kInt .i64) q1) : HS)) e1; exact Eq.trans (by kernel_rfl) hE)⟩, trivial⟩
 refine cF (dF hq1) ?_
 refine T.skip (nT (T.seq ?_))
 refine sR [] ?_
 refine T.block ?_
 refine T.loop (ι := Nat) (fun (k : Nat) => ⟨(Zu xs k), (Zs xs)⟩) (fun (k : Nat) => (k ≤ xs.length) ∧ (1 ≤ k) ∧ (∀ m, 1 ≤ m → m < k → ¬ xs.getD m 0 = xs.getD (m - 1) 0)) (fun (k : Nat) => xs.length - k) (1) ⟨(by omega), (Nat.le_refl _), (fun m h1 h2 => by omega)⟩ (fun _ _ hG => Gs.iI [0] (bm 9 269) rfl rfl hG) ?_
 rintro k ⟨hk, hk1, hb⟩
 show T _ _ ⟨(Zu xs k), (Zs xs)⟩ _ _
 replace hk : k ≤ xs.length := hk
 replace hk1 : 1 ≤ k := hk1
 replace hb : ∀ m, 1 ≤ m → m < k → ¬ xs.getD m 0 = xs.getD (m - 1) 0 := hb
 refine T.seq ?_
 refine sR [] ?_
 by_cases hq2 : ((k : Nat) : Int) < ((xs.length : Nat) : Int)
 ·refine cT (dT hq2) ?_
  refine T.skip (nT (T.seq ?_))
  refine T.block ?_
  refine sD [[], [], [0, 1], [0, 1, 2], [], [], [5], [4, 5, 6], [4, 5, 6, 7], [0, 1, 2, 3, 4, 5, 6, 7, 8]] [hR 2 rfl rfl (r_indexO (k := .i64) (l := 0) (sz := (kInt .i64).sz) (off := 0) (n := xs.length) (i := ((k : Nat) : Int)) (m := k) (o' := k * (kInt .i64).sz + 0) Tryz.underlying55 iat_3 rfl rfl (by omega) (by simp) (lt_of rfl) trivial),
    hR 3 rfl rfl (r_loadA (l := 0) (off := k * (kInt .i64).sz + 0) (i := k) (j := 0) (T := 3) (sz := (kInt .i64).sz) (n := xs.length) (el := elOf (kInt .i64) xs) (c := .val (.int .i64 (xs.getD k 0))) wide_3 rfl (by omega) (by decide) rfl (lt_of rfl) trivial),
    hR 6 rfl rfl (r_bin (u1 := .int .i64 ((k : Nat) : Int)) (u2 := .int .i64 1) (v := .int .i64 ((k - 1 : Nat) : Int)) (b_sub (by rw [IntKind.wrap_i64]; omega)) (lt_of rfl) ⟨rfl, trivial⟩),
    hR 7 rfl rfl (r_indexO (k := .i64) (l := 0) (sz := (kInt .i64).sz) (off := 0) (n := xs.length) (i := ((k - 1 : Nat) : Int)) (m := (k - 1)) (o' := (k - 1) * (kInt .i64).sz + 0) Tryz.underlying55 iat_3 rfl rfl (by omega) (by simp) (lt_of rfl) trivial),
    hR 8 rfl rfl (r_loadA (l := 0) (off := (k - 1) * (kInt .i64).sz + 0) (i := k - 1) (j := 0) (T := 3) (sz := (kInt .i64).sz) (n := xs.length) (el := elOf (kInt .i64) xs) (c := .val (.int .i64 (xs.getD (k - 1) 0))) wide_3 rfl (by omega) (by decide) rfl (lt_of rfl) trivial)] ?_
  by_cases hq3 : (xs.getD k 0) = (xs.getD (k - 1) 0)
  ·have hst := cpt_start hk1 (by omega) hb hq3
   refine cT (dT hq3) ?_
   refine sR [hR 2 rfl rfl (r_sliceO (lo0 := 0) (sz := (kInt .i64).sz) (off := 0) (n := xs.length) (l := k) (h := xs.length) (off' := k) (n' := (xs.length - k)) (lo := some (.tmp 27, ((k : Nat) : Int))) (hi := none) Tryz.underlying55 iat_3 rfl rfl rfl rfl rfl ‹_› (by omega) (by omega) (by omega) (lt_of rfl) trivial)] ?_
   refine T.seq ?_
   refine sR [] ?_
   refine T.block ?_
   refine T.loop (ι := Nat × Nat × (List Int)) (fun (x_ : Nat × Nat × (List Int)) => ⟨[(Zr xs), aa, aa, vI ((x_.1 : Nat) : Int), (Zw xs k), vI ((x_.2.1 : Nat) : Int)], [.live (arrK 3 (kInt .i64) x_.2.2)]⟩) (fun (x_ : Nat × Nat × (List Int)) => (x_.1 < k + x_.2.1) ∧ (1 ≤ x_.2.1) ∧ (k + x_.2.1 ≤ xs.length) ∧ (x_.2.2.length = xs.length) ∧ (x_.2.2.take x_.1 = cptN xs (k + x_.2.1)) ∧ (∀ m, k + x_.2.1 - 1 ≤ m → x_.2.2.getD m 0 = xs.getD m 0)) (fun (x_ : Nat × Nat × (List Int)) => xs.length - k - x_.2.1) (k, 1, xs) ⟨(show k < k + 1 from (by omega)), (show 1 ≤ 1 from (Nat.le_refl _)), (show k + 1 ≤ xs.length from (by omega)), (show xs.length = xs.length from rfl), (show xs.take k = cptN xs (k + 1) from hst), (show ∀ m, k + 1 - 1 ≤ m → xs.getD m 0 = xs.getD m 0 from (fun _ _ => rfl))⟩ (fun _ _ hG => Gs.iI [0] (bm 6 57) rfl rfl hG) ?_
   rintro ⟨p, q, ys⟩ ⟨hp, hq1, hkq, hyl, hys, hyd⟩
   show T _ _ ⟨[(Zr xs), aa, aa, vI ((p : Nat) : Int), (Zw xs k), vI ((q : Nat) : Int)], [.live (arrK 3 (kInt .i64) ys)]⟩ _ _
   replace hp : p < k + q := hp
   replace hq1 : 1 ≤ q := hq1
   replace hkq : k + q ≤ xs.length := hkq
   replace hyl : ys.length = xs.length := hyl
   replace hys : ys.take p = cptN xs (k + q) := hys
   replace hyd : ∀ m, k + q - 1 ≤ m → ys.getD m 0 = xs.getD m 0 := hyd
   refine T.seq ?_
   refine sR [] ?_
   by_cases hq4 : ((q : Nat) : Int) < ((xs.length - k : Nat) : Int)
   ·refine cT (dT hq4) ?_
    refine T.skip (nT (T.seq ?_))
    refine T.block ?_
    refine sD [[], [], [0, 1], [0, 1, 2], [], [], [5], [4, 5, 6], [4, 5, 6, 7], [0, 1, 2, 3, 4, 5, 6, 7, 8]] [hR 2 rfl rfl (r_indexO (k := .i64) (l := 0) (sz := (kInt .i64).sz) (off := k) (n := (xs.length - k)) (i := ((q : Nat) : Int)) (m := q) (o' := (k + q) * (kInt .i64).sz + 0) Tryz.underlying55 iat_3 rfl rfl (by omega) (by rfl) (lt_of rfl) trivial),
      hR 3 rfl rfl (r_loadA (l := 0) (off := (k + q) * (kInt .i64).sz + 0) (i := k + q) (j := 0) (T := 3) (sz := (kInt .i64).sz) (n := ys.length) (el := elOf (kInt .i64) ys) (c := .val (.int .i64 (ys.getD (k + q) 0))) wide_3 rfl (by omega) (by decide) rfl (lt_of rfl) trivial),
      hR 6 rfl rfl (r_bin (u1 := .int .i64 ((q : Nat) : Int)) (u2 := .int .i64 1) (v := .int .i64 ((q - 1 : Nat) : Int)) (b_sub (by rw [IntKind.wrap_i64]; omega)) (lt_of rfl) ⟨rfl, trivial⟩),
      hR 7 rfl rfl (r_indexO (k := .i64) (l := 0) (sz := (kInt .i64).sz) (off := k) (n := (xs.length - k)) (i := ((q - 1 : Nat) : Int)) (m := (q - 1)) (o' := (k + (q - 1)) * (kInt .i64).sz + 0) Tryz.underlying55 iat_3 rfl rfl (by omega) (by rfl) (lt_of rfl) trivial),
      hR 8 rfl rfl (r_loadA (l := 0) (off := (k + (q - 1)) * (kInt .i64).sz + 0) (i := k + (q - 1)) (j := 0) (T := 3) (sz := (kInt .i64).sz) (n := ys.length) (el := elOf (kInt .i64) ys) (c := .val (.int .i64 (ys.getD (k + (q - 1)) 0))) wide_3 rfl (by omega) (by decide) rfl (lt_of rfl) trivial)] ?_
    by_cases hq5 : (ys.getD (k + q) 0) ≠ (ys.getD (k + (q - 1)) 0)
    ·have hcn := cpt_yes hp hq1 hyl (by omega) hys hyd hq5; have hcn1 := hcn.1; have hcn2 := hcn.2
     refine cT (dT hq5) ?_
     refine sR [hR 4 rfl rfl (r_indexO (k := .i64) (l := 0) (sz := (kInt .i64).sz) (off := k) (n := (xs.length - k)) (i := ((q : Nat) : Int)) (m := q) (o' := (k + q) * (kInt .i64).sz + 0) Tryz.underlying55 iat_3 rfl rfl (by omega) (by rfl) (lt_of rfl) trivial),
       hR 5 rfl rfl (r_loadA (l := 0) (off := (k + q) * (kInt .i64).sz + 0) (i := k + q) (j := 0) (T := 3) (sz := (kInt .i64).sz) (n := ys.length) (el := elOf (kInt .i64) ys) (c := .val (.int .i64 (ys.getD (k + q) 0))) wide_3 rfl (by omega) (by decide) rfl (lt_of rfl) trivial),
       hR 6 rfl rfl (r_indexO (k := .i64) (l := 0) (sz := (kInt .i64).sz) (off := 0) (n := xs.length) (i := ((p : Nat) : Int)) (m := p) (o' := p * (kInt .i64).sz + 0) Tryz.underlying55 iat_3 rfl rfl (by omega) (by simp) (lt_of rfl) trivial),
       hR 7 rfl rfl (q_storeA 0 3 (kInt .i64) ys (ys.getD (k + q) 0) p 0 1 [.val (.int .i64 (ys.getD (k + q) 0))] (tv := .one (dI (ys.getD (k + q) 0))) (off := p * (kInt .i64).sz + 0) cells_3 ⟨.inl rfl, trivial⟩ rfl rfl (by omega) (by decide) rfl (by intro j hj; replace hj : j < 1 := hj; rcases j with _ | j <;> first | rfl | omega) trivial)] ?_
     refine xK [hR 1 rfl rfl (r_bin (u1 := .int .i64 ((p : Nat) : Int)) (u2 := .int .i64 1) (v := .int .i64 ((p + 1 : Nat) : Int)) (b_add (by rw [IntKind.wrap_i64]; omega)) (lt_of rfl) ⟨rfl, trivial⟩)] ?_
     refine nB ?_
     refine nT ?_
     refine xK [hR 1 rfl rfl (r_bin (u1 := .int .i64 ((q : Nat) : Int)) (u2 := .int .i64 1) (v := .int .i64 ((q + 1 : Nat) : Int)) (b_add (by rw [IntKind.wrap_i64]; omega)) (lt_of rfl) ⟨rfl, trivial⟩)] ?_
     refine nL (p + 1, q + 1, (ys.set p (ys.getD (k + q) 0))) ⟨(show (p + 1) < k + (q + 1) from (by omega)), (show 1 ≤ (q + 1) from (by omega)), (show k + (q + 1) ≤ xs.length from (by omega)), (show (ys.set p (ys.getD (k + q) 0)).length = xs.length from (by (rw [List.length_set]; assumption))), (show (ys.set p (ys.getD (k + q) 0)).take (p + 1) = cptN xs (k + (q + 1)) from hcn1), (show ∀ m, k + (q + 1) - 1 ≤ m → (ys.set p (ys.getD (k + q) 0)).getD m 0 = xs.getD m 0 from hcn2)⟩ (show (xs.length - k - (q + 1) : Nat) < xs.length - k - q from (by omega)) (fun _ _ hG => Gs.iI [0] (bm 6 57) rfl rfl hG)
    have hcn := cpt_no hp hq1 (by omega) hys hyd hq5; have hcn1 := hcn.1; have hcn2 := hcn.2
    refine cF (dF hq5) ?_
    refine T.skip ?_
    refine nB ?_
    refine nT ?_
    refine xK [hR 1 rfl rfl (r_bin (u1 := .int .i64 ((q : Nat) : Int)) (u2 := .int .i64 1) (v := .int .i64 ((q + 1 : Nat) : Int)) (b_add (by rw [IntKind.wrap_i64]; omega)) (lt_of rfl) ⟨rfl, trivial⟩)] ?_
    refine nL (p, q + 1, ys) ⟨(show p < k + (q + 1) from (by omega)), (show 1 ≤ (q + 1) from (by omega)), (show k + (q + 1) ≤ xs.length from (by omega)), (show ys.length = xs.length from ‹_›), (show ys.take p = cptN xs (k + (q + 1)) from hcn1), (show ∀ m, k + (q + 1) - 1 ≤ m → ys.getD m 0 = xs.getD m 0 from hcn2)⟩ (show (xs.length - k - (q + 1) : Nat) < xs.length - k - q from (by omega)) (fun _ _ hG => Gs.iI [0] (bm 6 57) rfl rfl hG)
   refine cF (dF hq4) ?_
   refine T.exit ?_
   refine xT ?_
   refine xT ?_
   refine xH ?_
   refine nT ?_
   refine sR [hR 2 rfl rfl (r_sliceO (lo0 := 0) (sz := (kInt .i64).sz) (off := 0) (n := xs.length) (l := p) (h := xs.length) (off' := p) (n' := (xs.length - p)) (lo := some (.tmp 55, ((p : Nat) : Int))) (hi := none) Tryz.underlying55 iat_3 rfl rfl rfl rfl rfl (by omega) (by omega) (by omega) (by omega) (lt_of rfl) trivial),
     hR 3 rfl rfl (q_clearI 0 3 ys (ys.take p ++ List.replicate (xs.length - p) 0 ++ ys.drop (p + (xs.length - p)) : List Int) p (xs.length - p) elem_55 zero_3 (by omega) rfl trivial)] ?_
   refine sR [hR 2 rfl rfl (r_sliceO (lo0 := 0) (sz := (kInt .i64).sz) (off := 0) (n := xs.length) (l := 0) (h := p) (off' := 0) (n' := p) (lo := none) (hi := some (.tmp 58, ((p : Nat) : Int))) Tryz.underlying55 iat_3 rfl rfl rfl rfl rfl (by omega) (by omega) (by omega) (by omega) (lt_of rfl) trivial)] ?_
   refine T.ret (rB (rT (rT (rB (rT ?_)))))
   refine eN ⟨(Zy xs k p q), [.live (arrK 3 (kInt .i64) (ys.take p ++ List.replicate (xs.length - p) 0 ++ ys.drop (p + (xs.length - p)) : List Int))]⟩ ?_
   refine Ends.turn (s' := ⟨(Zy xs k p q), [.live (arrK 3 (kInt .i64) ((ys.take p ++ List.replicate (xs.length - p) 0 ++ ys.drop (p + (xs.length - p)) : List Int).take p))]⟩) (fun _ _ hG => Gs.trunc 0 3 (kInt .i64) (ys.take p ++ List.replicate (xs.length - p) 0 ++ ys.drop (p + (xs.length - p)) : List Int) ((ys.take p ++ List.replicate (xs.length - p) 0 ++ ys.drop (p + (xs.length - p)) : List Int).take p) p rfl rfl hG) ?_
   exact eRt 2 (.one (.own 0 (kInt .i64).sz 0 p)) [0] (by have e1 : ((cptL xs).length : Nat) = p := (by (have h9 := congrArg List.length (cpt_end (by omega) hkq hys); rw [List.length_take] at h9; omega)); have hE := congrArg (fun (q1 : Nat) => (ownV 0 (kInt .i64) 0 q1 : AV)) e1; exact hE) ⟨⟨rfl, (by have e1 : (((ys.take p ++ List.replicate (xs.length - p) 0 ++ ys.drop (p + (xs.length - p)) : List Int).take p) : List Int) = (cptL xs) := (by (rw [cut_end (by omega), cpt_end (by omega) hkq hys])); have hE := congrArg (fun (q1 : List Int) => (.live (arrK 3 (kInt .i64) q1) : HS)) e1; exact Eq.trans (by kernel_rfl) hE)⟩, trivial⟩
  refine cF (dF hq3) ?_
  refine T.skip ?_
  refine nB ?_
  refine nT ?_
  refine xK [hR 1 rfl rfl (r_bin (u1 := .int .i64 ((k : Nat) : Int)) (u2 := .int .i64 1) (v := .int .i64 ((k + 1 : Nat) : Int)) (b_add (by rw [IntKind.wrap_i64]; omega)) (lt_of rfl) ⟨rfl, trivial⟩)] ?_
  refine nL (k + 1) ⟨(show (k + 1) ≤ xs.length from (by omega)), (show 1 ≤ (k + 1) from (by omega)), (show ∀ m, 1 ≤ m → m < (k + 1) → ¬ xs.getD m 0 = xs.getD (m - 1) 0 from (fun m h1 h2 => by rcases Nat.lt_or_ge m k with h9 | h9; exact hb m h1 h9; have h8 : m = k := (by omega); subst h8; assumption))⟩ (show (xs.length - (k + 1) : Nat) < xs.length - k from (by omega)) (fun _ _ hG => Gs.iI [0] (bm 9 269) rfl rfl hG)
 have hsh := cpt_none (k := k) (by omega) hb
 refine cF (dF hq2) ?_
 refine T.exit ?_
 refine xT ?_
 refine xT ?_
 refine xH ?_
 refine nT ?_
 refine sR [] ?_
 refine T.ret ?_
 exact eRt 2 (.one (.own 0 (kInt .i64).sz 0 xs.length)) [0] (by have e1 : ((cptL xs).length : Nat) = xs.length := (by (rw [hsh])); have hE := congrArg (fun (q1 : Nat) => (ownV 0 (kInt .i64) 0 q1 : AV)) e1; exact hE) ⟨⟨rfl, (by have e1 : (xs : List Int) = (cptL xs) := (by exact hsh.symm); have hE := congrArg (fun (q1 : List Int) => (.live (arrK 3 (kInt .i64) q1) : HS)) e1; exact Eq.trans (by kernel_rfl) hE)⟩, trivial⟩
abbrev Z10 (f : Int) (u : Int) (rows : List (authn_pair × Bool)) (x : List Int) : List HS := [.live (.box 98 [dI (3 * f + 1), dI u, .mref 1]), .live (mpK f_authn_pair kBool rows), .live (.box 28 [.ptr 0 0]), .live (arrK 3 (kInt .i64) (sortI (filR f x)))]
abbrev Z11 (f : Int) (tx : Bool) (nx : Bool) (x : List Int) : List AV := [pv 0 0, slV tx nx (kInt .i64) x, pv 2 0, aa, vI 0, ownV 3 (kInt .i64) 0 (sortI (filR f x)).length]
theorem authn_Count (f : Int) (u : Int) (rows : List (authn_pair × Bool)) (tx : Bool) (nx : Bool) (x : List Int) (hf : 0 ≤ f ∧ f ≤ 2) (hu : 0 ≤ u ∧ u ≤ 8) (hx : x.length ≤ 1000000) : Holds Tryz.prog 18 ⟨[pv 0 0, slV tx nx (kInt .i64) x], [.box 98 [dI (3 * f + 1), dI u, .mref 1], mpK f_authn_pair kBool rows], vI ((cntR f x : Nat) : Int), [.live (.box 98 [dI (3 * f + 1), dI u, .mref 1]), .live (mpK f_authn_pair kBool rows)]⟩ := by
 refine Holds.of Tryz.func18 rfl (N := 15) Tryz.ntmps18 rfl fun w0 B0 S0 U0 => ?_
 show T _ (mkBase 15 2 w0 S0 U0 B0) ⟨[pv 0 0, slV tx nx (kInt .i64) x], [.live (.box 98 [dI (3 * f + 1), dI u, .mref 1]), .live (mpK f_authn_pair kBool rows)]⟩ _ _
 have hfl := fil_len f x
 have hsl := sort_len (filR f x)
 have hci := cnt_is hf x
 refine sR [] ?_
 refine sR [hR 1 rfl rfl (rCa (clone_int tx nx x ‹_›) Tryz.func37 [3] [(.tmp 6, slV tx nx (kInt .i64) x)] 0 1),
   hR 2 rfl rfl (r_makeClo (f := 38) (ls := [(.tmp 2, 2)]) rfl (lt_of rfl) trivial),
   hR 3 rfl rfl (rCa (delete_int f u rows x ‹_› ‹_› ‹_›) Tryz.func36 [3, 2, 0, 1] [(.tmp 7, ownV 3 (kInt .i64) 0 x.length), (.tmp 8, sv (.clo 38 [2]))] 4 4)] ?_
 refine sR [hR 1 rfl rfl (rCa (sort_int (filR f x) (by omega)) Tryz.func40 [3] [(.tmp 10, ownV 3 (kInt .i64) 0 (filR f x).length)] 1 1)] ?_
 refine tN ⟨[pv 0 0, slV tx nx (kInt .i64) x, pv 2 0, aa, vI 0, ownV 3 (kInt .i64) 0 (filR f x).length], (Z10 f u rows x)⟩ ?_
 refine T.turn (s' := ⟨(Z11 f tx nx x), (Z10 f u rows x)⟩) (fun _ _ hG => Gs.iI [0, 1, 2, 3] (bm 6 55) (t2 := [pv 0 0, slV tx nx (kInt .i64) x, pv 2 0, aa, vI 0, ownV 3 (kInt .i64) 0 (filR f x).length]) (congrArg (fun (q1 : Nat) => ([pv 0 0, slV tx nx (kInt .i64) x, pv 2 0, aa, vI 0, ownV 3 (kInt .i64) 0 q1] : List AV)) (by exact sort_len _)) rfl hG) ?_
 refine sR [hR 1 rfl rfl (rCa (compact_int (sortI (filR f x)) (by omega)) Tryz.func41 [3] [(.tmp 12, ownV 3 (kInt .i64) 0 (sortI (filR f x)).length)] 1 1)] ?_
 refine T.ret ?_
 exact eRt 4 (.one (dI (((cptL (sortI (filR f x))).length : Nat) : Int))) [0, 1] (by have e1 : (((cntR f x : Nat) : Int) : Int) = (((cptL (sortI (filR f x))).length : Nat) : Int) := (by (rw [hci])); have hE := cI e1; exact hE) (ix (ix trivial))
end Go.Proofs.YtalapplihdmenaaGreat.Q
namespace Go.Proofs.YtalapplihdmenaaGreat.Q
set_option linter.unusedVariables false
set_option linter.unusedSimpArgs false
set_option maxRecDepth 100000
theorem cnt_of_mem {f : Int} (hf : 0 ≤ f ∧ f ≤ 2) {l r : List Int} (h1 : r.Nodup) (hm : ∀ s, s ∈ r ↔ isReplica f s ∧ s ∈ l) : r.length = cntR f l := by
  have h2 : (((List.range (3 * f + 1).toNat).filter fun (i : Nat) => decide (((i : Nat) : Int) ∈ l)).map Int.ofNat).Nodup := List.pairwise_map.2 ((List.nodup_range.sublist List.filter_sublist).imp fun hab e => hab (Int.ofNat.inj e))
  have hm2 : ∀ s, s ∈ r ↔ s ∈ ((List.range (3 * f + 1).toNat).filter fun (i : Nat) => decide (((i : Nat) : Int) ∈ l)).map Int.ofNat := fun s => by
    rw [hm, List.mem_map]
    constructor
    · rintro ⟨h4, h3⟩
      refine ⟨s.toNat, List.mem_filter.2 ⟨List.mem_range.2 (by have := h4.1; have := h4.2; omega), decide_eq_true ?_⟩, ?_⟩
      · rw [show ((s.toNat : Nat) : Int) = s by have := h4.1; omega]; exact h3
      · show ((s.toNat : Nat) : Int) = s; have := h4.1; omega
    · rintro ⟨i, h3, rfl⟩
      obtain ⟨h4, h5⟩ := List.mem_filter.1 h3
      have h4 := List.mem_range.1 h4
      exact ⟨⟨Int.natCast_nonneg _, by show ((i : Nat) : Int) < _; omega⟩, by simpa using h5⟩
  have := ((List.perm_ext_iff_of_nodup h1 h2).2 hm2).length_eq
  rw [this, List.length_map]; rfl
section
variable {f : Int} {l : List aE} {k : Nat}
def sgn (l : List aE) (k : Nat) : List Int := (l.take k).map (·.f_Signer)
end
section
variable {P : Program}
end
def meetL (l m : List Int) (k : Nat) : List Int := (l.take k).filter fun s => decide (s ∈ m)
theorem both_len {α : Type} (p q : α → Bool) : ∀ l : List α, (l.filter p).length + (l.filter q).length ≤ l.length + (l.filter fun a => p a && q a).length
  | [] => Nat.le_refl _
  | a :: l => by
    have ih := both_len p q l
    cases hp : p a <;> cases hq : q a <;> simp [List.filter_cons, hp, hq] <;> omega
theorem meetsR {f : Int} (hf : 0 ≤ f ∧ f ≤ 2) {l m : List Int} {k : Nat} (hk : l.length ≤ k) (h1 : ¬ ((cntR f l : Nat) : Int) < 2 * f + 1) (h2 : ¬ ((cntR f m : Nat) : Int) < 2 * f + 1) : ((cntR f (meetL l m k) : Nat) : Int) ≥ f + 1 := by
  have h := both_len (fun (i : Nat) => decide (((i : Nat) : Int) ∈ l)) (fun (i : Nat) => decide (((i : Nat) : Int) ∈ m)) (List.range (3 * f + 1).toNat)
  have e : ((List.range (3 * f + 1).toNat).filter fun a => decide (((a : Nat) : Int) ∈ l) && decide (((a : Nat) : Int) ∈ m)).length = cntR f (meetL l m k) := by
    unfold cntR meetL
    rw [List.take_of_length_le hk]
    congr 2
    funext a
    rw [← Bool.decide_and, decide_eq_decide, List.mem_filter, decide_eq_true_eq]
  rw [e, List.length_range] at h
  unfold cntR at h1 h2
  omega
end Go.Proofs.YtalapplihdmenaaGreat.Q
namespace Go.Proofs.YtalapplihdmenaaGreat.Q
open Go Go.RowKit
set_option linter.unusedVariables false
set_option linter.unusedSimpArgs false
set_option maxRecDepth 100000
set_option maxHeartbeats 4000000
theorem ref03_New (f : Int) (u : Int) : Holds Tryz.prog 25 ⟨[vI f, vI u], [], pv 0 0, [.live (.box 75 [dB true, dI (fOf f), dI (cOf u), .own 1 (kE false).sz 0 ([] : List aE).length]), .live (arrK 35 (kE false) ([] : List aE))]⟩ := by
 refine Holds.of Tryz.func25 rfl (N := 13) Tryz.ntmps25 rfl fun w0 B0 S0 U0 => ?_
 show T _ (mkBase 13 0 w0 S0 U0 B0) ⟨[vI f, vI u], []⟩ _ _
 refine sR [] ?_
 refine sR [hR 1 rfl rfl (r_min (k := .i64) (a := f) (b := 2) (lt_of rfl) ⟨rfl, trivial⟩),
   hR 2 rfl rfl (r_max (k := .i64) (a := 0) (b := min f 2) (lt_of rfl) ⟨rfl, trivial⟩),
   hR 4 rfl rfl (r_min (k := .i64) (a := u) (b := 8) (lt_of rfl) ⟨rfl, trivial⟩),
   hR 5 rfl rfl (r_max (k := .i64) (a := 0) (b := min u 8) (lt_of rfl) ⟨rfl, trivial⟩)] ?_
 refine T.ret ?_
 refine eN ⟨[vI f, vI u, aa, aa, pv 0 0], [.live (.box 75 [dB true, dI (max 0 (min f 2)), dI (max 0 (min u 8)), .d (.val (.slice none 0 0))])]⟩ ?_
 refine Ends.turn (s' := ⟨[vI f, vI u, aa, aa, pv 0 0], [.live (.box 75 [dB true, dI (max 0 (min f 2)), dI (max 0 (min u 8)), .own 1 (kE false).sz 0 0]), .live (arrK 35 (kE false) ([] : List aE))]⟩) (fun _ _ hG => Gs.absentB 1 0 3 35 (kE false) (Tb := 75) (cs := [dB true, dI (max 0 (min f 2)), dI (max 0 (min u 8)), .d (.val (.slice none 0 0))]) rfl rfl rfl hG) ?_
 exact eRt 4 (.one (.ptr 0 0)) [0, 1] rfl ⟨⟨rfl, (by have e1 : (max 0 (min f 2) : Int) = (fOf f) := (by (simp only [fOf, cOf]; omega)); have e2 : (max 0 (min u 8) : Int) = (cOf u) := (by (simp only [fOf, cOf]; omega)); have e3 : (0 : Nat) = ([] : List aE).length := (by rfl); have hE := congr (congr (congrArg (fun (q1 : Int) (q2 : Int) (q3 : Nat) => (.live (.box 75 [dB true, dI q1, dI q2, .own 1 (kE false).sz 0 q3]) : HS)) e1) e2) e3; exact Eq.trans (by kernel_rfl) hE)⟩, (ix trivial)⟩
end Go.Proofs.YtalapplihdmenaaGreat.Q
