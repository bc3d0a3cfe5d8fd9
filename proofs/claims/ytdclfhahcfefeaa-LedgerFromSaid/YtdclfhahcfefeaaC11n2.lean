import Derived.Test.YtdclfhahcfefeaaC11n1
namespace Go.Proofs.Ytdclfhahcfefeaa.Q
open Go Go.RowKit
set_option linter.unusedVariables false
set_option linter.unusedSimpArgs false
set_option maxRecDepth 100000
set_option maxHeartbeats 4000000
-- quaestor/quaestorref01.Int
theorem ref01_Int (tb : Bool) (nb : Bool) (b : List UInt8) (n : Int) (hb : b.length ≤ 140737488355000) : Holds Try.prog 57 ⟨[slV tb nb kU8 b, dv (.int .i64 n)], [], ownV 0 kU8 0 (b ++ intB n).length, [.live (arrK 5 kU8 (b ++ intB n))]⟩ := by
  refine Holds.of Try.func57 rfl (N := 9) Try.ntmps57 rfl fun w0 B0 S0 U0 => ?_
  show T _ (mkBase 9 0 w0 S0 U0 B0) ⟨[slV tb nb kU8 b, dv (.int .i64 n)], []⟩ _ _
  have hn := u64_lt n
  refine T.seq ?_
  refine xR [] (by kernel_rfl) (by kernel_rfl) ?_
  refine nT ?_
  refine T.seq ?_
  refine xR [hR 2 rfl rfl (r_conv (u := .int .i64 n) (v := .int .u64 ((u64 n : Nat) : Int)) (c_u64 Try.underlying2 Try.underlying113) (lt_of rfl) trivial),
    hR 3 rfl rfl (r_call (ref01_bits tb nb b (u64 n) 8 (by first | assumption | omega | (unfold maxLen; omega) | (simp [maxLen, -List.getD_eq_getElem?_getD] <;> omega) | decide) (by first | assumption | omega | (unfold maxLen; omega) | (simp [maxLen, -List.getD_eq_getElem?_getD] <;> omega) | decide) (by first | assumption | omega | (unfold maxLen; omega) | (simp [maxLen, -List.getD_eq_getElem?_getD] <;> omega) | decide)) Try.func80 rfl (by decide) [0] [] (l := [(.tmp 5, slV tb nb kU8 b), (.tmp 7, dv (.int .u64 ((u64 n : Nat) : Int))), (.const (.int .i64 8), dv (.int .i64 8))]) [] rfl 0 1 rfl rfl rfl rfl rfl rfl rfl rfl rfl ⟨.inl ⟨rfl, rfl⟩, ⟨.inl ⟨rfl, rfl⟩, ⟨.inl ⟨rfl, rfl⟩, trivial⟩⟩⟩ rfl (fun b hb => by cases hb) (.inl rfl) (lt_of rfl) ⟨rfl, trivial⟩)] (by kernel_rfl) (by kernel_rfl) ?_
  refine nT ?_
  refine T.ret ?_
  exact tE (.inl rfl) [.t 4 (.one (.own 0 kU8.sz 0 (b ++ (spellB (u64 n) 8)).length))] ⟨⟨rfl, by kernel_rfl⟩, trivial⟩ [0] (by have e1 : ((b ++ intB n).length : Nat) = (b ++ (spellB (u64 n) 8)).length := (by first | rfl | (simp; done)); have hE := congrArg (fun (q1 : Nat) => (ownV 0 kU8 0 q1 : AV)) e1; exact hE) rfl rfl rfl rfl rfl ⟨⟨rfl, (by have e1 : (b ++ (spellB (u64 n) 8) : List UInt8) = b ++ intB n := (by first | rfl | (simp; done)); have hE := congrArg (fun (q1 : List UInt8) => (.live (arrK 5 kU8 q1) : HS)) e1; exact Eq.trans (by kernel_rfl) hE)⟩, trivial⟩

-- quaestor/quaestorref01.Count
theorem ref01_Count (tb : Bool) (nb : Bool) (b : List UInt8) (n : Int) (hb : b.length ≤ 140737488355000) : Holds Try.prog 79 ⟨[slV tb nb kU8 b, dv (.int .i64 n)], [], ownV 0 kU8 0 (b ++ cntB n).length, [.live (arrK 5 kU8 (b ++ cntB n))]⟩ := by
  refine Holds.of Try.func79 rfl (N := 11) Try.ntmps79 rfl fun w0 B0 S0 U0 => ?_
  show T _ (mkBase 11 0 w0 S0 U0 B0) ⟨[slV tb nb kU8 b, dv (.int .i64 n)], []⟩ _ _
  have hn := cntN_lt n
  refine T.seq ?_
  refine xR [] (by kernel_rfl) (by kernel_rfl) ?_
  refine nT ?_
  refine T.seq ?_
  refine xR [hR 2 rfl rfl (r_min (k := .i64) (a := n) (b := 4294967295) (lt_of rfl) ⟨rfl, trivial⟩),
    hR 3 rfl rfl (r_max (k := .i64) (a := 0) (b := min n 4294967295) (lt_of rfl) ⟨rfl, trivial⟩),
    hR 4 rfl rfl (r_conv (u := .int .i64 (max 0 (min n 4294967295))) (v := .int .u64 ((cntN n : Nat) : Int)) (c_int Try.underlying3 Try.underlying113 (by rw [IntKind.wrap_u64]; unfold cntN; omega)) (lt_of rfl) trivial),
    hR 5 rfl rfl (r_call (ref01_bits tb nb b (cntN n) 4 (by first | assumption | omega | (unfold maxLen; omega) | (simp [maxLen, -List.getD_eq_getElem?_getD] <;> omega) | decide) (by first | assumption | omega | (unfold maxLen; omega) | (simp [maxLen, -List.getD_eq_getElem?_getD] <;> omega) | decide) (by first | assumption | omega | (unfold maxLen; omega) | (simp [maxLen, -List.getD_eq_getElem?_getD] <;> omega) | decide)) Try.func80 rfl (by decide) [0] [] (l := [(.tmp 5, slV tb nb kU8 b), (.tmp 9, dv (.int .u64 ((cntN n : Nat) : Int))), (.const (.int .i64 4), dv (.int .i64 4))]) [] rfl 0 1 rfl rfl rfl rfl rfl rfl rfl rfl rfl ⟨.inl ⟨rfl, rfl⟩, ⟨.inl ⟨rfl, rfl⟩, ⟨.inl ⟨rfl, rfl⟩, trivial⟩⟩⟩ rfl (fun b hb => by cases hb) (.inl rfl) (lt_of rfl) ⟨rfl, trivial⟩)] (by kernel_rfl) (by kernel_rfl) ?_
  refine nT ?_
  refine T.ret ?_
  exact tE (.inl rfl) [.t 4 (.one (.own 0 kU8.sz 0 (b ++ (spellB (cntN n) 4)).length))] ⟨⟨rfl, by kernel_rfl⟩, trivial⟩ [0] (by have e1 : ((b ++ cntB n).length : Nat) = (b ++ (spellB (cntN n) 4)).length := (by first | rfl | (simp; done)); have hE := congrArg (fun (q1 : Nat) => (ownV 0 kU8 0 q1 : AV)) e1; exact hE) rfl rfl rfl rfl rfl ⟨⟨rfl, (by have e1 : (b ++ (spellB (cntN n) 4) : List UInt8) = b ++ cntB n := (by first | rfl | (simp; done)); have hE := congrArg (fun (q1 : List UInt8) => (.live (arrK 5 kU8 q1) : HS)) e1; exact Eq.trans (by kernel_rfl) hE)⟩, trivial⟩

-- quaestor/quaestorref01.Bytes
theorem ref01_Bytes (tb : Bool) (nb : Bool) (b : List UInt8) (tx : Bool) (nx : Bool) (x : List UInt8) (hb : b.length + x.length ≤ 140737488355000) : Holds Try.prog 56 ⟨[slV tb nb kU8 b, slV tx nx kU8 x], [], ownV 0 kU8 0 (b ++ bytesB x).length, [.live (arrK 5 kU8 (b ++ bytesB x))]⟩ := by
  refine Holds.of Try.func56 rfl (N := 13) Try.ntmps56 rfl fun w0 B0 S0 U0 => ?_
  show T _ (mkBase 13 0 w0 S0 U0 B0) ⟨[slV tb nb kU8 b, slV tx nx kU8 x], []⟩ _ _
  have hcl := cnt_len ((x.length : Nat) : Int)
  refine T.seq ?_
  refine xR [] (by kernel_rfl) (by kernel_rfl) ?_
  refine nT ?_
  refine T.seq ?_
  refine xR [hR 3 rfl rfl (r_call (ref01_Count tb nb b ((x.length : Nat) : Int) (by first | assumption | omega | (unfold maxLen; omega) | (simp [maxLen, -List.getD_eq_getElem?_getD] <;> omega) | decide)) Try.func79 rfl (by decide) [0] [] (l := [(.tmp 6, slV tb nb kU8 b), (.tmp 8, dv (.int .i64 ((x.length : Nat) : Int)))]) [] rfl 0 1 rfl rfl rfl rfl rfl rfl rfl rfl rfl ⟨.inl ⟨rfl, rfl⟩, ⟨.inl ⟨rfl, rfl⟩, trivial⟩⟩ rfl (fun b hb => by cases hb) (.inl rfl) (lt_of rfl) trivial)] (by kernel_rfl) (by kernel_rfl) ?_
  refine nT ?_
  refine T.seq ?_
  refine xR [hR 2 rfl rfl (q_appendO 0 1 5 1 kU8 kU8_ok (b ++ cntB ((x.length : Nat) : Int)) x (b ++ cntB ((x.length : Nat) : Int) ++ x) (b ++ cntB ((x.length : Nat) : Int)).length (sy := (.d (dsl tx nx kU8 x))) (rhs := []) elem_58 (by first | assumption | omega | (unfold maxLen; omega) | (simp [maxLen, -List.getD_eq_getElem?_getD] <;> omega) | decide) (src_sl tx nx kU8 x) (by rw [List.take_length]) (by first | assumption | omega | (unfold maxLen; omega) | (simp [maxLen, -List.getD_eq_getElem?_getD] <;> omega) | decide) (by first | assumption | omega | (unfold maxLen; omega) | (simp [maxLen, -List.getD_eq_getElem?_getD] <;> omega) | decide) (lt_of rfl) trivial)] (by kernel_rfl) (by kernel_rfl) ?_
  refine nT ?_
  refine T.ret ?_
  exact tE (.inl rfl) [.t 4 (.one (.own 1 kU8.sz 0 (b ++ cntB ((x.length : Nat) : Int) ++ x).length))] ⟨⟨rfl, by kernel_rfl⟩, trivial⟩ [1] (by have e1 : ((b ++ bytesB x).length : Nat) = (b ++ cntB ((x.length : Nat) : Int) ++ x).length := (by first | rfl | (simp only [bytesB, List.append_assoc])); have hE := congrArg (fun (q1 : Nat) => (ownV 1 kU8 0 q1 : AV)) e1; exact hE) rfl rfl rfl rfl rfl ⟨⟨rfl, (by have e1 : (b ++ cntB ((x.length : Nat) : Int) ++ x : List UInt8) = b ++ bytesB x := (by first | rfl | (simp only [bytesB, List.append_assoc])); have hE := congrArg (fun (q1 : List UInt8) => (.live (arrK 5 kU8 q1) : HS)) e1; exact Eq.trans (by kernel_rfl) hE)⟩, trivial⟩

theorem iat_58 : Try.prog.info? 58 = some Try.t58 := by kernel_rfl
theorem wide_58 : Wide Try.prog 58 none := ⟨_, Try.underlying58, (fun _ h => by cases h), (fun _ _ h => by cases h)⟩
-- quaestor/term.Of
theorem term_Of (t : UInt8) (tl : Bool) (nl : Bool) (sl_ : Bool) (l : List (List UInt8)) (hs : szP l ≤ 140737488354000) : Holds Try.prog 33 ⟨[dv (.int .u8 ((t.toNat : Nat) : Int)), slV tl nl (kSl sl_ kU8) l], [], dv (strV (ofB t l)), []⟩ := by
  refine Holds.of Try.func33 rfl (N := 44) Try.ntmps33 rfl fun w0 B0 S0 U0 => ?_
  show T _ (mkBase 44 0 w0 S0 U0 B0) ⟨[dv (.int .u8 ((t.toNat : Nat) : Int)), slV tl nl (kSl sl_ kU8) l], []⟩ _ _
  have hcn := szP_count l
  have hcl := cnt_len ((l.length : Nat) : Int)
  have hall := ofB_len t l
  refine T.seq ?_
  refine xR [] (by kernel_rfl) (by kernel_rfl) ?_
  refine nT ?_
  refine T.seq ?_
  refine xR [] (by kernel_rfl) (by kernel_rfl) ?_
  refine nT ?_
  refine T.seq ?_
  refine T.seq ?_
  refine xR [] (by kernel_rfl) (by kernel_rfl) ?_
  refine nT ?_
  refine T.block ?_
  refine T.loop (ι := Nat) (fun (k : Nat) => ⟨[dv (.int .u8 ((t.toNat : Nat) : Int)), slV tl nl (kSl sl_ kU8) l, aa, aa, dv (strV []), dv (.int .i64 ((szP (l.take k) : Nat) : Int)), aa, aa, aa, aa, aa, slV tl nl (kSl sl_ kU8) l, dv (.int .i64 ((l.length : Nat) : Int)), dv (.int .i64 ((k : Nat) : Int))], []⟩) (fun (k : Nat) => (k ≤ l.length)) (fun (k : Nat) => l.length - k) (0) (Nat.zero_le _) (fun _ _ hG => Gs.into2 (s' := ⟨[dv (.int .u8 ((t.toNat : Nat) : Int)), slV tl nl (kSl sl_ kU8) l, aa, aa, dv (strV []), dv (.int .i64 ((szP (l.take 0) : Nat) : Int)), aa, aa, aa, aa, aa, slV tl nl (kSl sl_ kU8) l, dv (.int .i64 ((l.length : Nat) : Int)), dv (.int .i64 0)], []⟩) [] (bm 14 14387) (t1 := [dv (.int .u8 ((t.toNat : Nat) : Int)), slV tl nl (kSl sl_ kU8) l, aa, aa, dv (strV []), dv (.int .i64 ((szP (l.take 0) : Nat) : Int)), aa, aa, aa, aa, aa, slV tl nl (kSl sl_ kU8) l, dv (.int .i64 ((l.length : Nat) : Int)), dv (.int .i64 0)]) (t2 := [dv (.int .u8 ((t.toNat : Nat) : Int)), slV tl nl (kSl sl_ kU8) l, aa, aa, dv (strV []), dv (.int .i64 5), aa, aa, aa, aa, aa, slV tl nl (kSl sl_ kU8) l, dv (.int .i64 ((l.length : Nat) : Int)), dv (.int .i64 0)]) (h1 := []) (by have e1 : (((szP (l.take 0) : Nat) : Int) : Int) = 5 := (by rfl); have hE := congrArg (fun (q1 : Int) => ([dv (.int .u8 ((t.toNat : Nat) : Int)), slV tl nl (kSl sl_ kU8) l, aa, aa, dv (strV []), dv (.int .i64 q1), aa, aa, aa, aa, aa, slV tl nl (kSl sl_ kU8) l, dv (.int .i64 ((l.length : Nat) : Int)), dv (.int .i64 0)] : List AV)) e1; exact hE) rfl (by kernel_rfl) (by kernel_rfl) (by kernel_rfl) (by kernel_rfl) (by kernel_rfl) (by kernel_rfl) (by kernel_rfl) (by kernel_rfl) (by kernel_rfl) (by kernel_rfl) (by kernel_rfl) hG) ?_
  rintro k hk
  show T _ _ ⟨[dv (.int .u8 ((t.toNat : Nat) : Int)), slV tl nl (kSl sl_ kU8) l, aa, aa, dv (strV []), dv (.int .i64 ((szP (l.take k) : Nat) : Int)), aa, aa, aa, aa, aa, slV tl nl (kSl sl_ kU8) l, dv (.int .i64 ((l.length : Nat) : Int)), dv (.int .i64 ((k : Nat) : Int))], []⟩ _ _
  replace hk : k ≤ l.length := hk
  have hsz0 := szP_take l k
  refine T.seq ?_
  refine xR [] (by kernel_rfl) (by kernel_rfl) ?_
  refine nT ?_
  refine T.seq ?_
  by_cases hq1 : ((k : Nat) : Int) < ((l.length : Nat) : Int)
  · have hkl : k < l.length := (by omega); have hsk := szP_succ hkl; have hst := szP_take l (k + 1)
    refine T.condT (by kernel_rfl) (decide_eq_true hq1) ?_
    refine T.skip ?_
    refine nT ?_
    refine T.seq ?_
    refine T.block ?_
    refine T.seq ?_
    refine xR [hR 0 rfl rfl (q_index tl nl (kSl sl_ kU8) l k (k := .i64) (i := ((k : Nat) : Int)) Try.underlying101 iat_58 rfl rfl (by first | assumption | omega | (unfold maxLen; omega) | (simp [maxLen, -List.getD_eq_getElem?_getD] <;> omega) | decide) (lt_of rfl) trivial)] (by kernel_rfl) (by kernel_rfl) ?_
    refine nT ?_
    refine xR [hR 3 rfl rfl (r_bin (u1 := .int .i64 4) (u2 := .int .i64 (((l.getD k []).length : Nat) : Int)) (v := .int .i64 ((4 + (l.getD k []).length : Nat) : Int)) (b_add (by rw [IntKind.wrap_i64]; omega)) (lt_of rfl) ⟨rfl, trivial⟩),
      hR 4 rfl rfl (r_bin (u1 := .int .i64 ((szP (l.take k) : Nat) : Int)) (u2 := .int .i64 ((4 + (l.getD k []).length : Nat) : Int)) (v := .int .i64 (((szP (l.take k)) + (4 + (l.getD k []).length) : Nat) : Int)) (b_add (by rw [IntKind.wrap_i64]; omega)) (lt_of rfl) trivial)] (by kernel_rfl) (by kernel_rfl) ?_
    refine nB ?_
    refine nT ?_
    refine xR [hR 0 rfl rfl (r_bin (u1 := .int .i64 ((k : Nat) : Int)) (u2 := .int .i64 1) (v := .int .i64 ((k + 1 : Nat) : Int)) (b_add (by rw [IntKind.wrap_i64]; omega)) (lt_of rfl) ⟨rfl, trivial⟩)] (by kernel_rfl) (by kernel_rfl) ?_
    refine nL (k + 1) (show (k + 1) ≤ l.length from (by omega)) (show (l.length - (k + 1) : Nat) < l.length - k from (by omega)) (fun _ _ hG => Gs.into2 (s' := ⟨[dv (.int .u8 ((t.toNat : Nat) : Int)), slV tl nl (kSl sl_ kU8) l, aa, aa, dv (strV []), dv (.int .i64 ((szP (l.take (k + 1)) : Nat) : Int)), aa, aa, aa, aa, aa, slV tl nl (kSl sl_ kU8) l, dv (.int .i64 ((l.length : Nat) : Int)), dv (.int .i64 ((k + 1 : Nat) : Int))], []⟩) [] (bm 14 14387) (t1 := [dv (.int .u8 ((t.toNat : Nat) : Int)), slV tl nl (kSl sl_ kU8) l, aa, aa, dv (strV []), dv (.int .i64 ((szP (l.take (k + 1)) : Nat) : Int)), aa, aa, aa, aa, aa, slV tl nl (kSl sl_ kU8) l, dv (.int .i64 ((l.length : Nat) : Int)), dv (.int .i64 ((k + 1 : Nat) : Int))]) (t2 := [dv (.int .u8 ((t.toNat : Nat) : Int)), slV tl nl (kSl sl_ kU8) l, aa, aa, dv (strV []), dv (.int .i64 (((szP (l.take k)) + (4 + (l.getD k []).length) : Nat) : Int)), aa, aa, aa, aa, aa, slV tl nl (kSl sl_ kU8) l, dv (.int .i64 ((l.length : Nat) : Int)), dv (.int .i64 ((k + 1 : Nat) : Int))]) (h1 := []) (by have e1 : (((szP (l.take (k + 1)) : Nat) : Int) : Int) = (((szP (l.take k)) + (4 + (l.getD k []).length) : Nat) : Int) := (by first | rfl | (rw [szP_succ hkl]) | (rw [szP_succ hkl]; rfl) | omega); have hE := congrArg (fun (q1 : Int) => ([dv (.int .u8 ((t.toNat : Nat) : Int)), slV tl nl (kSl sl_ kU8) l, aa, aa, dv (strV []), dv (.int .i64 q1), aa, aa, aa, aa, aa, slV tl nl (kSl sl_ kU8) l, dv (.int .i64 ((l.length : Nat) : Int)), dv (.int .i64 ((k + 1 : Nat) : Int))] : List AV)) e1; exact hE) rfl (by kernel_rfl) (by kernel_rfl) (by kernel_rfl) (by kernel_rfl) (by kernel_rfl) (by kernel_rfl) (by kernel_rfl) (by kernel_rfl) (by kernel_rfl) (by kernel_rfl) (by kernel_rfl) hG)
  · refine T.condF (by kernel_rfl) (decide_eq_false hq1) ?_
    refine T.exit ?_
    refine xT ?_
    refine xT ?_
    refine xH ?_
    refine nT ?_
    refine T.seq ?_
    refine xR [hR 1 rfl rfl (q_make 0 5 1 kU8 ([] : List UInt8) 0 (szP (l.take k)) (p := 0) (q := ((szP (l.take k) : Nat) : Int)) elem_58 zero_5 rfl rfl (by first | assumption | omega | (unfold maxLen; omega) | (simp [maxLen, -List.getD_eq_getElem?_getD] <;> omega) | decide) (by first | assumption | omega | (unfold maxLen; omega) | (simp [maxLen, -List.getD_eq_getElem?_getD] <;> omega) | decide) (by first | assumption | omega | (unfold maxLen; omega) | (simp [maxLen, -List.getD_eq_getElem?_getD] <;> omega) | decide) (by intro j hj; replace hj : j < 1 := hj; rcases j with _ | j <;> first | rfl | omega) (by simp) (lt_of rfl) ⟨rfl, trivial⟩),
      hR 3 rfl rfl (q_buildSlice 1 5 kU8 kU8_ok [t] [⟨0, .tmp 25, .one (.d (.val (.int .u8 ((t.toNat : Nat) : Int)))), 0⟩] (cs := [.d (.val (.int .u8 ((t.toNat : Nat) : Int)))]) Try.underlying58 iat_5 rfl zero_5 rfl rfl rfl (Nat.le_of_ble_eq_true rfl) (part_cons rfl rfl (Nat.le_of_ble_eq_true rfl) part_ok) rfl ⟨(.inl rfl), trivial⟩ (lt_of rfl) trivial),
      hR 4 rfl rfl (q_appendO 0 2 5 1 kU8 kU8_ok ([] : List UInt8) [t] [t] ([] : List UInt8).length (sy := (.own 1 kU8.sz 0 [t].length)) (rhs := [(1, .live (arrK 5 kU8 [t]))]) elem_58 (by first | assumption | omega | (unfold maxLen; omega) | (simp [maxLen, -List.getD_eq_getElem?_getD] <;> omega) | decide) (src_own 1 5 kU8 [t]) (by simp) (by first | assumption | omega | (unfold maxLen; omega) | (simp [maxLen, -List.getD_eq_getElem?_getD] <;> omega) | decide) (by first | assumption | omega | (unfold maxLen; omega) | (simp [maxLen, -List.getD_eq_getElem?_getD] <;> omega) | decide) (lt_of rfl) trivial)] (by kernel_rfl) (by kernel_rfl) ?_
    refine nT ?_
    refine T.seq ?_
    refine xR [hR 3 rfl rfl (r_call (wire_PutCount true false [t] ((l.length : Nat) : Int) (by first | assumption | omega | (unfold maxLen; omega) | (simp [maxLen, -List.getD_eq_getElem?_getD] <;> omega) | decide)) Try.func60 rfl (by decide) [3] [2] (l := [(.tmp 28, ownV 2 kU8 0 [t].length), (.tmp 30, dv (.int .i64 ((l.length : Nat) : Int)))]) [(2, .live (arrK 5 kU8 [t]))] rfl 0 1 rfl rfl rfl rfl rfl rfl rfl rfl rfl ⟨.inr (.inl ⟨rfl, (fun h => by cases h), rfl, rfl, by simp, 5, [t].length, elOf kU8 [t], List.Mem.head _, by omega, fun i j => by rw [Nat.zero_add]⟩), ⟨.inl ⟨rfl, rfl⟩, trivial⟩⟩ rfl (by intro b hb; simp only [List.mem_cons, List.not_mem_nil, or_false] at hb; rcases hb with rfl; exact ⟨_, List.Mem.head _⟩) (.inr ⟨trivial, (And.intro (arr_nt kU8_nt) trivial)⟩) (lt_of rfl) trivial)] (by kernel_rfl) (by kernel_rfl) ?_
    refine nT ?_
    refine T.seq ?_
    refine T.seq ?_
    refine xR [] (by kernel_rfl) (by kernel_rfl) ?_
    refine nT ?_
    refine T.block ?_
    refine T.loop (ι := Nat) (fun (k2 : Nat) => ⟨[dv (.int .u8 ((t.toNat : Nat) : Int)), slV tl nl (kSl sl_ kU8) l, aa, aa, aa, aa, aa, aa, ownV 0 kU8 0 (ofR t l.length (l.take k2)).length, aa, aa, slV tl nl (kSl sl_ kU8) l, dv (.int .i64 ((l.length : Nat) : Int)), aa, aa, aa, aa, aa, aa, aa, aa, aa, aa, aa, aa, aa, aa, aa, aa, aa, aa, aa, slV tl nl (kSl sl_ kU8) l, dv (.int .i64 ((l.length : Nat) : Int)), dv (.int .i64 ((k2 : Nat) : Int))], [.live (arrK 5 kU8 (ofR t l.length (l.take k2)))]⟩) (fun (k2 : Nat) => (k2 ≤ l.length)) (fun (k2 : Nat) => l.length - k2) (0) (Nat.zero_le _) (fun _ _ hG => Gs.into2 (s' := ⟨[dv (.int .u8 ((t.toNat : Nat) : Int)), slV tl nl (kSl sl_ kU8) l, aa, aa, aa, aa, aa, aa, ownV 0 kU8 0 (ofR t l.length (l.take 0)).length, aa, aa, slV tl nl (kSl sl_ kU8) l, dv (.int .i64 ((l.length : Nat) : Int)), aa, aa, aa, aa, aa, aa, aa, aa, aa, aa, aa, aa, aa, aa, aa, aa, aa, aa, aa, slV tl nl (kSl sl_ kU8) l, dv (.int .i64 ((l.length : Nat) : Int)), dv (.int .i64 0)], [.live (arrK 5 kU8 (ofR t l.length (l.take 0)))]⟩) [3] (bm 35 30064777475) (t1 := [dv (.int .u8 ((t.toNat : Nat) : Int)), slV tl nl (kSl sl_ kU8) l, aa, aa, aa, aa, aa, aa, ownV 3 kU8 0 (ofR t l.length (l.take 0)).length, aa, aa, slV tl nl (kSl sl_ kU8) l, dv (.int .i64 ((l.length : Nat) : Int)), aa, aa, aa, aa, aa, aa, aa, aa, aa, aa, aa, aa, aa, aa, aa, aa, aa, aa, aa, slV tl nl (kSl sl_ kU8) l, dv (.int .i64 ((l.length : Nat) : Int)), dv (.int .i64 0)]) (t2 := [dv (.int .u8 ((t.toNat : Nat) : Int)), slV tl nl (kSl sl_ kU8) l, aa, aa, aa, aa, aa, aa, ownV 3 kU8 0 ([t] ++ cntB ((l.length : Nat) : Int)).length, aa, aa, slV tl nl (kSl sl_ kU8) l, dv (.int .i64 ((l.length : Nat) : Int)), aa, aa, aa, aa, aa, aa, aa, aa, aa, aa, aa, aa, aa, aa, aa, aa, aa, aa, aa, slV tl nl (kSl sl_ kU8) l, dv (.int .i64 ((l.length : Nat) : Int)), dv (.int .i64 0)]) (h1 := [.live (arrK 5 kU8 (ofR t l.length (l.take 0)))]) (h2 := [.live (arrK 5 kU8 ([t] ++ cntB ((l.length : Nat) : Int)))]) (by have e1 : ((ofR t l.length (l.take 0)).length : Nat) = ([t] ++ cntB ((l.length : Nat) : Int)).length := (by first | rfl | (simp [ofR, partsB]; done)); have hE := congrArg (fun (q1 : Nat) => ([dv (.int .u8 ((t.toNat : Nat) : Int)), slV tl nl (kSl sl_ kU8) l, aa, aa, aa, aa, aa, aa, ownV 3 kU8 0 q1, aa, aa, slV tl nl (kSl sl_ kU8) l, dv (.int .i64 ((l.length : Nat) : Int)), aa, aa, aa, aa, aa, aa, aa, aa, aa, aa, aa, aa, aa, aa, aa, aa, aa, aa, aa, slV tl nl (kSl sl_ kU8) l, dv (.int .i64 ((l.length : Nat) : Int)), dv (.int .i64 0)] : List AV)) e1; exact hE) (by have e1 : ((ofR t l.length (l.take 0)) : List UInt8) = [t] ++ cntB ((l.length : Nat) : Int) := (by first | rfl | (simp [ofR, partsB]; done)); have hE := congrArg (fun (q1 : List UInt8) => ([.live (arrK 5 kU8 q1)] : List HS)) e1; exact hE) (by kernel_rfl) (by kernel_rfl) (by kernel_rfl) (by kernel_rfl) (by kernel_rfl) (by kernel_rfl) (by kernel_rfl) (by kernel_rfl) (by kernel_rfl) (by kernel_rfl) (by kernel_rfl) hG) ?_
    rintro k2 hk2
    show T _ _ ⟨[dv (.int .u8 ((t.toNat : Nat) : Int)), slV tl nl (kSl sl_ kU8) l, aa, aa, aa, aa, aa, aa, ownV 0 kU8 0 (ofR t l.length (l.take k2)).length, aa, aa, slV tl nl (kSl sl_ kU8) l, dv (.int .i64 ((l.length : Nat) : Int)), aa, aa, aa, aa, aa, aa, aa, aa, aa, aa, aa, aa, aa, aa, aa, aa, aa, aa, aa, slV tl nl (kSl sl_ kU8) l, dv (.int .i64 ((l.length : Nat) : Int)), dv (.int .i64 ((k2 : Nat) : Int))], [.live (arrK 5 kU8 (ofR t l.length (l.take k2)))]⟩ _ _
    replace hk2 : k2 ≤ l.length := hk2
    have hol := ofR_len t l.length (l.take k2)
    have hsz0 := szP_take l k2
    refine T.seq ?_
    refine xR [] (by kernel_rfl) (by kernel_rfl) ?_
    refine nT ?_
    refine T.seq ?_
    by_cases hq2 : ((k2 : Nat) : Int) < ((l.length : Nat) : Int)
    · have hkl : k2 < l.length := (by omega); have hsk := szP_succ hkl; have hst := szP_take l (k2 + 1)
      refine T.condT (by kernel_rfl) (decide_eq_true hq2) ?_
      refine T.skip ?_
      refine nT ?_
      refine T.seq ?_
      refine T.block ?_
      refine T.seq ?_
      refine xR [hR 0 rfl rfl (q_index tl nl (kSl sl_ kU8) l k2 (k := .i64) (i := ((k2 : Nat) : Int)) Try.underlying101 iat_58 rfl rfl (by first | assumption | omega | (unfold maxLen; omega) | (simp [maxLen, -List.getD_eq_getElem?_getD] <;> omega) | decide) (lt_of rfl) trivial)] (by kernel_rfl) (by kernel_rfl) ?_
      refine nT ?_
      refine xR [hR 2 rfl rfl (r_call (wire_PutBytes true false (ofR t l.length (l.take k2)) sl_ false (l.getD k2 []) (by first | assumption | omega | (unfold maxLen; omega) | (simp [maxLen, -List.getD_eq_getElem?_getD] <;> omega) | decide)) Try.func46 rfl (by decide) [1] [0] (l := [(.tmp 38, ownV 0 kU8 0 (ofR t l.length (l.take k2)).length), (.tmp 39, slV sl_ false kU8 (l.getD k2 []))]) [(0, .live (arrK 5 kU8 (ofR t l.length (l.take k2))))] rfl 0 1 rfl rfl rfl rfl rfl rfl rfl rfl rfl ⟨.inr (.inl ⟨rfl, (fun h => by cases h), rfl, rfl, by simp, 5, (ofR t l.length (l.take k2)).length, elOf kU8 (ofR t l.length (l.take k2)), List.Mem.head _, by omega, fun i j => by rw [Nat.zero_add]⟩), ⟨.inl ⟨rfl, rfl⟩, trivial⟩⟩ rfl (by intro b hb; simp only [List.mem_cons, List.not_mem_nil, or_false] at hb; rcases hb with rfl; exact ⟨_, List.Mem.head _⟩) (.inr ⟨trivial, (And.intro (arr_nt kU8_nt) trivial)⟩) (lt_of rfl) trivial)] (by kernel_rfl) (by kernel_rfl) ?_
      refine nB ?_
      refine nT ?_
      refine xR [hR 0 rfl rfl (r_bin (u1 := .int .i64 ((k2 : Nat) : Int)) (u2 := .int .i64 1) (v := .int .i64 ((k2 + 1 : Nat) : Int)) (b_add (by rw [IntKind.wrap_i64]; omega)) (lt_of rfl) ⟨rfl, trivial⟩)] (by kernel_rfl) (by kernel_rfl) ?_
      refine nL (k2 + 1) (show (k2 + 1) ≤ l.length from (by omega)) (show (l.length - (k2 + 1) : Nat) < l.length - k2 from (by omega)) (fun _ _ hG => Gs.into2 (s' := ⟨[dv (.int .u8 ((t.toNat : Nat) : Int)), slV tl nl (kSl sl_ kU8) l, aa, aa, aa, aa, aa, aa, ownV 0 kU8 0 (ofR t l.length (l.take (k2 + 1))).length, aa, aa, slV tl nl (kSl sl_ kU8) l, dv (.int .i64 ((l.length : Nat) : Int)), aa, aa, aa, aa, aa, aa, aa, aa, aa, aa, aa, aa, aa, aa, aa, aa, aa, aa, aa, slV tl nl (kSl sl_ kU8) l, dv (.int .i64 ((l.length : Nat) : Int)), dv (.int .i64 ((k2 + 1 : Nat) : Int))], [.live (arrK 5 kU8 (ofR t l.length (l.take (k2 + 1))))]⟩) [1] (bm 35 30064777475) (t1 := [dv (.int .u8 ((t.toNat : Nat) : Int)), slV tl nl (kSl sl_ kU8) l, aa, aa, aa, aa, aa, aa, ownV 1 kU8 0 (ofR t l.length (l.take (k2 + 1))).length, aa, aa, slV tl nl (kSl sl_ kU8) l, dv (.int .i64 ((l.length : Nat) : Int)), aa, aa, aa, aa, aa, aa, aa, aa, aa, aa, aa, aa, aa, aa, aa, aa, aa, aa, aa, slV tl nl (kSl sl_ kU8) l, dv (.int .i64 ((l.length : Nat) : Int)), dv (.int .i64 ((k2 + 1 : Nat) : Int))]) (t2 := [dv (.int .u8 ((t.toNat : Nat) : Int)), slV tl nl (kSl sl_ kU8) l, aa, aa, aa, aa, aa, aa, ownV 1 kU8 0 ((ofR t l.length (l.take k2)) ++ bytesB (l.getD k2 [])).length, aa, aa, slV tl nl (kSl sl_ kU8) l, dv (.int .i64 ((l.length : Nat) : Int)), aa, aa, aa, aa, aa, aa, aa, aa, aa, aa, aa, aa, aa, aa, aa, aa, aa, aa, aa, slV tl nl (kSl sl_ kU8) l, dv (.int .i64 ((l.length : Nat) : Int)), dv (.int .i64 ((k2 + 1 : Nat) : Int))]) (h1 := [.live (arrK 5 kU8 (ofR t l.length (l.take (k2 + 1))))]) (h2 := [.live (arrK 5 kU8 ((ofR t l.length (l.take k2)) ++ bytesB (l.getD k2 [])))]) (by have e1 : ((ofR t l.length (l.take (k2 + 1))).length : Nat) = ((ofR t l.length (l.take k2)) ++ bytesB (l.getD k2 [])).length := (by first | rfl | (rw [ofR_succ hkl])); have hE := congrArg (fun (q1 : Nat) => ([dv (.int .u8 ((t.toNat : Nat) : Int)), slV tl nl (kSl sl_ kU8) l, aa, aa, aa, aa, aa, aa, ownV 1 kU8 0 q1, aa, aa, slV tl nl (kSl sl_ kU8) l, dv (.int .i64 ((l.length : Nat) : Int)), aa, aa, aa, aa, aa, aa, aa, aa, aa, aa, aa, aa, aa, aa, aa, aa, aa, aa, aa, slV tl nl (kSl sl_ kU8) l, dv (.int .i64 ((l.length : Nat) : Int)), dv (.int .i64 ((k2 + 1 : Nat) : Int))] : List AV)) e1; exact hE) (by have e1 : ((ofR t l.length (l.take (k2 + 1))) : List UInt8) = (ofR t l.length (l.take k2)) ++ bytesB (l.getD k2 []) := (by first | rfl | (rw [ofR_succ hkl])); have hE := congrArg (fun (q1 : List UInt8) => ([.live (arrK 5 kU8 q1)] : List HS)) e1; exact hE) (by kernel_rfl) (by kernel_rfl) (by kernel_rfl) (by kernel_rfl) (by kernel_rfl) (by kernel_rfl) (by kernel_rfl) (by kernel_rfl) (by kernel_rfl) (by kernel_rfl) (by kernel_rfl) hG)
    · refine T.condF (by kernel_rfl) (decide_eq_false hq2) ?_
      refine T.exit ?_
      refine xT ?_
      refine xT ?_
      refine xH ?_
      refine nT ?_
      refine T.seq ?_
      refine xR [hR 1 rfl rfl (q_strOf () (ofR t l.length (l.take k2)) (ys := (.own 0 kU8.sz 0 (ofR t l.length (l.take k2)).length)) (rhs := [(0, .live (arrK 5 kU8 (ofR t l.length (l.take k2))))]) Try.underlying58 Try.underlying5 Try.underlying29 (src_own 0 5 kU8 (ofR t l.length (l.take k2))) (lt_of rfl) trivial)] (by kernel_rfl) (by kernel_rfl) ?_
      refine nT ?_
      refine T.ret ?_
      exact tE (.inl rfl) [.t 4 (.one (.d (.val (strV (ofR t l.length (l.take k2))))))] ⟨⟨rfl, by kernel_rfl⟩, trivial⟩ [] (by have e1 : ((ofB t l) : List UInt8) = (ofR t l.length (l.take k2)) := (by first | rfl | (have hke : k2 = l.length := (by omega); rw [hke, ofR_all])); have hE := congrArg (fun (q1 : List UInt8) => (dv (strV q1) : AV)) e1; exact hE) rfl rfl rfl rfl rfl trivial
end Go.Proofs.Ytdclfhahcfefeaa.Q
