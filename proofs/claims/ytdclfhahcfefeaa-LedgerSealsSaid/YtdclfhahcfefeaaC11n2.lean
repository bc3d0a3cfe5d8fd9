import Derived.Test.YtdclfhahcfefeaaC11n1
namespace Go.Proofs.Ytdclfhahcfefeaa.Q
open Go Go.RowKit
set_option linter.unusedVariables false
set_option linter.unusedSimpArgs false
set_option maxRecDepth 100000
set_option maxHeartbeats 4000000
theorem iat_58 : Try.prog.info? 58 = some Try.t58 := by kernel_rfl
theorem wide_58 : Wide Try.prog 58 none := ⟨_, Try.underlying58, (fun _ h => by cases h), (fun _ _ h => by cases h)⟩
-- quaestor/term.Of
theorem term_Of (t : UInt8) (tl : Bool) (nl : Bool) (sl_ : Bool) (l : List (List UInt8)) (hs : szP l ≤ 140737488354000) : Holds Try.prog 33 ⟨[dv (.int .u8 ((t.toNat : Nat) : Int)), slV tl nl (kSl sl_ kU8) l], [], dv (strV (ofB t l)), []⟩ := by
  refine Holds.of Try.func33 rfl (N := 44) Try.ntmps33 rfl fun w0 B0 S0 U0 => ?_
  show T _ (mkBase 44 0 w0 S0 U0 B0) ⟨[dv (.int .u8 ((t.toNat : Nat) : Int)), slV tl nl (kSl sl_ kU8) l], []⟩ _ _
  have hcn := szP_count l
  have hcl := cnt_len ((l.length : Nat) : Int)
  have hall := ofB_len t l
  refine T.seq ?_
  refine xR [] (by kernel_rfl) (by kernel_rfl) ?_
  refine nT ?_
  refine T.seq ?_
  refine xR [] (by kernel_rfl) (by kernel_rfl) ?_
  refine nT ?_
  refine T.seq ?_
  refine T.seq ?_
  refine xR [] (by kernel_rfl) (by kernel_rfl) ?_
  refine nT ?_
  refine T.block ?_
  refine T.loop (ι := Nat) (fun (k : Nat) => ⟨[dv (.int .u8 ((t.toNat : Nat) : Int)), slV tl nl (kSl sl_ kU8) l, aa, aa, dv (strV []), dv (.int .i64 ((szP (l.take k) : Nat) : Int)), aa, aa, aa, aa, aa, slV tl nl (kSl sl_ kU8) l, dv (.int .i64 ((l.length : Nat) : Int)), dv (.int .i64 ((k : Nat) : Int))], []⟩) (fun (k : Nat) => (k ≤ l.length)) (fun (k : Nat) => l.length - k) (0) (Nat.zero_le _) (fun _ _ hG => Gs.into2 (s' := ⟨[dv (.int .u8 ((t.toNat : Nat) : Int)), slV tl nl (kSl sl_ kU8) l, aa, aa, dv (strV []), dv (.int .i64 ((szP (l.take 0) : Nat) : Int)), aa, aa, aa, aa, aa, slV tl nl (kSl sl_ kU8) l, dv (.int .i64 ((l.length : Nat) : Int)), dv (.int .i64 0)], []⟩) [] (bm 14 14387) (t1 := [dv (.int .u8 ((t.toNat : Nat) : Int)), slV tl nl (kSl sl_ kU8) l, aa, aa, dv (strV []), dv (.int .i64 ((szP (l.take 0) : Nat) : Int)), aa, aa, aa, aa, aa, slV tl nl (kSl sl_ kU8) l, dv (.int .i64 ((l.length : Nat) : Int)), dv (.int .i64 0)]) (t2 := [dv (.int .u8 ((t.toNat : Nat) : Int)), slV tl nl (kSl sl_ kU8) l, aa, aa, dv (strV []), dv (.int .i64 5), aa, aa, aa, aa, aa, slV tl nl (kSl sl_ kU8) l, dv (.int .i64 ((l.length : Nat) : Int)), dv (.int .i64 0)]) (h1 := []) (by have e1 : (((szP (l.take 0) : Nat) : Int) : Int) = 5 := (by rfl); have hE := congrArg (fun (q1 : Int) => ([dv (.int .u8 ((t.toNat : Nat) : Int)), slV tl nl (kSl sl_ kU8) l, aa, aa, dv (strV []), dv (.int .i64 q1), aa, aa, aa, aa, aa, slV tl nl (kSl sl_ kU8) l, dv (.int .i64 ((l.length : Nat) : Int)), dv (.int .i64 0)] : List AV)) e1; exact hE) rfl (by kernel_rfl) (by kernel_rfl) (by kernel_rfl) (by kernel_rfl) (by kernel_rfl) (by kernel_rfl) (by kernel_rfl) (by kernel_rfl) (by kernel_rfl) (by kernel_rfl) (by kernel_rfl) hG) ?_
  rintro k hk
  show T _ _ ⟨[dv (.int .u8 ((t.toNat : Nat) : Int)), slV tl nl (kSl sl_ kU8) l, aa, aa, dv (strV []), dv (.int .i64 ((szP (l.take k) : Nat) : Int)), aa, aa, aa, aa, aa, slV tl nl (kSl sl_ kU8) l, dv (.int .i64 ((l.length : Nat) : Int)), dv (.int .i64 ((k : Nat) : Int))], []⟩ _ _
  replace hk : k ≤ l.length := hk
  have hsz0 := szP_take l k
  refine T.seq ?_
  refine xR [] (by kernel_rfl) (by kernel_rfl) ?_
  refine nT ?_
  refine T.seq ?_
  by_cases hq1 : ((k : Nat) : Int) < ((l.length : Nat) : Int)
  · have hkl : k < l.length := (by omega); have hsk := szP_succ hkl; have hst := szP_take l (k + 1)
    refine T.condT (by kernel_rfl) (decide_eq_true hq1) ?_
    refine T.skip ?_
    refine nT ?_
    refine T.seq ?_
    refine T.block ?_
    refine T.seq ?_
    refine xR [hR 0 rfl rfl (q_index tl nl (kSl sl_ kU8) l k (k := .i64) (i := ((k : Nat) : Int)) Try.underlying101 iat_58 rfl rfl (by assumption) (lt_of rfl) trivial)] (by kernel_rfl) (by kernel_rfl) ?_
    refine nT ?_
    refine xR [hR 3 rfl rfl (r_bin (u1 := .int .i64 4) (u2 := .int .i64 (((l.getD k []).length : Nat) : Int)) (v := .int .i64 ((4 + (l.getD k []).length : Nat) : Int)) (b_add (by rw [IntKind.wrap_i64]; omega)) (lt_of rfl) ⟨rfl, trivial⟩),
      hR 4 rfl rfl (r_bin (u1 := .int .i64 ((szP (l.take k) : Nat) : Int)) (u2 := .int .i64 ((4 + (l.getD k []).length : Nat) : Int)) (v := .int .i64 (((szP (l.take k)) + (4 + (l.getD k []).length) : Nat) : Int)) (b_add (by rw [IntKind.wrap_i64]; omega)) (lt_of rfl) trivial)] (by kernel_rfl) (by kernel_rfl) ?_
    refine nB ?_
    refine nT ?_
    refine xR [hR 0 rfl rfl (r_bin (u1 := .int .i64 ((k : Nat) : Int)) (u2 := .int .i64 1) (v := .int .i64 ((k + 1 : Nat) : Int)) (b_add (by rw [IntKind.wrap_i64]; omega)) (lt_of rfl) ⟨rfl, trivial⟩)] (by kernel_rfl) (by kernel_rfl) ?_
    refine nL (k + 1) (show (k + 1) ≤ l.length from (by omega)) (show (l.length - (k + 1) : Nat) < l.length - k from (by omega)) (fun _ _ hG => Gs.into2 (s' := ⟨[dv (.int .u8 ((t.toNat : Nat) : Int)), slV tl nl (kSl sl_ kU8) l, aa, aa, dv (strV []), dv (.int .i64 ((szP (l.take (k + 1)) : Nat) : Int)), aa, aa, aa, aa, aa, slV tl nl (kSl sl_ kU8) l, dv (.int .i64 ((l.length : Nat) : Int)), dv (.int .i64 ((k + 1 : Nat) : Int))], []⟩) [] (bm 14 14387) (t1 := [dv (.int .u8 ((t.toNat : Nat) : Int)), slV tl nl (kSl sl_ kU8) l, aa, aa, dv (strV []), dv (.int .i64 ((szP (l.take (k + 1)) : Nat) : Int)), aa, aa, aa, aa, aa, slV tl nl (kSl sl_ kU8) l, dv (.int .i64 ((l.length : Nat) : Int)), dv (.int .i64 ((k + 1 : Nat) : Int))]) (t2 := [dv (.int .u8 ((t.toNat : Nat) : Int)), slV tl nl (kSl sl_ kU8) l, aa, aa, dv (strV []), dv (.int .i64 (((szP (l.take k)) + (4 + (l.getD k []).length) : Nat) : Int)), aa, aa, aa, aa, aa, slV tl nl (kSl sl_ kU8) l, dv (.int .i64 ((l.length : Nat) : Int)), dv (.int .i64 ((k + 1 : Nat) : Int))]) (h1 := []) (by have e1 : (((szP (l.take (k + 1)) : Nat) : Int) : Int) = (((szP (l.take k)) + (4 + (l.getD k []).length) : Nat) : Int) := (by (rw [szP_succ hkl])); have hE := congrArg (fun (q1 : Int) => ([dv (.int .u8 ((t.toNat : Nat) : Int)), slV tl nl (kSl sl_ kU8) l, aa, aa, dv (strV []), dv (.int .i64 q1), aa, aa, aa, aa, aa, slV tl nl (kSl sl_ kU8) l, dv (.int .i64 ((l.length : Nat) : Int)), dv (.int .i64 ((k + 1 : Nat) : Int))] : List AV)) e1; exact hE) rfl (by kernel_rfl) (by kernel_rfl) (by kernel_rfl) (by kernel_rfl) (by kernel_rfl) (by kernel_rfl) (by kernel_rfl) (by kernel_rfl) (by kernel_rfl) (by kernel_rfl) (by kernel_rfl) hG)
  · refine T.condF (by kernel_rfl) (decide_eq_false hq1) ?_
    refine T.exit ?_
    refine xT ?_
    refine xT ?_
    refine xH ?_
    refine nT ?_
    refine T.seq ?_
    refine xR [hR 1 rfl rfl (q_make 0 5 1 kU8 ([] : List UInt8) 0 (szP (l.take k)) (p := 0) (q := ((szP (l.take k) : Nat) : Int)) elem_58 zero_5 rfl rfl (by omega) (by omega) (by (unfold maxLen; omega)) (by intro j hj; replace hj : j < 1 := hj; rcases j with _ | j <;> first | rfl | omega) (by simp) (lt_of rfl) ⟨rfl, trivial⟩),
      hR 3 rfl rfl (q_buildSlice 1 5 kU8 kU8_ok [t] [⟨0, .tmp 25, .one (.d (.val (.int .u8 ((t.toNat : Nat) : Int)))), 0⟩] (cs := [.d (.val (.int .u8 ((t.toNat : Nat) : Int)))]) Try.underlying58 iat_5 rfl zero_5 rfl rfl rfl (Nat.le_of_ble_eq_true rfl) (part_cons rfl rfl (Nat.le_of_ble_eq_true rfl) part_ok) rfl ⟨(.inl rfl), trivial⟩ (lt_of rfl) trivial),
      hR 4 rfl rfl (q_appendO 0 2 5 1 kU8 kU8_ok ([] : List UInt8) [t] [t] ([] : List UInt8).length (sy := (.own 1 kU8.sz 0 [t].length)) (rhs := [(1, .live (arrK 5 kU8 [t]))]) elem_58 (by omega) (src_own 1 5 kU8 [t]) (by simp) (by (simp [maxLen, -List.getD_eq_getElem?_getD] <;> omega)) (by (simp [maxLen, -List.getD_eq_getElem?_getD] <;> omega)) (lt_of rfl) trivial)] (by kernel_rfl) (by kernel_rfl) ?_
    refine nT ?_
    refine T.seq ?_
    refine xR [hR 3 rfl rfl (r_call (wire_PutCount true false [t] ((l.length : Nat) : Int) (by (simp [maxLen, -List.getD_eq_getElem?_getD] <;> omega))) Try.func60 rfl (by decide) [3] [2] (l := [(.tmp 28, ownV 2 kU8 0 [t].length), (.tmp 30, dv (.int .i64 ((l.length : Nat) : Int)))]) [(2, .live (arrK 5 kU8 [t]))] rfl 0 1 rfl rfl rfl rfl rfl rfl rfl rfl rfl ⟨.inr (.inl ⟨rfl, (fun h => by cases h), rfl, rfl, by simp, 5, [t].length, elOf kU8 [t], List.Mem.head _, by omega, fun i j => by rw [Nat.zero_add]⟩), ⟨.inl ⟨rfl, rfl⟩, trivial⟩⟩ rfl (by intro b hb; simp only [List.mem_cons, List.not_mem_nil, or_false] at hb; rcases hb with rfl; exact ⟨_, List.Mem.head _⟩) (.inr ⟨trivial, (And.intro (arr_nt kU8_nt) trivial)⟩) (lt_of rfl) trivial)] (by kernel_rfl) (by kernel_rfl) ?_
    refine nT ?_
    refine T.seq ?_
    refine T.seq ?_
    refine xR [] (by kernel_rfl) (by kernel_rfl) ?_
    refine nT ?_
    refine T.block ?_
    refine T.loop (ι := Nat) (fun (k2 : Nat) => ⟨[dv (.int .u8 ((t.toNat : Nat) : Int)), slV tl nl (kSl sl_ kU8) l, aa, aa, aa, aa, aa, aa, ownV 0 kU8 0 (ofR t l.length (l.take k2)).length, aa, aa, slV tl nl (kSl sl_ kU8) l, dv (.int .i64 ((l.length : Nat) : Int)), aa, aa, aa, aa, aa, aa, aa, aa, aa, aa, aa, aa, aa, aa, aa, aa, aa, aa, aa, slV tl nl (kSl sl_ kU8) l, dv (.int .i64 ((l.length : Nat) : Int)), dv (.int .i64 ((k2 : Nat) : Int))], [.live (arrK 5 kU8 (ofR t l.length (l.take k2)))]⟩) (fun (k2 : Nat) => (k2 ≤ l.length)) (fun (k2 : Nat) => l.length - k2) (0) (Nat.zero_le _) (fun _ _ hG => Gs.into2 (s' := ⟨[dv (.int .u8 ((t.toNat : Nat) : Int)), slV tl nl (kSl sl_ kU8) l, aa, aa, aa, aa, aa, aa, ownV 0 kU8 0 (ofR t l.length (l.take 0)).length, aa, aa, slV tl nl (kSl sl_ kU8) l, dv (.int .i64 ((l.length : Nat) : Int)), aa, aa, aa, aa, aa, aa, aa, aa, aa, aa, aa, aa, aa, aa, aa, aa, aa, aa, aa, slV tl nl (kSl sl_ kU8) l, dv (.int .i64 ((l.length : Nat) : Int)), dv (.int .i64 0)], [.live (arrK 5 kU8 (ofR t l.length (l.take 0)))]⟩) [3] (bm 35 30064777475) (t1 := [dv (.int .u8 ((t.toNat : Nat) : Int)), slV tl nl (kSl sl_ kU8) l, aa, aa, aa, aa, aa, aa, ownV 3 kU8 0 (ofR t l.length (l.take 0)).length, aa, aa, slV tl nl (kSl sl_ kU8) l, dv (.int .i64 ((l.length : Nat) : Int)), aa, aa, aa, aa, aa, aa, aa, aa, aa, aa, aa, aa, aa, aa, aa, aa, aa, aa, aa, slV tl nl (kSl sl_ kU8) l, dv (.int .i64 ((l.length : Nat) : Int)), dv (.int .i64 0)]) (t2 := [dv (.int .u8 ((t.toNat : Nat) : Int)), slV tl nl (kSl sl_ kU8) l, aa, aa, aa, aa, aa, aa, ownV 3 kU8 0 ([t] ++ cntB ((l.length : Nat) : Int)).length, aa, aa, slV tl nl (kSl sl_ kU8) l, dv (.int .i64 ((l.length : Nat) : Int)), aa, aa, aa, aa, aa, aa, aa, aa, aa, aa, aa, aa, aa, aa, aa, aa, aa, aa, aa, slV tl nl (kSl sl_ kU8) l, dv (.int .i64 ((l.length : Nat) : Int)), dv (.int .i64 0)]) (h1 := [.live (arrK 5 kU8 (ofR t l.length (l.take 0)))]) (h2 := [.live (arrK 5 kU8 ([t] ++ cntB ((l.length : Nat) : Int)))]) (by have e1 : ((ofR t l.length (l.take 0)).length : Nat) = ([t] ++ cntB ((l.length : Nat) : Int)).length := (by rfl); have hE := congrArg (fun (q1 : Nat) => ([dv (.int .u8 ((t.toNat : Nat) : Int)), slV tl nl (kSl sl_ kU8) l, aa, aa, aa, aa, aa, aa, ownV 3 kU8 0 q1, aa, aa, slV tl nl (kSl sl_ kU8) l, dv (.int .i64 ((l.length : Nat) : Int)), aa, aa, aa, aa, aa, aa, aa, aa, aa, aa, aa, aa, aa, aa, aa, aa, aa, aa, aa, slV tl nl (kSl sl_ kU8) l, dv (.int .i64 ((l.length : Nat) : Int)), dv (.int .i64 0)] : List AV)) e1; exact hE) (by have e1 : ((ofR t l.length (l.take 0)) : List UInt8) = [t] ++ cntB ((l.length : Nat) : Int) := (by rfl); have hE := congrArg (fun (q1 : List UInt8) => ([.live (arrK 5 kU8 q1)] : List HS)) e1; exact hE) (by kernel_rfl) (by kernel_rfl) (by kernel_rfl) (by kernel_rfl) (by kernel_rfl) (by kernel_rfl) (by kernel_rfl) (by kernel_rfl) (by kernel_rfl) (by kernel_rfl) (by kernel_rfl) hG) ?_
    rintro k2 hk2
    show T _ _ ⟨[dv (.int .u8 ((t.toNat : Nat) : Int)), slV tl nl (kSl sl_ kU8) l, aa, aa, aa, aa, aa, aa, ownV 0 kU8 0 (ofR t l.length (l.take k2)).length, aa, aa, slV tl nl (kSl sl_ kU8) l, dv (.int .i64 ((l.length : Nat) : Int)), aa, aa, aa, aa, aa, aa, aa, aa, aa, aa, aa, aa, aa, aa, aa, aa, aa, aa, aa, slV tl nl (kSl sl_ kU8) l, dv (.int .i64 ((l.length : Nat) : Int)), dv (.int .i64 ((k2 : Nat) : Int))], [.live (arrK 5 kU8 (ofR t l.length (l.take k2)))]⟩ _ _
    replace hk2 : k2 ≤ l.length := hk2
    have hol := ofR_len t l.length (l.take k2)
    have hsz0 := szP_take l k2
    refine T.seq ?_
    refine xR [] (by kernel_rfl) (by kernel_rfl) ?_
    refine nT ?_
    refine T.seq ?_
    by_cases hq2 : ((k2 : Nat) : Int) < ((l.length : Nat) : Int)
    · have hkl : k2 < l.length := (by omega); have hsk := szP_succ hkl; have hst := szP_take l (k2 + 1)
      refine T.condT (by kernel_rfl) (decide_eq_true hq2) ?_
      refine T.skip ?_
      refine nT ?_
      refine T.seq ?_
      refine T.block ?_
      refine T.seq ?_
      refine xR [hR 0 rfl rfl (q_index tl nl (kSl sl_ kU8) l k2 (k := .i64) (i := ((k2 : Nat) : Int)) Try.underlying101 iat_58 rfl rfl (by assumption) (lt_of rfl) trivial)] (by kernel_rfl) (by kernel_rfl) ?_
      refine nT ?_
      refine xR [hR 2 rfl rfl (r_call (wire_PutBytes true false (ofR t l.length (l.take k2)) sl_ false (l.getD k2 []) (by omega)) Try.func46 rfl (by decide) [1] [0] (l := [(.tmp 38, ownV 0 kU8 0 (ofR t l.length (l.take k2)).length), (.tmp 39, slV sl_ false kU8 (l.getD k2 []))]) [(0, .live (arrK 5 kU8 (ofR t l.length (l.take k2))))] rfl 0 1 rfl rfl rfl rfl rfl rfl rfl rfl rfl ⟨.inr (.inl ⟨rfl, (fun h => by cases h), rfl, rfl, by simp, 5, (ofR t l.length (l.take k2)).length, elOf kU8 (ofR t l.length (l.take k2)), List.Mem.head _, by omega, fun i j => by rw [Nat.zero_add]⟩), ⟨.inl ⟨rfl, rfl⟩, trivial⟩⟩ rfl (by intro b hb; simp only [List.mem_cons, List.not_mem_nil, or_false] at hb; rcases hb with rfl; exact ⟨_, List.Mem.head _⟩) (.inr ⟨trivial, (And.intro (arr_nt kU8_nt) trivial)⟩) (lt_of rfl) trivial)] (by kernel_rfl) (by kernel_rfl) ?_
      refine nB ?_
      refine nT ?_
      refine xR [hR 0 rfl rfl (r_bin (u1 := .int .i64 ((k2 : Nat) : Int)) (u2 := .int .i64 1) (v := .int .i64 ((k2 + 1 : Nat) : Int)) (b_add (by rw [IntKind.wrap_i64]; omega)) (lt_of rfl) ⟨rfl, trivial⟩)] (by kernel_rfl) (by kernel_rfl) ?_
      refine nL (k2 + 1) (show (k2 + 1) ≤ l.length from (by omega)) (show (l.length - (k2 + 1) : Nat) < l.length - k2 from (by omega)) (fun _ _ hG => Gs.into2 (s' := ⟨[dv (.int .u8 ((t.toNat : Nat) : Int)), slV tl nl (kSl sl_ kU8) l, aa, aa, aa, aa, aa, aa, ownV 0 kU8 0 (ofR t l.length (l.take (k2 + 1))).length, aa, aa, slV tl nl (kSl sl_ kU8) l, dv (.int .i64 ((l.length : Nat) : Int)), aa, aa, aa, aa, aa, aa, aa, aa, aa, aa, aa, aa, aa, aa, aa, aa, aa, aa, aa, slV tl nl (kSl sl_ kU8) l, dv (.int .i64 ((l.length : Nat) : Int)), dv (.int .i64 ((k2 + 1 : Nat) : Int))], [.live (arrK 5 kU8 (ofR t l.length (l.take (k2 + 1))))]⟩) [1] (bm 35 30064777475) (t1 := [dv (.int .u8 ((t.toNat : Nat) : Int)), slV tl nl (kSl sl_ kU8) l, aa, aa, aa, aa, aa, aa, ownV 1 kU8 0 (ofR t l.length (l.take (k2 + 1))).length, aa, aa, slV tl nl (kSl sl_ kU8) l, dv (.int .i64 ((l.length : Nat) : Int)), aa, aa, aa, aa, aa, aa, aa, aa, aa, aa, aa, aa, aa, aa, aa, aa, aa, aa, aa, slV tl nl (kSl sl_ kU8) l, dv (.int .i64 ((l.length : Nat) : Int)), dv (.int .i64 ((k2 + 1 : Nat) : Int))]) (t2 := [dv (.int .u8 ((t.toNat : Nat) : Int)), slV tl nl (kSl sl_ kU8) l, aa, aa, aa, aa, aa, aa, ownV 1 kU8 0 ((ofR t l.length (l.take k2)) ++ bytesB (l.getD k2 [])).length, aa, aa, slV tl nl (kSl sl_ kU8) l, dv (.int .i64 ((l.length : Nat) : Int)), aa, aa, aa, aa, aa, aa, aa, aa, aa, aa, aa, aa, aa, aa, aa, aa, aa, aa, aa, slV tl nl (kSl sl_ kU8) l, dv (.int .i64 ((l.length : Nat) : Int)), dv (.int .i64 ((k2 + 1 : Nat) : Int))]) (h1 := [.live (arrK 5 kU8 (ofR t l.length (l.take (k2 + 1))))]) (h2 := [.live (arrK 5 kU8 ((ofR t l.length (l.take k2)) ++ bytesB (l.getD k2 [])))]) (by have e1 : ((ofR t l.length (l.take (k2 + 1))).length : Nat) = ((ofR t l.length (l.take k2)) ++ bytesB (l.getD k2 [])).length := (by (rw [ofR_succ hkl])); have hE := congrArg (fun (q1 : Nat) => ([dv (.int .u8 ((t.toNat : Nat) : Int)), slV tl nl (kSl sl_ kU8) l, aa, aa, aa, aa, aa, aa, ownV 1 kU8 0 q1, aa, aa, slV tl nl (kSl sl_ kU8) l, dv (.int .i64 ((l.length : Nat) : Int)), aa, aa, aa, aa, aa, aa, aa, aa, aa, aa, aa, aa, aa, aa, aa, aa, aa, aa, aa, slV tl nl (kSl sl_ kU8) l, dv (.int .i64 ((l.length : Nat) : Int)), dv (.int .i64 ((k2 + 1 : Nat) : Int))] : List AV)) e1; exact hE) (by have e1 : ((ofR t l.length (l.take (k2 + 1))) : List UInt8) = (ofR t l.length (l.take k2)) ++ bytesB (l.getD k2 []) := (by (rw [ofR_succ hkl])); have hE := congrArg (fun (q1 : List UInt8) => ([.live (arrK 5 kU8 q1)] : List HS)) e1; exact hE) (by kernel_rfl) (by kernel_rfl) (by kernel_rfl) (by kernel_rfl) (by kernel_rfl) (by kernel_rfl) (by kernel_rfl) (by kernel_rfl) (by kernel_rfl) (by kernel_rfl) (by kernel_rfl) hG)
    · refine T.condF (by kernel_rfl) (decide_eq_false hq2) ?_
      refine T.exit ?_
      refine xT ?_
      refine xT ?_
      refine xH ?_
      refine nT ?_
      refine T.seq ?_
      refine xR [hR 1 rfl rfl (q_strOf () (ofR t l.length (l.take k2)) (ys := (.own 0 kU8.sz 0 (ofR t l.length (l.take k2)).length)) (rhs := [(0, .live (arrK 5 kU8 (ofR t l.length (l.take k2))))]) Try.underlying58 Try.underlying5 Try.underlying29 (src_own 0 5 kU8 (ofR t l.length (l.take k2))) (lt_of rfl) trivial)] (by kernel_rfl) (by kernel_rfl) ?_
      refine nT ?_
      refine T.ret ?_
      exact tE (.inl rfl) [.t 4 (.one (.d (.val (strV (ofR t l.length (l.take k2))))))] ⟨⟨rfl, by kernel_rfl⟩, trivial⟩ [] (by have e1 : ((ofB t l) : List UInt8) = (ofR t l.length (l.take k2)) := (by (have hke : k2 = l.length := (by omega); rw [hke, ofR_all])); have hE := congrArg (fun (q1 : List UInt8) => (dv (strV q1) : AV)) e1; exact hE) rfl rfl rfl rfl rfl trivial
end Go.Proofs.Ytdclfhahcfefeaa.Q
namespace Go.Proofs.Ytdclfhahcfefeaa.Q
open Go Go.RowKit
set_option linter.unusedVariables false
set_option linter.unusedSimpArgs false
set_option maxRecDepth 100000
set_option maxHeartbeats 4000000
theorem zero_58 : Zero Try.prog 58 [.slice none 0 0] := ⟨_, _, iat_58, rfl, rfl⟩
-- quaestor/term.Leaf
theorem term_Leaf (t : UInt8) (tb : Bool) (nb : Bool) (b : List UInt8) (hb : b.length ≤ 140737488350000) : Holds Try.prog 58 ⟨[dv (.int .u8 ((t.toNat : Nat) : Int)), slV tb nb kU8 b], [], dv (strV (ofB t [b])), []⟩ := by
  refine Holds.of Try.func58 rfl (N := 9) Try.ntmps58 rfl fun w0 B0 S0 U0 => ?_
  show T _ (mkBase 9 0 w0 S0 U0 B0) ⟨[dv (.int .u8 ((t.toNat : Nat) : Int)), slV tb nb kU8 b], []⟩ _ _
  have hs1 : szP [b] = 5 + (4 + b.length) := rfl
  refine T.seq ?_
  refine xR [] (by kernel_rfl) (by kernel_rfl) ?_
  refine nT ?_
  refine T.seq ?_
  refine xR [hR 2 rfl rfl (q_buildSlice 0 58 (kSl tb kU8) (kSl_ok tb kU8) [b] [⟨0, .tmp 6, .one (.d (dsl tb nb kU8 b)), 0⟩] (cs := [.d (dsl tb nb kU8 b)]) Try.underlying101 iat_58 rfl zero_58 rfl rfl rfl (Nat.le_of_ble_eq_true rfl) (part_cons rfl rfl (Nat.le_of_ble_eq_true rfl) part_ok) rfl ⟨(.inr ⟨rfl, (fun h => by cases h), rfl, rfl, rfl⟩), trivial⟩ (lt_of rfl) trivial),
    hR 3 rfl rfl (r_call (term_Of t true false tb [b] (by omega)) Try.func33 rfl (by decide) [] [0] (l := [(.tmp 5, dv (.int .u8 ((t.toNat : Nat) : Int))), (.tmp 7, ownV 0 (kSl false kU8) 0 [b].length)]) [(0, .live (arrK 58 (kSl tb kU8) [b]))] rfl 0 0 rfl rfl rfl rfl rfl rfl rfl rfl rfl ⟨.inl ⟨rfl, rfl⟩, ⟨.inr (.inl ⟨rfl, (fun h => by cases h), rfl, rfl, by simp, 58, [b].length, elOf (kSl tb kU8) [b], List.Mem.head _, by omega, fun i j => by rw [Nat.zero_add]⟩), trivial⟩⟩ rfl (by intro b hb; simp only [List.mem_cons, List.not_mem_nil, or_false] at hb; rcases hb with rfl; exact ⟨_, List.Mem.head _⟩) (.inr ⟨trivial, trivial⟩) (lt_of rfl) trivial)] (by kernel_rfl) (by kernel_rfl) ?_
  refine nT ?_
  refine T.ret ?_
  exact tE (.inl rfl) [.t 4 (.one (.d (.val (strV (ofB t [b])))))] ⟨⟨rfl, by kernel_rfl⟩, trivial⟩ [] rfl rfl rfl rfl rfl rfl trivial
end Go.Proofs.Ytdclfhahcfefeaa.Q
namespace Go.Proofs.Ytdclfhahcfefeaa.Q
open Go Go.RowKit
set_option linter.unusedVariables false
set_option linter.unusedSimpArgs false
set_option maxRecDepth 100000
set_option maxHeartbeats 4000000
-- quaestor/term.Pair
theorem term_Pair (t : UInt8) (a : List UInt8) (b : List UInt8) (hb : a.length + b.length ≤ 140737488350000) : Holds Try.prog 86 ⟨[dv (.int .u8 ((t.toNat : Nat) : Int)), dv (strV a), dv (strV b)], [], dv (strV (ofB t [a, b])), []⟩ := by
  refine Holds.of Try.func86 rfl (N := 14) Try.ntmps86 rfl fun w0 B0 S0 U0 => ?_
  show T _ (mkBase 14 0 w0 S0 U0 B0) ⟨[dv (.int .u8 ((t.toNat : Nat) : Int)), dv (strV a), dv (strV b)], []⟩ _ _
  have hs1 : szP [a, b] = 5 + (4 + a.length) + (4 + b.length) := rfl
  refine T.seq ?_
  refine xR [] (by kernel_rfl) (by kernel_rfl) ?_
  refine nT ?_
  refine T.seq ?_
  refine xR [hR 2 rfl rfl (r_bytesOf (l := a) Try.underlying29 Try.underlying58 Try.underlying5 (lt_of rfl) trivial),
    hR 4 rfl rfl (r_bytesOf (l := b) Try.underlying29 Try.underlying58 Try.underlying5 (lt_of rfl) trivial),
    hR 5 rfl rfl (q_buildSlice 0 58 (kSl false kU8) (kSl_ok false kU8) [a, b] [⟨0, .tmp 9, .one (.d (dsl false true kU8 a)), 0⟩, ⟨1, .tmp 11, .one (.d (dsl false true kU8 b)), 1⟩] (cs := [.d (dsl false true kU8 a), .d (dsl false true kU8 b)]) Try.underlying101 iat_58 rfl zero_58 rfl rfl rfl (Nat.le_of_ble_eq_true rfl) (part_cons rfl rfl (Nat.le_of_ble_eq_true rfl) (part_cons rfl rfl (Nat.le_of_ble_eq_true rfl) part_ok)) rfl ⟨(.inr ⟨rfl, (fun h => by cases h), rfl, rfl, rfl⟩), ⟨(.inr ⟨rfl, (fun h => by cases h), rfl, rfl, rfl⟩), trivial⟩⟩ (lt_of rfl) trivial),
    hR 6 rfl rfl (r_call (term_Of t true false false [a, b] (by omega)) Try.func33 rfl (by decide) [] [0] (l := [(.tmp 7, dv (.int .u8 ((t.toNat : Nat) : Int))), (.tmp 12, ownV 0 (kSl false kU8) 0 [a, b].length)]) [(0, .live (arrK 58 (kSl false kU8) [a, b]))] rfl 0 0 rfl rfl rfl rfl rfl rfl rfl rfl rfl ⟨.inl ⟨rfl, rfl⟩, ⟨.inr (.inl ⟨rfl, (fun h => by cases h), rfl, rfl, by simp, 58, [a, b].length, elOf (kSl false kU8) [a, b], List.Mem.head _, by omega, fun i j => by rw [Nat.zero_add]⟩), trivial⟩⟩ rfl (by intro b hb; simp only [List.mem_cons, List.not_mem_nil, or_false] at hb; rcases hb with rfl; exact ⟨_, List.Mem.head _⟩) (.inr ⟨trivial, trivial⟩) (lt_of rfl) trivial)] (by kernel_rfl) (by kernel_rfl) ?_
  refine nT ?_
  refine T.ret ?_
  exact tE (.inl rfl) [.t 6 (.one (.d (.val (strV (ofB t [a, b])))))] ⟨⟨rfl, by kernel_rfl⟩, trivial⟩ [] rfl rfl rfl rfl rfl rfl trivial
end Go.Proofs.Ytdclfhahcfefeaa.Q
namespace Go.Proofs.Ytdclfhahcfefeaa.Q
open Go Go.RowKit
set_option linter.unusedVariables false
set_option linter.unusedSimpArgs false
set_option maxRecDepth 100000
set_option maxHeartbeats 4000000
-- quaestor/quaestorref02.Of
theorem ref02_Of (t : UInt8) (tl : Bool) (nl : Bool) (sl_ : Bool) (l : List (List UInt8)) (hs : szP l ≤ 140737488354000) : Holds Try.prog 61 ⟨[dv (.int .u8 ((t.toNat : Nat) : Int)), slV tl nl (kSl sl_ kU8) l], [], dv (strV (ofB t l)), []⟩ := by
  refine Holds.of Try.func61 rfl (N := 26) Try.ntmps61 rfl fun w0 B0 S0 U0 => ?_
  show T _ (mkBase 26 0 w0 S0 U0 B0) ⟨[dv (.int .u8 ((t.toNat : Nat) : Int)), slV tl nl (kSl sl_ kU8) l], []⟩ _ _
  have hcn := szP_count l
  have hcl := cnt_len ((l.length : Nat) : Int)
  have hall := ofB_len t l
  refine T.seq ?_
  refine xR [] (by kernel_rfl) (by kernel_rfl) ?_
  refine nT ?_
  refine T.seq ?_
  refine xR [hR 1 rfl rfl (q_buildSlice 0 5 kU8 kU8_ok [t] [⟨0, .tmp 7, .one (.d (.val (.int .u8 ((t.toNat : Nat) : Int)))), 0⟩] (cs := [.d (.val (.int .u8 ((t.toNat : Nat) : Int)))]) Try.underlying58 iat_5 rfl zero_5 rfl rfl rfl (Nat.le_of_ble_eq_true rfl) (part_cons rfl rfl (Nat.le_of_ble_eq_true rfl) part_ok) rfl ⟨(.inl rfl), trivial⟩ (lt_of rfl) trivial),
    hR 4 rfl rfl (r_call (ref01_Count true false [t] ((l.length : Nat) : Int) (by (simp [maxLen, -List.getD_eq_getElem?_getD] <;> omega))) Try.func79 rfl (by decide) [1] [0] (l := [(.tmp 8, ownV 0 kU8 0 [t].length), (.tmp 10, dv (.int .i64 ((l.length : Nat) : Int)))]) [(0, .live (arrK 5 kU8 [t]))] rfl 0 1 rfl rfl rfl rfl rfl rfl rfl rfl rfl ⟨.inr (.inl ⟨rfl, (fun h => by cases h), rfl, rfl, by simp, 5, [t].length, elOf kU8 [t], List.Mem.head _, by omega, fun i j => by rw [Nat.zero_add]⟩), ⟨.inl ⟨rfl, rfl⟩, trivial⟩⟩ rfl (by intro b hb; simp only [List.mem_cons, List.not_mem_nil, or_false] at hb; rcases hb with rfl; exact ⟨_, List.Mem.head _⟩) (.inr ⟨trivial, (And.intro (arr_nt kU8_nt) trivial)⟩) (lt_of rfl) trivial)] (by kernel_rfl) (by kernel_rfl) ?_
  refine nT ?_
  refine T.seq ?_
  refine T.seq ?_
  refine xR [] (by kernel_rfl) (by kernel_rfl) ?_
  refine nT ?_
  refine T.block ?_
  refine T.loop (ι := Nat) (fun (k : Nat) => ⟨[dv (.int .u8 ((t.toNat : Nat) : Int)), slV tl nl (kSl sl_ kU8) l, aa, aa, aa, ownV 0 kU8 0 (ofR t l.length (l.take k)).length, dv (.int .i64 ((k : Nat) : Int))], [.live (arrK 5 kU8 (ofR t l.length (l.take k)))]⟩) (fun (k : Nat) => (k ≤ l.length)) (fun (k : Nat) => l.length - k) (0) (Nat.zero_le _) (fun _ _ hG => Gs.into2 (s' := ⟨[dv (.int .u8 ((t.toNat : Nat) : Int)), slV tl nl (kSl sl_ kU8) l, aa, aa, aa, ownV 0 kU8 0 (ofR t l.length (l.take 0)).length, dv (.int .i64 0)], [.live (arrK 5 kU8 (ofR t l.length (l.take 0)))]⟩) [1] (bm 7 99) (t1 := [dv (.int .u8 ((t.toNat : Nat) : Int)), slV tl nl (kSl sl_ kU8) l, aa, aa, aa, ownV 1 kU8 0 (ofR t l.length (l.take 0)).length, dv (.int .i64 0)]) (t2 := [dv (.int .u8 ((t.toNat : Nat) : Int)), slV tl nl (kSl sl_ kU8) l, aa, aa, aa, ownV 1 kU8 0 ([t] ++ cntB ((l.length : Nat) : Int)).length, dv (.int .i64 0)]) (h1 := [.live (arrK 5 kU8 (ofR t l.length (l.take 0)))]) (h2 := [.live (arrK 5 kU8 ([t] ++ cntB ((l.length : Nat) : Int)))]) (by have e1 : ((ofR t l.length (l.take 0)).length : Nat) = ([t] ++ cntB ((l.length : Nat) : Int)).length := (by rfl); have hE := congrArg (fun (q1 : Nat) => ([dv (.int .u8 ((t.toNat : Nat) : Int)), slV tl nl (kSl sl_ kU8) l, aa, aa, aa, ownV 1 kU8 0 q1, dv (.int .i64 0)] : List AV)) e1; exact hE) (by have e1 : ((ofR t l.length (l.take 0)) : List UInt8) = [t] ++ cntB ((l.length : Nat) : Int) := (by rfl); have hE := congrArg (fun (q1 : List UInt8) => ([.live (arrK 5 kU8 q1)] : List HS)) e1; exact hE) (by kernel_rfl) (by kernel_rfl) (by kernel_rfl) (by kernel_rfl) (by kernel_rfl) (by kernel_rfl) (by kernel_rfl) (by kernel_rfl) (by kernel_rfl) (by kernel_rfl) (by kernel_rfl) hG) ?_
  rintro k hk
  show T _ _ ⟨[dv (.int .u8 ((t.toNat : Nat) : Int)), slV tl nl (kSl sl_ kU8) l, aa, aa, aa, ownV 0 kU8 0 (ofR t l.length (l.take k)).length, dv (.int .i64 ((k : Nat) : Int))], [.live (arrK 5 kU8 (ofR t l.length (l.take k)))]⟩ _ _
  replace hk : k ≤ l.length := hk
  have hol := ofR_len t l.length (l.take k)
  have hsz0 := szP_take l k
  refine T.seq ?_
  refine T.seq ?_
  refine xR [] (by kernel_rfl) (by kernel_rfl) ?_
  refine nT ?_
  by_cases hq1 : ((k : Nat) : Int) < ((l.length : Nat) : Int)
  · have hkl : k < l.length := (by omega); have hsk := szP_succ hkl; have hst := szP_take l (k + 1)
    refine T.condT (by kernel_rfl) (decide_eq_true hq1) ?_
    refine T.skip ?_
    refine nT ?_
    refine T.seq ?_
    refine T.block ?_
    refine xR [hR 3 rfl rfl (q_index tl nl (kSl sl_ kU8) l k (k := .i64) (i := ((k : Nat) : Int)) Try.underlying101 iat_58 rfl rfl (by assumption) (lt_of rfl) trivial),
      hR 5 rfl rfl (r_call (ref01_Bytes true false (ofR t l.length (l.take k)) sl_ false (l.getD k []) (by omega)) Try.func56 rfl (by decide) [1] [0] (l := [(.tmp 18, ownV 0 kU8 0 (ofR t l.length (l.take k)).length), (.tmp 22, slV sl_ false kU8 (l.getD k []))]) [(0, .live (arrK 5 kU8 (ofR t l.length (l.take k))))] rfl 0 1 rfl rfl rfl rfl rfl rfl rfl rfl rfl ⟨.inr (.inl ⟨rfl, (fun h => by cases h), rfl, rfl, by simp, 5, (ofR t l.length (l.take k)).length, elOf kU8 (ofR t l.length (l.take k)), List.Mem.head _, by omega, fun i j => by rw [Nat.zero_add]⟩), ⟨.inl ⟨rfl, rfl⟩, trivial⟩⟩ rfl (by intro b hb; simp only [List.mem_cons, List.not_mem_nil, or_false] at hb; rcases hb with rfl; exact ⟨_, List.Mem.head _⟩) (.inr ⟨trivial, (And.intro (arr_nt kU8_nt) trivial)⟩) (lt_of rfl) trivial)] (by kernel_rfl) (by kernel_rfl) ?_
    refine nB ?_
    refine nT ?_
    refine xR [hR 1 rfl rfl (r_bin (u1 := .int .i64 ((k : Nat) : Int)) (u2 := .int .i64 1) (v := .int .i64 ((k + 1 : Nat) : Int)) (b_add (by rw [IntKind.wrap_i64]; omega)) (lt_of rfl) ⟨rfl, trivial⟩)] (by kernel_rfl) (by kernel_rfl) ?_
    refine nL (k + 1) (show (k + 1) ≤ l.length from (by omega)) (show (l.length - (k + 1) : Nat) < l.length - k from (by omega)) (fun _ _ hG => Gs.into2 (s' := ⟨[dv (.int .u8 ((t.toNat : Nat) : Int)), slV tl nl (kSl sl_ kU8) l, aa, aa, aa, ownV 0 kU8 0 (ofR t l.length (l.take (k + 1))).length, dv (.int .i64 ((k + 1 : Nat) : Int))], [.live (arrK 5 kU8 (ofR t l.length (l.take (k + 1))))]⟩) [1] (bm 7 99) (t1 := [dv (.int .u8 ((t.toNat : Nat) : Int)), slV tl nl (kSl sl_ kU8) l, aa, aa, aa, ownV 1 kU8 0 (ofR t l.length (l.take (k + 1))).length, dv (.int .i64 ((k + 1 : Nat) : Int))]) (t2 := [dv (.int .u8 ((t.toNat : Nat) : Int)), slV tl nl (kSl sl_ kU8) l, aa, aa, aa, ownV 1 kU8 0 ((ofR t l.length (l.take k)) ++ bytesB (l.getD k [])).length, dv (.int .i64 ((k + 1 : Nat) : Int))]) (h1 := [.live (arrK 5 kU8 (ofR t l.length (l.take (k + 1))))]) (h2 := [.live (arrK 5 kU8 ((ofR t l.length (l.take k)) ++ bytesB (l.getD k [])))]) (by have e1 : ((ofR t l.length (l.take (k + 1))).length : Nat) = ((ofR t l.length (l.take k)) ++ bytesB (l.getD k [])).length := (by (rw [ofR_succ hkl])); have hE := congrArg (fun (q1 : Nat) => ([dv (.int .u8 ((t.toNat : Nat) : Int)), slV tl nl (kSl sl_ kU8) l, aa, aa, aa, ownV 1 kU8 0 q1, dv (.int .i64 ((k + 1 : Nat) : Int))] : List AV)) e1; exact hE) (by have e1 : ((ofR t l.length (l.take (k + 1))) : List UInt8) = (ofR t l.length (l.take k)) ++ bytesB (l.getD k []) := (by (rw [ofR_succ hkl])); have hE := congrArg (fun (q1 : List UInt8) => ([.live (arrK 5 kU8 q1)] : List HS)) e1; exact hE) (by kernel_rfl) (by kernel_rfl) (by kernel_rfl) (by kernel_rfl) (by kernel_rfl) (by kernel_rfl) (by kernel_rfl) (by kernel_rfl) (by kernel_rfl) (by kernel_rfl) (by kernel_rfl) hG)
  · refine T.condF (by kernel_rfl) (decide_eq_false hq1) ?_
    refine T.exit ?_
    refine xT ?_
    refine xT ?_
    refine xH ?_
    refine nT ?_
    refine T.seq ?_
    refine xR [hR 1 rfl rfl (q_strOf () (ofR t l.length (l.take k)) (ys := (.own 0 kU8.sz 0 (ofR t l.length (l.take k)).length)) (rhs := [(0, .live (arrK 5 kU8 (ofR t l.length (l.take k))))]) Try.underlying58 Try.underlying5 Try.underlying29 (src_own 0 5 kU8 (ofR t l.length (l.take k))) (lt_of rfl) trivial)] (by kernel_rfl) (by kernel_rfl) ?_
    refine nT ?_
    refine T.ret ?_
    exact tE (.inl rfl) [.t 4 (.one (.d (.val (strV (ofR t l.length (l.take k))))))] ⟨⟨rfl, by kernel_rfl⟩, trivial⟩ [] (by have e1 : ((ofB t l) : List UInt8) = (ofR t l.length (l.take k)) := (by (have hke : k = l.length := (by omega); rw [hke, ofR_all])); have hE := congrArg (fun (q1 : List UInt8) => (dv (strV q1) : AV)) e1; exact hE) rfl rfl rfl rfl rfl trivial
end Go.Proofs.Ytdclfhahcfefeaa.Q
namespace Go.Proofs.Ytdclfhahcfefeaa.Q
open Go Go.RowKit
set_option linter.unusedVariables false
set_option linter.unusedSimpArgs false
set_option maxRecDepth 100000
set_option maxHeartbeats 4000000
-- quaestor/quaestorref02.Leaf
theorem ref02_Leaf (t : UInt8) (tb : Bool) (nb : Bool) (b : List UInt8) (hb : b.length ≤ 140737488350000) : Holds Try.prog 59 ⟨[dv (.int .u8 ((t.toNat : Nat) : Int)), slV tb nb kU8 b], [], dv (strV (ofB t [b])), []⟩ := by
  refine Holds.of Try.func59 rfl (N := 9) Try.ntmps59 rfl fun w0 B0 S0 U0 => ?_
  show T _ (mkBase 9 0 w0 S0 U0 B0) ⟨[dv (.int .u8 ((t.toNat : Nat) : Int)), slV tb nb kU8 b], []⟩ _ _
  have hs1 : szP [b] = 5 + (4 + b.length) := rfl
  refine T.seq ?_
  refine xR [] (by kernel_rfl) (by kernel_rfl) ?_
  refine nT ?_
  refine T.seq ?_
  refine xR [hR 2 rfl rfl (q_buildSlice 0 58 (kSl tb kU8) (kSl_ok tb kU8) [b] [⟨0, .tmp 6, .one (.d (dsl tb nb kU8 b)), 0⟩] (cs := [.d (dsl tb nb kU8 b)]) Try.underlying101 iat_58 rfl zero_58 rfl rfl rfl (Nat.le_of_ble_eq_true rfl) (part_cons rfl rfl (Nat.le_of_ble_eq_true rfl) part_ok) rfl ⟨(.inr ⟨rfl, (fun h => by cases h), rfl, rfl, rfl⟩), trivial⟩ (lt_of rfl) trivial),
    hR 3 rfl rfl (r_call (ref02_Of t true false tb [b] (by omega)) Try.func61 rfl (by decide) [] [0] (l := [(.tmp 5, dv (.int .u8 ((t.toNat : Nat) : Int))), (.tmp 7, ownV 0 (kSl false kU8) 0 [b].length)]) [(0, .live (arrK 58 (kSl tb kU8) [b]))] rfl 0 0 rfl rfl rfl rfl rfl rfl rfl rfl rfl ⟨.inl ⟨rfl, rfl⟩, ⟨.inr (.inl ⟨rfl, (fun h => by cases h), rfl, rfl, by simp, 58, [b].length, elOf (kSl tb kU8) [b], List.Mem.head _, by omega, fun i j => by rw [Nat.zero_add]⟩), trivial⟩⟩ rfl (by intro b hb; simp only [List.mem_cons, List.not_mem_nil, or_false] at hb; rcases hb with rfl; exact ⟨_, List.Mem.head _⟩) (.inr ⟨trivial, trivial⟩) (lt_of rfl) trivial)] (by kernel_rfl) (by kernel_rfl) ?_
  refine nT ?_
  refine T.ret ?_
  exact tE (.inl rfl) [.t 4 (.one (.d (.val (strV (ofB t [b])))))] ⟨⟨rfl, by kernel_rfl⟩, trivial⟩ [] rfl rfl rfl rfl rfl rfl trivial
end Go.Proofs.Ytdclfhahcfefeaa.Q
namespace Go.Proofs.Ytdclfhahcfefeaa.Q
open Go Go.RowKit
set_option linter.unusedVariables false
set_option linter.unusedSimpArgs false
set_option maxRecDepth 100000
set_option maxHeartbeats 4000000
-- quaestor/quaestorref02.Pair
theorem ref02_Pair (t : UInt8) (a : List UInt8) (b : List UInt8) (hb : a.length + b.length ≤ 140737488350000) : Holds Try.prog 94 ⟨[dv (.int .u8 ((t.toNat : Nat) : Int)), dv (strV a), dv (strV b)], [], dv (strV (ofB t [a, b])), []⟩ := by
  refine Holds.of Try.func94 rfl (N := 14) Try.ntmps94 rfl fun w0 B0 S0 U0 => ?_
  show T _ (mkBase 14 0 w0 S0 U0 B0) ⟨[dv (.int .u8 ((t.toNat : Nat) : Int)), dv (strV a), dv (strV b)], []⟩ _ _
  have hs1 : szP [a, b] = 5 + (4 + a.length) + (4 + b.length) := rfl
  refine T.seq ?_
  refine xR [] (by kernel_rfl) (by kernel_rfl) ?_
  refine nT ?_
  refine T.seq ?_
  refine xR [hR 2 rfl rfl (r_bytesOf (l := a) Try.underlying29 Try.underlying58 Try.underlying5 (lt_of rfl) trivial),
    hR 4 rfl rfl (r_bytesOf (l := b) Try.underlying29 Try.underlying58 Try.underlying5 (lt_of rfl) trivial),
    hR 5 rfl rfl (q_buildSlice 0 58 (kSl false kU8) (kSl_ok false kU8) [a, b] [⟨0, .tmp 9, .one (.d (dsl false true kU8 a)), 0⟩, ⟨1, .tmp 11, .one (.d (dsl false true kU8 b)), 1⟩] (cs := [.d (dsl false true kU8 a), .d (dsl false true kU8 b)]) Try.underlying101 iat_58 rfl zero_58 rfl rfl rfl (Nat.le_of_ble_eq_true rfl) (part_cons rfl rfl (Nat.le_of_ble_eq_true rfl) (part_cons rfl rfl (Nat.le_of_ble_eq_true rfl) part_ok)) rfl ⟨(.inr ⟨rfl, (fun h => by cases h), rfl, rfl, rfl⟩), ⟨(.inr ⟨rfl, (fun h => by cases h), rfl, rfl, rfl⟩), trivial⟩⟩ (lt_of rfl) trivial),
    hR 6 rfl rfl (r_call (ref02_Of t true false false [a, b] (by omega)) Try.func61 rfl (by decide) [] [0] (l := [(.tmp 7, dv (.int .u8 ((t.toNat : Nat) : Int))), (.tmp 12, ownV 0 (kSl false kU8) 0 [a, b].length)]) [(0, .live (arrK 58 (kSl false kU8) [a, b]))] rfl 0 0 rfl rfl rfl rfl rfl rfl rfl rfl rfl ⟨.inl ⟨rfl, rfl⟩, ⟨.inr (.inl ⟨rfl, (fun h => by cases h), rfl, rfl, by simp, 58, [a, b].length, elOf (kSl false kU8) [a, b], List.Mem.head _, by omega, fun i j => by rw [Nat.zero_add]⟩), trivial⟩⟩ rfl (by intro b hb; simp only [List.mem_cons, List.not_mem_nil, or_false] at hb; rcases hb with rfl; exact ⟨_, List.Mem.head _⟩) (.inr ⟨trivial, trivial⟩) (lt_of rfl) trivial)] (by kernel_rfl) (by kernel_rfl) ?_
  refine nT ?_
  refine T.ret ?_
  exact tE (.inl rfl) [.t 6 (.one (.d (.val (strV (ofB t [a, b])))))] ⟨⟨rfl, by kernel_rfl⟩, trivial⟩ [] rfl rfl rfl rfl rfl rfl trivial
end Go.Proofs.Ytdclfhahcfefeaa.Q
namespace Go.Proofs.Ytdclfhahcfefeaa.Q
open Go Go.RowKit
set_option linter.unusedVariables false
set_option linter.unusedSimpArgs false
set_option maxRecDepth 100000
set_option maxHeartbeats 4000000
-- math/bits.Len64
theorem bits_Len64 (x : Nat) (hx : x < 18446744073709551616) : Holds Try.prog 96 ⟨[dv (.int .u64 ((x : Nat) : Int))], [], dv (.int .i64 ((lenN x : Nat) : Int)), []⟩ := by
  refine Holds.of Try.func96 rfl (N := 25) Try.ntmps96 rfl fun w0 B0 S0 U0 => ?_
  show T _ (mkBase 25 0 w0 S0 U0 B0) ⟨[dv (.int .u64 ((x : Nat) : Int))], []⟩ _ _
  have hb8 := fun (y : Nat) => UInt8.toNat_lt (len8Tab.getD (UInt8.ofNat y).toNat 0)
  refine T.seq ?_
  refine xR [] (by kernel_rfl) (by kernel_rfl) ?_
  refine nT ?_
  refine T.seq ?_
  refine T.seq ?_
  refine xR [] (by kernel_rfl) (by kernel_rfl) ?_
  refine nT ?_
  by_cases hq1 : ((x : Nat) : Int) ≥ 4294967296
  · have hd32 := lenN_div (x := x) (s := 32) (by omega)
    refine T.condT (by kernel_rfl) (decide_eq_true hq1) ?_
    refine T.seq ?_
    refine xR [hR 1 rfl rfl (r_bin (u1 := .int .u64 ((x : Nat) : Int)) (u2 := .int .u64 32) (v := .int .u64 ((x / 2 ^ 32 : Nat) : Int)) (b_shrN (n := 32) rfl (Nat.le_trans (by omega) (by decide : 64 ≤ _))) (lt_of rfl) ⟨rfl, trivial⟩)] (by kernel_rfl) (by kernel_rfl) ?_
    refine nT ?_
    refine xR [] (by kernel_rfl) (by kernel_rfl) ?_
    refine nT ?_
    refine T.seq ?_
    refine T.seq ?_
    refine xR [] (by kernel_rfl) (by kernel_rfl) ?_
    refine nT ?_
    by_cases hq2 : ((x / 2 ^ 32 : Nat) : Int) ≥ 65536
    · have hd16 := lenN_div (x := x / 2 ^ 32) (s := 16) (by omega)
      refine T.condT (by kernel_rfl) (decide_eq_true hq2) ?_
      refine T.seq ?_
      refine xR [hR 1 rfl rfl (r_bin (u1 := .int .u64 ((x / 2 ^ 32 : Nat) : Int)) (u2 := .int .u64 16) (v := .int .u64 (((x / 2 ^ 32) / 2 ^ 16 : Nat) : Int)) (b_shrN (n := 16) rfl (Nat.le_trans (by omega) (by decide : 64 ≤ _))) (lt_of rfl) ⟨rfl, trivial⟩)] (by kernel_rfl) (by kernel_rfl) ?_
      refine nT ?_
      refine xR [hR 1 rfl rfl (r_bin (u1 := .int .i64 32) (u2 := .int .i64 16) (v := .int .i64 48) (b_add (by rw [IntKind.wrap_i64]; omega)) (lt_of rfl) ⟨rfl, trivial⟩)] (by kernel_rfl) (by kernel_rfl) ?_
      refine nT ?_
      refine T.seq ?_
      refine T.seq ?_
      refine xR [] (by kernel_rfl) (by kernel_rfl) ?_
      refine nT ?_
      by_cases hq3 : (((x / 2 ^ 32) / 2 ^ 16 : Nat) : Int) ≥ 256
      · have hd8 := lenN_div (x := (x / 2 ^ 32) / 2 ^ 16) (s := 8) (by omega)
        refine T.condT (by kernel_rfl) (decide_eq_true hq3) ?_
        refine T.seq ?_
        refine xR [hR 1 rfl rfl (r_bin (u1 := .int .u64 (((x / 2 ^ 32) / 2 ^ 16 : Nat) : Int)) (u2 := .int .u64 8) (v := .int .u64 ((((x / 2 ^ 32) / 2 ^ 16) / 2 ^ 8 : Nat) : Int)) (b_shrN (n := 8) rfl (Nat.le_trans (by omega) (by decide : 64 ≤ _))) (lt_of rfl) ⟨rfl, trivial⟩)] (by kernel_rfl) (by kernel_rfl) ?_
        refine nT ?_
        refine xR [hR 1 rfl rfl (r_bin (u1 := .int .i64 48) (u2 := .int .i64 8) (v := .int .i64 56) (b_add (by rw [IntKind.wrap_i64]; omega)) (lt_of rfl) ⟨rfl, trivial⟩)] (by kernel_rfl) (by kernel_rfl) ?_
        refine nT ?_
        refine T.seq ?_
        refine xR [hR 2 rfl rfl (r_conv (u := .int .u64 ((((x / 2 ^ 32) / 2 ^ 16) / 2 ^ 8 : Nat) : Int)) (v := .int .u8 (((UInt8.ofNat (((x / 2 ^ 32) / 2 ^ 16) / 2 ^ 8)).toNat : Nat) : Int)) (c_byte Try.underlying113 Try.underlying5) (lt_of rfl) trivial),
          hR 3 rfl rfl (r_indexStr (k := .u8) (l := len8Tab) (m := (UInt8.ofNat (((x / 2 ^ 32) / 2 ^ 16) / 2 ^ 8)).toNat) (b := (len8Tab.getD (UInt8.ofNat (((x / 2 ^ 32) / 2 ^ 16) / 2 ^ 8)).toNat 0)) (i := (((UInt8.ofNat (((x / 2 ^ 32) / 2 ^ 16) / 2 ^ 8)).toNat : Nat) : Int)) Try.underlying9 rfl (by rw [len8_len]; exact UInt8.toNat_lt _) rfl (lt_of rfl) ⟨rfl, trivial⟩),
          hR 4 rfl rfl (r_conv (u := .int .u8 (((len8Tab.getD (UInt8.ofNat (((x / 2 ^ 32) / 2 ^ 16) / 2 ^ 8)).toNat 0).toNat : Nat) : Int)) (v := .int .i64 (((len8Tab.getD (UInt8.ofNat (((x / 2 ^ 32) / 2 ^ 16) / 2 ^ 8)).toNat 0).toNat : Nat) : Int)) (c_int Try.underlying5 Try.underlying3 (by have h9 := UInt8.toNat_lt (len8Tab.getD (UInt8.ofNat (((x / 2 ^ 32) / 2 ^ 16) / 2 ^ 8)).toNat 0); rw [IntKind.wrap_i64]; omega)) (lt_of rfl) trivial),
          hR 5 rfl rfl (r_bin (u1 := .int .i64 56) (u2 := .int .i64 (((len8Tab.getD (UInt8.ofNat (((x / 2 ^ 32) / 2 ^ 16) / 2 ^ 8)).toNat 0).toNat : Nat) : Int)) (v := .int .i64 ((56 + (len8Tab.getD (UInt8.ofNat (((x / 2 ^ 32) / 2 ^ 16) / 2 ^ 8)).toNat 0).toNat : Nat) : Int)) (b_add (by have h9 := UInt8.toNat_lt (len8Tab.getD (UInt8.ofNat (((x / 2 ^ 32) / 2 ^ 16) / 2 ^ 8)).toNat 0); rw [IntKind.wrap_i64]; omega)) (lt_of rfl) trivial)] (by kernel_rfl) (by kernel_rfl) ?_
        refine nT ?_
        refine T.ret ?_
        exact tE (.inl rfl) [.t 2 (.one (.d (.val (.int .i64 ((56 + (len8Tab.getD (UInt8.ofNat (((x / 2 ^ 32) / 2 ^ 16) / 2 ^ 8)).toNat 0).toNat : Nat) : Int)))))] ⟨⟨rfl, by kernel_rfl⟩, trivial⟩ [] (by have e1 : (((lenN x : Nat) : Int) : Int) = ((56 + (len8Tab.getD (UInt8.ofNat (((x / 2 ^ 32) / 2 ^ 16) / 2 ^ 8)).toNat 0).toNat : Nat) : Int) := (by (rw [len8 (by omega)]; omega)); have hE := congrArg (fun (q1 : Int) => (dv (.int .i64 q1) : AV)) e1; exact hE) rfl rfl rfl rfl rfl trivial
      · refine T.condF (by kernel_rfl) (decide_eq_false hq3) ?_
        refine T.skip ?_
        refine nT ?_
        refine T.seq ?_
        refine xR [hR 2 rfl rfl (r_conv (u := .int .u64 (((x / 2 ^ 32) / 2 ^ 16 : Nat) : Int)) (v := .int .u8 (((UInt8.ofNat ((x / 2 ^ 32) / 2 ^ 16)).toNat : Nat) : Int)) (c_byte Try.underlying113 Try.underlying5) (lt_of rfl) trivial),
          hR 3 rfl rfl (r_indexStr (k := .u8) (l := len8Tab) (m := (UInt8.ofNat ((x / 2 ^ 32) / 2 ^ 16)).toNat) (b := (len8Tab.getD (UInt8.ofNat ((x / 2 ^ 32) / 2 ^ 16)).toNat 0)) (i := (((UInt8.ofNat ((x / 2 ^ 32) / 2 ^ 16)).toNat : Nat) : Int)) Try.underlying9 rfl (by rw [len8_len]; exact UInt8.toNat_lt _) rfl (lt_of rfl) ⟨rfl, trivial⟩),
          hR 4 rfl rfl (r_conv (u := .int .u8 (((len8Tab.getD (UInt8.ofNat ((x / 2 ^ 32) / 2 ^ 16)).toNat 0).toNat : Nat) : Int)) (v := .int .i64 (((len8Tab.getD (UInt8.ofNat ((x / 2 ^ 32) / 2 ^ 16)).toNat 0).toNat : Nat) : Int)) (c_int Try.underlying5 Try.underlying3 (by have h9 := UInt8.toNat_lt (len8Tab.getD (UInt8.ofNat ((x / 2 ^ 32) / 2 ^ 16)).toNat 0); rw [IntKind.wrap_i64]; omega)) (lt_of rfl) trivial),
          hR 5 rfl rfl (r_bin (u1 := .int .i64 48) (u2 := .int .i64 (((len8Tab.getD (UInt8.ofNat ((x / 2 ^ 32) / 2 ^ 16)).toNat 0).toNat : Nat) : Int)) (v := .int .i64 ((48 + (len8Tab.getD (UInt8.ofNat ((x / 2 ^ 32) / 2 ^ 16)).toNat 0).toNat : Nat) : Int)) (b_add (by have h9 := UInt8.toNat_lt (len8Tab.getD (UInt8.ofNat ((x / 2 ^ 32) / 2 ^ 16)).toNat 0); rw [IntKind.wrap_i64]; omega)) (lt_of rfl) trivial)] (by kernel_rfl) (by kernel_rfl) ?_
        refine nT ?_
        refine T.ret ?_
        exact tE (.inl rfl) [.t 2 (.one (.d (.val (.int .i64 ((48 + (len8Tab.getD (UInt8.ofNat ((x / 2 ^ 32) / 2 ^ 16)).toNat 0).toNat : Nat) : Int)))))] ⟨⟨rfl, by kernel_rfl⟩, trivial⟩ [] (by have e1 : (((lenN x : Nat) : Int) : Int) = ((48 + (len8Tab.getD (UInt8.ofNat ((x / 2 ^ 32) / 2 ^ 16)).toNat 0).toNat : Nat) : Int) := (by (rw [len8 (by omega)]; omega)); have hE := congrArg (fun (q1 : Int) => (dv (.int .i64 q1) : AV)) e1; exact hE) rfl rfl rfl rfl rfl trivial
    · refine T.condF (by kernel_rfl) (decide_eq_false hq2) ?_
      refine T.skip ?_
      refine nT ?_
      refine T.seq ?_
      refine T.seq ?_
      refine xR [] (by kernel_rfl) (by kernel_rfl) ?_
      refine nT ?_
      by_cases hq4 : ((x / 2 ^ 32 : Nat) : Int) ≥ 256
      · have hd8 := lenN_div (x := x / 2 ^ 32) (s := 8) (by omega)
        refine T.condT (by kernel_rfl) (decide_eq_true hq4) ?_
        refine T.seq ?_
        refine xR [hR 1 rfl rfl (r_bin (u1 := .int .u64 ((x / 2 ^ 32 : Nat) : Int)) (u2 := .int .u64 8) (v := .int .u64 (((x / 2 ^ 32) / 2 ^ 8 : Nat) : Int)) (b_shrN (n := 8) rfl (Nat.le_trans (by omega) (by decide : 64 ≤ _))) (lt_of rfl) ⟨rfl, trivial⟩)] (by kernel_rfl) (by kernel_rfl) ?_
        refine nT ?_
        refine xR [hR 1 rfl rfl (r_bin (u1 := .int .i64 32) (u2 := .int .i64 8) (v := .int .i64 40) (b_add (by rw [IntKind.wrap_i64]; omega)) (lt_of rfl) ⟨rfl, trivial⟩)] (by kernel_rfl) (by kernel_rfl) ?_
        refine nT ?_
        refine T.seq ?_
        refine xR [hR 2 rfl rfl (r_conv (u := .int .u64 (((x / 2 ^ 32) / 2 ^ 8 : Nat) : Int)) (v := .int .u8 (((UInt8.ofNat ((x / 2 ^ 32) / 2 ^ 8)).toNat : Nat) : Int)) (c_byte Try.underlying113 Try.underlying5) (lt_of rfl) trivial),
          hR 3 rfl rfl (r_indexStr (k := .u8) (l := len8Tab) (m := (UInt8.ofNat ((x / 2 ^ 32) / 2 ^ 8)).toNat) (b := (len8Tab.getD (UInt8.ofNat ((x / 2 ^ 32) / 2 ^ 8)).toNat 0)) (i := (((UInt8.ofNat ((x / 2 ^ 32) / 2 ^ 8)).toNat : Nat) : Int)) Try.underlying9 rfl (by rw [len8_len]; exact UInt8.toNat_lt _) rfl (lt_of rfl) ⟨rfl, trivial⟩),
          hR 4 rfl rfl (r_conv (u := .int .u8 (((len8Tab.getD (UInt8.ofNat ((x / 2 ^ 32) / 2 ^ 8)).toNat 0).toNat : Nat) : Int)) (v := .int .i64 (((len8Tab.getD (UInt8.ofNat ((x / 2 ^ 32) / 2 ^ 8)).toNat 0).toNat : Nat) : Int)) (c_int Try.underlying5 Try.underlying3 (by have h9 := UInt8.toNat_lt (len8Tab.getD (UInt8.ofNat ((x / 2 ^ 32) / 2 ^ 8)).toNat 0); rw [IntKind.wrap_i64]; omega)) (lt_of rfl) trivial),
          hR 5 rfl rfl (r_bin (u1 := .int .i64 40) (u2 := .int .i64 (((len8Tab.getD (UInt8.ofNat ((x / 2 ^ 32) / 2 ^ 8)).toNat 0).toNat : Nat) : Int)) (v := .int .i64 ((40 + (len8Tab.getD (UInt8.ofNat ((x / 2 ^ 32) / 2 ^ 8)).toNat 0).toNat : Nat) : Int)) (b_add (by have h9 := UInt8.toNat_lt (len8Tab.getD (UInt8.ofNat ((x / 2 ^ 32) / 2 ^ 8)).toNat 0); rw [IntKind.wrap_i64]; omega)) (lt_of rfl) trivial)] (by kernel_rfl) (by kernel_rfl) ?_
        refine nT ?_
        refine T.ret ?_
        exact tE (.inl rfl) [.t 2 (.one (.d (.val (.int .i64 ((40 + (len8Tab.getD (UInt8.ofNat ((x / 2 ^ 32) / 2 ^ 8)).toNat 0).toNat : Nat) : Int)))))] ⟨⟨rfl, by kernel_rfl⟩, trivial⟩ [] (by have e1 : (((lenN x : Nat) : Int) : Int) = ((40 + (len8Tab.getD (UInt8.ofNat ((x / 2 ^ 32) / 2 ^ 8)).toNat 0).toNat : Nat) : Int) := (by (rw [len8 (by omega)]; omega)); have hE := congrArg (fun (q1 : Int) => (dv (.int .i64 q1) : AV)) e1; exact hE) rfl rfl rfl rfl rfl trivial
      · refine T.condF (by kernel_rfl) (decide_eq_false hq4) ?_
        refine T.skip ?_
        refine nT ?_
        refine T.seq ?_
        refine xR [hR 2 rfl rfl (r_conv (u := .int .u64 ((x / 2 ^ 32 : Nat) : Int)) (v := .int .u8 (((UInt8.ofNat (x / 2 ^ 32)).toNat : Nat) : Int)) (c_byte Try.underlying113 Try.underlying5) (lt_of rfl) trivial),
          hR 3 rfl rfl (r_indexStr (k := .u8) (l := len8Tab) (m := (UInt8.ofNat (x / 2 ^ 32)).toNat) (b := (len8Tab.getD (UInt8.ofNat (x / 2 ^ 32)).toNat 0)) (i := (((UInt8.ofNat (x / 2 ^ 32)).toNat : Nat) : Int)) Try.underlying9 rfl (by rw [len8_len]; exact UInt8.toNat_lt _) rfl (lt_of rfl) ⟨rfl, trivial⟩),
          hR 4 rfl rfl (r_conv (u := .int .u8 (((len8Tab.getD (UInt8.ofNat (x / 2 ^ 32)).toNat 0).toNat : Nat) : Int)) (v := .int .i64 (((len8Tab.getD (UInt8.ofNat (x / 2 ^ 32)).toNat 0).toNat : Nat) : Int)) (c_int Try.underlying5 Try.underlying3 (by have h9 := UInt8.toNat_lt (len8Tab.getD (UInt8.ofNat (x / 2 ^ 32)).toNat 0); rw [IntKind.wrap_i64]; omega)) (lt_of rfl) trivial),
          hR 5 rfl rfl (r_bin (u1 := .int .i64 32) (u2 := .int .i64 (((len8Tab.getD (UInt8.ofNat (x / 2 ^ 32)).toNat 0).toNat : Nat) : Int)) (v := .int .i64 ((32 + (len8Tab.getD (UInt8.ofNat (x / 2 ^ 32)).toNat 0).toNat : Nat) : Int)) (b_add (by have h9 := UInt8.toNat_lt (len8Tab.getD (UInt8.ofNat (x / 2 ^ 32)).toNat 0); rw [IntKind.wrap_i64]; omega)) (lt_of rfl) trivial)] (by kernel_rfl) (by kernel_rfl) ?_
        refine nT ?_
        refine T.ret ?_
        exact tE (.inl rfl) [.t 2 (.one (.d (.val (.int .i64 ((32 + (len8Tab.getD (UInt8.ofNat (x / 2 ^ 32)).toNat 0).toNat : Nat) : Int)))))] ⟨⟨rfl, by kernel_rfl⟩, trivial⟩ [] (by have e1 : (((lenN x : Nat) : Int) : Int) = ((32 + (len8Tab.getD (UInt8.ofNat (x / 2 ^ 32)).toNat 0).toNat : Nat) : Int) := (by (rw [len8 (by omega)]; omega)); have hE := congrArg (fun (q1 : Int) => (dv (.int .i64 q1) : AV)) e1; exact hE) rfl rfl rfl rfl rfl trivial
  · refine T.condF (by kernel_rfl) (decide_eq_false hq1) ?_
    refine T.skip ?_
    refine nT ?_
    refine T.seq ?_
    refine T.seq ?_
    refine xR [] (by kernel_rfl) (by kernel_rfl) ?_
    refine nT ?_
    by_cases hq5 : ((x : Nat) : Int) ≥ 65536
    · have hd16 := lenN_div (x := x) (s := 16) (by omega)
      refine T.condT (by kernel_rfl) (decide_eq_true hq5) ?_
      refine T.seq ?_
      refine xR [hR 1 rfl rfl (r_bin (u1 := .int .u64 ((x : Nat) : Int)) (u2 := .int .u64 16) (v := .int .u64 ((x / 2 ^ 16 : Nat) : Int)) (b_shrN (n := 16) rfl (Nat.le_trans (by omega) (by decide : 64 ≤ _))) (lt_of rfl) ⟨rfl, trivial⟩)] (by kernel_rfl) (by kernel_rfl) ?_
      refine nT ?_
      refine xR [hR 1 rfl rfl (r_bin (u1 := .int .i64 0) (u2 := .int .i64 16) (v := .int .i64 16) (b_add (by rw [IntKind.wrap_i64]; omega)) (lt_of rfl) ⟨rfl, trivial⟩)] (by kernel_rfl) (by kernel_rfl) ?_
      refine nT ?_
      refine T.seq ?_
      refine T.seq ?_
      refine xR [] (by kernel_rfl) (by kernel_rfl) ?_
      refine nT ?_
      by_cases hq6 : ((x / 2 ^ 16 : Nat) : Int) ≥ 256
      · have hd8 := lenN_div (x := x / 2 ^ 16) (s := 8) (by omega)
        refine T.condT (by kernel_rfl) (decide_eq_true hq6) ?_
        refine T.seq ?_
        refine xR [hR 1 rfl rfl (r_bin (u1 := .int .u64 ((x / 2 ^ 16 : Nat) : Int)) (u2 := .int .u64 8) (v := .int .u64 (((x / 2 ^ 16) / 2 ^ 8 : Nat) : Int)) (b_shrN (n := 8) rfl (Nat.le_trans (by omega) (by decide : 64 ≤ _))) (lt_of rfl) ⟨rfl, trivial⟩)] (by kernel_rfl) (by kernel_rfl) ?_
        refine nT ?_
        refine xR [hR 1 rfl rfl (r_bin (u1 := .int .i64 16) (u2 := .int .i64 8) (v := .int .i64 24) (b_add (by rw [IntKind.wrap_i64]; omega)) (lt_of rfl) ⟨rfl, trivial⟩)] (by kernel_rfl) (by kernel_rfl) ?_
        refine nT ?_
        refine T.seq ?_
        refine xR [hR 2 rfl rfl (r_conv (u := .int .u64 (((x / 2 ^ 16) / 2 ^ 8 : Nat) : Int)) (v := .int .u8 (((UInt8.ofNat ((x / 2 ^ 16) / 2 ^ 8)).toNat : Nat) : Int)) (c_byte Try.underlying113 Try.underlying5) (lt_of rfl) trivial),
          hR 3 rfl rfl (r_indexStr (k := .u8) (l := len8Tab) (m := (UInt8.ofNat ((x / 2 ^ 16) / 2 ^ 8)).toNat) (b := (len8Tab.getD (UInt8.ofNat ((x / 2 ^ 16) / 2 ^ 8)).toNat 0)) (i := (((UInt8.ofNat ((x / 2 ^ 16) / 2 ^ 8)).toNat : Nat) : Int)) Try.underlying9 rfl (by rw [len8_len]; exact UInt8.toNat_lt _) rfl (lt_of rfl) ⟨rfl, trivial⟩),
          hR 4 rfl rfl (r_conv (u := .int .u8 (((len8Tab.getD (UInt8.ofNat ((x / 2 ^ 16) / 2 ^ 8)).toNat 0).toNat : Nat) : Int)) (v := .int .i64 (((len8Tab.getD (UInt8.ofNat ((x / 2 ^ 16) / 2 ^ 8)).toNat 0).toNat : Nat) : Int)) (c_int Try.underlying5 Try.underlying3 (by have h9 := UInt8.toNat_lt (len8Tab.getD (UInt8.ofNat ((x / 2 ^ 16) / 2 ^ 8)).toNat 0); rw [IntKind.wrap_i64]; omega)) (lt_of rfl) trivial),
          hR 5 rfl rfl (r_bin (u1 := .int .i64 24) (u2 := .int .i64 (((len8Tab.getD (UInt8.ofNat ((x / 2 ^ 16) / 2 ^ 8)).toNat 0).toNat : Nat) : Int)) (v := .int .i64 ((24 + (len8Tab.getD (UInt8.ofNat ((x / 2 ^ 16) / 2 ^ 8)).toNat 0).toNat : Nat) : Int)) (b_add (by have h9 := UInt8.toNat_lt (len8Tab.getD (UInt8.ofNat ((x / 2 ^ 16) / 2 ^ 8)).toNat 0); rw [IntKind.wrap_i64]; omega)) (lt_of rfl) trivial)] (by kernel_rfl) (by kernel_rfl) ?_
        refine nT ?_
        refine T.ret ?_
        exact tE (.inl rfl) [.t 2 (.one (.d (.val (.int .i64 ((24 + (len8Tab.getD (UInt8.ofNat ((x / 2 ^ 16) / 2 ^ 8)).toNat 0).toNat : Nat) : Int)))))] ⟨⟨rfl, by kernel_rfl⟩, trivial⟩ [] (by have e1 : (((lenN x : Nat) : Int) : Int) = ((24 + (len8Tab.getD (UInt8.ofNat ((x / 2 ^ 16) / 2 ^ 8)).toNat 0).toNat : Nat) : Int) := (by (rw [len8 (by omega)]; omega)); have hE := congrArg (fun (q1 : Int) => (dv (.int .i64 q1) : AV)) e1; exact hE) rfl rfl rfl rfl rfl trivial
      · refine T.condF (by kernel_rfl) (decide_eq_false hq6) ?_
        refine T.skip ?_
        refine nT ?_
        refine T.seq ?_
        refine xR [hR 2 rfl rfl (r_conv (u := .int .u64 ((x / 2 ^ 16 : Nat) : Int)) (v := .int .u8 (((UInt8.ofNat (x / 2 ^ 16)).toNat : Nat) : Int)) (c_byte Try.underlying113 Try.underlying5) (lt_of rfl) trivial),
          hR 3 rfl rfl (r_indexStr (k := .u8) (l := len8Tab) (m := (UInt8.ofNat (x / 2 ^ 16)).toNat) (b := (len8Tab.getD (UInt8.ofNat (x / 2 ^ 16)).toNat 0)) (i := (((UInt8.ofNat (x / 2 ^ 16)).toNat : Nat) : Int)) Try.underlying9 rfl (by rw [len8_len]; exact UInt8.toNat_lt _) rfl (lt_of rfl) ⟨rfl, trivial⟩),
          hR 4 rfl rfl (r_conv (u := .int .u8 (((len8Tab.getD (UInt8.ofNat (x / 2 ^ 16)).toNat 0).toNat : Nat) : Int)) (v := .int .i64 (((len8Tab.getD (UInt8.ofNat (x / 2 ^ 16)).toNat 0).toNat : Nat) : Int)) (c_int Try.underlying5 Try.underlying3 (by have h9 := UInt8.toNat_lt (len8Tab.getD (UInt8.ofNat (x / 2 ^ 16)).toNat 0); rw [IntKind.wrap_i64]; omega)) (lt_of rfl) trivial),
          hR 5 rfl rfl (r_bin (u1 := .int .i64 16) (u2 := .int .i64 (((len8Tab.getD (UInt8.ofNat (x / 2 ^ 16)).toNat 0).toNat : Nat) : Int)) (v := .int .i64 ((16 + (len8Tab.getD (UInt8.ofNat (x / 2 ^ 16)).toNat 0).toNat : Nat) : Int)) (b_add (by have h9 := UInt8.toNat_lt (len8Tab.getD (UInt8.ofNat (x / 2 ^ 16)).toNat 0); rw [IntKind.wrap_i64]; omega)) (lt_of rfl) trivial)] (by kernel_rfl) (by kernel_rfl) ?_
        refine nT ?_
        refine T.ret ?_
        exact tE (.inl rfl) [.t 2 (.one (.d (.val (.int .i64 ((16 + (len8Tab.getD (UInt8.ofNat (x / 2 ^ 16)).toNat 0).toNat : Nat) : Int)))))] ⟨⟨rfl, by kernel_rfl⟩, trivial⟩ [] (by have e1 : (((lenN x : Nat) : Int) : Int) = ((16 + (len8Tab.getD (UInt8.ofNat (x / 2 ^ 16)).toNat 0).toNat : Nat) : Int) := (by (rw [len8 (by omega)]; omega)); have hE := congrArg (fun (q1 : Int) => (dv (.int .i64 q1) : AV)) e1; exact hE) rfl rfl rfl rfl rfl trivial
    · refine T.condF (by kernel_rfl) (decide_eq_false hq5) ?_
      refine T.skip ?_
      refine nT ?_
      refine T.seq ?_
      refine T.seq ?_
      refine xR [] (by kernel_rfl) (by kernel_rfl) ?_
      refine nT ?_
      by_cases hq7 : ((x : Nat) : Int) ≥ 256
      · have hd8 := lenN_div (x := x) (s := 8) (by omega)
        refine T.condT (by kernel_rfl) (decide_eq_true hq7) ?_
        refine T.seq ?_
        refine xR [hR 1 rfl rfl (r_bin (u1 := .int .u64 ((x : Nat) : Int)) (u2 := .int .u64 8) (v := .int .u64 ((x / 2 ^ 8 : Nat) : Int)) (b_shrN (n := 8) rfl (Nat.le_trans (by omega) (by decide : 64 ≤ _))) (lt_of rfl) ⟨rfl, trivial⟩)] (by kernel_rfl) (by kernel_rfl) ?_
        refine nT ?_
        refine xR [hR 1 rfl rfl (r_bin (u1 := .int .i64 0) (u2 := .int .i64 8) (v := .int .i64 8) (b_add (by rw [IntKind.wrap_i64]; omega)) (lt_of rfl) ⟨rfl, trivial⟩)] (by kernel_rfl) (by kernel_rfl) ?_
        refine nT ?_
        refine T.seq ?_
        refine xR [hR 2 rfl rfl (r_conv (u := .int .u64 ((x / 2 ^ 8 : Nat) : Int)) (v := .int .u8 (((UInt8.ofNat (x / 2 ^ 8)).toNat : Nat) : Int)) (c_byte Try.underlying113 Try.underlying5) (lt_of rfl) trivial),
          hR 3 rfl rfl (r_indexStr (k := .u8) (l := len8Tab) (m := (UInt8.ofNat (x / 2 ^ 8)).toNat) (b := (len8Tab.getD (UInt8.ofNat (x / 2 ^ 8)).toNat 0)) (i := (((UInt8.ofNat (x / 2 ^ 8)).toNat : Nat) : Int)) Try.underlying9 rfl (by rw [len8_len]; exact UInt8.toNat_lt _) rfl (lt_of rfl) ⟨rfl, trivial⟩),
          hR 4 rfl rfl (r_conv (u := .int .u8 (((len8Tab.getD (UInt8.ofNat (x / 2 ^ 8)).toNat 0).toNat : Nat) : Int)) (v := .int .i64 (((len8Tab.getD (UInt8.ofNat (x / 2 ^ 8)).toNat 0).toNat : Nat) : Int)) (c_int Try.underlying5 Try.underlying3 (by have h9 := UInt8.toNat_lt (len8Tab.getD (UInt8.ofNat (x / 2 ^ 8)).toNat 0); rw [IntKind.wrap_i64]; omega)) (lt_of rfl) trivial),
          hR 5 rfl rfl (r_bin (u1 := .int .i64 8) (u2 := .int .i64 (((len8Tab.getD (UInt8.ofNat (x / 2 ^ 8)).toNat 0).toNat : Nat) : Int)) (v := .int .i64 ((8 + (len8Tab.getD (UInt8.ofNat (x / 2 ^ 8)).toNat 0).toNat : Nat) : Int)) (b_add (by have h9 := UInt8.toNat_lt (len8Tab.getD (UInt8.ofNat (x / 2 ^ 8)).toNat 0); rw [IntKind.wrap_i64]; omega)) (lt_of rfl) trivial)] (by kernel_rfl) (by kernel_rfl) ?_
        refine nT ?_
        refine T.ret ?_
        exact tE (.inl rfl) [.t 2 (.one (.d (.val (.int .i64 ((8 + (len8Tab.getD (UInt8.ofNat (x / 2 ^ 8)).toNat 0).toNat : Nat) : Int)))))] ⟨⟨rfl, by kernel_rfl⟩, trivial⟩ [] (by have e1 : (((lenN x : Nat) : Int) : Int) = ((8 + (len8Tab.getD (UInt8.ofNat (x / 2 ^ 8)).toNat 0).toNat : Nat) : Int) := (by (rw [len8 (by omega)]; omega)); have hE := congrArg (fun (q1 : Int) => (dv (.int .i64 q1) : AV)) e1; exact hE) rfl rfl rfl rfl rfl trivial
      · refine T.condF (by kernel_rfl) (decide_eq_false hq7) ?_
        refine T.skip ?_
        refine nT ?_
        refine T.seq ?_
        refine xR [hR 2 rfl rfl (r_conv (u := .int .u64 ((x : Nat) : Int)) (v := .int .u8 (((UInt8.ofNat x).toNat : Nat) : Int)) (c_byte Try.underlying113 Try.underlying5) (lt_of rfl) trivial),
          hR 3 rfl rfl (r_indexStr (k := .u8) (l := len8Tab) (m := (UInt8.ofNat x).toNat) (b := (len8Tab.getD (UInt8.ofNat x).toNat 0)) (i := (((UInt8.ofNat x).toNat : Nat) : Int)) Try.underlying9 rfl (by rw [len8_len]; exact UInt8.toNat_lt _) rfl (lt_of rfl) ⟨rfl, trivial⟩),
          hR 4 rfl rfl (r_conv (u := .int .u8 (((len8Tab.getD (UInt8.ofNat x).toNat 0).toNat : Nat) : Int)) (v := .int .i64 (((len8Tab.getD (UInt8.ofNat x).toNat 0).toNat : Nat) : Int)) (c_int Try.underlying5 Try.underlying3 (by have h9 := UInt8.toNat_lt (len8Tab.getD (UInt8.ofNat x).toNat 0); rw [IntKind.wrap_i64]; omega)) (lt_of rfl) trivial),
          hR 5 rfl rfl (r_bin (u1 := .int .i64 0) (u2 := .int .i64 (((len8Tab.getD (UInt8.ofNat x).toNat 0).toNat : Nat) : Int)) (v := .int .i64 ((0 + (len8Tab.getD (UInt8.ofNat x).toNat 0).toNat : Nat) : Int)) (b_add (by have h9 := UInt8.toNat_lt (len8Tab.getD (UInt8.ofNat x).toNat 0); rw [IntKind.wrap_i64]; omega)) (lt_of rfl) trivial)] (by kernel_rfl) (by kernel_rfl) ?_
        refine nT ?_
        refine T.ret ?_
        exact tE (.inl rfl) [.t 2 (.one (.d (.val (.int .i64 ((0 + (len8Tab.getD (UInt8.ofNat x).toNat 0).toNat : Nat) : Int)))))] ⟨⟨rfl, by kernel_rfl⟩, trivial⟩ [] (by have e1 : (((lenN x : Nat) : Int) : Int) = ((0 + (len8Tab.getD (UInt8.ofNat x).toNat 0).toNat : Nat) : Int) := (by (rw [len8 (by omega)]; omega)); have hE := congrArg (fun (q1 : Int) => (dv (.int .i64 q1) : AV)) e1; exact hE) rfl rfl rfl rfl rfl trivial
end Go.Proofs.Ytdclfhahcfefeaa.Q
namespace Go.Proofs.Ytdclfhahcfefeaa.Q
open Go Go.RowKit
set_option linter.unusedVariables false
set_option linter.unusedSimpArgs false
set_option maxRecDepth 100000
set_option maxHeartbeats 4000000
-- math/bits.Len
theorem bits_Len (x : Nat) (hx : x < 18446744073709551616) : Holds Try.prog 91 ⟨[dv (.int .u64 ((x : Nat) : Int))], [], dv (.int .i64 ((lenN x : Nat) : Int)), []⟩ := by
  refine Holds.of Try.func91 rfl (N := 8) Try.ntmps91 rfl fun w0 B0 S0 U0 => ?_
  show T _ (mkBase 8 0 w0 S0 U0 B0) ⟨[dv (.int .u64 ((x : Nat) : Int))], []⟩ _ _
  refine T.seq ?_
  refine xR [] (by kernel_rfl) (by kernel_rfl) ?_
  refine nT ?_
  refine T.seq ?_
  refine T.condF (b := false) (by kernel_rfl) rfl ?_
  refine T.skip ?_
  refine nT ?_
  refine T.seq ?_
  refine xR [hR 1 rfl rfl (r_call (bits_Len64 x (by assumption)) Try.func96 rfl (by decide) [] [] (l := [(.tmp 6, dv (.int .u64 ((x : Nat) : Int)))]) [] rfl 0 0 rfl rfl rfl rfl rfl rfl rfl rfl rfl ⟨.inl ⟨rfl, rfl⟩, trivial⟩ rfl (fun b hb => by cases hb) (.inl rfl) (lt_of rfl) trivial)] (by kernel_rfl) (by kernel_rfl) ?_
  refine nT ?_
  refine T.ret ?_
  exact tE (.inl rfl) [.t 2 (.one (.d (.val (.int .i64 ((lenN x : Nat) : Int)))))] ⟨⟨rfl, by kernel_rfl⟩, trivial⟩ [] rfl rfl rfl rfl rfl rfl trivial
end Go.Proofs.Ytdclfhahcfefeaa.Q
