import Derived.Test.YtalapplihdmenaaGreatC13n6
namespace Go.Proofs.YtalapplihdmenaaGreat.Q
open Go Go.RowKit
set_option linter.unusedVariables false
set_option linter.unusedSimpArgs false
set_option maxRecDepth 100000
set_option maxHeartbeats 4000000
section
variable (t : UInt8) (tl : Bool) (nl : Bool) (sl_ : Bool) (l : List (List UInt8)) (k : Nat) (k2 : Nat)
abbrev Z2e : AV := dv (.int .u8 ((t.toNat : Nat) : Int))
abbrev Z2f : AV := slV tl nl (kSl sl_ kU8) l
abbrev Z2g : AV := vI ((l.length : Nat) : Int)
abbrev Z2h : St := ⟨[(Z2e t), (Z2f tl nl sl_ l), aa, aa, dv (strV []), vI ((szP (l.take k) : Nat) : Int), aa, aa, aa, aa, aa, (Z2f tl nl sl_ l), (Z2g l), vI ((k : Nat) : Int)], []⟩
abbrev Z2j : AV := vI ((k + 1 : Nat) : Int)
abbrev Z2l : St := ⟨[(Z2e t), (Z2f tl nl sl_ l), aa, aa, aa, aa, aa, aa, ownV 0 kU8 0 (ofR t l.length (l.take k2)).length, aa, aa, (Z2f tl nl sl_ l), (Z2g l), aa, aa, aa, aa, aa, aa, aa, aa, aa, aa, aa, aa, aa, aa, aa, aa, aa, aa, aa, (Z2f tl nl sl_ l), (Z2g l), vI ((k2 : Nat) : Int)], [.live (arrK 5 kU8 (ofR t l.length (l.take k2)))]⟩
abbrev Z2m : AV := vI ((k2 + 1 : Nat) : Int)
end
theorem term_Of (t : UInt8) (tl : Bool) (nl : Bool) (sl_ : Bool) (l : List (List UInt8)) (hs : szP l ≤ 140737488354000) : Holds Tryz.prog 102 ⟨[dv (.int .u8 ((t.toNat : Nat) : Int)), slV tl nl (kSl sl_ kU8) l], [], dv (strV (ofB t l)), []⟩ := by
 refine Holds.of Tryz.func102 rfl (N := 44) Tryz.ntmps102 rfl fun w0 B0 S0 U0 => ?_
 show T _ (mkBase 44 0 w0 S0 U0 B0) ⟨[(Z2e t), (Z2f tl nl sl_ l)], []⟩ _ _
 have hcn := szP_count l
 have hcl := cnt_len ((l.length : Nat) : Int)
 have hall := ofB_len t l
 refine sR [] ?_
 refine sR [] ?_
 refine T.seq ?_
 refine sR [] ?_
 refine T.block ?_
 refine T.loop (ι := Nat) (fun (k : Nat) => (Z2h t tl nl sl_ l k)) (fun (k : Nat) => (k ≤ l.length)) (fun (k : Nat) => l.length - k) (0) (Nat.zero_le _) (fun _ _ hG => Gs.iI [] (bm 14 14387) (t2 := [(Z2e t), (Z2f tl nl sl_ l), aa, aa, dv (strV []), vI 5, aa, aa, aa, aa, aa, (Z2f tl nl sl_ l), (Z2g l), vI 0]) (congrArg (fun (q1 : Int) => ([(Z2e t), (Z2f tl nl sl_ l), aa, aa, dv (strV []), vI q1, aa, aa, aa, aa, aa, (Z2f tl nl sl_ l), (Z2g l), vI 0] : List AV)) (by rfl)) rfl hG) ?_
 rintro k hk
 show T _ _ (Z2h t tl nl sl_ l k) _ _
 replace hk : k ≤ l.length := hk
 have hsz0 := szP_take l k
 refine sR [] ?_
 refine T.seq ?_
 by_cases hq1 : ((k : Nat) : Int) < ((l.length : Nat) : Int)
 ·have hkl : k < l.length := (by omega); have hsk := szP_succ hkl; have hst := szP_take l (k + 1)
  refine cT (dT hq1) ?_
  refine T.skip (nT (T.seq ?_))
  refine T.block ?_
  refine sR [hR 0 rfl rfl (q_index tl nl (kSl sl_ kU8) l k (k := .i64) (i := ((k : Nat) : Int)) Tryz.underlying79 iat_33 rfl rfl ‹_› (lt_of rfl) trivial)] ?_
  refine xR [hR 3 rfl rfl (r_bin (u1 := .int .i64 4) (u2 := .int .i64 (((l.getD k []).length : Nat) : Int)) (v := .int .i64 ((4 + (l.getD k []).length : Nat) : Int)) (b_add (by rw [IntKind.wrap_i64]; omega)) (lt_of rfl) ⟨rfl, trivial⟩),
    hR 4 rfl rfl (r_bin (u1 := .int .i64 ((szP (l.take k) : Nat) : Int)) (u2 := .int .i64 ((4 + (l.getD k []).length : Nat) : Int)) (v := .int .i64 (((szP (l.take k)) + (4 + (l.getD k []).length) : Nat) : Int)) (b_add (by rw [IntKind.wrap_i64]; omega)) (lt_of rfl) trivial)] (by kernel_rfl) (by kernel_rfl) ?_
  refine nB ?_
  refine nT ?_
  refine xK [hR 0 rfl rfl (r_bin (u1 := .int .i64 ((k : Nat) : Int)) (u2 := .int .i64 1) (v := .int .i64 ((k + 1 : Nat) : Int)) (b_add (by rw [IntKind.wrap_i64]; omega)) (lt_of rfl) ⟨rfl, trivial⟩)] ?_
  refine nL (k + 1) (show (k + 1) ≤ l.length from (by omega)) (show (l.length - (k + 1) : Nat) < l.length - k from (by omega)) (fun _ _ hG => Gs.iI [] (bm 14 14387) (t2 := [(Z2e t), (Z2f tl nl sl_ l), aa, aa, dv (strV []), vI (((szP (l.take k)) + (4 + (l.getD k []).length) : Nat) : Int), aa, aa, aa, aa, aa, (Z2f tl nl sl_ l), (Z2g l), (Z2j k)]) (by have e1 : (((szP (l.take (k + 1)) : Nat) : Int) : Int) = (((szP (l.take k)) + (4 + (l.getD k []).length) : Nat) : Int) := (by (rw [szP_succ hkl])); have hE := congrArg (fun (q1 : Int) => ([(Z2e t), (Z2f tl nl sl_ l), aa, aa, dv (strV []), vI q1, aa, aa, aa, aa, aa, (Z2f tl nl sl_ l), (Z2g l), (Z2j k)] : List AV)) e1; exact hE) rfl hG)
 refine cF (dF hq1) ?_
 refine T.exit ?_
 refine xT ?_
 refine xT ?_
 refine xH ?_
 refine nT ?_
 refine sR [hR 1 rfl rfl (q_make 0 5 1 kU8 ([] : List UInt8) 0 (szP (l.take k)) (p := 0) (q := ((szP (l.take k) : Nat) : Int)) elem_33 zero_5 rfl rfl (by omega) (by omega) (by (unfold maxLen; omega)) (by intro j hj; replace hj : j < 1 := hj; rcases j with _ | j <;> first | rfl | omega) (by simp) (lt_of rfl) ⟨rfl, trivial⟩),
   hR 3 rfl rfl (q_buildSlice 1 5 kU8 kU8_ok [t] [⟨0, .tmp 25, .one (.d (.val (.int .u8 ((t.toNat : Nat) : Int)))), 0⟩] (cs := [.d (.val (.int .u8 ((t.toNat : Nat) : Int)))]) Tryz.underlying33 iat_5 rfl zero_5 rfl rfl rfl (Nat.le_of_ble_eq_true rfl) (part_cons rfl rfl (Nat.le_of_ble_eq_true rfl) part_ok) (by kernel_rfl) (wk_eq (by kernel_rfl)) (lt_of rfl) trivial),
   hR 4 rfl rfl (q_appendO 0 2 5 1 kU8 kU8_ok ([] : List UInt8) [t] [t] ([] : List UInt8).length (sy := (.own 1 kU8.sz 0 [t].length)) (rhs := [(1, .live (arrK 5 kU8 [t]))]) elem_33 (by omega) (src_own 1 5 kU8 [t]) (by simp) (by (simp [maxLen, -List.getD_eq_getElem?_getD] <;> omega)) (by (simp [maxLen, -List.getD_eq_getElem?_getD] <;> omega)) (lt_of rfl) trivial)] ?_
 refine sR [hR 3 rfl rfl (r_call (wire_PutCount true false [t] ((l.length : Nat) : Int) (by (simp [maxLen, -List.getD_eq_getElem?_getD] <;> omega))) Tryz.func122 rfl (by decide) [3] [2] (l := [(.tmp 28, ownV 2 kU8 0 [t].length), (.tmp 30, (Z2g l))]) [(2, .live (arrK 5 kU8 [t]))] rfl 0 1 rfl rfl rfl rfl rfl rfl rfl rfl rfl ⟨.inr (.inl ⟨rfl, (fun h => by cases h), rfl, rfl, by simp, 5, [t].length, elOf kU8 [t], List.Mem.head _, (by exact Nat.le_of_eq (Nat.zero_add _)), fun i j => by rw [Nat.zero_add]⟩), ⟨.inl ⟨rfl, rfl⟩, trivial⟩⟩ rfl (by intro b hb; simp only [List.mem_cons, List.not_mem_nil, or_false] at hb; rcases hb with rfl; exact ⟨_, List.Mem.head _⟩) (.inr ⟨trivial, (And.intro (arr_nt kU8_nt) trivial)⟩) (lt_of rfl) trivial)] ?_
 refine T.seq ?_
 refine sR [] ?_
 refine T.block ?_
 refine T.loop (ι := Nat) (fun (k2 : Nat) => (Z2l t tl nl sl_ l k2)) (fun (k2 : Nat) => (k2 ≤ l.length)) (fun (k2 : Nat) => l.length - k2) (0) (Nat.zero_le _) (fun _ _ hG => Gs.i2 [3] (bm 35 30064777475) (t1 := [(Z2e t), (Z2f tl nl sl_ l), aa, aa, aa, aa, aa, aa, ownV 3 kU8 0 (ofR t l.length (l.take 0)).length, aa, aa, (Z2f tl nl sl_ l), (Z2g l), aa, aa, aa, aa, aa, aa, aa, aa, aa, aa, aa, aa, aa, aa, aa, aa, aa, aa, aa, (Z2f tl nl sl_ l), (Z2g l), vI 0]) (t2 := [(Z2e t), (Z2f tl nl sl_ l), aa, aa, aa, aa, aa, aa, ownV 3 kU8 0 ([t] ++ cntB ((l.length : Nat) : Int)).length, aa, aa, (Z2f tl nl sl_ l), (Z2g l), aa, aa, aa, aa, aa, aa, aa, aa, aa, aa, aa, aa, aa, aa, aa, aa, aa, aa, aa, (Z2f tl nl sl_ l), (Z2g l), vI 0]) (h1 := [.live (arrK 5 kU8 (ofR t l.length (l.take 0)))]) (h2 := [.live (arrK 5 kU8 ([t] ++ cntB ((l.length : Nat) : Int)))]) (congrArg (fun (q1 : Nat) => ([(Z2e t), (Z2f tl nl sl_ l), aa, aa, aa, aa, aa, aa, ownV 3 kU8 0 q1, aa, aa, (Z2f tl nl sl_ l), (Z2g l), aa, aa, aa, aa, aa, aa, aa, aa, aa, aa, aa, aa, aa, aa, aa, aa, aa, aa, aa, (Z2f tl nl sl_ l), (Z2g l), vI 0] : List AV)) (by rfl)) (congrArg (fun (q1 : List UInt8) => ([.live (arrK 5 kU8 q1)] : List HS)) (by rfl)) hG) ?_
 rintro k2 hk2
 show T _ _ (Z2l t tl nl sl_ l k2) _ _
 replace hk2 : k2 ≤ l.length := hk2
 have hol := ofR_len t l.length (l.take k2)
 have hsz0 := szP_take l k2
 refine sR [] ?_
 refine T.seq ?_
 by_cases hq2 : ((k2 : Nat) : Int) < ((l.length : Nat) : Int)
 ·have hkl : k2 < l.length := (by omega); have hsk := szP_succ hkl; have hst := szP_take l (k2 + 1)
  refine cT (dT hq2) ?_
  refine T.skip (nT (T.seq ?_))
  refine T.block ?_
  refine sR [hR 0 rfl rfl (q_index tl nl (kSl sl_ kU8) l k2 (k := .i64) (i := ((k2 : Nat) : Int)) Tryz.underlying79 iat_33 rfl rfl ‹_› (lt_of rfl) trivial)] ?_
  refine xK [hR 2 rfl rfl (r_call (wire_PutBytes true false (ofR t l.length (l.take k2)) sl_ false (l.getD k2 []) (by omega)) Tryz.func120 rfl (by decide) [1] [0] (l := [(.tmp 38, ownV 0 kU8 0 (ofR t l.length (l.take k2)).length), (.tmp 39, slV sl_ false kU8 (l.getD k2 []))]) [(0, .live (arrK 5 kU8 (ofR t l.length (l.take k2))))] rfl 0 1 rfl rfl rfl rfl rfl rfl rfl rfl rfl ⟨.inr (.inl ⟨rfl, (fun h => by cases h), rfl, rfl, by simp, 5, (ofR t l.length (l.take k2)).length, elOf kU8 (ofR t l.length (l.take k2)), List.Mem.head _, (by exact Nat.le_of_eq (Nat.zero_add _)), fun i j => by rw [Nat.zero_add]⟩), ⟨.inl ⟨rfl, rfl⟩, trivial⟩⟩ rfl (by intro b hb; simp only [List.mem_cons, List.not_mem_nil, or_false] at hb; rcases hb with rfl; exact ⟨_, List.Mem.head _⟩) (.inr ⟨trivial, (And.intro (arr_nt kU8_nt) trivial)⟩) (lt_of rfl) trivial)] ?_
  refine nB ?_
  refine nT ?_
  refine xK [hR 0 rfl rfl (r_bin (u1 := .int .i64 ((k2 : Nat) : Int)) (u2 := .int .i64 1) (v := .int .i64 ((k2 + 1 : Nat) : Int)) (b_add (by rw [IntKind.wrap_i64]; omega)) (lt_of rfl) ⟨rfl, trivial⟩)] ?_
  refine nL (k2 + 1) (show (k2 + 1) ≤ l.length from (by omega)) (show (l.length - (k2 + 1) : Nat) < l.length - k2 from (by omega)) (fun _ _ hG => Gs.i2 [1] (bm 35 30064777475) (t1 := [(Z2e t), (Z2f tl nl sl_ l), aa, aa, aa, aa, aa, aa, ownV 1 kU8 0 (ofR t l.length (l.take (k2 + 1))).length, aa, aa, (Z2f tl nl sl_ l), (Z2g l), aa, aa, aa, aa, aa, aa, aa, aa, aa, aa, aa, aa, aa, aa, aa, aa, aa, aa, aa, (Z2f tl nl sl_ l), (Z2g l), (Z2m k2)]) (t2 := [(Z2e t), (Z2f tl nl sl_ l), aa, aa, aa, aa, aa, aa, ownV 1 kU8 0 ((ofR t l.length (l.take k2)) ++ bytesB (l.getD k2 [])).length, aa, aa, (Z2f tl nl sl_ l), (Z2g l), aa, aa, aa, aa, aa, aa, aa, aa, aa, aa, aa, aa, aa, aa, aa, aa, aa, aa, aa, (Z2f tl nl sl_ l), (Z2g l), (Z2m k2)]) (h1 := [.live (arrK 5 kU8 (ofR t l.length (l.take (k2 + 1))))]) (h2 := [.live (arrK 5 kU8 ((ofR t l.length (l.take k2)) ++ bytesB (l.getD k2 [])))]) (by have e1 : ((ofR t l.length (l.take (k2 + 1))).length : Nat) = ((ofR t l.length (l.take k2)) ++ bytesB (l.getD k2 [])).length := (by (rw [ofR_succ hkl])); have hE := congrArg (fun (q1 : Nat) => ([(Z2e t), (Z2f tl nl sl_ l), aa, aa, aa, aa, aa, aa, ownV 1 kU8 0 q1, aa, aa, (Z2f tl nl sl_ l), (Z2g l), aa, aa, aa, aa, aa, aa, aa, aa, aa, aa, aa, aa, aa, aa, aa, aa, aa, aa, aa, (Z2f tl nl sl_ l), (Z2g l), (Z2m k2)] : List AV)) e1; exact hE) (by have e1 : ((ofR t l.length (l.take (k2 + 1))) : List UInt8) = (ofR t l.length (l.take k2)) ++ bytesB (l.getD k2 []) := (by (rw [ofR_succ hkl])); have hE := congrArg (fun (q1 : List UInt8) => ([.live (arrK 5 kU8 q1)] : List HS)) e1; exact hE) hG)
 refine cF (dF hq2) ?_
 refine T.exit ?_
 refine xT ?_
 refine xT ?_
 refine xH ?_
 refine nT ?_
 refine sR [hR 1 rfl rfl (q_strOf () (ofR t l.length (l.take k2)) (ys := (.own 0 kU8.sz 0 (ofR t l.length (l.take k2)).length)) (rhs := [(0, .live (arrK 5 kU8 (ofR t l.length (l.take k2))))]) Tryz.underlying33 Tryz.underlying5 Tryz.underlying40 (src_own 0 5 kU8 (ofR t l.length (l.take k2))) (lt_of rfl) trivial)] ?_
 refine T.ret ?_
 exact eRt 4 (.one (dS (ofR t l.length (l.take k2)))) [] (by have e1 : ((ofB t l) : List UInt8) = (ofR t l.length (l.take k2)) := (by (have hke : k2 = l.length := (by omega); rw [hke, ofR_all])); have hE := congrArg (fun (q1 : List UInt8) => (dv (strV q1) : AV)) e1; exact hE) trivial
abbrev Z2n (t : UInt8) : AV := dv (.int .u8 ((t.toNat : Nat) : Int))
abbrev Z2o (t : UInt8) (l : List (List UInt8)) (k : Nat) := (ofR t l.length (l.take k))
abbrev Z2p (k : Nat) : AV := vI ((k + 1 : Nat) : Int)
theorem ref02_Of (t : UInt8) (tl : Bool) (nl : Bool) (sl_ : Bool) (l : List (List UInt8)) (hs : szP l ≤ 140737488354000) : Holds Tryz.prog 34 ⟨[dv (.int .u8 ((t.toNat : Nat) : Int)), slV tl nl (kSl sl_ kU8) l], [], dv (strV (ofB t l)), []⟩ := by
 refine Holds.of Tryz.func34 rfl (N := 26) Tryz.ntmps34 rfl fun w0 B0 S0 U0 => ?_
 show T _ (mkBase 26 0 w0 S0 U0 B0) ⟨[(Z2n t), slV tl nl (kSl sl_ kU8) l], []⟩ _ _
 have hcn := szP_count l
 have hcl := cnt_len ((l.length : Nat) : Int)
 have hall := ofB_len t l
 refine sR [] ?_
 refine sR [hR 1 rfl rfl (q_buildSlice 0 5 kU8 kU8_ok [t] [⟨0, .tmp 7, .one (.d (.val (.int .u8 ((t.toNat : Nat) : Int)))), 0⟩] (cs := [.d (.val (.int .u8 ((t.toNat : Nat) : Int)))]) Tryz.underlying33 iat_5 rfl zero_5 rfl rfl rfl (Nat.le_of_ble_eq_true rfl) (part_cons rfl rfl (Nat.le_of_ble_eq_true rfl) part_ok) (by kernel_rfl) (wk_eq (by kernel_rfl)) (lt_of rfl) trivial),
   hR 4 rfl rfl (r_call (ref01_Count true false [t] ((l.length : Nat) : Int) (by (simp [maxLen, -List.getD_eq_getElem?_getD] <;> omega))) Tryz.func48 rfl (by decide) [1] [0] (l := [(.tmp 8, ownV 0 kU8 0 [t].length), (.tmp 10, vI ((l.length : Nat) : Int))]) [(0, .live (arrK 5 kU8 [t]))] rfl 0 1 rfl rfl rfl rfl rfl rfl rfl rfl rfl ⟨.inr (.inl ⟨rfl, (fun h => by cases h), rfl, rfl, by simp, 5, [t].length, elOf kU8 [t], List.Mem.head _, (by exact Nat.le_of_eq (Nat.zero_add _)), fun i j => by rw [Nat.zero_add]⟩), ⟨.inl ⟨rfl, rfl⟩, trivial⟩⟩ rfl (by intro b hb; simp only [List.mem_cons, List.not_mem_nil, or_false] at hb; rcases hb with rfl; exact ⟨_, List.Mem.head _⟩) (.inr ⟨trivial, (And.intro (arr_nt kU8_nt) trivial)⟩) (lt_of rfl) trivial)] ?_
 refine T.seq ?_
 refine sR [] ?_
 refine T.block ?_
 refine T.loop (ι := Nat) (fun (k : Nat) => ⟨[(Z2n t), slV tl nl (kSl sl_ kU8) l, aa, aa, aa, ownV 0 kU8 0 (Z2o t l k).length, vI ((k : Nat) : Int)], [.live (arrK 5 kU8 (Z2o t l k))]⟩) (fun (k : Nat) => (k ≤ l.length)) (fun (k : Nat) => l.length - k) (0) (Nat.zero_le _) (fun _ _ hG => Gs.i2 [1] (bm 7 99) (t1 := [(Z2n t), slV tl nl (kSl sl_ kU8) l, aa, aa, aa, ownV 1 kU8 0 (ofR t l.length (l.take 0)).length, vI 0]) (t2 := [(Z2n t), slV tl nl (kSl sl_ kU8) l, aa, aa, aa, ownV 1 kU8 0 ([t] ++ cntB ((l.length : Nat) : Int)).length, vI 0]) (h1 := [.live (arrK 5 kU8 (ofR t l.length (l.take 0)))]) (h2 := [.live (arrK 5 kU8 ([t] ++ cntB ((l.length : Nat) : Int)))]) (congrArg (fun (q1 : Nat) => ([(Z2n t), slV tl nl (kSl sl_ kU8) l, aa, aa, aa, ownV 1 kU8 0 q1, vI 0] : List AV)) (by rfl)) (congrArg (fun (q1 : List UInt8) => ([.live (arrK 5 kU8 q1)] : List HS)) (by rfl)) hG) ?_
 rintro k hk
 show T _ _ ⟨[(Z2n t), slV tl nl (kSl sl_ kU8) l, aa, aa, aa, ownV 0 kU8 0 (Z2o t l k).length, vI ((k : Nat) : Int)], [.live (arrK 5 kU8 (Z2o t l k))]⟩ _ _
 replace hk : k ≤ l.length := hk
 have hol := ofR_len t l.length (l.take k)
 have hsz0 := szP_take l k
 refine T.seq ?_
 refine sR [] ?_
 by_cases hq1 : ((k : Nat) : Int) < ((l.length : Nat) : Int)
 ·have hkl : k < l.length := (by omega); have hsk := szP_succ hkl; have hst := szP_take l (k + 1)
  refine cT (dT hq1) ?_
  refine T.skip (nT (T.seq ?_))
  refine T.block ?_
  refine xR [hR 3 rfl rfl (q_index tl nl (kSl sl_ kU8) l k (k := .i64) (i := ((k : Nat) : Int)) Tryz.underlying79 iat_33 rfl rfl ‹_› (lt_of rfl) trivial),
    hR 5 rfl rfl (r_call (ref01_Bytes true false (ofR t l.length (l.take k)) sl_ false (l.getD k []) (by omega)) Tryz.func46 rfl (by decide) [1] [0] (l := [(.tmp 18, ownV 0 kU8 0 (Z2o t l k).length), (.tmp 22, slV sl_ false kU8 (l.getD k []))]) [(0, .live (arrK 5 kU8 (Z2o t l k)))] rfl 0 1 rfl rfl rfl rfl rfl rfl rfl rfl rfl ⟨.inr (.inl ⟨rfl, (fun h => by cases h), rfl, rfl, by simp, 5, (ofR t l.length (l.take k)).length, elOf kU8 (ofR t l.length (l.take k)), List.Mem.head _, (by exact Nat.le_of_eq (Nat.zero_add _)), fun i j => by rw [Nat.zero_add]⟩), ⟨.inl ⟨rfl, rfl⟩, trivial⟩⟩ rfl (by intro b hb; simp only [List.mem_cons, List.not_mem_nil, or_false] at hb; rcases hb with rfl; exact ⟨_, List.Mem.head _⟩) (.inr ⟨trivial, (And.intro (arr_nt kU8_nt) trivial)⟩) (lt_of rfl) trivial)] (by kernel_rfl) (by kernel_rfl) ?_
  refine nB ?_
  refine nT ?_
  refine xK [hR 1 rfl rfl (r_bin (u1 := .int .i64 ((k : Nat) : Int)) (u2 := .int .i64 1) (v := .int .i64 ((k + 1 : Nat) : Int)) (b_add (by rw [IntKind.wrap_i64]; omega)) (lt_of rfl) ⟨rfl, trivial⟩)] ?_
  refine nL (k + 1) (show (k + 1) ≤ l.length from (by omega)) (show (l.length - (k + 1) : Nat) < l.length - k from (by omega)) (fun _ _ hG => Gs.i2 [1] (bm 7 99) (t1 := [(Z2n t), slV tl nl (kSl sl_ kU8) l, aa, aa, aa, ownV 1 kU8 0 (ofR t l.length (l.take (k + 1))).length, (Z2p k)]) (t2 := [(Z2n t), slV tl nl (kSl sl_ kU8) l, aa, aa, aa, ownV 1 kU8 0 ((Z2o t l k) ++ bytesB (l.getD k [])).length, (Z2p k)]) (h1 := [.live (arrK 5 kU8 (ofR t l.length (l.take (k + 1))))]) (h2 := [.live (arrK 5 kU8 ((Z2o t l k) ++ bytesB (l.getD k [])))]) (by have e1 : ((ofR t l.length (l.take (k + 1))).length : Nat) = ((ofR t l.length (l.take k)) ++ bytesB (l.getD k [])).length := (by (rw [ofR_succ hkl])); have hE := congrArg (fun (q1 : Nat) => ([(Z2n t), slV tl nl (kSl sl_ kU8) l, aa, aa, aa, ownV 1 kU8 0 q1, (Z2p k)] : List AV)) e1; exact hE) (by have e1 : ((ofR t l.length (l.take (k + 1))) : List UInt8) = (ofR t l.length (l.take k)) ++ bytesB (l.getD k []) := (by (rw [ofR_succ hkl])); have hE := congrArg (fun (q1 : List UInt8) => ([.live (arrK 5 kU8 q1)] : List HS)) e1; exact hE) hG)
 refine cF (dF hq1) ?_
 refine T.exit ?_
 refine xT ?_
 refine xT ?_
 refine xH ?_
 refine nT ?_
 refine sR [hR 1 rfl rfl (q_strOf () (ofR t l.length (l.take k)) (ys := (.own 0 kU8.sz 0 (Z2o t l k).length)) (rhs := [(0, .live (arrK 5 kU8 (Z2o t l k)))]) Tryz.underlying33 Tryz.underlying5 Tryz.underlying40 (src_own 0 5 kU8 (ofR t l.length (l.take k))) (lt_of rfl) trivial)] ?_
 refine T.ret ?_
 exact eRt 4 (.one (dS (Z2o t l k))) [] (by have e1 : ((ofB t l) : List UInt8) = (ofR t l.length (l.take k)) := (by (have hke : k = l.length := (by omega); rw [hke, ofR_all])); have hE := congrArg (fun (q1 : List UInt8) => (dv (strV q1) : AV)) e1; exact hE) trivial
theorem iat_144 : Tryz.prog.info? 144 = some Tryz.t144 := by kernel_rfl
theorem wide_144 : Wide Tryz.prog 144 (some 4) := ⟨_, _, Tryz.underlying144, .inl ⟨_, rfl⟩, iat_144, rfl⟩
abbrev Z2q : TV := .one (dB true)
abbrev Z2r : TV := .agg [dI 11, dI 0, dI 1, dI 7]
theorem msg_shapeOf (k : Int) : Holds Tryz.prog 93 ⟨[vI k], [], .tup [.agg [dI (shapeM k).f_has, dI (shapeM k).f_minView, dI (shapeM k).f_minSeq, dI (shapeM k).f_batch], .one (dB (decide (okK k)))], []⟩ := by
 refine Holds.of Tryz.func93 rfl (N := 54) Tryz.ntmps93 rfl fun w0 B0 S0 U0 => ?_
 show T _ (mkBase 54 0 w0 S0 U0 B0) ⟨[vI k], []⟩ _ _
 refine sR [] ?_
 refine sR [] ?_
 refine T.seq ?_
 refine sR [] ?_
 refine T.block ?_
 refine T.seq ?_
 refine T.block ?_
 refine T.seq ?_
 refine T.block ?_
 refine T.seq ?_
 refine T.block ?_
 refine T.seq ?_
 refine T.block ?_
 refine T.seq ?_
 refine T.block ?_
 refine T.seq ?_
 refine T.block ?_
 refine T.seq ?_
 refine T.block ?_
 refine T.seq ?_
 refine T.block ?_
 refine T.seq ?_
 refine T.block ?_
 refine T.seq ?_
 refine T.block ?_
 refine T.seq ?_
 refine T.block ?_
 refine T.seq (T.seq ?_)
 refine sR [] ?_
 by_cases hq1 : k = 1
 ·refine cT (dT hq1) ?_
  refine T.exit ?_
  refine xT ?_
  refine xT ?_
  refine xH ?_
  refine nT ?_
  refine sR [] ?_
  refine T.exit ?_
  refine xM rfl ?_
  refine xT ?_
  refine xM rfl ?_
  refine xT ?_
  refine xM rfl ?_
  refine xT ?_
  refine xM rfl ?_
  refine xT ?_
  refine xM rfl ?_
  refine xT ?_
  refine xM rfl ?_
  refine xT ?_
  refine xM rfl ?_
  refine xT ?_
  refine xM rfl ?_
  refine xT ?_
  refine xM rfl ?_
  refine xT ?_
  refine xM rfl ?_
  refine xT ?_
  refine xH ?_
  refine nT ?_
  refine sR [] ?_
  refine T.ret ?_
  exact eX [.c 2 0 144 0 144 [dI 20, dI 0, dI 1, dI 7] (.agg [dI 20, dI 0, dI 1, dI 7]), .t 3 (Z2q)] ⟨⟨rfl, rfl, by kernel_rfl, by kernel_rfl, .inl ⟨4, wide_144, rfl, Nat.le_of_ble_eq_true rfl⟩⟩, ⟨⟨rfl, by kernel_rfl⟩, trivial⟩⟩ [] (gc2 (show (shapeM k) = ⟨20, 0, 1, 7⟩ from (by (simp [shapeM, okK, *]; done))) (show ((decide (okK k)) : Bool) = true from (by (simp [shapeM, okK, *]; done))) (fun qq0 (q5 : Bool) => (.tup [.agg [dI (qq0.f_has), dI (qq0.f_minView), dI (qq0.f_minSeq), dI (qq0.f_batch)], .one (dB q5)] : AV))) trivial
 refine cF (dF hq1) ?_
 refine T.skip (nT (T.seq ?_))
 refine sR [] ?_
 by_cases hq2 : k = 2
 ·refine cT (dT hq2) ?_
  refine T.exit ?_
  refine xT ?_
  refine xT ?_
  refine xM rfl ?_
  refine xT ?_
  refine xH ?_
  refine nT ?_
  refine sR [hR 2 rfl rfl (r_bin (u1 := .int .i64 0) (u2 := .int .i64 64) (v := .int .i64 64) (b_orI (by decide +kernel)) (lt_of rfl) ⟨rfl, trivial⟩)] ?_
  refine xK [] ?_
  refine nB ?_
  refine nT ?_
  refine xK [hR 2 rfl rfl (r_bin (u1 := .int .i64 64) (u2 := .int .i64 1) (v := .int .i64 65) (b_orI (by decide +kernel)) (lt_of rfl) ⟨rfl, trivial⟩)] ?_
  refine nB ?_
  refine nT ?_
  refine sR [hR 2 rfl rfl (r_bin (u1 := .int .i64 65) (u2 := .int .i64 10) (v := .int .i64 75) (b_orI (by decide +kernel)) (lt_of rfl) ⟨rfl, trivial⟩)] ?_
  refine T.exit ?_
  refine xM rfl ?_
  refine xT ?_
  refine xM rfl ?_
  refine xT ?_
  refine xM rfl ?_
  refine xT ?_
  refine xM rfl ?_
  refine xT ?_
  refine xM rfl ?_
  refine xT ?_
  refine xM rfl ?_
  refine xT ?_
  refine xM rfl ?_
  refine xT ?_
  refine xH ?_
  refine nT ?_
  refine sR [] ?_
  refine T.ret ?_
  exact eX [.c 2 0 144 0 144 [dI 75, dI 0, dI 1, dI 4] (.agg [dI 75, dI 0, dI 1, dI 4]), .t 3 (Z2q)] ⟨⟨rfl, rfl, by kernel_rfl, by kernel_rfl, .inl ⟨4, wide_144, rfl, Nat.le_of_ble_eq_true rfl⟩⟩, ⟨⟨rfl, by kernel_rfl⟩, trivial⟩⟩ [] (gc2 (show (shapeM k) = ⟨75, 0, 1, 4⟩ from (by (simp [shapeM, okK, *]; done))) (show ((decide (okK k)) : Bool) = true from (by (simp [shapeM, okK, *]; done))) (fun qq0 (q5 : Bool) => (.tup [.agg [dI (qq0.f_has), dI (qq0.f_minView), dI (qq0.f_minSeq), dI (qq0.f_batch)], .one (dB q5)] : AV))) trivial
 refine cF (dF hq2) ?_
 refine T.skip (nT (T.seq (T.seq ?_)))
 refine sR [] ?_
 by_cases hq3 : k = 3
 ·refine cT (dT hq3) ?_
  refine T.skip (nT ?_)
  refine cT (dT hq3) ?_
  refine T.exit ?_
  refine xT ?_
  refine xT ?_
  refine xM rfl ?_
  refine xT ?_
  refine xM rfl ?_
  refine xT ?_
  refine xH ?_
  refine nT ?_
  refine xK [hR 2 rfl rfl (r_bin (u1 := .int .i64 0) (u2 := .int .i64 1) (v := .int .i64 1) (b_orI (by decide +kernel)) (lt_of rfl) ⟨rfl, trivial⟩)] ?_
  refine nB ?_
  refine nT ?_
  refine sR [hR 2 rfl rfl (r_bin (u1 := .int .i64 1) (u2 := .int .i64 10) (v := .int .i64 11) (b_orI (by decide +kernel)) (lt_of rfl) ⟨rfl, trivial⟩)] ?_
  refine T.exit ?_
  refine xM rfl ?_
  refine xT ?_
  refine xM rfl ?_
  refine xT ?_
  refine xM rfl ?_
  refine xT ?_
  refine xM rfl ?_
  refine xT ?_
  refine xM rfl ?_
  refine xT ?_
  refine xM rfl ?_
  refine xT ?_
  refine xM rfl ?_
  refine xT ?_
  refine xH ?_
  refine nT ?_
  refine sR [] ?_
  refine T.ret ?_
  exact eX [.c 2 0 144 0 144 [dI 11, dI 0, dI 1, dI 7] (Z2r), .t 3 (Z2q)] ⟨⟨rfl, rfl, by kernel_rfl, by kernel_rfl, .inl ⟨4, wide_144, rfl, Nat.le_of_ble_eq_true rfl⟩⟩, ⟨⟨rfl, by kernel_rfl⟩, trivial⟩⟩ [] (gc2 (show (shapeM k) = ⟨11, 0, 1, 7⟩ from (by (simp [shapeM, okK, *]; done))) (show ((decide (okK k)) : Bool) = true from (by (simp [shapeM, okK, *]; done))) (fun qq0 (q5 : Bool) => (.tup [.agg [dI (qq0.f_has), dI (qq0.f_minView), dI (qq0.f_minSeq), dI (qq0.f_batch)], .one (dB q5)] : AV))) trivial
 refine cF (dF hq3) ?_
 refine xK [] ?_
 refine nT ?_
 by_cases hq4 : k = 4
 ·refine cT (dT hq4) ?_
  refine T.exit ?_
  refine xT ?_
  refine xT ?_
  refine xM rfl ?_
  refine xT ?_
  refine xM rfl ?_
  refine xT ?_
  refine xH ?_
  refine nT ?_
  refine xK [hR 2 rfl rfl (r_bin (u1 := .int .i64 0) (u2 := .int .i64 1) (v := .int .i64 1) (b_orI (by decide +kernel)) (lt_of rfl) ⟨rfl, trivial⟩)] ?_
  refine nB ?_
  refine nT ?_
  refine sR [hR 2 rfl rfl (r_bin (u1 := .int .i64 1) (u2 := .int .i64 10) (v := .int .i64 11) (b_orI (by decide +kernel)) (lt_of rfl) ⟨rfl, trivial⟩)] ?_
  refine T.exit ?_
  refine xM rfl ?_
  refine xT ?_
  refine xM rfl ?_
  refine xT ?_
  refine xM rfl ?_
  refine xT ?_
  refine xM rfl ?_
  refine xT ?_
  refine xM rfl ?_
  refine xT ?_
  refine xM rfl ?_
  refine xT ?_
  refine xM rfl ?_
  refine xT ?_
  refine xH ?_
  refine nT ?_
  refine sR [] ?_
  refine T.ret ?_
  exact eX [.c 2 0 144 0 144 [dI 11, dI 0, dI 1, dI 7] (Z2r), .t 3 (Z2q)] ⟨⟨rfl, rfl, by kernel_rfl, by kernel_rfl, .inl ⟨4, wide_144, rfl, Nat.le_of_ble_eq_true rfl⟩⟩, ⟨⟨rfl, by kernel_rfl⟩, trivial⟩⟩ [] (gc2 (show (shapeM k) = ⟨11, 0, 1, 7⟩ from (by (simp [shapeM, okK, *]; done))) (show ((decide (okK k)) : Bool) = true from (by (simp [shapeM, okK, *]; done))) (fun qq0 (q5 : Bool) => (.tup [.agg [dI (qq0.f_has), dI (qq0.f_minView), dI (qq0.f_minSeq), dI (qq0.f_batch)], .one (dB q5)] : AV))) trivial
 refine cF (dF hq4) ?_
 refine T.skip (nT (T.seq ?_))
 refine sR [] ?_
 by_cases hq5 : k = 5
 ·refine cT (dT hq5) ?_
  refine T.exit ?_
  refine xT ?_
  refine xT ?_
  refine xM rfl ?_
  refine xT ?_
  refine xM rfl ?_
  refine xT ?_
  refine xM rfl ?_
  refine xT ?_
  refine xH ?_
  refine nT ?_
  refine sR [hR 2 rfl rfl (r_bin (u1 := .int .i64 0) (u2 := .int .i64 10) (v := .int .i64 10) (b_orI (by decide +kernel)) (lt_of rfl) ⟨rfl, trivial⟩)] ?_
  refine T.exit ?_
  refine xM rfl ?_
  refine xT ?_
  refine xM rfl ?_
  refine xT ?_
  refine xM rfl ?_
  refine xT ?_
  refine xM rfl ?_
  refine xT ?_
  refine xM rfl ?_
  refine xT ?_
  refine xM rfl ?_
  refine xT ?_
  refine xM rfl ?_
  refine xT ?_
  refine xH ?_
  refine nT ?_
  refine sR [] ?_
  refine T.ret ?_
  exact eX [.c 2 0 144 0 144 [dI 10, dI 0, dI 1, dI 7] (.agg [dI 10, dI 0, dI 1, dI 7]), .t 3 (Z2q)] ⟨⟨rfl, rfl, by kernel_rfl, by kernel_rfl, .inl ⟨4, wide_144, rfl, Nat.le_of_ble_eq_true rfl⟩⟩, ⟨⟨rfl, by kernel_rfl⟩, trivial⟩⟩ [] (gc2 (show (shapeM k) = ⟨10, 0, 1, 7⟩ from (by (simp [shapeM, okK, *]; done))) (show ((decide (okK k)) : Bool) = true from (by (simp [shapeM, okK, *]; done))) (fun qq0 (q5 : Bool) => (.tup [.agg [dI (qq0.f_has), dI (qq0.f_minView), dI (qq0.f_minSeq), dI (qq0.f_batch)], .one (dB q5)] : AV))) trivial
 refine cF (dF hq5) ?_
 refine T.skip (nT (T.seq ?_))
 refine sR [] ?_
 by_cases hq6 : k = 6
 ·refine cT (dT hq6) ?_
  refine T.exit ?_
  refine xT ?_
  refine xT ?_
  refine xM rfl ?_
  refine xT ?_
  refine xM rfl ?_
  refine xT ?_
  refine xM rfl ?_
  refine xT ?_
  refine xM rfl ?_
  refine xT ?_
  refine xH ?_
  refine nT ?_
  refine sR [] ?_
  refine T.exit ?_
  refine xM rfl ?_
  refine xT ?_
  refine xM rfl ?_
  refine xT ?_
  refine xM rfl ?_
  refine xT ?_
  refine xM rfl ?_
  refine xT ?_
  refine xM rfl ?_
  refine xT ?_
  refine xM rfl ?_
  refine xT ?_
  refine xH ?_
  refine nT ?_
  refine sR [] ?_
  refine T.ret ?_
  exact eX [.c 2 0 144 0 144 [dI 323, dI 1, dI 0, dI 7] (.agg [dI 323, dI 1, dI 0, dI 7]), .t 3 (Z2q)] ⟨⟨rfl, rfl, by kernel_rfl, by kernel_rfl, .inl ⟨4, wide_144, rfl, Nat.le_of_ble_eq_true rfl⟩⟩, ⟨⟨rfl, by kernel_rfl⟩, trivial⟩⟩ [] (gc2 (show (shapeM k) = ⟨323, 1, 0, 7⟩ from (by (simp [shapeM, okK, *]; done))) (show ((decide (okK k)) : Bool) = true from (by (simp [shapeM, okK, *]; done))) (fun qq0 (q5 : Bool) => (.tup [.agg [dI (qq0.f_has), dI (qq0.f_minView), dI (qq0.f_minSeq), dI (qq0.f_batch)], .one (dB q5)] : AV))) trivial
 refine cF (dF hq6) ?_
 refine T.skip (nT (T.seq ?_))
 refine sR [] ?_
 by_cases hq7 : k = 7
 ·refine cT (dT hq7) ?_
  refine T.exit ?_
  refine xT ?_
  refine xT ?_
  refine xM rfl ?_
  refine xT ?_
  refine xM rfl ?_
  refine xT ?_
  refine xM rfl ?_
  refine xT ?_
  refine xM rfl ?_
  refine xT ?_
  refine xM rfl ?_
  refine xT ?_
  refine xH ?_
  refine nT ?_
  refine sR [] ?_
  refine T.exit ?_
  refine xM rfl ?_
  refine xT ?_
  refine xM rfl ?_
  refine xT ?_
  refine xM rfl ?_
  refine xT ?_
  refine xM rfl ?_
  refine xT ?_
  refine xM rfl ?_
  refine xT ?_
  refine xH ?_
  refine nT ?_
  refine sR [] ?_
  refine T.ret ?_
  exact eX [.c 2 0 144 0 144 [dI 193, dI 1, dI 1, dI 7] (.agg [dI 193, dI 1, dI 1, dI 7]), .t 3 (Z2q)] ⟨⟨rfl, rfl, by kernel_rfl, by kernel_rfl, .inl ⟨4, wide_144, rfl, Nat.le_of_ble_eq_true rfl⟩⟩, ⟨⟨rfl, by kernel_rfl⟩, trivial⟩⟩ [] (gc2 (show (shapeM k) = ⟨193, 1, 1, 7⟩ from (by (simp [shapeM, okK, *]; done))) (show ((decide (okK k)) : Bool) = true from (by (simp [shapeM, okK, *]; done))) (fun qq0 (q5 : Bool) => (.tup [.agg [dI (qq0.f_has), dI (qq0.f_minView), dI (qq0.f_minSeq), dI (qq0.f_batch)], .one (dB q5)] : AV))) trivial
 refine cF (dF hq7) ?_
 refine T.skip (nT (T.seq ?_))
 refine sR [] ?_
 by_cases hq8 : k = 8
 ·refine cT (dT hq8) ?_
  refine T.exit ?_
  refine xT ?_
  refine xT ?_
  refine xM rfl ?_
  refine xT ?_
  refine xM rfl ?_
  refine xT ?_
  refine xM rfl ?_
  refine xT ?_
  refine xM rfl ?_
  refine xT ?_
  refine xM rfl ?_
  refine xT ?_
  refine xM rfl ?_
  refine xT ?_
  refine xH ?_
  refine nT ?_
  refine sR [] ?_
  refine T.exit ?_
  refine xM rfl ?_
  refine xT ?_
  refine xM rfl ?_
  refine xT ?_
  refine xM rfl ?_
  refine xT ?_
  refine xM rfl ?_
  refine xT ?_
  refine xH ?_
  refine nT ?_
  refine sR [] ?_
  refine T.ret ?_
  exact eX [.c 2 0 144 0 144 [dI 37, dI 0, dI 1, dI 7] (.agg [dI 37, dI 0, dI 1, dI 7]), .t 3 (Z2q)] ⟨⟨rfl, rfl, by kernel_rfl, by kernel_rfl, .inl ⟨4, wide_144, rfl, Nat.le_of_ble_eq_true rfl⟩⟩, ⟨⟨rfl, by kernel_rfl⟩, trivial⟩⟩ [] (gc2 (show (shapeM k) = ⟨37, 0, 1, 7⟩ from (by (simp [shapeM, okK, *]; done))) (show ((decide (okK k)) : Bool) = true from (by (simp [shapeM, okK, *]; done))) (fun qq0 (q5 : Bool) => (.tup [.agg [dI (qq0.f_has), dI (qq0.f_minView), dI (qq0.f_minSeq), dI (qq0.f_batch)], .one (dB q5)] : AV))) trivial
 refine cF (dF hq8) ?_
 refine T.skip (nT (T.seq ?_))
 refine sR [] ?_
 by_cases hq9 : k = 9
 ·refine cT (dT hq9) ?_
  refine T.exit ?_
  refine xT ?_
  refine xT ?_
  refine xM rfl ?_
  refine xT ?_
  refine xM rfl ?_
  refine xT ?_
  refine xM rfl ?_
  refine xT ?_
  refine xM rfl ?_
  refine xT ?_
  refine xM rfl ?_
  refine xT ?_
  refine xM rfl ?_
  refine xT ?_
  refine xM rfl ?_
  refine xT ?_
  refine xH ?_
  refine nT ?_
  refine sR [] ?_
  refine T.exit ?_
  refine xM rfl ?_
  refine xT ?_
  refine xM rfl ?_
  refine xT ?_
  refine xM rfl ?_
  refine xT ?_
  refine xH ?_
  refine nT ?_
  refine sR [] ?_
  refine T.ret ?_
  exact eX [.c 2 0 144 0 144 [dI 2, dI 0, dI 0, dI 7] (.agg [dI 2, dI 0, dI 0, dI 7]), .t 3 (Z2q)] ⟨⟨rfl, rfl, by kernel_rfl, by kernel_rfl, .inl ⟨4, wide_144, rfl, Nat.le_of_ble_eq_true rfl⟩⟩, ⟨⟨rfl, by kernel_rfl⟩, trivial⟩⟩ [] (gc2 (show (shapeM k) = ⟨2, 0, 0, 7⟩ from (by (simp [shapeM, okK, *]; done))) (show ((decide (okK k)) : Bool) = true from (by (simp [shapeM, okK, *]; done))) (fun qq0 (q5 : Bool) => (.tup [.agg [dI (qq0.f_has), dI (qq0.f_minView), dI (qq0.f_minSeq), dI (qq0.f_batch)], .one (dB q5)] : AV))) trivial
 refine cF (dF hq9) ?_
 refine T.skip (nT (T.seq ?_))
 refine sR [] ?_
 by_cases hq10 : k = 10
 ·refine cT (dT hq10) ?_
  refine T.exit ?_
  refine xT ?_
  refine xT ?_
  refine xM rfl ?_
  refine xT ?_
  refine xM rfl ?_
  refine xT ?_
  refine xM rfl ?_
  refine xT ?_
  refine xM rfl ?_
  refine xT ?_
  refine xM rfl ?_
  refine xT ?_
  refine xM rfl ?_
  refine xT ?_
  refine xM rfl ?_
  refine xT ?_
  refine xM rfl ?_
  refine xT ?_
  refine xH ?_
  refine nT ?_
  refine sR [] ?_
  refine T.exit ?_
  refine xM rfl ?_
  refine xT ?_
  refine xM rfl ?_
  refine xT ?_
  refine xH ?_
  refine nT ?_
  refine sR [] ?_
  refine T.ret ?_
  exact eX [.c 2 0 144 0 144 [dI 256, dI 0, dI 1, dI 7] (.agg [dI 256, dI 0, dI 1, dI 7]), .t 3 (Z2q)] ⟨⟨rfl, rfl, by kernel_rfl, by kernel_rfl, .inl ⟨4, wide_144, rfl, Nat.le_of_ble_eq_true rfl⟩⟩, ⟨⟨rfl, by kernel_rfl⟩, trivial⟩⟩ [] (gc2 (show (shapeM k) = ⟨256, 0, 1, 7⟩ from (by (simp [shapeM, okK, *]; done))) (show ((decide (okK k)) : Bool) = true from (by (simp [shapeM, okK, *]; done))) (fun qq0 (q5 : Bool) => (.tup [.agg [dI (qq0.f_has), dI (qq0.f_minView), dI (qq0.f_minSeq), dI (qq0.f_batch)], .one (dB q5)] : AV))) trivial
 refine cF (dF hq10) ?_
 refine T.skip (nT ?_)
 refine sR [] ?_
 by_cases hq11 : k = 11
 ·refine cT (dT hq11) ?_
  refine T.exit ?_
  refine xT ?_
  refine xM rfl ?_
  refine xT ?_
  refine xM rfl ?_
  refine xT ?_
  refine xM rfl ?_
  refine xT ?_
  refine xM rfl ?_
  refine xT ?_
  refine xM rfl ?_
  refine xT ?_
  refine xM rfl ?_
  refine xT ?_
  refine xM rfl ?_
  refine xT ?_
  refine xM rfl ?_
  refine xT ?_
  refine xM rfl ?_
  refine xT ?_
  refine xH ?_
  refine nT ?_
  refine sR [] ?_
  refine T.exit ?_
  refine xM rfl ?_
  refine xT ?_
  refine xH ?_
  refine nT ?_
  refine sR [] ?_
  refine T.ret ?_
  exact eX [.c 2 0 144 0 144 [dI 82, dI 0, dI 1, dI 7] (.agg [dI 82, dI 0, dI 1, dI 7]), .t 3 (Z2q)] ⟨⟨rfl, rfl, by kernel_rfl, by kernel_rfl, .inl ⟨4, wide_144, rfl, Nat.le_of_ble_eq_true rfl⟩⟩, ⟨⟨rfl, by kernel_rfl⟩, trivial⟩⟩ [] (gc2 (show (shapeM k) = ⟨82, 0, 1, 7⟩ from (by (simp [shapeM, okK, *]; done))) (show ((decide (okK k)) : Bool) = true from (by (simp [shapeM, okK, *]; done))) (fun qq0 (q5 : Bool) => (.tup [.agg [dI (qq0.f_has), dI (qq0.f_minView), dI (qq0.f_minSeq), dI (qq0.f_batch)], .one (dB q5)] : AV))) trivial
 refine cF (dF hq11) ?_
 refine T.skip (nT ?_)
 refine T.exit ?_
 refine xM rfl ?_
 refine xT ?_
 refine xM rfl ?_
 refine xT ?_
 refine xM rfl ?_
 refine xT ?_
 refine xM rfl ?_
 refine xT ?_
 refine xM rfl ?_
 refine xT ?_
 refine xM rfl ?_
 refine xT ?_
 refine xM rfl ?_
 refine xT ?_
 refine xM rfl ?_
 refine xT ?_
 refine xM rfl ?_
 refine xT ?_
 refine xM rfl ?_
 refine xT ?_
 refine xH ?_
 refine nT (T.seq ?_)
 refine sR [] ?_
 refine T.ret (rT (rB (rT ?_)))
 exact eX [.c 2 0 144 0 144 [dI 0, dI 0, dI 1, dI 7] (.agg [dI 0, dI 0, dI 1, dI 7]), .t 3 (.one (dB false))] ⟨⟨rfl, rfl, by kernel_rfl, by kernel_rfl, .inl ⟨4, wide_144, rfl, Nat.le_of_ble_eq_true rfl⟩⟩, ⟨⟨rfl, by kernel_rfl⟩, trivial⟩⟩ [] (gc2 (show (shapeM k) = ⟨0, 0, 1, 7⟩ from (by (simp [shapeM, okK, *]; done))) (by exact dF (by unfold okK; omega)) (fun qq0 (q5 : Bool) => (.tup [.agg [dI (qq0.f_has), dI (qq0.f_minView), dI (qq0.f_minSeq), dI (qq0.f_batch)], .one (dB q5)] : AV))) trivial
theorem msg_in (s : message_shape) (f : Int) (n : Int) (lo : Int) (hi : Int) : Holds Tryz.prog 117 ⟨[.tv (.agg [dI s.f_has, dI s.f_minView, dI s.f_minSeq, dI s.f_batch]), vI f, vI n, vI lo, vI hi], [], vB (decide (inM s f n lo hi)), []⟩ := by
 refine Holds.of Tryz.func117 rfl (N := 24) Tryz.ntmps117 rfl fun w0 B0 S0 U0 => ?_
 show T _ (mkBase 24 0 w0 S0 U0 B0) ⟨[.tv (.agg [dI s.f_has, dI s.f_minView, dI s.f_minSeq, dI s.f_batch]), vI f, vI n, vI lo, vI hi], []⟩ _ _
 refine sR [] ?_
 refine T.seq ?_
 refine sR [hR 3 rfl rfl (r_bin (u1 := .int .i64 s.f_has) (u2 := .int .i64 f) (v := .int .i64 (andI s.f_has f)) (b_andI rfl) (lt_of rfl) trivial)] ?_
 by_cases hq1 : (andI s.f_has f) = 0
 ·refine cT (dT hq1) ?_
  refine xK [] ?_
  refine nT ?_
  by_cases hq2 : 0 ≤ n
  ·refine sR [hY 4 (dT hq2),
     hY 5 (dT hq2),
     hY 6 (dT hq2),
     hP 7 (dT hq2)] ?_
   refine T.ret ?_
   exact eRt 10 (.one (dB (decide (n ≤ 0)))) [] (by have e1 : ((decide (inM s f n lo hi)) : Bool) = (decide (n ≤ 0)) := (by (simp [inM, *]; done)); have hE := cB e1; exact hE) trivial
  refine sR [hN 4 true (dF hq2),
    hN 5 true (dF hq2),
    hN 6 true (dF hq2),
    hP 7 (dF hq2)] ?_
  refine T.ret ?_
  exact eRt 10 (.one (dB false)) [] (by have e1 : ((decide (inM s f n lo hi)) : Bool) = false := (by (simp [inM, *]; done)); have hE := cB e1; exact hE) trivial
 refine cF (dF hq1) ?_
 refine T.skip (nT ?_)
 by_cases hq3 : lo ≤ n
 ·refine sR [hY 4 (dT hq3),
    hY 5 (dT hq3),
    hY 6 (dT hq3),
    hP 7 (dT hq3)] ?_
  refine T.ret ?_
  exact eRt 10 (.one (dB (decide (n ≤ hi)))) [] (by have e1 : ((decide (inM s f n lo hi)) : Bool) = (decide (n ≤ hi)) := (by (simp [inM, *]; done)); have hE := cB e1; exact hE) trivial
 refine sR [hN 4 true (dF hq3),
   hN 5 true (dF hq3),
   hN 6 true (dF hq3),
   hP 7 (dF hq3)] ?_
 refine T.ret ?_
 exact eRt 10 (.one (dB false)) [] (by have e1 : ((decide (inM s f n lo hi)) : Bool) = false := (by (simp [inM, *]; done)); have hE := cB e1; exact hE) trivial
theorem msg_Check1 (tc : Bool) (c : aC) : Holds Tryz.prog 119 ⟨[.tv (.agg [dI c.f_Pre.f_Signer, .d (dsl tc false kU8 c.f_Pre.f_Body), .d (dsl tc false (kE tc) c.f_Votes)])], [], vB (decide (((c.f_Votes.length : Nat) : Int) > 7)), []⟩ := by
 refine Holds.of Tryz.func119 rfl (N := 7) Tryz.ntmps119 rfl fun w0 B0 S0 U0 => ?_
 show T _ (mkBase 7 0 w0 S0 U0 B0) ⟨[.tv (.agg [dI c.f_Pre.f_Signer, .d (dsl tc false kU8 c.f_Pre.f_Body), .d (dsl tc false (kE tc) c.f_Votes)])], []⟩ _ _
 refine sR [] ?_
 refine sR [] ?_
 refine T.ret ?_
 exact eRt 2 (.one (dB (decide (((c.f_Votes.length : Nat) : Int) > 7)))) [] rfl trivial
end Go.Proofs.YtalapplihdmenaaGreat.Q
