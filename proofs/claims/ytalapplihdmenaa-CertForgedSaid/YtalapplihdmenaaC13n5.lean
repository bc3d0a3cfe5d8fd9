import Derived.Test.YtalapplihdmenaaC13n4
namespace Go.Proofs.Ytalapplihdmenaa.Q
open Go Go.RowKit
set_option linter.unusedVariables false
set_option linter.unusedSimpArgs false
set_option maxRecDepth 100000
set_option maxHeartbeats 4000000
section
variable (B : List UInt8) (a : Nat) (e : Int) (most : Int)
end
section
variable (t : UInt8) (tl : Bool) (nl : Bool) (sl_ : Bool) (l : List (List UInt8)) (k : Nat) (k2 : Nat)
abbrev z8b9b_0 : AV := dv (.int .u8 ((t.toNat : Nat) : Int))
abbrev z8b9b_1 : AV := slV tl nl (kSl sl_ kU8) l
abbrev z8b9b_2 : AV := vI ((l.length : Nat) : Int)
abbrev z8b9b_3 : St := ⟨[(z8b9b_0 t), (z8b9b_1 tl nl sl_ l), aa, aa, dv (strV []), vI ((szP (l.take k) : Nat) : Int), aa, aa, aa, aa, aa, (z8b9b_1 tl nl sl_ l), (z8b9b_2 l), vI ((k : Nat) : Int)], []⟩
abbrev z8b9b_5 : AV := vI ((k + 1 : Nat) : Int)
abbrev z8b9b_7 : St := ⟨[(z8b9b_0 t), (z8b9b_1 tl nl sl_ l), aa, aa, aa, aa, aa, aa, ownV 0 kU8 0 (ofR t l.length (l.take k2)).length, aa, aa, (z8b9b_1 tl nl sl_ l), (z8b9b_2 l), aa, aa, aa, aa, aa, aa, aa, aa, aa, aa, aa, aa, aa, aa, aa, aa, aa, aa, aa, (z8b9b_1 tl nl sl_ l), (z8b9b_2 l), vI ((k2 : Nat) : Int)], [.live (arrK 5 kU8 (ofR t l.length (l.take k2)))]⟩
abbrev z8b9b_8 : AV := vI ((k2 + 1 : Nat) : Int)
end
theorem term_Of (t : UInt8) (tl : Bool) (nl : Bool) (sl_ : Bool) (l : List (List UInt8)) (hs : szP l ≤ 140737488354000) : Holds Try.prog 59 ⟨[dv (.int .u8 ((t.toNat : Nat) : Int)), slV tl nl (kSl sl_ kU8) l], [], dv (strV (ofB t l)), []⟩ := by
 refine Holds.of Try.func59 rfl (N := 44) Try.ntmps59 rfl fun w0 B0 S0 U0 => ?_
 show T _ (mkBase 44 0 w0 S0 U0 B0) ⟨[(z8b9b_0 t), (z8b9b_1 tl nl sl_ l)], []⟩ _ _
 have hcn := szP_count l
 have hcl := cnt_len ((l.length : Nat) : Int)
 have hall := ofB_len t l
 refine sR [] ?_
 refine sR [] ?_
 refine T.seq ?_
 refine sR [] ?_
 refine T.block ?_
 refine T.loop (ι := Nat) (fun (k : Nat) => (z8b9b_3 t tl nl sl_ l k)) (fun (k : Nat) => (k ≤ l.length)) (fun (k : Nat) => l.length - k) (0) (Nat.zero_le _) (fun _ _ hG => Gs.iI [] (bm 14 14387) (t2 := [(z8b9b_0 t), (z8b9b_1 tl nl sl_ l), aa, aa, dv (strV []), vI 5, aa, aa, aa, aa, aa, (z8b9b_1 tl nl sl_ l), (z8b9b_2 l), vI 0]) (congrArg (fun (q1 : Int) => ([(z8b9b_0 t), (z8b9b_1 tl nl sl_ l), aa, aa, dv (strV []), vI q1, aa, aa, aa, aa, aa, (z8b9b_1 tl nl sl_ l), (z8b9b_2 l), vI 0] : List AV)) (by rfl)) rfl hG) ?_
 rintro k hk
 show T _ _ (z8b9b_3 t tl nl sl_ l k) _ _
 replace hk : k ≤ l.length := hk
 have hsz0 := szP_take l k
 refine sR [] ?_
 refine T.seq ?_
 by_cases hq1 : ((k : Nat) : Int) < ((l.length : Nat) : Int)
 ·have hkl : k < l.length := (by omega); have hsk := szP_succ hkl; have hst := szP_take l (k + 1)
  refine cT (decide_eq_true hq1) ?_
  refine T.skip (nT (T.seq ?_))
  refine T.block ?_
  refine sR [hR 0 rfl rfl (q_index tl nl (kSl sl_ kU8) l k (k := .i64) (i := ((k : Nat) : Int)) Try.underlying79 iat_33 rfl rfl (by assumption) (lt_of rfl) trivial)] ?_
  refine xR [hR 3 rfl rfl (r_bin (u1 := .int .i64 4) (u2 := .int .i64 (((l.getD k []).length : Nat) : Int)) (v := .int .i64 ((4 + (l.getD k []).length : Nat) : Int)) (b_add (by rw [IntKind.wrap_i64]; omega)) (lt_of rfl) ⟨rfl, trivial⟩),
    hR 4 rfl rfl (r_bin (u1 := .int .i64 ((szP (l.take k) : Nat) : Int)) (u2 := .int .i64 ((4 + (l.getD k []).length : Nat) : Int)) (v := .int .i64 (((szP (l.take k)) + (4 + (l.getD k []).length) : Nat) : Int)) (b_add (by rw [IntKind.wrap_i64]; omega)) (lt_of rfl) trivial)] (by kernel_rfl) (by kernel_rfl) ?_
  refine nB ?_
  refine nT ?_
  refine xR [hR 0 rfl rfl (r_bin (u1 := .int .i64 ((k : Nat) : Int)) (u2 := .int .i64 1) (v := .int .i64 ((k + 1 : Nat) : Int)) (b_add (by rw [IntKind.wrap_i64]; omega)) (lt_of rfl) ⟨rfl, trivial⟩)] (by kernel_rfl) (by kernel_rfl) ?_
  refine nL (k + 1) (show (k + 1) ≤ l.length from (by omega)) (show (l.length - (k + 1) : Nat) < l.length - k from (by omega)) (fun _ _ hG => Gs.iI [] (bm 14 14387) (t2 := [(z8b9b_0 t), (z8b9b_1 tl nl sl_ l), aa, aa, dv (strV []), vI (((szP (l.take k)) + (4 + (l.getD k []).length) : Nat) : Int), aa, aa, aa, aa, aa, (z8b9b_1 tl nl sl_ l), (z8b9b_2 l), (z8b9b_5 k)]) (by have e1 : (((szP (l.take (k + 1)) : Nat) : Int) : Int) = (((szP (l.take k)) + (4 + (l.getD k []).length) : Nat) : Int) := (by (rw [szP_succ hkl])); have hE := congrArg (fun (q1 : Int) => ([(z8b9b_0 t), (z8b9b_1 tl nl sl_ l), aa, aa, dv (strV []), vI q1, aa, aa, aa, aa, aa, (z8b9b_1 tl nl sl_ l), (z8b9b_2 l), (z8b9b_5 k)] : List AV)) e1; exact hE) rfl hG)
 refine cF (decide_eq_false hq1) ?_
 refine T.exit ?_
 refine xT ?_
 refine xT ?_
 refine xH ?_
 refine nT ?_
 refine sR [hR 1 rfl rfl (q_make 0 5 1 kU8 ([] : List UInt8) 0 (szP (l.take k)) (p := 0) (q := ((szP (l.take k) : Nat) : Int)) elem_33 zero_5 rfl rfl (by omega) (by omega) (by (unfold maxLen; omega)) (by intro j hj; replace hj : j < 1 := hj; rcases j with _ | j <;> first | rfl | omega) (by simp) (lt_of rfl) ⟨rfl, trivial⟩),
   hR 3 rfl rfl (q_buildSlice 1 5 kU8 kU8_ok [t] [⟨0, .tmp 25, .one (.d (.val (.int .u8 ((t.toNat : Nat) : Int)))), 0⟩] (cs := [.d (.val (.int .u8 ((t.toNat : Nat) : Int)))]) Try.underlying33 iat_5 rfl zero_5 rfl rfl rfl (Nat.le_of_ble_eq_true rfl) (part_cons rfl rfl (Nat.le_of_ble_eq_true rfl) part_ok) (by kernel_rfl) (wk_eq (by kernel_rfl)) (lt_of rfl) trivial),
   hR 4 rfl rfl (q_appendO 0 2 5 1 kU8 kU8_ok ([] : List UInt8) [t] [t] ([] : List UInt8).length (sy := (.own 1 kU8.sz 0 [t].length)) (rhs := [(1, .live (arrK 5 kU8 [t]))]) elem_33 (by omega) (src_own 1 5 kU8 [t]) (by simp) (by (simp [maxLen, -List.getD_eq_getElem?_getD] <;> omega)) (by (simp [maxLen, -List.getD_eq_getElem?_getD] <;> omega)) (lt_of rfl) trivial)] ?_
 refine sR [hR 3 rfl rfl (r_call (wire_PutCount true false [t] ((l.length : Nat) : Int) (by (simp [maxLen, -List.getD_eq_getElem?_getD] <;> omega))) Try.func85 rfl (by decide) [3] [2] (l := [(.tmp 28, ownV 2 kU8 0 [t].length), (.tmp 30, (z8b9b_2 l))]) [(2, .live (arrK 5 kU8 [t]))] rfl 0 1 rfl rfl rfl rfl rfl rfl rfl rfl rfl ⟨.inr (.inl ⟨rfl, (fun h => by cases h), rfl, rfl, by simp, 5, [t].length, elOf kU8 [t], List.Mem.head _, (by exact Nat.le_of_eq (Nat.zero_add _)), fun i j => by rw [Nat.zero_add]⟩), ⟨.inl ⟨rfl, rfl⟩, trivial⟩⟩ rfl (by intro b hb; simp only [List.mem_cons, List.not_mem_nil, or_false] at hb; rcases hb with rfl; exact ⟨_, List.Mem.head _⟩) (.inr ⟨trivial, (And.intro (arr_nt kU8_nt) trivial)⟩) (lt_of rfl) trivial)] ?_
 refine T.seq ?_
 refine sR [] ?_
 refine T.block ?_
 refine T.loop (ι := Nat) (fun (k2 : Nat) => (z8b9b_7 t tl nl sl_ l k2)) (fun (k2 : Nat) => (k2 ≤ l.length)) (fun (k2 : Nat) => l.length - k2) (0) (Nat.zero_le _) (fun _ _ hG => Gs.i2 [3] (bm 35 30064777475) (t1 := [(z8b9b_0 t), (z8b9b_1 tl nl sl_ l), aa, aa, aa, aa, aa, aa, ownV 3 kU8 0 (ofR t l.length (l.take 0)).length, aa, aa, (z8b9b_1 tl nl sl_ l), (z8b9b_2 l), aa, aa, aa, aa, aa, aa, aa, aa, aa, aa, aa, aa, aa, aa, aa, aa, aa, aa, aa, (z8b9b_1 tl nl sl_ l), (z8b9b_2 l), vI 0]) (t2 := [(z8b9b_0 t), (z8b9b_1 tl nl sl_ l), aa, aa, aa, aa, aa, aa, ownV 3 kU8 0 ([t] ++ cntB ((l.length : Nat) : Int)).length, aa, aa, (z8b9b_1 tl nl sl_ l), (z8b9b_2 l), aa, aa, aa, aa, aa, aa, aa, aa, aa, aa, aa, aa, aa, aa, aa, aa, aa, aa, aa, (z8b9b_1 tl nl sl_ l), (z8b9b_2 l), vI 0]) (h1 := [.live (arrK 5 kU8 (ofR t l.length (l.take 0)))]) (h2 := [.live (arrK 5 kU8 ([t] ++ cntB ((l.length : Nat) : Int)))]) (congrArg (fun (q1 : Nat) => ([(z8b9b_0 t), (z8b9b_1 tl nl sl_ l), aa, aa, aa, aa, aa, aa, ownV 3 kU8 0 q1, aa, aa, (z8b9b_1 tl nl sl_ l), (z8b9b_2 l), aa, aa, aa, aa, aa, aa, aa, aa, aa, aa, aa, aa, aa, aa, aa, aa, aa, aa, aa, (z8b9b_1 tl nl sl_ l), (z8b9b_2 l), vI 0] : List AV)) (by rfl)) (congrArg (fun (q1 : List UInt8) => ([.live (arrK 5 kU8 q1)] : List HS)) (by rfl)) hG) ?_
 rintro k2 hk2
 show T _ _ (z8b9b_7 t tl nl sl_ l k2) _ _
 replace hk2 : k2 ≤ l.length := hk2
 have hol := ofR_len t l.length (l.take k2)
 have hsz0 := szP_take l k2
 refine sR [] ?_
 refine T.seq ?_
 by_cases hq2 : ((k2 : Nat) : Int) < ((l.length : Nat) : Int)
 ·have hkl : k2 < l.length := (by omega); have hsk := szP_succ hkl; have hst := szP_take l (k2 + 1)
  refine cT (decide_eq_true hq2) ?_
  refine T.skip (nT (T.seq ?_))
  refine T.block ?_
  refine sR [hR 0 rfl rfl (q_index tl nl (kSl sl_ kU8) l k2 (k := .i64) (i := ((k2 : Nat) : Int)) Try.underlying79 iat_33 rfl rfl (by assumption) (lt_of rfl) trivial)] ?_
  refine xR [hR 2 rfl rfl (r_call (wire_PutBytes true false (ofR t l.length (l.take k2)) sl_ false (l.getD k2 []) (by omega)) Try.func83 rfl (by decide) [1] [0] (l := [(.tmp 38, ownV 0 kU8 0 (ofR t l.length (l.take k2)).length), (.tmp 39, slV sl_ false kU8 (l.getD k2 []))]) [(0, .live (arrK 5 kU8 (ofR t l.length (l.take k2))))] rfl 0 1 rfl rfl rfl rfl rfl rfl rfl rfl rfl ⟨.inr (.inl ⟨rfl, (fun h => by cases h), rfl, rfl, by simp, 5, (ofR t l.length (l.take k2)).length, elOf kU8 (ofR t l.length (l.take k2)), List.Mem.head _, (by exact Nat.le_of_eq (Nat.zero_add _)), fun i j => by rw [Nat.zero_add]⟩), ⟨.inl ⟨rfl, rfl⟩, trivial⟩⟩ rfl (by intro b hb; simp only [List.mem_cons, List.not_mem_nil, or_false] at hb; rcases hb with rfl; exact ⟨_, List.Mem.head _⟩) (.inr ⟨trivial, (And.intro (arr_nt kU8_nt) trivial)⟩) (lt_of rfl) trivial)] (by kernel_rfl) (by kernel_rfl) ?_
  refine nB ?_
  refine nT ?_
  refine xR [hR 0 rfl rfl (r_bin (u1 := .int .i64 ((k2 : Nat) : Int)) (u2 := .int .i64 1) (v := .int .i64 ((k2 + 1 : Nat) : Int)) (b_add (by rw [IntKind.wrap_i64]; omega)) (lt_of rfl) ⟨rfl, trivial⟩)] (by kernel_rfl) (by kernel_rfl) ?_
  refine nL (k2 + 1) (show (k2 + 1) ≤ l.length from (by omega)) (show (l.length - (k2 + 1) : Nat) < l.length - k2 from (by omega)) (fun _ _ hG => Gs.i2 [1] (bm 35 30064777475) (t1 := [(z8b9b_0 t), (z8b9b_1 tl nl sl_ l), aa, aa, aa, aa, aa, aa, ownV 1 kU8 0 (ofR t l.length (l.take (k2 + 1))).length, aa, aa, (z8b9b_1 tl nl sl_ l), (z8b9b_2 l), aa, aa, aa, aa, aa, aa, aa, aa, aa, aa, aa, aa, aa, aa, aa, aa, aa, aa, aa, (z8b9b_1 tl nl sl_ l), (z8b9b_2 l), (z8b9b_8 k2)]) (t2 := [(z8b9b_0 t), (z8b9b_1 tl nl sl_ l), aa, aa, aa, aa, aa, aa, ownV 1 kU8 0 ((ofR t l.length (l.take k2)) ++ bytesB (l.getD k2 [])).length, aa, aa, (z8b9b_1 tl nl sl_ l), (z8b9b_2 l), aa, aa, aa, aa, aa, aa, aa, aa, aa, aa, aa, aa, aa, aa, aa, aa, aa, aa, aa, (z8b9b_1 tl nl sl_ l), (z8b9b_2 l), (z8b9b_8 k2)]) (h1 := [.live (arrK 5 kU8 (ofR t l.length (l.take (k2 + 1))))]) (h2 := [.live (arrK 5 kU8 ((ofR t l.length (l.take k2)) ++ bytesB (l.getD k2 [])))]) (by have e1 : ((ofR t l.length (l.take (k2 + 1))).length : Nat) = ((ofR t l.length (l.take k2)) ++ bytesB (l.getD k2 [])).length := (by (rw [ofR_succ hkl])); have hE := congrArg (fun (q1 : Nat) => ([(z8b9b_0 t), (z8b9b_1 tl nl sl_ l), aa, aa, aa, aa, aa, aa, ownV 1 kU8 0 q1, aa, aa, (z8b9b_1 tl nl sl_ l), (z8b9b_2 l), aa, aa, aa, aa, aa, aa, aa, aa, aa, aa, aa, aa, aa, aa, aa, aa, aa, aa, aa, (z8b9b_1 tl nl sl_ l), (z8b9b_2 l), (z8b9b_8 k2)] : List AV)) e1; exact hE) (by have e1 : ((ofR t l.length (l.take (k2 + 1))) : List UInt8) = (ofR t l.length (l.take k2)) ++ bytesB (l.getD k2 []) := (by (rw [ofR_succ hkl])); have hE := congrArg (fun (q1 : List UInt8) => ([.live (arrK 5 kU8 q1)] : List HS)) e1; exact hE) hG)
 refine cF (decide_eq_false hq2) ?_
 refine T.exit ?_
 refine xT ?_
 refine xT ?_
 refine xH ?_
 refine nT ?_
 refine sR [hR 1 rfl rfl (q_strOf () (ofR t l.length (l.take k2)) (ys := (.own 0 kU8.sz 0 (ofR t l.length (l.take k2)).length)) (rhs := [(0, .live (arrK 5 kU8 (ofR t l.length (l.take k2))))]) Try.underlying33 Try.underlying5 Try.underlying46 (src_own 0 5 kU8 (ofR t l.length (l.take k2))) (lt_of rfl) trivial)] ?_
 refine T.ret ?_
 exact eRt 4 (.one (dS (ofR t l.length (l.take k2)))) [] (by have e1 : ((ofB t l) : List UInt8) = (ofR t l.length (l.take k2)) := (by (have hke : k2 = l.length := (by omega); rw [hke, ofR_all])); have hE := congrArg (fun (q1 : List UInt8) => (dv (strV q1) : AV)) e1; exact hE) trivial
abbrev zd8fb_0 (t : UInt8) : AV := dv (.int .u8 ((t.toNat : Nat) : Int))
abbrev zd8fb_1 (t : UInt8) (l : List (List UInt8)) (k : Nat) := (ofR t l.length (l.take k))
abbrev zd8fb_2 (k : Nat) : AV := vI ((k + 1 : Nat) : Int)
theorem ref02_Of (t : UInt8) (tl : Bool) (nl : Bool) (sl_ : Bool) (l : List (List UInt8)) (hs : szP l ≤ 140737488354000) : Holds Try.prog 34 ⟨[dv (.int .u8 ((t.toNat : Nat) : Int)), slV tl nl (kSl sl_ kU8) l], [], dv (strV (ofB t l)), []⟩ := by
 refine Holds.of Try.func34 rfl (N := 26) Try.ntmps34 rfl fun w0 B0 S0 U0 => ?_
 show T _ (mkBase 26 0 w0 S0 U0 B0) ⟨[(zd8fb_0 t), slV tl nl (kSl sl_ kU8) l], []⟩ _ _
 have hcn := szP_count l
 have hcl := cnt_len ((l.length : Nat) : Int)
 have hall := ofB_len t l
 refine sR [] ?_
 refine sR [hR 1 rfl rfl (q_buildSlice 0 5 kU8 kU8_ok [t] [⟨0, .tmp 7, .one (.d (.val (.int .u8 ((t.toNat : Nat) : Int)))), 0⟩] (cs := [.d (.val (.int .u8 ((t.toNat : Nat) : Int)))]) Try.underlying33 iat_5 rfl zero_5 rfl rfl rfl (Nat.le_of_ble_eq_true rfl) (part_cons rfl rfl (Nat.le_of_ble_eq_true rfl) part_ok) (by kernel_rfl) (wk_eq (by kernel_rfl)) (lt_of rfl) trivial),
   hR 4 rfl rfl (r_call (ref01_Count true false [t] ((l.length : Nat) : Int) (by (simp [maxLen, -List.getD_eq_getElem?_getD] <;> omega))) Try.func57 rfl (by decide) [1] [0] (l := [(.tmp 8, ownV 0 kU8 0 [t].length), (.tmp 10, vI ((l.length : Nat) : Int))]) [(0, .live (arrK 5 kU8 [t]))] rfl 0 1 rfl rfl rfl rfl rfl rfl rfl rfl rfl ⟨.inr (.inl ⟨rfl, (fun h => by cases h), rfl, rfl, by simp, 5, [t].length, elOf kU8 [t], List.Mem.head _, (by exact Nat.le_of_eq (Nat.zero_add _)), fun i j => by rw [Nat.zero_add]⟩), ⟨.inl ⟨rfl, rfl⟩, trivial⟩⟩ rfl (by intro b hb; simp only [List.mem_cons, List.not_mem_nil, or_false] at hb; rcases hb with rfl; exact ⟨_, List.Mem.head _⟩) (.inr ⟨trivial, (And.intro (arr_nt kU8_nt) trivial)⟩) (lt_of rfl) trivial)] ?_
 refine T.seq ?_
 refine sR [] ?_
 refine T.block ?_
 refine T.loop (ι := Nat) (fun (k : Nat) => ⟨[(zd8fb_0 t), slV tl nl (kSl sl_ kU8) l, aa, aa, aa, ownV 0 kU8 0 (zd8fb_1 t l k).length, vI ((k : Nat) : Int)], [.live (arrK 5 kU8 (zd8fb_1 t l k))]⟩) (fun (k : Nat) => (k ≤ l.length)) (fun (k : Nat) => l.length - k) (0) (Nat.zero_le _) (fun _ _ hG => Gs.i2 [1] (bm 7 99) (t1 := [(zd8fb_0 t), slV tl nl (kSl sl_ kU8) l, aa, aa, aa, ownV 1 kU8 0 (ofR t l.length (l.take 0)).length, vI 0]) (t2 := [(zd8fb_0 t), slV tl nl (kSl sl_ kU8) l, aa, aa, aa, ownV 1 kU8 0 ([t] ++ cntB ((l.length : Nat) : Int)).length, vI 0]) (h1 := [.live (arrK 5 kU8 (ofR t l.length (l.take 0)))]) (h2 := [.live (arrK 5 kU8 ([t] ++ cntB ((l.length : Nat) : Int)))]) (congrArg (fun (q1 : Nat) => ([(zd8fb_0 t), slV tl nl (kSl sl_ kU8) l, aa, aa, aa, ownV 1 kU8 0 q1, vI 0] : List AV)) (by rfl)) (congrArg (fun (q1 : List UInt8) => ([.live (arrK 5 kU8 q1)] : List HS)) (by rfl)) hG) ?_
 rintro k hk
 show T _ _ ⟨[(zd8fb_0 t), slV tl nl (kSl sl_ kU8) l, aa, aa, aa, ownV 0 kU8 0 (zd8fb_1 t l k).length, vI ((k : Nat) : Int)], [.live (arrK 5 kU8 (zd8fb_1 t l k))]⟩ _ _
 replace hk : k ≤ l.length := hk
 have hol := ofR_len t l.length (l.take k)
 have hsz0 := szP_take l k
 refine T.seq ?_
 refine sR [] ?_
 by_cases hq1 : ((k : Nat) : Int) < ((l.length : Nat) : Int)
 ·have hkl : k < l.length := (by omega); have hsk := szP_succ hkl; have hst := szP_take l (k + 1)
  refine cT (decide_eq_true hq1) ?_
  refine T.skip (nT (T.seq ?_))
  refine T.block ?_
  refine xR [hR 3 rfl rfl (q_index tl nl (kSl sl_ kU8) l k (k := .i64) (i := ((k : Nat) : Int)) Try.underlying79 iat_33 rfl rfl (by assumption) (lt_of rfl) trivial),
    hR 5 rfl rfl (r_call (ref01_Bytes true false (ofR t l.length (l.take k)) sl_ false (l.getD k []) (by omega)) Try.func55 rfl (by decide) [1] [0] (l := [(.tmp 18, ownV 0 kU8 0 (zd8fb_1 t l k).length), (.tmp 22, slV sl_ false kU8 (l.getD k []))]) [(0, .live (arrK 5 kU8 (zd8fb_1 t l k)))] rfl 0 1 rfl rfl rfl rfl rfl rfl rfl rfl rfl ⟨.inr (.inl ⟨rfl, (fun h => by cases h), rfl, rfl, by simp, 5, (ofR t l.length (l.take k)).length, elOf kU8 (ofR t l.length (l.take k)), List.Mem.head _, (by exact Nat.le_of_eq (Nat.zero_add _)), fun i j => by rw [Nat.zero_add]⟩), ⟨.inl ⟨rfl, rfl⟩, trivial⟩⟩ rfl (by intro b hb; simp only [List.mem_cons, List.not_mem_nil, or_false] at hb; rcases hb with rfl; exact ⟨_, List.Mem.head _⟩) (.inr ⟨trivial, (And.intro (arr_nt kU8_nt) trivial)⟩) (lt_of rfl) trivial)] (by kernel_rfl) (by kernel_rfl) ?_
  refine nB ?_
  refine nT ?_
  refine xR [hR 1 rfl rfl (r_bin (u1 := .int .i64 ((k : Nat) : Int)) (u2 := .int .i64 1) (v := .int .i64 ((k + 1 : Nat) : Int)) (b_add (by rw [IntKind.wrap_i64]; omega)) (lt_of rfl) ⟨rfl, trivial⟩)] (by kernel_rfl) (by kernel_rfl) ?_
  refine nL (k + 1) (show (k + 1) ≤ l.length from (by omega)) (show (l.length - (k + 1) : Nat) < l.length - k from (by omega)) (fun _ _ hG => Gs.i2 [1] (bm 7 99) (t1 := [(zd8fb_0 t), slV tl nl (kSl sl_ kU8) l, aa, aa, aa, ownV 1 kU8 0 (ofR t l.length (l.take (k + 1))).length, (zd8fb_2 k)]) (t2 := [(zd8fb_0 t), slV tl nl (kSl sl_ kU8) l, aa, aa, aa, ownV 1 kU8 0 ((zd8fb_1 t l k) ++ bytesB (l.getD k [])).length, (zd8fb_2 k)]) (h1 := [.live (arrK 5 kU8 (ofR t l.length (l.take (k + 1))))]) (h2 := [.live (arrK 5 kU8 ((zd8fb_1 t l k) ++ bytesB (l.getD k [])))]) (by have e1 : ((ofR t l.length (l.take (k + 1))).length : Nat) = ((ofR t l.length (l.take k)) ++ bytesB (l.getD k [])).length := (by (rw [ofR_succ hkl])); have hE := congrArg (fun (q1 : Nat) => ([(zd8fb_0 t), slV tl nl (kSl sl_ kU8) l, aa, aa, aa, ownV 1 kU8 0 q1, (zd8fb_2 k)] : List AV)) e1; exact hE) (by have e1 : ((ofR t l.length (l.take (k + 1))) : List UInt8) = (ofR t l.length (l.take k)) ++ bytesB (l.getD k []) := (by (rw [ofR_succ hkl])); have hE := congrArg (fun (q1 : List UInt8) => ([.live (arrK 5 kU8 q1)] : List HS)) e1; exact hE) hG)
 refine cF (decide_eq_false hq1) ?_
 refine T.exit ?_
 refine xT ?_
 refine xT ?_
 refine xH ?_
 refine nT ?_
 refine sR [hR 1 rfl rfl (q_strOf () (ofR t l.length (l.take k)) (ys := (.own 0 kU8.sz 0 (zd8fb_1 t l k).length)) (rhs := [(0, .live (arrK 5 kU8 (zd8fb_1 t l k)))]) Try.underlying33 Try.underlying5 Try.underlying46 (src_own 0 5 kU8 (ofR t l.length (l.take k))) (lt_of rfl) trivial)] ?_
 refine T.ret ?_
 exact eRt 4 (.one (dS (zd8fb_1 t l k))) [] (by have e1 : ((ofB t l) : List UInt8) = (ofR t l.length (l.take k)) := (by (have hke : k = l.length := (by omega); rw [hke, ofR_all])); have hE := congrArg (fun (q1 : List UInt8) => (dv (strV q1) : AV)) e1; exact hE) trivial
end Go.Proofs.Ytalapplihdmenaa.Q
