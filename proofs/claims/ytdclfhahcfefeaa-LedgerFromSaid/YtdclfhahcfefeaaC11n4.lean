import Derived.Test.YtdclfhahcfefeaaC11n3
namespace Go.Proofs.Ytdclfhahcfefeaa.Q
open Go Go.RowKit
set_option linter.unusedVariables false
set_option linter.unusedSimpArgs false
set_option maxRecDepth 100000
set_option maxHeartbeats 4000000
-- quaestor/quaestorref02.Pair
theorem ref02_Pair (t : UInt8) (a : List UInt8) (b : List UInt8) (hb : a.length + b.length ≤ 140737488350000) : Holds Try.prog 94 ⟨[dv (.int .u8 ((t.toNat : Nat) : Int)), dv (strV a), dv (strV b)], [], dv (strV (ofB t [a, b])), []⟩ := by
  refine Holds.of Try.func94 rfl (N := 14) Try.ntmps94 rfl fun w0 B0 S0 U0 => ?_
  show T _ (mkBase 14 0 w0 S0 U0 B0) ⟨[dv (.int .u8 ((t.toNat : Nat) : Int)), dv (strV a), dv (strV b)], []⟩ _ _
  have hs1 : szP [a, b] = 5 + (4 + a.length) + (4 + b.length) := rfl
  refine T.seq ?_
  refine xR [] (by kernel_rfl) (by kernel_rfl) ?_
  refine nT ?_
  refine T.seq ?_
  refine xR [hR 2 rfl rfl (r_bytesOf (l := a) Try.underlying29 Try.underlying58 Try.underlying5 (lt_of rfl) trivial),
    hR 4 rfl rfl (r_bytesOf (l := b) Try.underlying29 Try.underlying58 Try.underlying5 (lt_of rfl) trivial),
    hR 5 rfl rfl (q_buildSlice 0 58 (kSl false kU8) (kSl_ok false kU8) [a, b] [⟨0, .tmp 9, .one (.d (dsl false true kU8 a)), 0⟩, ⟨1, .tmp 11, .one (.d (dsl false true kU8 b)), 1⟩] (cs := [.d (dsl false true kU8 a), .d (dsl false true kU8 b)]) Try.underlying101 iat_58 rfl zero_58 rfl rfl rfl (Nat.le_of_ble_eq_true rfl) (part_cons rfl rfl (Nat.le_of_ble_eq_true rfl) (part_cons rfl rfl (Nat.le_of_ble_eq_true rfl) part_ok)) rfl ⟨(.inr ⟨rfl, (fun h => by cases h), rfl, rfl, rfl⟩), ⟨(.inr ⟨rfl, (fun h => by cases h), rfl, rfl, rfl⟩), trivial⟩⟩ (lt_of rfl) trivial),
    hR 6 rfl rfl (r_call (ref02_Of t true false false [a, b] (by first | assumption | omega | (unfold maxLen; omega) | (simp [maxLen, -List.getD_eq_getElem?_getD] <;> omega) | decide)) Try.func61 rfl (by decide) [] [0] (l := [(.tmp 7, dv (.int .u8 ((t.toNat : Nat) : Int))), (.tmp 12, ownV 0 (kSl false kU8) 0 [a, b].length)]) [(0, .live (arrK 58 (kSl false kU8) [a, b]))] rfl 0 0 rfl rfl rfl rfl rfl rfl rfl rfl rfl ⟨.inl ⟨rfl, rfl⟩, ⟨.inr (.inl ⟨rfl, (fun h => by cases h), rfl, rfl, by simp, 58, [a, b].length, elOf (kSl false kU8) [a, b], List.Mem.head _, by omega, fun i j => by rw [Nat.zero_add]⟩), trivial⟩⟩ rfl (by intro b hb; simp only [List.mem_cons, List.not_mem_nil, or_false] at hb; rcases hb with rfl; exact ⟨_, List.Mem.head _⟩) (.inr ⟨trivial, trivial⟩) (lt_of rfl) trivial)] (by kernel_rfl) (by kernel_rfl) ?_
  refine nT ?_
  refine T.ret ?_
  exact tE (.inl rfl) [.t 6 (.one (.d (.val (strV (ofB t [a, b])))))] ⟨⟨rfl, by kernel_rfl⟩, trivial⟩ [] rfl rfl rfl rfl rfl rfl trivial

-- math/bits.Len64
theorem bits_Len64 (x : Nat) (hx : x < 18446744073709551616) : Holds Try.prog 96 ⟨[dv (.int .u64 ((x : Nat) : Int))], [], dv (.int .i64 ((lenN x : Nat) : Int)), []⟩ := by
  refine Holds.of Try.func96 rfl (N := 25) Try.ntmps96 rfl fun w0 B0 S0 U0 => ?_
  show T _ (mkBase 25 0 w0 S0 U0 B0) ⟨[dv (.int .u64 ((x : Nat) : Int))], []⟩ _ _
  have hb8 := fun (y : Nat) => UInt8.toNat_lt (len8Tab.getD (UInt8.ofNat y).toNat 0)
  refine T.seq ?_
  refine xR [] (by kernel_rfl) (by kernel_rfl) ?_
  refine nT ?_
  refine T.seq ?_
  refine T.seq ?_
  refine xR [] (by kernel_rfl) (by kernel_rfl) ?_
  refine nT ?_
  by_cases hq1 : ((x : Nat) : Int) ≥ 4294967296
  · have hd32 := lenN_div (x := x) (s := 32) (by omega)
    refine T.condT (by kernel_rfl) (decide_eq_true hq1) ?_
    refine T.seq ?_
    refine xR [hR 1 rfl rfl (r_bin (u1 := .int .u64 ((x : Nat) : Int)) (u2 := .int .u64 32) (v := .int .u64 ((x / 2 ^ 32 : Nat) : Int)) (b_shrN (n := 32) rfl (Nat.le_trans (by first | assumption | omega | (unfold maxLen; omega) | (simp [maxLen, -List.getD_eq_getElem?_getD] <;> omega) | decide) (by decide : 64 ≤ _))) (lt_of rfl) ⟨rfl, trivial⟩)] (by kernel_rfl) (by kernel_rfl) ?_
    refine nT ?_
    refine xR [] (by kernel_rfl) (by kernel_rfl) ?_
    refine nT ?_
    refine T.seq ?_
    refine T.seq ?_
    refine xR [] (by kernel_rfl) (by kernel_rfl) ?_
    refine nT ?_
    by_cases hq2 : ((x / 2 ^ 32 : Nat) : Int) ≥ 65536
    · have hd16 := lenN_div (x := x / 2 ^ 32) (s := 16) (by omega)
      refine T.condT (by kernel_rfl) (decide_eq_true hq2) ?_
      refine T.seq ?_
      refine xR [hR 1 rfl rfl (r_bin (u1 := .int .u64 ((x / 2 ^ 32 : Nat) : Int)) (u2 := .int .u64 16) (v := .int .u64 (((x / 2 ^ 32) / 2 ^ 16 : Nat) : Int)) (b_shrN (n := 16) rfl (Nat.le_trans (by first | assumption | omega | (unfold maxLen; omega) | (simp [maxLen, -List.getD_eq_getElem?_getD] <;> omega) | decide) (by decide : 64 ≤ _))) (lt_of rfl) ⟨rfl, trivial⟩)] (by kernel_rfl) (by kernel_rfl) ?_
      refine nT ?_
      refine xR [hR 1 rfl rfl (r_bin (u1 := .int .i64 32) (u2 := .int .i64 16) (v := .int .i64 48) (b_add (by rw [IntKind.wrap_i64]; omega)) (lt_of rfl) ⟨rfl, trivial⟩)] (by kernel_rfl) (by kernel_rfl) ?_
      refine nT ?_
      refine T.seq ?_
      refine T.seq ?_
      refine xR [] (by kernel_rfl) (by kernel_rfl) ?_
      refine nT ?_
      by_cases hq3 : (((x / 2 ^ 32) / 2 ^ 16 : Nat) : Int) ≥ 256
      · have hd8 := lenN_div (x := (x / 2 ^ 32) / 2 ^ 16) (s := 8) (by omega)
        refine T.condT (by kernel_rfl) (decide_eq_true hq3) ?_
        refine T.seq ?_
        refine xR [hR 1 rfl rfl (r_bin (u1 := .int .u64 (((x / 2 ^ 32) / 2 ^ 16 : Nat) : Int)) (u2 := .int .u64 8) (v := .int .u64 ((((x / 2 ^ 32) / 2 ^ 16) / 2 ^ 8 : Nat) : Int)) (b_shrN (n := 8) rfl (Nat.le_trans (by first | assumption | omega | (unfold maxLen; omega) | (simp [maxLen, -List.getD_eq_getElem?_getD] <;> omega) | decide) (by decide : 64 ≤ _))) (lt_of rfl) ⟨rfl, trivial⟩)] (by kernel_rfl) (by kernel_rfl) ?_
        refine nT ?_
        refine xR [hR 1 rfl rfl (r_bin (u1 := .int .i64 48) (u2 := .int .i64 8) (v := .int .i64 56) (b_add (by rw [IntKind.wrap_i64]; omega)) (lt_of rfl) ⟨rfl, trivial⟩)] (by kernel_rfl) (by kernel_rfl) ?_
        refine nT ?_
        refine T.seq ?_
        refine xR [hR 2 rfl rfl (r_conv (u := .int .u64 ((((x / 2 ^ 32) / 2 ^ 16) / 2 ^ 8 : Nat) : Int)) (v := .int .u8 (((UInt8.ofNat (((x / 2 ^ 32) / 2 ^ 16) / 2 ^ 8)).toNat : Nat) : Int)) (c_byte Try.underlying113 Try.underlying5) (lt_of rfl) trivial),
          hR 3 rfl rfl (r_indexStr (k := .u8) (l := len8Tab) (m := (UInt8.ofNat (((x / 2 ^ 32) / 2 ^ 16) / 2 ^ 8)).toNat) (b := (len8Tab.getD (UInt8.ofNat (((x / 2 ^ 32) / 2 ^ 16) / 2 ^ 8)).toNat 0)) (i := (((UInt8.ofNat (((x / 2 ^ 32) / 2 ^ 16) / 2 ^ 8)).toNat : Nat) : Int)) Try.underlying9 rfl (by rw [len8_len]; exact UInt8.toNat_lt _) rfl (lt_of rfl) ⟨rfl, trivial⟩),
          hR 4 rfl rfl (r_conv (u := .int .u8 (((len8Tab.getD (UInt8.ofNat (((x / 2 ^ 32) / 2 ^ 16) / 2 ^ 8)).toNat 0).toNat : Nat) : Int)) (v := .int .i64 (((len8Tab.getD (UInt8.ofNat (((x / 2 ^ 32) / 2 ^ 16) / 2 ^ 8)).toNat 0).toNat : Nat) : Int)) (c_int Try.underlying5 Try.underlying3 (by have h9 := UInt8.toNat_lt (len8Tab.getD (UInt8.ofNat (((x / 2 ^ 32) / 2 ^ 16) / 2 ^ 8)).toNat 0); rw [IntKind.wrap_i64]; omega)) (lt_of rfl) trivial),
          hR 5 rfl rfl (r_bin (u1 := .int .i64 56) (u2 := .int .i64 (((len8Tab.getD (UInt8.ofNat (((x / 2 ^ 32) / 2 ^ 16) / 2 ^ 8)).toNat 0).toNat : Nat) : Int)) (v := .int .i64 ((56 + (len8Tab.getD (UInt8.ofNat (((x / 2 ^ 32) / 2 ^ 16) / 2 ^ 8)).toNat 0).toNat : Nat) : Int)) (b_add (by have h9 := UInt8.toNat_lt (len8Tab.getD (UInt8.ofNat (((x / 2 ^ 32) / 2 ^ 16) / 2 ^ 8)).toNat 0); rw [IntKind.wrap_i64]; omega)) (lt_of rfl) trivial)] (by kernel_rfl) (by kernel_rfl) ?_
        refine nT ?_
        refine T.ret ?_
        exact tE (.inl rfl) [.t 2 (.one (.d (.val (.int .i64 ((56 + (len8Tab.getD (UInt8.ofNat (((x / 2 ^ 32) / 2 ^ 16) / 2 ^ 8)).toNat 0).toNat : Nat) : Int)))))] ⟨⟨rfl, by kernel_rfl⟩, trivial⟩ [] (by have e1 : (((lenN x : Nat) : Int) : Int) = ((56 + (len8Tab.getD (UInt8.ofNat (((x / 2 ^ 32) / 2 ^ 16) / 2 ^ 8)).toNat 0).toNat : Nat) : Int) := (by first | rfl | (rw [len8 (by omega)]; omega) | (rw [len8 (by omega)])); have hE := congrArg (fun (q1 : Int) => (dv (.int .i64 q1) : AV)) e1; exact hE) rfl rfl rfl rfl rfl trivial
      · refine T.condF (by kernel_rfl) (decide_eq_false hq3) ?_
        refine T.skip ?_
        refine nT ?_
        refine T.seq ?_
        refine xR [hR 2 rfl rfl (r_conv (u := .int .u64 (((x / 2 ^ 32) / 2 ^ 16 : Nat) : Int)) (v := .int .u8 (((UInt8.ofNat ((x / 2 ^ 32) / 2 ^ 16)).toNat : Nat) : Int)) (c_byte Try.underlying113 Try.underlying5) (lt_of rfl) trivial),
          hR 3 rfl rfl (r_indexStr (k := .u8) (l := len8Tab) (m := (UInt8.ofNat ((x / 2 ^ 32) / 2 ^ 16)).toNat) (b := (len8Tab.getD (UInt8.ofNat ((x / 2 ^ 32) / 2 ^ 16)).toNat 0)) (i := (((UInt8.ofNat ((x / 2 ^ 32) / 2 ^ 16)).toNat : Nat) : Int)) Try.underlying9 rfl (by rw [len8_len]; exact UInt8.toNat_lt _) rfl (lt_of rfl) ⟨rfl, trivial⟩),
          hR 4 rfl rfl (r_conv (u := .int .u8 (((len8Tab.getD (UInt8.ofNat ((x / 2 ^ 32) / 2 ^ 16)).toNat 0).toNat : Nat) : Int)) (v := .int .i64 (((len8Tab.getD (UInt8.ofNat ((x / 2 ^ 32) / 2 ^ 16)).toNat 0).toNat : Nat) : Int)) (c_int Try.underlying5 Try.underlying3 (by have h9 := UInt8.toNat_lt (len8Tab.getD (UInt8.ofNat ((x / 2 ^ 32) / 2 ^ 16)).toNat 0); rw [IntKind.wrap_i64]; omega)) (lt_of rfl) trivial),
          hR 5 rfl rfl (r_bin (u1 := .int .i64 48) (u2 := .int .i64 (((len8Tab.getD (UInt8.ofNat ((x / 2 ^ 32) / 2 ^ 16)).toNat 0).toNat : Nat) : Int)) (v := .int .i64 ((48 + (len8Tab.getD (UInt8.ofNat ((x / 2 ^ 32) / 2 ^ 16)).toNat 0).toNat : Nat) : Int)) (b_add (by have h9 := UInt8.toNat_lt (len8Tab.getD (UInt8.ofNat ((x / 2 ^ 32) / 2 ^ 16)).toNat 0); rw [IntKind.wrap_i64]; omega)) (lt_of rfl) trivial)] (by kernel_rfl) (by kernel_rfl) ?_
        refine nT ?_
        refine T.ret ?_
        exact tE (.inl rfl) [.t 2 (.one (.d (.val (.int .i64 ((48 + (len8Tab.getD (UInt8.ofNat ((x / 2 ^ 32) / 2 ^ 16)).toNat 0).toNat : Nat) : Int)))))] ⟨⟨rfl, by kernel_rfl⟩, trivial⟩ [] (by have e1 : (((lenN x : Nat) : Int) : Int) = ((48 + (len8Tab.getD (UInt8.ofNat ((x / 2 ^ 32) / 2 ^ 16)).toNat 0).toNat : Nat) : Int) := (by first | rfl | (rw [len8 (by omega)]; omega) | (rw [len8 (by omega)])); have hE := congrArg (fun (q1 : Int) => (dv (.int .i64 q1) : AV)) e1; exact hE) rfl rfl rfl rfl rfl trivial
    · refine T.condF (by kernel_rfl) (decide_eq_false hq2) ?_
      refine T.skip ?_
      refine nT ?_
      refine T.seq ?_
      refine T.seq ?_
      refine xR [] (by kernel_rfl) (by kernel_rfl) ?_
      refine nT ?_
      by_cases hq4 : ((x / 2 ^ 32 : Nat) : Int) ≥ 256
      · have hd8 := lenN_div (x := x / 2 ^ 32) (s := 8) (by omega)
        refine T.condT (by kernel_rfl) (decide_eq_true hq4) ?_
        refine T.seq ?_
        refine xR [hR 1 rfl rfl (r_bin (u1 := .int .u64 ((x / 2 ^ 32 : Nat) : Int)) (u2 := .int .u64 8) (v := .int .u64 (((x / 2 ^ 32) / 2 ^ 8 : Nat) : Int)) (b_shrN (n := 8) rfl (Nat.le_trans (by first | assumption | omega | (unfold maxLen; omega) | (simp [maxLen, -List.getD_eq_getElem?_getD] <;> omega) | decide) (by decide : 64 ≤ _))) (lt_of rfl) ⟨rfl, trivial⟩)] (by kernel_rfl) (by kernel_rfl) ?_
        refine nT ?_
        refine xR [hR 1 rfl rfl (r_bin (u1 := .int .i64 32) (u2 := .int .i64 8) (v := .int .i64 40) (b_add (by rw [IntKind.wrap_i64]; omega)) (lt_of rfl) ⟨rfl, trivial⟩)] (by kernel_rfl) (by kernel_rfl) ?_
        refine nT ?_
        refine T.seq ?_
        refine xR [hR 2 rfl rfl (r_conv (u := .int .u64 (((x / 2 ^ 32) / 2 ^ 8 : Nat) : Int)) (v := .int .u8 (((UInt8.ofNat ((x / 2 ^ 32) / 2 ^ 8)).toNat : Nat) : Int)) (c_byte Try.underlying113 Try.underlying5) (lt_of rfl) trivial),
          hR 3 rfl rfl (r_indexStr (k := .u8) (l := len8Tab) (m := (UInt8.ofNat ((x / 2 ^ 32) / 2 ^ 8)).toNat) (b := (len8Tab.getD (UInt8.ofNat ((x / 2 ^ 32) / 2 ^ 8)).toNat 0)) (i := (((UInt8.ofNat ((x / 2 ^ 32) / 2 ^ 8)).toNat : Nat) : Int)) Try.underlying9 rfl (by rw [len8_len]; exact UInt8.toNat_lt _) rfl (lt_of rfl) ⟨rfl, trivial⟩),
          hR 4 rfl rfl (r_conv (u := .int .u8 (((len8Tab.getD (UInt8.ofNat ((x / 2 ^ 32) / 2 ^ 8)).toNat 0).toNat : Nat) : Int)) (v := .int .i64 (((len8Tab.getD (UInt8.ofNat ((x / 2 ^ 32) / 2 ^ 8)).toNat 0).toNat : Nat) : Int)) (c_int Try.underlying5 Try.underlying3 (by have h9 := UInt8.toNat_lt (len8Tab.getD (UInt8.ofNat ((x / 2 ^ 32) / 2 ^ 8)).toNat 0); rw [IntKind.wrap_i64]; omega)) (lt_of rfl) trivial),
          hR 5 rfl rfl (r_bin (u1 := .int .i64 40) (u2 := .int .i64 (((len8Tab.getD (UInt8.ofNat ((x / 2 ^ 32) / 2 ^ 8)).toNat 0).toNat : Nat) : Int)) (v := .int .i64 ((40 + (len8Tab.getD (UInt8.ofNat ((x / 2 ^ 32) / 2 ^ 8)).toNat 0).toNat : Nat) : Int)) (b_add (by have h9 := UInt8.toNat_lt (len8Tab.getD (UInt8.ofNat ((x / 2 ^ 32) / 2 ^ 8)).toNat 0); rw [IntKind.wrap_i64]; omega)) (lt_of rfl) trivial)] (by kernel_rfl) (by kernel_rfl) ?_
        refine nT ?_
        refine T.ret ?_
        exact tE (.inl rfl) [.t 2 (.one (.d (.val (.int .i64 ((40 + (len8Tab.getD (UInt8.ofNat ((x / 2 ^ 32) / 2 ^ 8)).toNat 0).toNat : Nat) : Int)))))] ⟨⟨rfl, by kernel_rfl⟩, trivial⟩ [] (by have e1 : (((lenN x : Nat) : Int) : Int) = ((40 + (len8Tab.getD (UInt8.ofNat ((x / 2 ^ 32) / 2 ^ 8)).toNat 0).toNat : Nat) : Int) := (by first | rfl | (rw [len8 (by omega)]; omega) | (rw [len8 (by omega)])); have hE := congrArg (fun (q1 : Int) => (dv (.int .i64 q1) : AV)) e1; exact hE) rfl rfl rfl rfl rfl trivial
      · refine T.condF (by kernel_rfl) (decide_eq_false hq4) ?_
        refine T.skip ?_
        refine nT ?_
        refine T.seq ?_
        refine xR [hR 2 rfl rfl (r_conv (u := .int .u64 ((x / 2 ^ 32 : Nat) : Int)) (v := .int .u8 (((UInt8.ofNat (x / 2 ^ 32)).toNat : Nat) : Int)) (c_byte Try.underlying113 Try.underlying5) (lt_of rfl) trivial),
          hR 3 rfl rfl (r_indexStr (k := .u8) (l := len8Tab) (m := (UInt8.ofNat (x / 2 ^ 32)).toNat) (b := (len8Tab.getD (UInt8.ofNat (x / 2 ^ 32)).toNat 0)) (i := (((UInt8.ofNat (x / 2 ^ 32)).toNat : Nat) : Int)) Try.underlying9 rfl (by rw [len8_len]; exact UInt8.toNat_lt _) rfl (lt_of rfl) ⟨rfl, trivial⟩),
          hR 4 rfl rfl (r_conv (u := .int .u8 (((len8Tab.getD (UInt8.ofNat (x / 2 ^ 32)).toNat 0).toNat : Nat) : Int)) (v := .int .i64 (((len8Tab.getD (UInt8.ofNat (x / 2 ^ 32)).toNat 0).toNat : Nat) : Int)) (c_int Try.underlying5 Try.underlying3 (by have h9 := UInt8.toNat_lt (len8Tab.getD (UInt8.ofNat (x / 2 ^ 32)).toNat 0); rw [IntKind.wrap_i64]; omega)) (lt_of rfl) trivial),
          hR 5 rfl rfl (r_bin (u1 := .int .i64 32) (u2 := .int .i64 (((len8Tab.getD (UInt8.ofNat (x / 2 ^ 32)).toNat 0).toNat : Nat) : Int)) (v := .int .i64 ((32 + (len8Tab.getD (UInt8.ofNat (x / 2 ^ 32)).toNat 0).toNat : Nat) : Int)) (b_add (by have h9 := UInt8.toNat_lt (len8Tab.getD (UInt8.ofNat (x / 2 ^ 32)).toNat 0); rw [IntKind.wrap_i64]; omega)) (lt_of rfl) trivial)] (by kernel_rfl) (by kernel_rfl) ?_
        refine nT ?_
        refine T.ret ?_
        exact tE (.inl rfl) [.t 2 (.one (.d (.val (.int .i64 ((32 + (len8Tab.getD (UInt8.ofNat (x / 2 ^ 32)).toNat 0).toNat : Nat) : Int)))))] ⟨⟨rfl, by kernel_rfl⟩, trivial⟩ [] (by have e1 : (((lenN x : Nat) : Int) : Int) = ((32 + (len8Tab.getD (UInt8.ofNat (x / 2 ^ 32)).toNat 0).toNat : Nat) : Int) := (by first | rfl | (rw [len8 (by omega)]; omega) | (rw [len8 (by omega)])); have hE := congrArg (fun (q1 : Int) => (dv (.int .i64 q1) : AV)) e1; exact hE) rfl rfl rfl rfl rfl trivial
  · refine T.condF (by kernel_rfl) (decide_eq_false hq1) ?_
    refine T.skip ?_
    refine nT ?_
    refine T.seq ?_
    refine T.seq ?_
    refine xR [] (by kernel_rfl) (by kernel_rfl) ?_
    refine nT ?_
    by_cases hq5 : ((x : Nat) : Int) ≥ 65536
    · have hd16 := lenN_div (x := x) (s := 16) (by omega)
      refine T.condT (by kernel_rfl) (decide_eq_true hq5) ?_
      refine T.seq ?_
      refine xR [hR 1 rfl rfl (r_bin (u1 := .int .u64 ((x : Nat) : Int)) (u2 := .int .u64 16) (v := .int .u64 ((x / 2 ^ 16 : Nat) : Int)) (b_shrN (n := 16) rfl (Nat.le_trans (by first | assumption | omega | (unfold maxLen; omega) | (simp [maxLen, -List.getD_eq_getElem?_getD] <;> omega) | decide) (by decide : 64 ≤ _))) (lt_of rfl) ⟨rfl, trivial⟩)] (by kernel_rfl) (by kernel_rfl) ?_
      refine nT ?_
      refine xR [hR 1 rfl rfl (r_bin (u1 := .int .i64 0) (u2 := .int .i64 16) (v := .int .i64 16) (b_add (by rw [IntKind.wrap_i64]; omega)) (lt_of rfl) ⟨rfl, trivial⟩)] (by kernel_rfl) (by kernel_rfl) ?_
      refine nT ?_
      refine T.seq ?_
      refine T.seq ?_
      refine xR [] (by kernel_rfl) (by kernel_rfl) ?_
      refine nT ?_
      by_cases hq6 : ((x / 2 ^ 16 : Nat) : Int) ≥ 256
      · have hd8 := lenN_div (x := x / 2 ^ 16) (s := 8) (by omega)
        refine T.condT (by kernel_rfl) (decide_eq_true hq6) ?_
        refine T.seq ?_
        refine xR [hR 1 rfl rfl (r_bin (u1 := .int .u64 ((x / 2 ^ 16 : Nat) : Int)) (u2 := .int .u64 8) (v := .int .u64 (((x / 2 ^ 16) / 2 ^ 8 : Nat) : Int)) (b_shrN (n := 8) rfl (Nat.le_trans (by first | assumption | omega | (unfold maxLen; omega) | (simp [maxLen, -List.getD_eq_getElem?_getD] <;> omega) | decide) (by decide : 64 ≤ _))) (lt_of rfl) ⟨rfl, trivial⟩)] (by kernel_rfl) (by kernel_rfl) ?_
        refine nT ?_
        refine xR [hR 1 rfl rfl (r_bin (u1 := .int .i64 16) (u2 := .int .i64 8) (v := .int .i64 24) (b_add (by rw [IntKind.wrap_i64]; omega)) (lt_of rfl) ⟨rfl, trivial⟩)] (by kernel_rfl) (by kernel_rfl) ?_
        refine nT ?_
        refine T.seq ?_
        refine xR [hR 2 rfl rfl (r_conv (u := .int .u64 (((x / 2 ^ 16) / 2 ^ 8 : Nat) : Int)) (v := .int .u8 (((UInt8.ofNat ((x / 2 ^ 16) / 2 ^ 8)).toNat : Nat) : Int)) (c_byte Try.underlying113 Try.underlying5) (lt_of rfl) trivial),
          hR 3 rfl rfl (r_indexStr (k := .u8) (l := len8Tab) (m := (UInt8.ofNat ((x / 2 ^ 16) / 2 ^ 8)).toNat) (b := (len8Tab.getD (UInt8.ofNat ((x / 2 ^ 16) / 2 ^ 8)).toNat 0)) (i := (((UInt8.ofNat ((x / 2 ^ 16) / 2 ^ 8)).toNat : Nat) : Int)) Try.underlying9 rfl (by rw [len8_len]; exact UInt8.toNat_lt _) rfl (lt_of rfl) ⟨rfl, trivial⟩),
          hR 4 rfl rfl (r_conv (u := .int .u8 (((len8Tab.getD (UInt8.ofNat ((x / 2 ^ 16) / 2 ^ 8)).toNat 0).toNat : Nat) : Int)) (v := .int .i64 (((len8Tab.getD (UInt8.ofNat ((x / 2 ^ 16) / 2 ^ 8)).toNat 0).toNat : Nat) : Int)) (c_int Try.underlying5 Try.underlying3 (by have h9 := UInt8.toNat_lt (len8Tab.getD (UInt8.ofNat ((x / 2 ^ 16) / 2 ^ 8)).toNat 0); rw [IntKind.wrap_i64]; omega)) (lt_of rfl) trivial),
          hR 5 rfl rfl (r_bin (u1 := .int .i64 24) (u2 := .int .i64 (((len8Tab.getD (UInt8.ofNat ((x / 2 ^ 16) / 2 ^ 8)).toNat 0).toNat : Nat) : Int)) (v := .int .i64 ((24 + (len8Tab.getD (UInt8.ofNat ((x / 2 ^ 16) / 2 ^ 8)).toNat 0).toNat : Nat) : Int)) (b_add (by have h9 := UInt8.toNat_lt (len8Tab.getD (UInt8.ofNat ((x / 2 ^ 16) / 2 ^ 8)).toNat 0); rw [IntKind.wrap_i64]; omega)) (lt_of rfl) trivial)] (by kernel_rfl) (by kernel_rfl) ?_
        refine nT ?_
        refine T.ret ?_
        exact tE (.inl rfl) [.t 2 (.one (.d (.val (.int .i64 ((24 + (len8Tab.getD (UInt8.ofNat ((x / 2 ^ 16) / 2 ^ 8)).toNat 0).toNat : Nat) : Int)))))] ⟨⟨rfl, by kernel_rfl⟩, trivial⟩ [] (by have e1 : (((lenN x : Nat) : Int) : Int) = ((24 + (len8Tab.getD (UInt8.ofNat ((x / 2 ^ 16) / 2 ^ 8)).toNat 0).toNat : Nat) : Int) := (by first | rfl | (rw [len8 (by omega)]; omega) | (rw [len8 (by omega)])); have hE := congrArg (fun (q1 : Int) => (dv (.int .i64 q1) : AV)) e1; exact hE) rfl rfl rfl rfl rfl trivial
      · refine T.condF (by kernel_rfl) (decide_eq_false hq6) ?_
        refine T.skip ?_
        refine nT ?_
        refine T.seq ?_
        refine xR [hR 2 rfl rfl (r_conv (u := .int .u64 ((x / 2 ^ 16 : Nat) : Int)) (v := .int .u8 (((UInt8.ofNat (x / 2 ^ 16)).toNat : Nat) : Int)) (c_byte Try.underlying113 Try.underlying5) (lt_of rfl) trivial),
          hR 3 rfl rfl (r_indexStr (k := .u8) (l := len8Tab) (m := (UInt8.ofNat (x / 2 ^ 16)).toNat) (b := (len8Tab.getD (UInt8.ofNat (x / 2 ^ 16)).toNat 0)) (i := (((UInt8.ofNat (x / 2 ^ 16)).toNat : Nat) : Int)) Try.underlying9 rfl (by rw [len8_len]; exact UInt8.toNat_lt _) rfl (lt_of rfl) ⟨rfl, trivial⟩),
          hR 4 rfl rfl (r_conv (u := .int .u8 (((len8Tab.getD (UInt8.ofNat (x / 2 ^ 16)).toNat 0).toNat : Nat) : Int)) (v := .int .i64 (((len8Tab.getD (UInt8.ofNat (x / 2 ^ 16)).toNat 0).toNat : Nat) : Int)) (c_int Try.underlying5 Try.underlying3 (by have h9 := UInt8.toNat_lt (len8Tab.getD (UInt8.ofNat (x / 2 ^ 16)).toNat 0); rw [IntKind.wrap_i64]; omega)) (lt_of rfl) trivial),
          hR 5 rfl rfl (r_bin (u1 := .int .i64 16) (u2 := .int .i64 (((len8Tab.getD (UInt8.ofNat (x / 2 ^ 16)).toNat 0).toNat : Nat) : Int)) (v := .int .i64 ((16 + (len8Tab.getD (UInt8.ofNat (x / 2 ^ 16)).toNat 0).toNat : Nat) : Int)) (b_add (by have h9 := UInt8.toNat_lt (len8Tab.getD (UInt8.ofNat (x / 2 ^ 16)).toNat 0); rw [IntKind.wrap_i64]; omega)) (lt_of rfl) trivial)] (by kernel_rfl) (by kernel_rfl) ?_
        refine nT ?_
        refine T.ret ?_
        exact tE (.inl rfl) [.t 2 (.one (.d (.val (.int .i64 ((16 + (len8Tab.getD (UInt8.ofNat (x / 2 ^ 16)).toNat 0).toNat : Nat) : Int)))))] ⟨⟨rfl, by kernel_rfl⟩, trivial⟩ [] (by have e1 : (((lenN x : Nat) : Int) : Int) = ((16 + (len8Tab.getD (UInt8.ofNat (x / 2 ^ 16)).toNat 0).toNat : Nat) : Int) := (by first | rfl | (rw [len8 (by omega)]; omega) | (rw [len8 (by omega)])); have hE := congrArg (fun (q1 : Int) => (dv (.int .i64 q1) : AV)) e1; exact hE) rfl rfl rfl rfl rfl trivial
    · refine T.condF (by kernel_rfl) (decide_eq_false hq5) ?_
      refine T.skip ?_
      refine nT ?_
      refine T.seq ?_
      refine T.seq ?_
      refine xR [] (by kernel_rfl) (by kernel_rfl) ?_
      refine nT ?_
      by_cases hq7 : ((x : Nat) : Int) ≥ 256
      · have hd8 := lenN_div (x := x) (s := 8) (by omega)
        refine T.condT (by kernel_rfl) (decide_eq_true hq7) ?_
        refine T.seq ?_
        refine xR [hR 1 rfl rfl (r_bin (u1 := .int .u64 ((x : Nat) : Int)) (u2 := .int .u64 8) (v := .int .u64 ((x / 2 ^ 8 : Nat) : Int)) (b_shrN (n := 8) rfl (Nat.le_trans (by first | assumption | omega | (unfold maxLen; omega) | (simp [maxLen, -List.getD_eq_getElem?_getD] <;> omega) | decide) (by decide : 64 ≤ _))) (lt_of rfl) ⟨rfl, trivial⟩)] (by kernel_rfl) (by kernel_rfl) ?_
        refine nT ?_
        refine xR [hR 1 rfl rfl (r_bin (u1 := .int .i64 0) (u2 := .int .i64 8) (v := .int .i64 8) (b_add (by rw [IntKind.wrap_i64]; omega)) (lt_of rfl) ⟨rfl, trivial⟩)] (by kernel_rfl) (by kernel_rfl) ?_
        refine nT ?_
        refine T.seq ?_
        refine xR [hR 2 rfl rfl (r_conv (u := .int .u64 ((x / 2 ^ 8 : Nat) : Int)) (v := .int .u8 (((UInt8.ofNat (x / 2 ^ 8)).toNat : Nat) : Int)) (c_byte Try.underlying113 Try.underlying5) (lt_of rfl) trivial),
          hR 3 rfl rfl (r_indexStr (k := .u8) (l := len8Tab) (m := (UInt8.ofNat (x / 2 ^ 8)).toNat) (b := (len8Tab.getD (UInt8.ofNat (x / 2 ^ 8)).toNat 0)) (i := (((UInt8.ofNat (x / 2 ^ 8)).toNat : Nat) : Int)) Try.underlying9 rfl (by rw [len8_len]; exact UInt8.toNat_lt _) rfl (lt_of rfl) ⟨rfl, trivial⟩),
          hR 4 rfl rfl (r_conv (u := .int .u8 (((len8Tab.getD (UInt8.ofNat (x / 2 ^ 8)).toNat 0).toNat : Nat) : Int)) (v := .int .i64 (((len8Tab.getD (UInt8.ofNat (x / 2 ^ 8)).toNat 0).toNat : Nat) : Int)) (c_int Try.underlying5 Try.underlying3 (by have h9 := UInt8.toNat_lt (len8Tab.getD (UInt8.ofNat (x / 2 ^ 8)).toNat 0); rw [IntKind.wrap_i64]; omega)) (lt_of rfl) trivial),
          hR 5 rfl rfl (r_bin (u1 := .int .i64 8) (u2 := .int .i64 (((len8Tab.getD (UInt8.ofNat (x / 2 ^ 8)).toNat 0).toNat : Nat) : Int)) (v := .int .i64 ((8 + (len8Tab.getD (UInt8.ofNat (x / 2 ^ 8)).toNat 0).toNat : Nat) : Int)) (b_add (by have h9 := UInt8.toNat_lt (len8Tab.getD (UInt8.ofNat (x / 2 ^ 8)).toNat 0); rw [IntKind.wrap_i64]; omega)) (lt_of rfl) trivial)] (by kernel_rfl) (by kernel_rfl) ?_
        refine nT ?_
        refine T.ret ?_
        exact tE (.inl rfl) [.t 2 (.one (.d (.val (.int .i64 ((8 + (len8Tab.getD (UInt8.ofNat (x / 2 ^ 8)).toNat 0).toNat : Nat) : Int)))))] ⟨⟨rfl, by kernel_rfl⟩, trivial⟩ [] (by have e1 : (((lenN x : Nat) : Int) : Int) = ((8 + (len8Tab.getD (UInt8.ofNat (x / 2 ^ 8)).toNat 0).toNat : Nat) : Int) := (by first | rfl | (rw [len8 (by omega)]; omega) | (rw [len8 (by omega)])); have hE := congrArg (fun (q1 : Int) => (dv (.int .i64 q1) : AV)) e1; exact hE) rfl rfl rfl rfl rfl trivial
      · refine T.condF (by kernel_rfl) (decide_eq_false hq7) ?_
        refine T.skip ?_
        refine nT ?_
        refine T.seq ?_
        refine xR [hR 2 rfl rfl (r_conv (u := .int .u64 ((x : Nat) : Int)) (v := .int .u8 (((UInt8.ofNat x).toNat : Nat) : Int)) (c_byte Try.underlying113 Try.underlying5) (lt_of rfl) trivial),
          hR 3 rfl rfl (r_indexStr (k := .u8) (l := len8Tab) (m := (UInt8.ofNat x).toNat) (b := (len8Tab.getD (UInt8.ofNat x).toNat 0)) (i := (((UInt8.ofNat x).toNat : Nat) : Int)) Try.underlying9 rfl (by rw [len8_len]; exact UInt8.toNat_lt _) rfl (lt_of rfl) ⟨rfl, trivial⟩),
          hR 4 rfl rfl (r_conv (u := .int .u8 (((len8Tab.getD (UInt8.ofNat x).toNat 0).toNat : Nat) : Int)) (v := .int .i64 (((len8Tab.getD (UInt8.ofNat x).toNat 0).toNat : Nat) : Int)) (c_int Try.underlying5 Try.underlying3 (by have h9 := UInt8.toNat_lt (len8Tab.getD (UInt8.ofNat x).toNat 0); rw [IntKind.wrap_i64]; omega)) (lt_of rfl) trivial),
          hR 5 rfl rfl (r_bin (u1 := .int .i64 0) (u2 := .int .i64 (((len8Tab.getD (UInt8.ofNat x).toNat 0).toNat : Nat) : Int)) (v := .int .i64 ((0 + (len8Tab.getD (UInt8.ofNat x).toNat 0).toNat : Nat) : Int)) (b_add (by have h9 := UInt8.toNat_lt (len8Tab.getD (UInt8.ofNat x).toNat 0); rw [IntKind.wrap_i64]; omega)) (lt_of rfl) trivial)] (by kernel_rfl) (by kernel_rfl) ?_
        refine nT ?_
        refine T.ret ?_
        exact tE (.inl rfl) [.t 2 (.one (.d (.val (.int .i64 ((0 + (len8Tab.getD (UInt8.ofNat x).toNat 0).toNat : Nat) : Int)))))] ⟨⟨rfl, by kernel_rfl⟩, trivial⟩ [] (by have e1 : (((lenN x : Nat) : Int) : Int) = ((0 + (len8Tab.getD (UInt8.ofNat x).toNat 0).toNat : Nat) : Int) := (by first | rfl | (rw [len8 (by omega)]; omega) | (rw [len8 (by omega)])); have hE := congrArg (fun (q1 : Int) => (dv (.int .i64 q1) : AV)) e1; exact hE) rfl rfl rfl rfl rfl trivial

-- math/bits.Len
theorem bits_Len (x : Nat) (hx : x < 18446744073709551616) : Holds Try.prog 91 ⟨[dv (.int .u64 ((x : Nat) : Int))], [], dv (.int .i64 ((lenN x : Nat) : Int)), []⟩ := by
  refine Holds.of Try.func91 rfl (N := 8) Try.ntmps91 rfl fun w0 B0 S0 U0 => ?_
  show T _ (mkBase 8 0 w0 S0 U0 B0) ⟨[dv (.int .u64 ((x : Nat) : Int))], []⟩ _ _
  refine T.seq ?_
  refine xR [] (by kernel_rfl) (by kernel_rfl) ?_
  refine nT ?_
  refine T.seq ?_
  refine T.condF (b := false) (by kernel_rfl) rfl ?_
  refine T.skip ?_
  refine nT ?_
  refine T.seq ?_
  refine xR [hR 1 rfl rfl (r_call (bits_Len64 x (by first | assumption | omega | (unfold maxLen; omega) | (simp [maxLen, -List.getD_eq_getElem?_getD] <;> omega) | decide)) Try.func96 rfl (by decide) [] [] (l := [(.tmp 6, dv (.int .u64 ((x : Nat) : Int)))]) [] rfl 0 0 rfl rfl rfl rfl rfl rfl rfl rfl rfl ⟨.inl ⟨rfl, rfl⟩, trivial⟩ rfl (fun b hb => by cases hb) (.inl rfl) (lt_of rfl) trivial)] (by kernel_rfl) (by kernel_rfl) ?_
  refine nT ?_
  refine T.ret ?_
  exact tE (.inl rfl) [.t 2 (.one (.d (.val (.int .i64 ((lenN x : Nat) : Int)))))] ⟨⟨rfl, by kernel_rfl⟩, trivial⟩ [] rfl rfl rfl rfl rfl rfl trivial

-- quaestor/merkle.split
theorem merkle_split (n : Nat) (h2 : 2 ≤ n) (hn : n ≤ 9223372036854775807) : Holds Try.prog 85 ⟨[dv (.int .i64 ((n : Nat) : Int))], [], dv (.int .i64 ((half n : Nat) : Int)), []⟩ := by
  refine Holds.of Try.func85 rfl (N := 9) Try.ntmps85 rfl fun w0 B0 S0 U0 => ?_
  show T _ (mkBase 9 0 w0 S0 U0 B0) ⟨[dv (.int .i64 ((n : Nat) : Int))], []⟩ _ _
  have hlg := log_le hn h2
  refine T.seq ?_
  refine xR [] (by kernel_rfl) (by kernel_rfl) ?_
  refine nT ?_
  refine T.seq ?_
  refine xR [hR 1 rfl rfl (r_bin (u1 := .int .i64 ((n : Nat) : Int)) (u2 := .int .i64 1) (v := .int .i64 ((n - 1 : Nat) : Int)) (b_sub (by rw [IntKind.wrap_i64]; omega)) (lt_of rfl) ⟨rfl, trivial⟩),
    hR 2 rfl rfl (r_conv (u := .int .i64 ((n - 1 : Nat) : Int)) (v := .int .u64 ((n - 1 : Nat) : Int)) (c_int Try.underlying3 Try.underlying125 (by first | rfl | (rw [IntKind.wrap_u64]; omega))) (lt_of rfl) trivial),
    hR 3 rfl rfl (r_call (bits_Len (n - 1) (by first | assumption | omega | (unfold maxLen; omega) | (simp [maxLen, -List.getD_eq_getElem?_getD] <;> omega) | decide)) Try.func91 rfl (by decide) [] [] (l := [(.tmp 5, dv (.int .u64 ((n - 1 : Nat) : Int)))]) [] rfl 0 0 rfl rfl rfl rfl rfl rfl rfl rfl rfl ⟨.inl ⟨rfl, rfl⟩, trivial⟩ rfl (fun b hb => by cases hb) (.inl rfl) (lt_of rfl) trivial),
    hR 4 rfl rfl (r_bin (u1 := .int .i64 ((lenN (n - 1) : Nat) : Int)) (u2 := .int .i64 1) (v := .int .i64 ((Nat.log2 (n - 1) : Nat) : Int)) (b_sub (by rw [lenN_pos (by omega), IntKind.wrap_i64]; omega)) (lt_of rfl) ⟨rfl, trivial⟩),
    hR 5 rfl rfl (r_bin (u1 := .int .i64 1) (u2 := .int .i64 ((Nat.log2 (n - 1) : Nat) : Int)) (v := .int .i64 ((half n : Nat) : Int)) (b_shl (n := Nat.log2 (n - 1)) rfl (Nat.le_trans hlg (by decide)) (shl_half hn h2)) (lt_of rfl) ⟨rfl, trivial⟩)] (by kernel_rfl) (by kernel_rfl) ?_
  refine nT ?_
  refine T.ret ?_
  exact tE (.inl rfl) [.t 2 (.one (.d (.val (.int .i64 ((half n : Nat) : Int)))))] ⟨⟨rfl, by kernel_rfl⟩, trivial⟩ [] rfl rfl rfl rfl rfl rfl trivial
end Go.Proofs.Ytdclfhahcfefeaa.Q
