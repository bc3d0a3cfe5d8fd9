import Derived.Test.YtdclfhahcfefeaaC11n2
namespace Go.Proofs.Ytdclfhahcfefeaa.Q
open Go Go.RowKit
set_option linter.unusedVariables false
set_option linter.unusedSimpArgs false
set_option maxRecDepth 100000
set_option maxHeartbeats 4000000
-- math/bits.Len64
theorem bits_Len64 (x : Nat) (hx : x < 18446744073709551616) : Holds Try.prog 96 ⟨[dv (.int .u64 ((x : Nat) : Int))], [], dv (.int .i64 ((lenN x : Nat) : Int)), []⟩ := by
  refine Holds.of Try.func96 rfl (N := 25) Try.ntmps96 rfl fun w0 B0 S0 U0 => ?_
  show T _ (mkBase 25 0 w0 S0 U0 B0) ⟨[dv (.int .u64 ((x : Nat) : Int))], []⟩ _ _
  have hb8 := fun (y : Nat) => UInt8.toNat_lt (len8Tab.getD (UInt8.ofNat y).toNat 0)
  refine T.seq ?_
  refine xR [] (by kernel_rfl) (by kernel_rfl) ?_
  refine nT ?_
  refine T.seq ?_
  refine T.seq ?_
  refine xR [] (by kernel_rfl) (by kernel_rfl) ?_
  refine nT ?_
  by_cases hq1 : ((x : Nat) : Int) ≥ 4294967296
  · have hd32 := lenN_div (x := x) (s := 32) (by omega)
    refine T.condT (by kernel_rfl) (decide_eq_true hq1) ?_
    refine T.seq ?_
    refine xR [hR 1 rfl rfl (r_bin (u1 := .int .u64 ((x : Nat) : Int)) (u2 := .int .u64 32) (v := .int .u64 ((x / 2 ^ 32 : Nat) : Int)) (b_shrN (n := 32) rfl (Nat.le_trans (by first | assumption | omega | (unfold maxLen; omega) | (simp [maxLen, -List.getD_eq_getElem?_getD] <;> omega) | decide) (by decide : 64 ≤ _))) (lt_of rfl) ⟨rfl, trivial⟩)] (by kernel_rfl) (by kernel_rfl) ?_
    refine nT ?_
    refine xR [] (by kernel_rfl) (by kernel_rfl) ?_
    refine nT ?_
    refine T.seq ?_
    refine T.seq ?_
    refine xR [] (by kernel_rfl) (by kernel_rfl) ?_
    refine nT ?_
    by_cases hq2 : ((x / 2 ^ 32 : Nat) : Int) ≥ 65536
    · have hd16 := lenN_div (x := x / 2 ^ 32) (s := 16) (by omega)
      refine T.condT (by kernel_rfl) (decide_eq_true hq2) ?_
      refine T.seq ?_
      refine xR [hR 1 rfl rfl (r_bin (u1 := .int .u64 ((x / 2 ^ 32 : Nat) : Int)) (u2 := .int .u64 16) (v := .int .u64 (((x / 2 ^ 32) / 2 ^ 16 : Nat) : Int)) (b_shrN (n := 16) rfl (Nat.le_trans (by first | assumption | omega | (unfold maxLen; omega) | (simp [maxLen, -List.getD_eq_getElem?_getD] <;> omega) | decide) (by decide : 64 ≤ _))) (lt_of rfl) ⟨rfl, trivial⟩)] (by kernel_rfl) (by kernel_rfl) ?_
      refine nT ?_
      refine xR [hR 1 rfl rfl (r_bin (u1 := .int .i64 32) (u2 := .int .i64 16) (v := .int .i64 48) (b_add (by rw [IntKind.wrap_i64]; omega)) (lt_of rfl) ⟨rfl, trivial⟩)] (by kernel_rfl) (by kernel_rfl) ?_
      refine nT ?_
      refine T.seq ?_
      refine T.seq ?_
      refine xR [] (by kernel_rfl) (by kernel_rfl) ?_
      refine nT ?_
      by_cases hq3 : (((x / 2 ^ 32) / 2 ^ 16 : Nat) : Int) ≥ 256
      · have hd8 := lenN_div (x := (x / 2 ^ 32) / 2 ^ 16) (s := 8) (by omega)
        refine T.condT (by kernel_rfl) (decide_eq_true hq3) ?_
        refine T.seq ?_
        refine xR [hR 1 rfl rfl (r_bin (u1 := .int .u64 (((x / 2 ^ 32) / 2 ^ 16 : Nat) : Int)) (u2 := .int .u64 8) (v := .int .u64 ((((x / 2 ^ 32) / 2 ^ 16) / 2 ^ 8 : Nat) : Int)) (b_shrN (n := 8) rfl (Nat.le_trans (by first | assumption | omega | (unfold maxLen; omega) | (simp [maxLen, -List.getD_eq_getElem?_getD] <;> omega) | decide) (by decide : 64 ≤ _))) (lt_of rfl) ⟨rfl, trivial⟩)] (by kernel_rfl) (by kernel_rfl) ?_
        refine nT ?_
        refine xR [hR 1 rfl rfl (r_bin (u1 := .int .i64 48) (u2 := .int .i64 8) (v := .int .i64 56) (b_add (by rw [IntKind.wrap_i64]; omega)) (lt_of rfl) ⟨rfl, trivial⟩)] (by kernel_rfl) (by kernel_rfl) ?_
        refine nT ?_
        refine T.seq ?_
        refine xR [hR 2 rfl rfl (r_conv (u := .int .u64 ((((x / 2 ^ 32) / 2 ^ 16) / 2 ^ 8 : Nat) : Int)) (v := .int .u8 (((UInt8.ofNat (((x / 2 ^ 32) / 2 ^ 16) / 2 ^ 8)).toNat : Nat) : Int)) (c_byte Try.underlying113 Try.underlying5) (lt_of rfl) trivial),
          hR 3 rfl rfl (r_indexStr (k := .u8) (l := len8Tab) (m := (UInt8.ofNat (((x / 2 ^ 32) / 2 ^ 16) / 2 ^ 8)).toNat) (b := (len8Tab.getD (UInt8.ofNat (((x / 2 ^ 32) / 2 ^ 16) / 2 ^ 8)).toNat 0)) (i := (((UInt8.ofNat (((x / 2 ^ 32) / 2 ^ 16) / 2 ^ 8)).toNat : Nat) : Int)) Try.underlying9 rfl (by rw [len8_len]; exact UInt8.toNat_lt _) rfl (lt_of rfl) ⟨rfl, trivial⟩),
          hR 4 rfl rfl (r_conv (u := .int .u8 (((len8Tab.getD (UInt8.ofNat (((x / 2 ^ 32) / 2 ^ 16) / 2 ^ 8)).toNat 0).toNat : Nat) : Int)) (v := .int .i64 (((len8Tab.getD (UInt8.ofNat (((x / 2 ^ 32) / 2 ^ 16) / 2 ^ 8)).toNat 0).toNat : Nat) : Int)) (c_int Try.underlying5 Try.underlying3 (by have h9 := UInt8.toNat_lt (len8Tab.getD (UInt8.ofNat (((x / 2 ^ 32) / 2 ^ 16) / 2 ^ 8)).toNat 0); rw [IntKind.wrap_i64]; omega)) (lt_of rfl) trivial),
          hR 5 rfl rfl (r_bin (u1 := .int .i64 56) (u2 := .int .i64 (((len8Tab.getD (UInt8.ofNat (((x / 2 ^ 32) / 2 ^ 16) / 2 ^ 8)).toNat 0).toNat : Nat) : Int)) (v := .int .i64 ((56 + (len8Tab.getD (UInt8.ofNat (((x / 2 ^ 32) / 2 ^ 16) / 2 ^ 8)).toNat 0).toNat : Nat) : Int)) (b_add (by have h9 := UInt8.toNat_lt (len8Tab.getD (UInt8.ofNat (((x / 2 ^ 32) / 2 ^ 16) / 2 ^ 8)).toNat 0); rw [IntKind.wrap_i64]; omega)) (lt_of rfl) trivial)] (by kernel_rfl) (by kernel_rfl) ?_
        refine nT ?_
        refine T.ret ?_
        exact tE (.inl rfl) [.t 2 (.one (.d (.val (.int .i64 ((56 + (len8Tab.getD (UInt8.ofNat (((x / 2 ^ 32) / 2 ^ 16) / 2 ^ 8)).toNat 0).toNat : Nat) : Int)))))] ⟨⟨rfl, by kernel_rfl⟩, trivial⟩ [] (by have e1 : (((lenN x : Nat) : Int) : Int) = ((56 + (len8Tab.getD (UInt8.ofNat (((x / 2 ^ 32) / 2 ^ 16) / 2 ^ 8)).toNat 0).toNat : Nat) : Int) := (by first | rfl | (rw [len8 (by omega)]; omega) | (rw [len8 (by omega)])); have hE := congrArg (fun (q1 : Int) => (dv (.int .i64 q1) : AV)) e1; exact hE) rfl rfl rfl rfl rfl trivial
      · refine T.condF (by kernel_rfl) (decide_eq_false hq3) ?_
        refine T.skip ?_
        refine nT ?_
        refine T.seq ?_
        refine xR [hR 2 rfl rfl (r_conv (u := .int .u64 (((x / 2 ^ 32) / 2 ^ 16 : Nat) : Int)) (v := .int .u8 (((UInt8.ofNat ((x / 2 ^ 32) / 2 ^ 16)).toNat : Nat) : Int)) (c_byte Try.underlying113 Try.underlying5) (lt_of rfl) trivial),
          hR 3 rfl rfl (r_indexStr (k := .u8) (l := len8Tab) (m := (UInt8.ofNat ((x / 2 ^ 32) / 2 ^ 16)).toNat) (b := (len8Tab.getD (UInt8.ofNat ((x / 2 ^ 32) / 2 ^ 16)).toNat 0)) (i := (((UInt8.ofNat ((x / 2 ^ 32) / 2 ^ 16)).toNat : Nat) : Int)) Try.underlying9 rfl (by rw [len8_len]; exact UInt8.toNat_lt _) rfl (lt_of rfl) ⟨rfl, trivial⟩),
          hR 4 rfl rfl (r_conv (u := .int .u8 (((len8Tab.getD (UInt8.ofNat ((x / 2 ^ 32) / 2 ^ 16)).toNat 0).toNat : Nat) : Int)) (v := .int .i64 (((len8Tab.getD (UInt8.ofNat ((x / 2 ^ 32) / 2 ^ 16)).toNat 0).toNat : Nat) : Int)) (c_int Try.underlying5 Try.underlying3 (by have h9 := UInt8.toNat_lt (len8Tab.getD (UInt8.ofNat ((x / 2 ^ 32) / 2 ^ 16)).toNat 0); rw [IntKind.wrap_i64]; omega)) (lt_of rfl) trivial),
          hR 5 rfl rfl (r_bin (u1 := .int .i64 48) (u2 := .int .i64 (((len8Tab.getD (UInt8.ofNat ((x / 2 ^ 32) / 2 ^ 16)).toNat 0).toNat : Nat) : Int)) (v := .int .i64 ((48 + (len8Tab.getD (UInt8.ofNat ((x / 2 ^ 32) / 2 ^ 16)).toNat 0).toNat : Nat) : Int)) (b_add (by have h9 := UInt8.toNat_lt (len8Tab.getD (UInt8.ofNat ((x / 2 ^ 32) / 2 ^ 16)).toNat 0); rw [IntKind.wrap_i64]; omega)) (lt_of rfl) trivial)] (by kernel_rfl) (by kernel_rfl) ?_
        refine nT ?_
        refine T.ret ?_
        exact tE (.inl rfl) [.t 2 (.one (.d (.val (.int .i64 ((48 + (len8Tab.getD (UInt8.ofNat ((x / 2 ^ 32) / 2 ^ 16)).toNat 0).toNat : Nat) : Int)))))] ⟨⟨rfl, by kernel_rfl⟩, trivial⟩ [] (by have e1 : (((lenN x : Nat) : Int) : Int) = ((48 + (len8Tab.getD (UInt8.ofNat ((x / 2 ^ 32) / 2 ^ 16)).toNat 0).toNat : Nat) : Int) := (by first | rfl | (rw [len8 (by omega)]; omega) | (rw [len8 (by omega)])); have hE := congrArg (fun (q1 : Int) => (dv (.int .i64 q1) : AV)) e1; exact hE) rfl rfl rfl rfl rfl trivial
    · refine T.condF (by kernel_rfl) (decide_eq_false hq2) ?_
      refine T.skip ?_
      refine nT ?_
      refine T.seq ?_
      refine T.seq ?_
      refine xR [] (by kernel_rfl) (by kernel_rfl) ?_
      refine nT ?_
      by_cases hq4 : ((x / 2 ^ 32 : Nat) : Int) ≥ 256
      · have hd8 := lenN_div (x := x / 2 ^ 32) (s := 8) (by omega)
        refine T.condT (by kernel_rfl) (decide_eq_true hq4) ?_
        refine T.seq ?_
        refine xR [hR 1 rfl rfl (r_bin (u1 := .int .u64 ((x / 2 ^ 32 : Nat) : Int)) (u2 := .int .u64 8) (v := .int .u64 (((x / 2 ^ 32) / 2 ^ 8 : Nat) : Int)) (b_shrN (n := 8) rfl (Nat.le_trans (by first | assumption | omega | (unfold maxLen; omega) | (simp [maxLen, -List.getD_eq_getElem?_getD] <;> omega) | decide) (by decide : 64 ≤ _))) (lt_of rfl) ⟨rfl, trivial⟩)] (by kernel_rfl) (by kernel_rfl) ?_
        refine nT ?_
        refine xR [hR 1 rfl rfl (r_bin (u1 := .int .i64 32) (u2 := .int .i64 8) (v := .int .i64 40) (b_add (by rw [IntKind.wrap_i64]; omega)) (lt_of rfl) ⟨rfl, trivial⟩)] (by kernel_rfl) (by kernel_rfl) ?_
        refine nT ?_
        refine T.seq ?_
        refine xR [hR 2 rfl rfl (r_conv (u := .int .u64 (((x / 2 ^ 32) / 2 ^ 8 : Nat) : Int)) (v := .int .u8 (((UInt8.ofNat ((x / 2 ^ 32) / 2 ^ 8)).toNat : Nat) : Int)) (c_byte Try.underlying113 Try.underlying5) (lt_of rfl) trivial),
          hR 3 rfl rfl (r_indexStr (k := .u8) (l := len8Tab) (m := (UInt8.ofNat ((x / 2 ^ 32) / 2 ^ 8)).toNat) (b := (len8Tab.getD (UInt8.ofNat ((x / 2 ^ 32) / 2 ^ 8)).toNat 0)) (i := (((UInt8.ofNat ((x / 2 ^ 32) / 2 ^ 8)).toNat : Nat) : Int)) Try.underlying9 rfl (by rw [len8_len]; exact UInt8.toNat_lt _) rfl (lt_of rfl) ⟨rfl, trivial⟩),
          hR 4 rfl rfl (r_conv (u := .int .u8 (((len8Tab.getD (UInt8.ofNat ((x / 2 ^ 32) / 2 ^ 8)).toNat 0).toNat : Nat) : Int)) (v := .int .i64 (((len8Tab.getD (UInt8.ofNat ((x / 2 ^ 32) / 2 ^ 8)).toNat 0).toNat : Nat) : Int)) (c_int Try.underlying5 Try.underlying3 (by have h9 := UInt8.toNat_lt (len8Tab.getD (UInt8.ofNat ((x / 2 ^ 32) / 2 ^ 8)).toNat 0); rw [IntKind.wrap_i64]; omega)) (lt_of rfl) trivial),
          hR 5 rfl rfl (r_bin (u1 := .int .i64 40) (u2 := .int .i64 (((len8Tab.getD (UInt8.ofNat ((x / 2 ^ 32) / 2 ^ 8)).toNat 0).toNat : Nat) : Int)) (v := .int .i64 ((40 + (len8Tab.getD (UInt8.ofNat ((x / 2 ^ 32) / 2 ^ 8)).toNat 0).toNat : Nat) : Int)) (b_add (by have h9 := UInt8.toNat_lt (len8Tab.getD (UInt8.ofNat ((x / 2 ^ 32) / 2 ^ 8)).toNat 0); rw [IntKind.wrap_i64]; omega)) (lt_of rfl) trivial)] (by kernel_rfl) (by kernel_rfl) ?_
        refine nT ?_
        refine T.ret ?_
        exact tE (.inl rfl) [.t 2 (.one (.d (.val (.int .i64 ((40 + (len8Tab.getD (UInt8.ofNat ((x / 2 ^ 32) / 2 ^ 8)).toNat 0).toNat : Nat) : Int)))))] ⟨⟨rfl, by kernel_rfl⟩, trivial⟩ [] (by have e1 : (((lenN x : Nat) : Int) : Int) = ((40 + (len8Tab.getD (UInt8.ofNat ((x / 2 ^ 32) / 2 ^ 8)).toNat 0).toNat : Nat) : Int) := (by first | rfl | (rw [len8 (by omega)]; omega) | (rw [len8 (by omega)])); have hE := congrArg (fun (q1 : Int) => (dv (.int .i64 q1) : AV)) e1; exact hE) rfl rfl rfl rfl rfl trivial
      · refine T.condF (by kernel_rfl) (decide_eq_false hq4) ?_
        refine T.skip ?_
        refine nT ?_
        refine T.seq ?_
        refine xR [hR 2 rfl rfl (r_conv (u := .int .u64 ((x / 2 ^ 32 : Nat) : Int)) (v := .int .u8 (((UInt8.ofNat (x / 2 ^ 32)).toNat : Nat) : Int)) (c_byte Try.underlying113 Try.underlying5) (lt_of rfl) trivial),
          hR 3 rfl rfl (r_indexStr (k := .u8) (l := len8Tab) (m := (UInt8.ofNat (x / 2 ^ 32)).toNat) (b := (len8Tab.getD (UInt8.ofNat (x / 2 ^ 32)).toNat 0)) (i := (((UInt8.ofNat (x / 2 ^ 32)).toNat : Nat) : Int)) Try.underlying9 rfl (by rw [len8_len]; exact UInt8.toNat_lt _) rfl (lt_of rfl) ⟨rfl, trivial⟩),
          hR 4 rfl rfl (r_conv (u := .int .u8 (((len8Tab.getD (UInt8.ofNat (x / 2 ^ 32)).toNat 0).toNat : Nat) : Int)) (v := .int .i64 (((len8Tab.getD (UInt8.ofNat (x / 2 ^ 32)).toNat 0).toNat : Nat) : Int)) (c_int Try.underlying5 Try.underlying3 (by have h9 := UInt8.toNat_lt (len8Tab.getD (UInt8.ofNat (x / 2 ^ 32)).toNat 0); rw [IntKind.wrap_i64]; omega)) (lt_of rfl) trivial),
          hR 5 rfl rfl (r_bin (u1 := .int .i64 32) (u2 := .int .i64 (((len8Tab.getD (UInt8.ofNat (x / 2 ^ 32)).toNat 0).toNat : Nat) : Int)) (v := .int .i64 ((32 + (len8Tab.getD (UInt8.ofNat (x / 2 ^ 32)).toNat 0).toNat : Nat) : Int)) (b_add (by have h9 := UInt8.toNat_lt (len8Tab.getD (UInt8.ofNat (x / 2 ^ 32)).toNat 0); rw [IntKind.wrap_i64]; omega)) (lt_of rfl) trivial)] (by kernel_rfl) (by kernel_rfl) ?_
        refine nT ?_
        refine T.ret ?_
        exact tE (.inl rfl) [.t 2 (.one (.d (.val (.int .i64 ((32 + (len8Tab.getD (UInt8.ofNat (x / 2 ^ 32)).toNat 0).toNat : Nat) : Int)))))] ⟨⟨rfl, by kernel_rfl⟩, trivial⟩ [] (by have e1 : (((lenN x : Nat) : Int) : Int) = ((32 + (len8Tab.getD (UInt8.ofNat (x / 2 ^ 32)).toNat 0).toNat : Nat) : Int) := (by first | rfl | (rw [len8 (by omega)]; omega) | (rw [len8 (by omega)])); have hE := congrArg (fun (q1 : Int) => (dv (.int .i64 q1) : AV)) e1; exact hE) rfl rfl rfl rfl rfl trivial
  · refine T.condF (by kernel_rfl) (decide_eq_false hq1) ?_
    refine T.skip ?_
    refine nT ?_
    refine T.seq ?_
    refine T.seq ?_
    refine xR [] (by kernel_rfl) (by kernel_rfl) ?_
    refine nT ?_
    by_cases hq5 : ((x : Nat) : Int) ≥ 65536
    · have hd16 := lenN_div (x := x) (s := 16) (by omega)
      refine T.condT (by kernel_rfl) (decide_eq_true hq5) ?_
      refine T.seq ?_
      refine xR [hR 1 rfl rfl (r_bin (u1 := .int .u64 ((x : Nat) : Int)) (u2 := .int .u64 16) (v := .int .u64 ((x / 2 ^ 16 : Nat) : Int)) (b_shrN (n := 16) rfl (Nat.le_trans (by first | assumption | omega | (unfold maxLen; omega) | (simp [maxLen, -List.getD_eq_getElem?_getD] <;> omega) | decide) (by decide : 64 ≤ _))) (lt_of rfl) ⟨rfl, trivial⟩)] (by kernel_rfl) (by kernel_rfl) ?_
      refine nT ?_
      refine xR [hR 1 rfl rfl (r_bin (u1 := .int .i64 0) (u2 := .int .i64 16) (v := .int .i64 16) (b_add (by rw [IntKind.wrap_i64]; omega)) (lt_of rfl) ⟨rfl, trivial⟩)] (by kernel_rfl) (by kernel_rfl) ?_
      refine nT ?_
      refine T.seq ?_
      refine T.seq ?_
      refine xR [] (by kernel_rfl) (by kernel_rfl) ?_
      refine nT ?_
      by_cases hq6 : ((x / 2 ^ 16 : Nat) : Int) ≥ 256
      · have hd8 := lenN_div (x := x / 2 ^ 16) (s := 8) (by omega)
        refine T.condT (by kernel_rfl) (decide_eq_true hq6) ?_
        refine T.seq ?_
        refine xR [hR 1 rfl rfl (r_bin (u1 := .int .u64 ((x / 2 ^ 16 : Nat) : Int)) (u2 := .int .u64 8) (v := .int .u64 (((x / 2 ^ 16) / 2 ^ 8 : Nat) : Int)) (b_shrN (n := 8) rfl (Nat.le_trans (by first | assumption | omega | (unfold maxLen; omega) | (simp [maxLen, -List.getD_eq_getElem?_getD] <;> omega) | decide) (by decide : 64 ≤ _))) (lt_of rfl) ⟨rfl, trivial⟩)] (by kernel_rfl) (by kernel_rfl) ?_
        refine nT ?_
        refine xR [hR 1 rfl rfl (r_bin (u1 := .int .i64 16) (u2 := .int .i64 8) (v := .int .i64 24) (b_add (by rw [IntKind.wrap_i64]; omega)) (lt_of rfl) ⟨rfl, trivial⟩)] (by kernel_rfl) (by kernel_rfl) ?_
        refine nT ?_
        refine T.seq ?_
        refine xR [hR 2 rfl rfl (r_conv (u := .int .u64 (((x / 2 ^ 16) / 2 ^ 8 : Nat) : Int)) (v := .int .u8 (((UInt8.ofNat ((x / 2 ^ 16) / 2 ^ 8)).toNat : Nat) : Int)) (c_byte Try.underlying113 Try.underlying5) (lt_of rfl) trivial),
          hR 3 rfl rfl (r_indexStr (k := .u8) (l := len8Tab) (m := (UInt8.ofNat ((x / 2 ^ 16) / 2 ^ 8)).toNat) (b := (len8Tab.getD (UInt8.ofNat ((x / 2 ^ 16) / 2 ^ 8)).toNat 0)) (i := (((UInt8.ofNat ((x / 2 ^ 16) / 2 ^ 8)).toNat : Nat) : Int)) Try.underlying9 rfl (by rw [len8_len]; exact UInt8.toNat_lt _) rfl (lt_of rfl) ⟨rfl, trivial⟩),
          hR 4 rfl rfl (r_conv (u := .int .u8 (((len8Tab.getD (UInt8.ofNat ((x / 2 ^ 16) / 2 ^ 8)).toNat 0).toNat : Nat) : Int)) (v := .int .i64 (((len8Tab.getD (UInt8.ofNat ((x / 2 ^ 16) / 2 ^ 8)).toNat 0).toNat : Nat) : Int)) (c_int Try.underlying5 Try.underlying3 (by have h9 := UInt8.toNat_lt (len8Tab.getD (UInt8.ofNat ((x / 2 ^ 16) / 2 ^ 8)).toNat 0); rw [IntKind.wrap_i64]; omega)) (lt_of rfl) trivial),
          hR 5 rfl rfl (r_bin (u1 := .int .i64 24) (u2 := .int .i64 (((len8Tab.getD (UInt8.ofNat ((x / 2 ^ 16) / 2 ^ 8)).toNat 0).toNat : Nat) : Int)) (v := .int .i64 ((24 + (len8Tab.getD (UInt8.ofNat ((x / 2 ^ 16) / 2 ^ 8)).toNat 0).toNat : Nat) : Int)) (b_add (by have h9 := UInt8.toNat_lt (len8Tab.getD (UInt8.ofNat ((x / 2 ^ 16) / 2 ^ 8)).toNat 0); rw [IntKind.wrap_i64]; omega)) (lt_of rfl) trivial)] (by kernel_rfl) (by kernel_rfl) ?_
        refine nT ?_
        refine T.ret ?_
        exact tE (.inl rfl) [.t 2 (.one (.d (.val (.int .i64 ((24 + (len8Tab.getD (UInt8.ofNat ((x / 2 ^ 16) / 2 ^ 8)).toNat 0).toNat : Nat) : Int)))))] ⟨⟨rfl, by kernel_rfl⟩, trivial⟩ [] (by have e1 : (((lenN x : Nat) : Int) : Int) = ((24 + (len8Tab.getD (UInt8.ofNat ((x / 2 ^ 16) / 2 ^ 8)).toNat 0).toNat : Nat) : Int) := (by first | rfl | (rw [len8 (by omega)]; omega) | (rw [len8 (by omega)])); have hE := congrArg (fun (q1 : Int) => (dv (.int .i64 q1) : AV)) e1; exact hE) rfl rfl rfl rfl rfl trivial
      · refine T.condF (by kernel_rfl) (decide_eq_false hq6) ?_
        refine T.skip ?_
        refine nT ?_
        refine T.seq ?_
        refine xR [hR 2 rfl rfl (r_conv (u := .int .u64 ((x / 2 ^ 16 : Nat) : Int)) (v := .int .u8 (((UInt8.ofNat (x / 2 ^ 16)).toNat : Nat) : Int)) (c_byte Try.underlying113 Try.underlying5) (lt_of rfl) trivial),
          hR 3 rfl rfl (r_indexStr (k := .u8) (l := len8Tab) (m := (UInt8.ofNat (x / 2 ^ 16)).toNat) (b := (len8Tab.getD (UInt8.ofNat (x / 2 ^ 16)).toNat 0)) (i := (((UInt8.ofNat (x / 2 ^ 16)).toNat : Nat) : Int)) Try.underlying9 rfl (by rw [len8_len]; exact UInt8.toNat_lt _) rfl (lt_of rfl) ⟨rfl, trivial⟩),
          hR 4 rfl rfl (r_conv (u := .int .u8 (((len8Tab.getD (UInt8.ofNat (x / 2 ^ 16)).toNat 0).toNat : Nat) : Int)) (v := .int .i64 (((len8Tab.getD (UInt8.ofNat (x / 2 ^ 16)).toNat 0).toNat : Nat) : Int)) (c_int Try.underlying5 Try.underlying3 (by have h9 := UInt8.toNat_lt (len8Tab.getD (UInt8.ofNat (x / 2 ^ 16)).toNat 0); rw [IntKind.wrap_i64]; omega)) (lt_of rfl) trivial),
          hR 5 rfl rfl (r_bin (u1 := .int .i64 16) (u2 := .int .i64 (((len8Tab.getD (UInt8.ofNat (x / 2 ^ 16)).toNat 0).toNat : Nat) : Int)) (v := .int .i64 ((16 + (len8Tab.getD (UInt8.ofNat (x / 2 ^ 16)).toNat 0).toNat : Nat) : Int)) (b_add (by have h9 := UInt8.toNat_lt (len8Tab.getD (UInt8.ofNat (x / 2 ^ 16)).toNat 0); rw [IntKind.wrap_i64]; omega)) (lt_of rfl) trivial)] (by kernel_rfl) (by kernel_rfl) ?_
        refine nT ?_
        refine T.ret ?_
        exact tE (.inl rfl) [.t 2 (.one (.d (.val (.int .i64 ((16 + (len8Tab.getD (UInt8.ofNat (x / 2 ^ 16)).toNat 0).toNat : Nat) : Int)))))] ⟨⟨rfl, by kernel_rfl⟩, trivial⟩ [] (by have e1 : (((lenN x : Nat) : Int) : Int) = ((16 + (len8Tab.getD (UInt8.ofNat (x / 2 ^ 16)).toNat 0).toNat : Nat) : Int) := (by first | rfl | (rw [len8 (by omega)]; omega) | (rw [len8 (by omega)])); have hE := congrArg (fun (q1 : Int) => (dv (.int .i64 q1) : AV)) e1; exact hE) rfl rfl rfl rfl rfl trivial
    · refine T.condF (by kernel_rfl) (decide_eq_false hq5) ?_
      refine T.skip ?_
      refine nT ?_
      refine T.seq ?_
      refine T.seq ?_
      refine xR [] (by kernel_rfl) (by kernel_rfl) ?_
      refine nT ?_
      by_cases hq7 : ((x : Nat) : Int) ≥ 256
      · have hd8 := lenN_div (x := x) (s := 8) (by omega)
        refine T.condT (by kernel_rfl) (decide_eq_true hq7) ?_
        refine T.seq ?_
        refine xR [hR 1 rfl rfl (r_bin (u1 := .int .u64 ((x : Nat) : Int)) (u2 := .int .u64 8) (v := .int .u64 ((x / 2 ^ 8 : Nat) : Int)) (b_shrN (n := 8) rfl (Nat.le_trans (by first | assumption | omega | (unfold maxLen; omega) | (simp [maxLen, -List.getD_eq_getElem?_getD] <;> omega) | decide) (by decide : 64 ≤ _))) (lt_of rfl) ⟨rfl, trivial⟩)] (by kernel_rfl) (by kernel_rfl) ?_
        refine nT ?_
        refine xR [hR 1 rfl rfl (r_bin (u1 := .int .i64 0) (u2 := .int .i64 8) (v := .int .i64 8) (b_add (by rw [IntKind.wrap_i64]; omega)) (lt_of rfl) ⟨rfl, trivial⟩)] (by kernel_rfl) (by kernel_rfl) ?_
        refine nT ?_
        refine T.seq ?_
        refine xR [hR 2 rfl rfl (r_conv (u := .int .u64 ((x / 2 ^ 8 : Nat) : Int)) (v := .int .u8 (((UInt8.ofNat (x / 2 ^ 8)).toNat : Nat) : Int)) (c_byte Try.underlying113 Try.underlying5) (lt_of rfl) trivial),
          hR 3 rfl rfl (r_indexStr (k := .u8) (l := len8Tab) (m := (UInt8.ofNat (x / 2 ^ 8)).toNat) (b := (len8Tab.getD (UInt8.ofNat (x / 2 ^ 8)).toNat 0)) (i := (((UInt8.ofNat (x / 2 ^ 8)).toNat : Nat) : Int)) Try.underlying9 rfl (by rw [len8_len]; exact UInt8.toNat_lt _) rfl (lt_of rfl) ⟨rfl, trivial⟩),
          hR 4 rfl rfl (r_conv (u := .int .u8 (((len8Tab.getD (UInt8.ofNat (x / 2 ^ 8)).toNat 0).toNat : Nat) : Int)) (v := .int .i64 (((len8Tab.getD (UInt8.ofNat (x / 2 ^ 8)).toNat 0).toNat : Nat) : Int)) (c_int Try.underlying5 Try.underlying3 (by have h9 := UInt8.toNat_lt (len8Tab.getD (UInt8.ofNat (x / 2 ^ 8)).toNat 0); rw [IntKind.wrap_i64]; omega)) (lt_of rfl) trivial),
          hR 5 rfl rfl (r_bin (u1 := .int .i64 8) (u2 := .int .i64 (((len8Tab.getD (UInt8.ofNat (x / 2 ^ 8)).toNat 0).toNat : Nat) : Int)) (v := .int .i64 ((8 + (len8Tab.getD (UInt8.ofNat (x / 2 ^ 8)).toNat 0).toNat : Nat) : Int)) (b_add (by have h9 := UInt8.toNat_lt (len8Tab.getD (UInt8.ofNat (x / 2 ^ 8)).toNat 0); rw [IntKind.wrap_i64]; omega)) (lt_of rfl) trivial)] (by kernel_rfl) (by kernel_rfl) ?_
        refine nT ?_
        refine T.ret ?_
        exact tE (.inl rfl) [.t 2 (.one (.d (.val (.int .i64 ((8 + (len8Tab.getD (UInt8.ofNat (x / 2 ^ 8)).toNat 0).toNat : Nat) : Int)))))] ⟨⟨rfl, by kernel_rfl⟩, trivial⟩ [] (by have e1 : (((lenN x : Nat) : Int) : Int) = ((8 + (len8Tab.getD (UInt8.ofNat (x / 2 ^ 8)).toNat 0).toNat : Nat) : Int) := (by first | rfl | (rw [len8 (by omega)]; omega) | (rw [len8 (by omega)])); have hE := congrArg (fun (q1 : Int) => (dv (.int .i64 q1) : AV)) e1; exact hE) rfl rfl rfl rfl rfl trivial
      · refine T.condF (by kernel_rfl) (decide_eq_false hq7) ?_
        refine T.skip ?_
        refine nT ?_
        refine T.seq ?_
        refine xR [hR 2 rfl rfl (r_conv (u := .int .u64 ((x : Nat) : Int)) (v := .int .u8 (((UInt8.ofNat x).toNat : Nat) : Int)) (c_byte Try.underlying113 Try.underlying5) (lt_of rfl) trivial),
          hR 3 rfl rfl (r_indexStr (k := .u8) (l := len8Tab) (m := (UInt8.ofNat x).toNat) (b := (len8Tab.getD (UInt8.ofNat x).toNat 0)) (i := (((UInt8.ofNat x).toNat : Nat) : Int)) Try.underlying9 rfl (by rw [len8_len]; exact UInt8.toNat_lt _) rfl (lt_of rfl) ⟨rfl, trivial⟩),
          hR 4 rfl rfl (r_conv (u := .int .u8 (((len8Tab.getD (UInt8.ofNat x).toNat 0).toNat : Nat) : Int)) (v := .int .i64 (((len8Tab.getD (UInt8.ofNat x).toNat 0).toNat : Nat) : Int)) (c_int Try.underlying5 Try.underlying3 (by have h9 := UInt8.toNat_lt (len8Tab.getD (UInt8.ofNat x).toNat 0); rw [IntKind.wrap_i64]; omega)) (lt_of rfl) trivial),
          hR 5 rfl rfl (r_bin (u1 := .int .i64 0) (u2 := .int .i64 (((len8Tab.getD (UInt8.ofNat x).toNat 0).toNat : Nat) : Int)) (v := .int .i64 ((0 + (len8Tab.getD (UInt8.ofNat x).toNat 0).toNat : Nat) : Int)) (b_add (by have h9 := UInt8.toNat_lt (len8Tab.getD (UInt8.ofNat x).toNat 0); rw [IntKind.wrap_i64]; omega)) (lt_of rfl) trivial)] (by kernel_rfl) (by kernel_rfl) ?_
        refine nT ?_
        refine T.ret ?_
        exact tE (.inl rfl) [.t 2 (.one (.d (.val (.int .i64 ((0 + (len8Tab.getD (UInt8.ofNat x).toNat 0).toNat : Nat) : Int)))))] ⟨⟨rfl, by kernel_rfl⟩, trivial⟩ [] (by have e1 : (((lenN x : Nat) : Int) : Int) = ((0 + (len8Tab.getD (UInt8.ofNat x).toNat 0).toNat : Nat) : Int) := (by first | rfl | (rw [len8 (by omega)]; omega) | (rw [len8 (by omega)])); have hE := congrArg (fun (q1 : Int) => (dv (.int .i64 q1) : AV)) e1; exact hE) rfl rfl rfl rfl rfl trivial
end Go.Proofs.Ytdclfhahcfefeaa.Q
namespace Go.Proofs.Ytdclfhahcfefeaa.Q
open Go Go.RowKit
set_option linter.unusedVariables false
set_option linter.unusedSimpArgs false
set_option maxRecDepth 100000
set_option maxHeartbeats 4000000
-- math/bits.Len
theorem bits_Len (x : Nat) (hx : x < 18446744073709551616) : Holds Try.prog 91 ⟨[dv (.int .u64 ((x : Nat) : Int))], [], dv (.int .i64 ((lenN x : Nat) : Int)), []⟩ := by
  refine Holds.of Try.func91 rfl (N := 8) Try.ntmps91 rfl fun w0 B0 S0 U0 => ?_
  show T _ (mkBase 8 0 w0 S0 U0 B0) ⟨[dv (.int .u64 ((x : Nat) : Int))], []⟩ _ _
  refine T.seq ?_
  refine xR [] (by kernel_rfl) (by kernel_rfl) ?_
  refine nT ?_
  refine T.seq ?_
  refine T.condF (b := false) (by kernel_rfl) rfl ?_
  refine T.skip ?_
  refine nT ?_
  refine T.seq ?_
  refine xR [hR 1 rfl rfl (r_call (bits_Len64 x (by first | assumption | omega | (unfold maxLen; omega) | (simp [maxLen, -List.getD_eq_getElem?_getD] <;> omega) | decide)) Try.func96 rfl (by decide) [] [] (l := [(.tmp 6, dv (.int .u64 ((x : Nat) : Int)))]) [] rfl 0 0 rfl rfl rfl rfl rfl rfl rfl rfl rfl ⟨.inl ⟨rfl, rfl⟩, trivial⟩ rfl (fun b hb => by cases hb) (.inl rfl) (lt_of rfl) trivial)] (by kernel_rfl) (by kernel_rfl) ?_
  refine nT ?_
  refine T.ret ?_
  exact tE (.inl rfl) [.t 2 (.one (.d (.val (.int .i64 ((lenN x : Nat) : Int)))))] ⟨⟨rfl, by kernel_rfl⟩, trivial⟩ [] rfl rfl rfl rfl rfl rfl trivial
end Go.Proofs.Ytdclfhahcfefeaa.Q
namespace Go.Proofs.Ytdclfhahcfefeaa.Q
open Go Go.RowKit
set_option linter.unusedVariables false
set_option linter.unusedSimpArgs false
set_option maxRecDepth 100000
set_option maxHeartbeats 4000000
-- quaestor/merkle.split
theorem merkle_split (n : Nat) (h2 : 2 ≤ n) (hn : n ≤ 9223372036854775807) : Holds Try.prog 85 ⟨[dv (.int .i64 ((n : Nat) : Int))], [], dv (.int .i64 ((half n : Nat) : Int)), []⟩ := by
  refine Holds.of Try.func85 rfl (N := 9) Try.ntmps85 rfl fun w0 B0 S0 U0 => ?_
  show T _ (mkBase 9 0 w0 S0 U0 B0) ⟨[dv (.int .i64 ((n : Nat) : Int))], []⟩ _ _
  have hlg := log_le hn h2
  refine T.seq ?_
  refine xR [] (by kernel_rfl) (by kernel_rfl) ?_
  refine nT ?_
  refine T.seq ?_
  refine xR [hR 1 rfl rfl (r_bin (u1 := .int .i64 ((n : Nat) : Int)) (u2 := .int .i64 1) (v := .int .i64 ((n - 1 : Nat) : Int)) (b_sub (by rw [IntKind.wrap_i64]; omega)) (lt_of rfl) ⟨rfl, trivial⟩),
    hR 2 rfl rfl (r_conv (u := .int .i64 ((n - 1 : Nat) : Int)) (v := .int .u64 ((n - 1 : Nat) : Int)) (c_int Try.underlying3 Try.underlying125 (by first | rfl | (rw [IntKind.wrap_u64]; omega))) (lt_of rfl) trivial),
    hR 3 rfl rfl (r_call (bits_Len (n - 1) (by first | assumption | omega | (unfold maxLen; omega) | (simp [maxLen, -List.getD_eq_getElem?_getD] <;> omega) | decide)) Try.func91 rfl (by decide) [] [] (l := [(.tmp 5, dv (.int .u64 ((n - 1 : Nat) : Int)))]) [] rfl 0 0 rfl rfl rfl rfl rfl rfl rfl rfl rfl ⟨.inl ⟨rfl, rfl⟩, trivial⟩ rfl (fun b hb => by cases hb) (.inl rfl) (lt_of rfl) trivial),
    hR 4 rfl rfl (r_bin (u1 := .int .i64 ((lenN (n - 1) : Nat) : Int)) (u2 := .int .i64 1) (v := .int .i64 ((Nat.log2 (n - 1) : Nat) : Int)) (b_sub (by rw [lenN_pos (by omega), IntKind.wrap_i64]; omega)) (lt_of rfl) ⟨rfl, trivial⟩),
    hR 5 rfl rfl (r_bin (u1 := .int .i64 1) (u2 := .int .i64 ((Nat.log2 (n - 1) : Nat) : Int)) (v := .int .i64 ((half n : Nat) : Int)) (b_shl (n := Nat.log2 (n - 1)) rfl (Nat.le_trans hlg (by decide)) (shl_half hn h2)) (lt_of rfl) ⟨rfl, trivial⟩)] (by kernel_rfl) (by kernel_rfl) ?_
  refine nT ?_
  refine T.ret ?_
  exact tE (.inl rfl) [.t 2 (.one (.d (.val (.int .i64 ((half n : Nat) : Int)))))] ⟨⟨rfl, by kernel_rfl⟩, trivial⟩ [] rfl rfl rfl rfl rfl rfl trivial
end Go.Proofs.Ytdclfhahcfefeaa.Q
namespace Go.Proofs.Ytdclfhahcfefeaa.Q
open Go Go.RowKit
set_option linter.unusedVariables false
set_option linter.unusedSimpArgs false
set_option maxRecDepth 100000
set_option maxHeartbeats 4000000
-- quaestor/quaestorref09.half
theorem ref09_half (n : Nat) (h2 : 2 ≤ n) (hn : n ≤ 9223372036854775807) : Holds Try.prog 93 ⟨[dv (.int .i64 ((n : Nat) : Int))], [], dv (.int .i64 ((half n : Nat) : Int)), []⟩ := by
  refine Holds.of Try.func93 rfl (N := 12) Try.ntmps93 rfl fun w0 B0 S0 U0 => ?_
  show T _ (mkBase 12 0 w0 S0 U0 B0) ⟨[dv (.int .i64 ((n : Nat) : Int))], []⟩ _ _
  refine T.seq ?_
  refine xR [] (by kernel_rfl) (by kernel_rfl) ?_
  refine nT ?_
  refine T.seq ?_
  refine xR [] (by kernel_rfl) (by kernel_rfl) ?_
  refine nT ?_
  refine T.seq ?_
  refine T.block ?_
  refine T.loop (ι := Nat) (fun (K : Nat) => ⟨[dv (.int .i64 ((n : Nat) : Int)), aa, dv (.int .i64 0), dv (.int .i64 ((K : Nat) : Int))], []⟩) (fun (K : Nat) => (∃ j, K = 2 ^ j) ∧ (K < n)) (fun (K : Nat) => n - K) (1) ⟨⟨0, rfl⟩, (by omega)⟩ (fun _ _ hG => Gs.into2 (s' := ⟨[dv (.int .i64 ((n : Nat) : Int)), aa, dv (.int .i64 0), dv (.int .i64 1)], []⟩) [] (bm 4 13) (t1 := [dv (.int .i64 ((n : Nat) : Int)), aa, dv (.int .i64 0), dv (.int .i64 1)]) (h1 := []) rfl rfl (by kernel_rfl) (by kernel_rfl) (by kernel_rfl) (by kernel_rfl) (by kernel_rfl) (by kernel_rfl) (by kernel_rfl) (by kernel_rfl) (by kernel_rfl) (by kernel_rfl) (by kernel_rfl) hG) ?_
  rintro K ⟨hp, hK⟩
  show T _ _ ⟨[dv (.int .i64 ((n : Nat) : Int)), aa, dv (.int .i64 0), dv (.int .i64 ((K : Nat) : Int))], []⟩ _ _
  replace hp : ∃ j, K = 2 ^ j := hp
  replace hK : K < n := hK
  refine T.seq ?_
  refine T.seq ?_
  refine xR [hR 3 rfl rfl (r_bin (u1 := .int .i64 ((n : Nat) : Int)) (u2 := .int .i64 ((K : Nat) : Int)) (v := .int .i64 (((n : Nat) : Int) - ((K : Nat) : Int))) (b_sub (by rw [IntKind.wrap_i64]; omega)) (lt_of rfl) trivial)] (by kernel_rfl) (by kernel_rfl) ?_
  refine nT ?_
  by_cases hq1 : ((K : Nat) : Int) < (((n : Nat) : Int) - ((K : Nat) : Int))
  · refine T.condT (by kernel_rfl) (decide_eq_true hq1) ?_
    refine T.skip ?_
    refine nT ?_
    refine T.block ?_
    refine xR [hR 1 rfl rfl (r_bin (u1 := .int .i64 2) (u2 := .int .i64 ((K : Nat) : Int)) (v := .int .i64 ((2 * K : Nat) : Int)) (b_mul (by rw [IntKind.wrap_i64]; omega)) (lt_of rfl) ⟨rfl, trivial⟩)] (by kernel_rfl) (by kernel_rfl) ?_
    refine nB ?_
    refine nL (2 * K) ⟨(show ∃ j, (2 * K) = 2 ^ j from (by obtain ⟨j, hj⟩ := hp; exact ⟨j + 1, by rw [hj, Nat.pow_succ]; omega⟩)), (show (2 * K) < n from (by omega))⟩ (show (n - (2 * K) : Nat) < n - K from (by have hK0 : 0 < K := (by obtain ⟨j, hj⟩ := hp; rw [hj]; exact Nat.pow_pos (by decide)); omega)) (fun _ _ hG => Gs.into2 (s' := ⟨[dv (.int .i64 ((n : Nat) : Int)), aa, dv (.int .i64 0), dv (.int .i64 ((2 * K : Nat) : Int))], []⟩) [] (bm 4 13) (t1 := [dv (.int .i64 ((n : Nat) : Int)), aa, dv (.int .i64 0), dv (.int .i64 ((2 * K : Nat) : Int))]) (h1 := []) rfl rfl (by kernel_rfl) (by kernel_rfl) (by kernel_rfl) (by kernel_rfl) (by kernel_rfl) (by kernel_rfl) (by kernel_rfl) (by kernel_rfl) (by kernel_rfl) (by kernel_rfl) (by kernel_rfl) hG)
  · refine T.condF (by kernel_rfl) (decide_eq_false hq1) ?_
    refine T.exit ?_
    refine xT ?_
    refine xT ?_
    refine xH ?_
    refine nT ?_
    refine T.seq ?_
    refine xR [] (by kernel_rfl) (by kernel_rfl) ?_
    refine nT ?_
    refine T.ret ?_
    exact tE (.inl rfl) [.t 2 (.one (.d (.val (.int .i64 ((K : Nat) : Int)))))] ⟨⟨rfl, by kernel_rfl⟩, trivial⟩ [] (by have e1 : (((half n : Nat) : Int) : Int) = ((K : Nat) : Int) := (by first | rfl | (rw [half_of hp hK (by omega)])); have hE := congrArg (fun (q1 : Int) => (dv (.int .i64 q1) : AV)) e1; exact hE) rfl rfl rfl rfl rfl trivial
end Go.Proofs.Ytdclfhahcfefeaa.Q
namespace Go.Proofs.Ytdclfhahcfefeaa.Q
open Go Go.RowKit
set_option linter.unusedVariables false
set_option linter.unusedSimpArgs false
set_option maxRecDepth 100000
set_option maxHeartbeats 4000000
-- quaestor/merkle.Root
theorem merkle_Root_rec : ∀ (N : Nat) (tl : Bool) (nl : Bool) (sl_ : Bool) (l : List (List UInt8)) (hf : fewG szL 40 600 l), l.length = N → Holds Try.prog 70 ⟨[slV tl nl (kSl sl_ kU8) l], [], dv (strV (rootB l)), []⟩ := by
  intro N
  induction N using Nat.strongRecOn with
  | _ N ih =>
    intro tl nl sl_ l hf hN
    refine Holds.of Try.func70 rfl (N := 28) Try.ntmps70 rfl fun w0 B0 S0 U0 => ?_
    show T _ (mkBase 28 0 w0 S0 U0 B0) ⟨[slV tl nl (kSl sl_ kU8) l], []⟩ _ _
    have hl40 := hf.1
    have hg0 : (l.getD 0 []).length ≤ 600 := fewG_get (sz := szL) hf (by decide) 0
    refine T.seq ?_
    refine xR [] (by kernel_rfl) (by kernel_rfl) ?_
    refine nT ?_
    refine T.seq ?_
    refine xR [] (by kernel_rfl) (by kernel_rfl) ?_
    refine nT ?_
    refine T.seq ?_
    refine xR [] (by kernel_rfl) (by kernel_rfl) ?_
    refine nT ?_
    refine T.block ?_
    refine T.seq ?_
    refine xR [] (by kernel_rfl) (by kernel_rfl) ?_
    refine nT ?_
    by_cases hq1 : ((l.length : Nat) : Int) = 0
    · refine T.condT (by kernel_rfl) (decide_eq_true hq1) ?_
      refine T.seq ?_
      refine xR [hR 0 rfl rfl (r_call (term_Of (4 : UInt8) false false false ([] : List (List UInt8)) (by first | assumption | omega | (unfold maxLen; omega) | (simp [maxLen, -List.getD_eq_getElem?_getD] <;> omega) | decide)) Try.func33 rfl (by decide) [] [] (l := [(.const (.int .u8 4), dv (.int .u8 4)), (.const (.slice none 0 0), dv (.slice none 0 0))]) [] rfl 0 0 rfl rfl rfl rfl rfl rfl rfl rfl rfl ⟨.inl ⟨rfl, rfl⟩, ⟨.inr (.inr ⟨rfl, rfl, rfl⟩), trivial⟩⟩ rfl (fun b hb => by cases hb) (.inl rfl) (lt_of rfl) ⟨rfl, ⟨rfl, trivial⟩⟩)] (by kernel_rfl) (by kernel_rfl) ?_
      refine nT ?_
      refine T.ret ?_
      refine rB ?_
      exact tE (.inl rfl) [.t 2 (.one (.d (.val (strV (ofB (4 : UInt8) ([] : List (List UInt8)))))))] ⟨⟨rfl, by kernel_rfl⟩, trivial⟩ [] (by have e1 : ((rootB l) : List UInt8) = (ofB (4 : UInt8) ([] : List (List UInt8))) := (by first | rfl | exact root_0 (by omega) | exact (root_0 (by omega)).symm | exact root_1 (by omega) | exact (root_1 (by omega)).symm | exact root_2 h2l | exact (root_2 h2l).symm); have hE := congrArg (fun (q1 : List UInt8) => (dv (strV q1) : AV)) e1; exact hE) rfl rfl rfl rfl rfl trivial
    · refine T.condF (by kernel_rfl) (decide_eq_false hq1) ?_
      refine T.seq ?_
      refine xR [] (by kernel_rfl) (by kernel_rfl) ?_
      refine nT ?_
      by_cases hq2 : ((l.length : Nat) : Int) = 1
      · refine T.condT (by kernel_rfl) (decide_eq_true hq2) ?_
        refine T.seq ?_
        refine xR [hR 1 rfl rfl (q_index tl nl (kSl sl_ kU8) l 0 (k := .i64) (i := 0) Try.underlying101 iat_58 rfl rfl (by first | assumption | omega | (unfold maxLen; omega) | (simp [maxLen, -List.getD_eq_getElem?_getD] <;> omega) | decide) (lt_of rfl) ⟨rfl, trivial⟩),
          hR 3 rfl rfl (r_call (term_Leaf (2 : UInt8) sl_ false (l.getD 0 []) (by first | assumption | omega | (unfold maxLen; omega) | (simp [maxLen, -List.getD_eq_getElem?_getD] <;> omega) | decide)) Try.func58 rfl (by decide) [] [] (l := [(.const (.int .u8 2), dv (.int .u8 2)), (.tmp 26, slV sl_ false kU8 (l.getD 0 []))]) [] rfl 0 0 rfl rfl rfl rfl rfl rfl rfl rfl rfl ⟨.inl ⟨rfl, rfl⟩, ⟨.inl ⟨rfl, rfl⟩, trivial⟩⟩ rfl (fun b hb => by cases hb) (.inl rfl) (lt_of rfl) ⟨rfl, trivial⟩)] (by kernel_rfl) (by kernel_rfl) ?_
        refine nT ?_
        refine T.ret ?_
        refine rB ?_
        exact tE (.inl rfl) [.t 2 (.one (.d (.val (strV (ofB (2 : UInt8) [(l.getD 0 [])])))))] ⟨⟨rfl, by kernel_rfl⟩, trivial⟩ [] (by have e1 : ((rootB l) : List UInt8) = (ofB (2 : UInt8) [(l.getD 0 [])]) := (by first | rfl | exact root_0 (by omega) | exact (root_0 (by omega)).symm | exact root_1 (by omega) | exact (root_1 (by omega)).symm | exact root_2 h2l | exact (root_2 h2l).symm); have hE := congrArg (fun (q1 : List UInt8) => (dv (strV q1) : AV)) e1; exact hE) rfl rfl rfl rfl rfl trivial
      · have h2l : 2 ≤ l.length := (by omega); have hhl := half_lt h2l; have hhp := half_pos l.length; have hfa := few_root (fewG_take hf (half l.length)); have hfb := few_root (fewG_drop hf (half l.length))
        refine T.condF (by kernel_rfl) (decide_eq_false hq2) ?_
        refine T.seq ?_
        refine xR [hR 1 rfl rfl (r_call (merkle_split l.length (by first | assumption | omega | (unfold maxLen; omega) | (simp [maxLen, -List.getD_eq_getElem?_getD] <;> omega) | decide) (by first | assumption | omega | (unfold maxLen; omega) | (simp [maxLen, -List.getD_eq_getElem?_getD] <;> omega) | decide)) Try.func85 rfl (by decide) [] [] (l := [(.tmp 8, dv (.int .i64 ((l.length : Nat) : Int)))]) [] rfl 0 0 rfl rfl rfl rfl rfl rfl rfl rfl rfl ⟨.inl ⟨rfl, rfl⟩, trivial⟩ rfl (fun b hb => by cases hb) (.inl rfl) (lt_of rfl) trivial)] (by kernel_rfl) (by kernel_rfl) ?_
        refine nT ?_
        refine T.seq ?_
        refine xD [[], [], [0, 1], [0, 1, 2], [], [], [4, 5], [0, 1, 2, 3, 4, 5, 6], [0, 1, 2, 3, 4, 5, 6, 7], [0, 1, 2, 3, 4, 5, 6, 7, 8]] [hR 2 rfl rfl (q_slice tl nl (kSl sl_ kU8) l (l.take (half l.length)) 0 (half l.length) (lo := none) (hi := some (.tmp 11, ((half l.length : Nat) : Int))) Try.underlying101 iat_58 rfl rfl rfl rfl rfl (by first | assumption | omega | (unfold maxLen; omega) | (simp [maxLen, -List.getD_eq_getElem?_getD] <;> omega) | decide) (by first | assumption | omega | (unfold maxLen; omega) | (simp [maxLen, -List.getD_eq_getElem?_getD] <;> omega) | decide) rfl (lt_of rfl) trivial),
          hR 3 rfl rfl (r_call (ih ((l.take (half l.length)).length) (show (l.take (half l.length)).length < N from (by first | omega | (simp only [List.length_take, List.length_drop]; omega))) tl nl sl_ (l.take (half l.length)) (by first | assumption | exact fewG_mono (by assumption) (by decide) | exact fewG_take (by assumption) _ | exact fewG_drop (by assumption) _ | exact fewG_set (by assumption) (by assumption) | decide) rfl) Try.func70 rfl (by decide) [] [] (l := [(.tmp 12, slV tl nl (kSl sl_ kU8) (l.take (half l.length)))]) [] rfl 0 0 rfl rfl rfl rfl rfl rfl rfl rfl rfl ⟨.inl ⟨rfl, rfl⟩, trivial⟩ rfl (fun b hb => by cases hb) (.inl rfl) (lt_of rfl) trivial),
          hR 6 rfl rfl (q_slice tl nl (kSl sl_ kU8) l (l.drop (half l.length)) (half l.length) l.length (lo := some (.tmp 15, ((half l.length : Nat) : Int))) (hi := none) Try.underlying101 iat_58 rfl rfl rfl rfl rfl (by first | assumption | omega | (unfold maxLen; omega) | (simp [maxLen, -List.getD_eq_getElem?_getD] <;> omega) | decide) (by first | assumption | omega | (unfold maxLen; omega) | (simp [maxLen, -List.getD_eq_getElem?_getD] <;> omega) | decide) (by rw [List.take_length]) (lt_of rfl) trivial),
          hR 7 rfl rfl (r_call (ih ((l.drop (half l.length)).length) (show (l.drop (half l.length)).length < N from (by first | omega | (simp only [List.length_take, List.length_drop]; omega))) tl nl sl_ (l.drop (half l.length)) (by first | assumption | exact fewG_mono (by assumption) (by decide) | exact fewG_take (by assumption) _ | exact fewG_drop (by assumption) _ | exact fewG_set (by assumption) (by assumption) | decide) rfl) Try.func70 rfl (by decide) [] [] (l := [(.tmp 16, slV tl nl (kSl sl_ kU8) (l.drop (half l.length)))]) [] rfl 0 0 rfl rfl rfl rfl rfl rfl rfl rfl rfl ⟨.inl ⟨rfl, rfl⟩, trivial⟩ rfl (fun b hb => by cases hb) (.inl rfl) (lt_of rfl) trivial),
          hR 8 rfl rfl (r_call (term_Pair (3 : UInt8) (rootB (l.take (half l.length))) (rootB (l.drop (half l.length))) (by first | assumption | omega | (unfold maxLen; omega) | (simp [maxLen, -List.getD_eq_getElem?_getD] <;> omega) | decide)) Try.func86 rfl (by decide) [] [] (l := [(.const (.int .u8 3), dv (.int .u8 3)), (.tmp 13, dv (strV (rootB (l.take (half l.length))))), (.tmp 17, dv (strV (rootB (l.drop (half l.length)))))]) [] rfl 0 0 rfl rfl rfl rfl rfl rfl rfl rfl rfl ⟨.inl ⟨rfl, rfl⟩, ⟨.inl ⟨rfl, rfl⟩, ⟨.inl ⟨rfl, rfl⟩, trivial⟩⟩⟩ rfl (fun b hb => by cases hb) (.inl rfl) (lt_of rfl) ⟨rfl, trivial⟩)] (by kernel_rfl) (by kernel_rfl) (by kernel_rfl) (by kernel_rfl) (by kernel_rfl) (by kernel_rfl) ?_
        refine nT ?_
        refine T.ret ?_
        refine rB ?_
        exact tE (.inl rfl) [.t 2 (.one (.d (.val (strV (ofB (3 : UInt8) [(rootB (l.take (half l.length))), (rootB (l.drop (half l.length)))])))))] ⟨⟨rfl, by kernel_rfl⟩, trivial⟩ [] (by have e1 : ((rootB l) : List UInt8) = (ofB (3 : UInt8) [(rootB (l.take (half l.length))), (rootB (l.drop (half l.length)))]) := (by first | rfl | exact root_0 (by omega) | exact (root_0 (by omega)).symm | exact root_1 (by omega) | exact (root_1 (by omega)).symm | exact root_2 h2l | exact (root_2 h2l).symm); have hE := congrArg (fun (q1 : List UInt8) => (dv (strV q1) : AV)) e1; exact hE) rfl rfl rfl rfl rfl trivial
theorem merkle_Root (tl : Bool) (nl : Bool) (sl_ : Bool) (l : List (List UInt8)) (hf : fewG szL 40 600 l) : Holds Try.prog 70 ⟨[slV tl nl (kSl sl_ kU8) l], [], dv (strV (rootB l)), []⟩ := merkle_Root_rec _ tl nl sl_ l hf rfl
end Go.Proofs.Ytdclfhahcfefeaa.Q
namespace Go.Proofs.Ytdclfhahcfefeaa.Q
open Go Go.RowKit
set_option linter.unusedVariables false
set_option linter.unusedSimpArgs false
set_option maxRecDepth 100000
set_option maxHeartbeats 4000000
-- quaestor/quaestorref09.Root
theorem ref09_Root_rec : ∀ (N : Nat) (tl : Bool) (nl : Bool) (sl_ : Bool) (l : List (List UInt8)) (hf : fewG szL 40 600 l), l.length = N → Holds Try.prog 90 ⟨[slV tl nl (kSl sl_ kU8) l], [], dv (strV (rootB l)), []⟩ := by
  intro N
  induction N using Nat.strongRecOn with
  | _ N ih =>
    intro tl nl sl_ l hf hN
    refine Holds.of Try.func90 rfl (N := 27) Try.ntmps90 rfl fun w0 B0 S0 U0 => ?_
    show T _ (mkBase 27 0 w0 S0 U0 B0) ⟨[slV tl nl (kSl sl_ kU8) l], []⟩ _ _
    have hl40 := hf.1
    have hg0 : (l.getD 0 []).length ≤ 600 := fewG_get (sz := szL) hf (by decide) 0
    refine T.seq ?_
    refine xR [] (by kernel_rfl) (by kernel_rfl) ?_
    refine nT ?_
    refine T.seq ?_
    refine T.seq ?_
    refine xR [] (by kernel_rfl) (by kernel_rfl) ?_
    refine nT ?_
    by_cases hq1 : ((l.length : Nat) : Int) = 0
    · refine T.condT (by kernel_rfl) (decide_eq_true hq1) ?_
      refine T.seq ?_
      refine xR [hR 0 rfl rfl (r_call (ref02_Of (4 : UInt8) false false false ([] : List (List UInt8)) (by first | assumption | omega | (unfold maxLen; omega) | (simp [maxLen, -List.getD_eq_getElem?_getD] <;> omega) | decide)) Try.func61 rfl (by decide) [] [] (l := [(.const (.int .u8 4), dv (.int .u8 4)), (.const (.slice none 0 0), dv (.slice none 0 0))]) [] rfl 0 0 rfl rfl rfl rfl rfl rfl rfl rfl rfl ⟨.inl ⟨rfl, rfl⟩, ⟨.inr (.inr ⟨rfl, rfl, rfl⟩), trivial⟩⟩ rfl (fun b hb => by cases hb) (.inl rfl) (lt_of rfl) ⟨rfl, ⟨rfl, trivial⟩⟩)] (by kernel_rfl) (by kernel_rfl) ?_
      refine nT ?_
      refine T.ret ?_
      refine rT ?_
      exact tE (.inl rfl) [.t 2 (.one (.d (.val (strV (ofB (4 : UInt8) ([] : List (List UInt8)))))))] ⟨⟨rfl, by kernel_rfl⟩, trivial⟩ [] (by have e1 : ((rootB l) : List UInt8) = (ofB (4 : UInt8) ([] : List (List UInt8))) := (by first | rfl | exact root_0 (by omega) | exact (root_0 (by omega)).symm | exact root_1 (by omega) | exact (root_1 (by omega)).symm | exact root_2 h2l | exact (root_2 h2l).symm); have hE := congrArg (fun (q1 : List UInt8) => (dv (strV q1) : AV)) e1; exact hE) rfl rfl rfl rfl rfl trivial
    · refine T.condF (by kernel_rfl) (decide_eq_false hq1) ?_
      refine T.skip ?_
      refine nT ?_
      refine T.seq ?_
      refine T.seq ?_
      refine xR [] (by kernel_rfl) (by kernel_rfl) ?_
      refine nT ?_
      by_cases hq2 : ((l.length : Nat) : Int) = 1
      · refine T.condT (by kernel_rfl) (decide_eq_true hq2) ?_
        refine T.seq ?_
        refine xR [hR 1 rfl rfl (q_index tl nl (kSl sl_ kU8) l 0 (k := .i64) (i := 0) Try.underlying101 iat_58 rfl rfl (by first | assumption | omega | (unfold maxLen; omega) | (simp [maxLen, -List.getD_eq_getElem?_getD] <;> omega) | decide) (lt_of rfl) ⟨rfl, trivial⟩),
          hR 3 rfl rfl (r_call (ref02_Leaf (2 : UInt8) sl_ false (l.getD 0 []) (by first | assumption | omega | (unfold maxLen; omega) | (simp [maxLen, -List.getD_eq_getElem?_getD] <;> omega) | decide)) Try.func59 rfl (by decide) [] [] (l := [(.const (.int .u8 2), dv (.int .u8 2)), (.tmp 13, slV sl_ false kU8 (l.getD 0 []))]) [] rfl 0 0 rfl rfl rfl rfl rfl rfl rfl rfl rfl ⟨.inl ⟨rfl, rfl⟩, ⟨.inl ⟨rfl, rfl⟩, trivial⟩⟩ rfl (fun b hb => by cases hb) (.inl rfl) (lt_of rfl) ⟨rfl, trivial⟩)] (by kernel_rfl) (by kernel_rfl) ?_
        refine nT ?_
        refine T.ret ?_
        refine rT ?_
        exact tE (.inl rfl) [.t 2 (.one (.d (.val (strV (ofB (2 : UInt8) [(l.getD 0 [])])))))] ⟨⟨rfl, by kernel_rfl⟩, trivial⟩ [] (by have e1 : ((rootB l) : List UInt8) = (ofB (2 : UInt8) [(l.getD 0 [])]) := (by first | rfl | exact root_0 (by omega) | exact (root_0 (by omega)).symm | exact root_1 (by omega) | exact (root_1 (by omega)).symm | exact root_2 h2l | exact (root_2 h2l).symm); have hE := congrArg (fun (q1 : List UInt8) => (dv (strV q1) : AV)) e1; exact hE) rfl rfl rfl rfl rfl trivial
      · have h2l : 2 ≤ l.length := (by omega); have hhl := half_lt h2l; have hhp := half_pos l.length; have hfa := few_root (fewG_take hf (half l.length)); have hfb := few_root (fewG_drop hf (half l.length))
        refine T.condF (by kernel_rfl) (decide_eq_false hq2) ?_
        refine T.skip ?_
        refine nT ?_
        refine T.seq ?_
        refine xR [hR 2 rfl rfl (r_call (ref09_half l.length (by first | assumption | omega | (unfold maxLen; omega) | (simp [maxLen, -List.getD_eq_getElem?_getD] <;> omega) | decide) (by first | assumption | omega | (unfold maxLen; omega) | (simp [maxLen, -List.getD_eq_getElem?_getD] <;> omega) | decide)) Try.func93 rfl (by decide) [] [] (l := [(.tmp 16, dv (.int .i64 ((l.length : Nat) : Int)))]) [] rfl 0 0 rfl rfl rfl rfl rfl rfl rfl rfl rfl ⟨.inl ⟨rfl, rfl⟩, trivial⟩ rfl (fun b hb => by cases hb) (.inl rfl) (lt_of rfl) trivial)] (by kernel_rfl) (by kernel_rfl) ?_
        refine nT ?_
        refine T.seq ?_
        refine xD [[], [], [0, 1], [0, 1, 2], [], [], [4, 5], [0, 1, 2, 3, 4, 5, 6], [0, 1, 2, 3, 4, 5, 6, 7], [0, 1, 2, 3, 4, 5, 6, 7, 8]] [hR 2 rfl rfl (q_slice tl nl (kSl sl_ kU8) l (l.take (half l.length)) 0 (half l.length) (lo := none) (hi := some (.tmp 19, ((half l.length : Nat) : Int))) Try.underlying101 iat_58 rfl rfl rfl rfl rfl (by first | assumption | omega | (unfold maxLen; omega) | (simp [maxLen, -List.getD_eq_getElem?_getD] <;> omega) | decide) (by first | assumption | omega | (unfold maxLen; omega) | (simp [maxLen, -List.getD_eq_getElem?_getD] <;> omega) | decide) rfl (lt_of rfl) trivial),
          hR 3 rfl rfl (r_call (ih ((l.take (half l.length)).length) (show (l.take (half l.length)).length < N from (by first | omega | (simp only [List.length_take, List.length_drop]; omega))) tl nl sl_ (l.take (half l.length)) (by first | assumption | exact fewG_mono (by assumption) (by decide) | exact fewG_take (by assumption) _ | exact fewG_drop (by assumption) _ | exact fewG_set (by assumption) (by assumption) | decide) rfl) Try.func90 rfl (by decide) [] [] (l := [(.tmp 20, slV tl nl (kSl sl_ kU8) (l.take (half l.length)))]) [] rfl 0 0 rfl rfl rfl rfl rfl rfl rfl rfl rfl ⟨.inl ⟨rfl, rfl⟩, trivial⟩ rfl (fun b hb => by cases hb) (.inl rfl) (lt_of rfl) trivial),
          hR 6 rfl rfl (q_slice tl nl (kSl sl_ kU8) l (l.drop (half l.length)) (half l.length) l.length (lo := some (.tmp 23, ((half l.length : Nat) : Int))) (hi := none) Try.underlying101 iat_58 rfl rfl rfl rfl rfl (by first | assumption | omega | (unfold maxLen; omega) | (simp [maxLen, -List.getD_eq_getElem?_getD] <;> omega) | decide) (by first | assumption | omega | (unfold maxLen; omega) | (simp [maxLen, -List.getD_eq_getElem?_getD] <;> omega) | decide) (by rw [List.take_length]) (lt_of rfl) trivial),
          hR 7 rfl rfl (r_call (ih ((l.drop (half l.length)).length) (show (l.drop (half l.length)).length < N from (by first | omega | (simp only [List.length_take, List.length_drop]; omega))) tl nl sl_ (l.drop (half l.length)) (by first | assumption | exact fewG_mono (by assumption) (by decide) | exact fewG_take (by assumption) _ | exact fewG_drop (by assumption) _ | exact fewG_set (by assumption) (by assumption) | decide) rfl) Try.func90 rfl (by decide) [] [] (l := [(.tmp 24, slV tl nl (kSl sl_ kU8) (l.drop (half l.length)))]) [] rfl 0 0 rfl rfl rfl rfl rfl rfl rfl rfl rfl ⟨.inl ⟨rfl, rfl⟩, trivial⟩ rfl (fun b hb => by cases hb) (.inl rfl) (lt_of rfl) trivial),
          hR 8 rfl rfl (r_call (ref02_Pair (3 : UInt8) (rootB (l.take (half l.length))) (rootB (l.drop (half l.length))) (by first | assumption | omega | (unfold maxLen; omega) | (simp [maxLen, -List.getD_eq_getElem?_getD] <;> omega) | decide)) Try.func94 rfl (by decide) [] [] (l := [(.const (.int .u8 3), dv (.int .u8 3)), (.tmp 21, dv (strV (rootB (l.take (half l.length))))), (.tmp 25, dv (strV (rootB (l.drop (half l.length)))))]) [] rfl 0 0 rfl rfl rfl rfl rfl rfl rfl rfl rfl ⟨.inl ⟨rfl, rfl⟩, ⟨.inl ⟨rfl, rfl⟩, ⟨.inl ⟨rfl, rfl⟩, trivial⟩⟩⟩ rfl (fun b hb => by cases hb) (.inl rfl) (lt_of rfl) ⟨rfl, trivial⟩)] (by kernel_rfl) (by kernel_rfl) (by kernel_rfl) (by kernel_rfl) (by kernel_rfl) (by kernel_rfl) ?_
        refine nT ?_
        refine T.ret ?_
        exact tE (.inl rfl) [.t 2 (.one (.d (.val (strV (ofB (3 : UInt8) [(rootB (l.take (half l.length))), (rootB (l.drop (half l.length)))])))))] ⟨⟨rfl, by kernel_rfl⟩, trivial⟩ [] (by have e1 : ((rootB l) : List UInt8) = (ofB (3 : UInt8) [(rootB (l.take (half l.length))), (rootB (l.drop (half l.length)))]) := (by first | rfl | exact root_0 (by omega) | exact (root_0 (by omega)).symm | exact root_1 (by omega) | exact (root_1 (by omega)).symm | exact root_2 h2l | exact (root_2 h2l).symm); have hE := congrArg (fun (q1 : List UInt8) => (dv (strV q1) : AV)) e1; exact hE) rfl rfl rfl rfl rfl trivial
theorem ref09_Root (tl : Bool) (nl : Bool) (sl_ : Bool) (l : List (List UInt8)) (hf : fewG szL 40 600 l) : Holds Try.prog 90 ⟨[slV tl nl (kSl sl_ kU8) l], [], dv (strV (rootB l)), []⟩ := ref09_Root_rec _ tl nl sl_ l hf rfl
end Go.Proofs.Ytdclfhahcfefeaa.Q
namespace Go.Proofs.Ytdclfhahcfefeaa.Q
open Go Go.RowKit
set_option linter.unusedVariables false
set_option linter.unusedSimpArgs false
set_option maxRecDepth 100000
set_option maxHeartbeats 4000000
theorem iat_3 : Try.prog.info? 3 = some Try.t3 := by kernel_rfl
theorem wide_3 : Wide Try.prog 3 none := ⟨_, Try.underlying3, (fun _ h => by cases h), (fun _ _ h => by cases h)⟩
-- quaestor/block.ints
theorem block_ints (tb : Bool) (nb : Bool) (b : List UInt8) (tl : Bool) (nl : Bool) (l : List Int) (hb : b.length ≤ 140737488350000) (hl : 1 ≤ l.length ∧ l.length ≤ 100) : Holds Try.prog 68 ⟨[slV tb nb kU8 b, slV tl nl (kInt .i64) l], [], ownV 0 kU8 0 (b ++ intsB l).length, [.live (arrK 5 kU8 (b ++ intsB l))]⟩ := by
  refine Holds.of Try.func68 rfl (N := 18) Try.ntmps68 rfl fun w0 B0 S0 U0 => ?_
  show T _ (mkBase 18 0 w0 S0 U0 B0) ⟨[slV tb nb kU8 b, slV tl nl (kInt .i64) l], []⟩ _ _
  refine T.seq ?_
  refine xR [] (by kernel_rfl) (by kernel_rfl) ?_
  refine nT ?_
  refine T.seq ?_
  refine T.seq ?_
  refine xR [] (by kernel_rfl) (by kernel_rfl) ?_
  refine nT ?_
  refine T.block ?_
  refine T.ofTL ?_
  refine TL.peel ?_
  refine T.seq ?_
  refine xR [] (by kernel_rfl) (by kernel_rfl) ?_
  refine nT ?_
  refine T.seq ?_
  by_cases hq1 : 0 < ((l.length : Nat) : Int)
  · refine T.condT (by kernel_rfl) (decide_eq_true hq1) ?_
    refine T.skip ?_
    refine nT ?_
    refine T.seq ?_
    refine T.block ?_
    refine T.seq ?_
    refine xR [hR 0 rfl rfl (q_index tl nl (kInt .i64) l 0 (k := .i64) (i := 0) Try.underlying122 iat_3 rfl rfl (by first | assumption | omega | (unfold maxLen; omega) | (simp [maxLen, -List.getD_eq_getElem?_getD] <;> omega) | decide) (lt_of rfl) trivial)] (by kernel_rfl) (by kernel_rfl) ?_
    refine nT ?_
    refine xR [hR 2 rfl rfl (r_call (wire_PutInt tb nb b (l.getD 0 0) (by first | assumption | omega | (unfold maxLen; omega) | (simp [maxLen, -List.getD_eq_getElem?_getD] <;> omega) | decide)) Try.func47 rfl (by decide) [0] [] (l := [(.tmp 13, slV tb nb kU8 b), (.tmp 14, dv (.int .i64 (l.getD 0 0)))]) [] rfl 0 1 rfl rfl rfl rfl rfl rfl rfl rfl rfl ⟨.inl ⟨rfl, rfl⟩, ⟨.inl ⟨rfl, rfl⟩, trivial⟩⟩ rfl (fun b hb => by cases hb) (.inl rfl) (lt_of rfl) trivial)] (by kernel_rfl) (by kernel_rfl) ?_
    refine nB ?_
    refine nT ?_
    refine xR [hR 0 rfl rfl (r_bin (u1 := .int .i64 0) (u2 := .int .i64 1) (v := .int .i64 1) (b_add (by rw [IntKind.wrap_i64]; omega)) (lt_of rfl) ⟨rfl, trivial⟩)] (by kernel_rfl) (by kernel_rfl) ?_
    refine nP ?_
    refine TL.loop (ι := Nat) (fun (k : Nat) => ⟨[ownV 0 kU8 0 (b ++ intsB (l.take k)).length, slV tl nl (kInt .i64) l, aa, aa, aa, aa, aa, slV tl nl (kInt .i64) l, dv (.int .i64 ((l.length : Nat) : Int)), dv (.int .i64 ((k : Nat) : Int))], [.live (arrK 5 kU8 (b ++ intsB (l.take k)))]⟩) (fun (k : Nat) => (1 ≤ k ∧ k ≤ l.length)) (fun (k : Nat) => l.length - k) (1) (by omega) (fun _ _ hG => Gs.into2 (s' := ⟨[ownV 0 kU8 0 (b ++ intsB (l.take 1)).length, slV tl nl (kInt .i64) l, aa, aa, aa, aa, aa, slV tl nl (kInt .i64) l, dv (.int .i64 ((l.length : Nat) : Int)), dv (.int .i64 1)], [.live (arrK 5 kU8 (b ++ intsB (l.take 1)))]⟩) [0] (bm 10 899) (t1 := [ownV 0 kU8 0 (b ++ intsB (l.take 1)).length, slV tl nl (kInt .i64) l, aa, aa, aa, aa, aa, slV tl nl (kInt .i64) l, dv (.int .i64 ((l.length : Nat) : Int)), dv (.int .i64 1)]) (t2 := [ownV 0 kU8 0 (b ++ intB (l.getD 0 0)).length, slV tl nl (kInt .i64) l, aa, aa, aa, aa, aa, slV tl nl (kInt .i64) l, dv (.int .i64 ((l.length : Nat) : Int)), dv (.int .i64 1)]) (h1 := [.live (arrK 5 kU8 (b ++ intsB (l.take 1)))]) (h2 := [.live (arrK 5 kU8 (b ++ intB (l.getD 0 0)))]) (by have e1 : ((b ++ intsB (l.take 1)).length : Nat) = (b ++ intB (l.getD 0 0)).length := (by first | rfl | (rw [ints_one (by omega)])); have hE := congrArg (fun (q1 : Nat) => ([ownV 0 kU8 0 q1, slV tl nl (kInt .i64) l, aa, aa, aa, aa, aa, slV tl nl (kInt .i64) l, dv (.int .i64 ((l.length : Nat) : Int)), dv (.int .i64 1)] : List AV)) e1; exact hE) (by have e1 : ((b ++ intsB (l.take 1)) : List UInt8) = b ++ intB (l.getD 0 0) := (by first | rfl | (rw [ints_one (by omega)])); have hE := congrArg (fun (q1 : List UInt8) => ([.live (arrK 5 kU8 q1)] : List HS)) e1; exact hE) (by kernel_rfl) (by kernel_rfl) (by kernel_rfl) (by kernel_rfl) (by kernel_rfl) (by kernel_rfl) (by kernel_rfl) (by kernel_rfl) (by kernel_rfl) (by kernel_rfl) (by kernel_rfl) hG) ?_
    rintro k hk
    show T _ _ ⟨[ownV 0 kU8 0 (b ++ intsB (l.take k)).length, slV tl nl (kInt .i64) l, aa, aa, aa, aa, aa, slV tl nl (kInt .i64) l, dv (.int .i64 ((l.length : Nat) : Int)), dv (.int .i64 ((k : Nat) : Int))], [.live (arrK 5 kU8 (b ++ intsB (l.take k)))]⟩ _ _
    replace hk : 1 ≤ k ∧ k ≤ l.length := hk
    have hil := ints_len (l.take k)
    have htk : (l.take k).length = k := (by rw [List.length_take]; omega)
    refine T.seq ?_
    refine xR [] (by kernel_rfl) (by kernel_rfl) ?_
    refine nT ?_
    refine T.seq ?_
    by_cases hq2 : ((k : Nat) : Int) < ((l.length : Nat) : Int)
    · refine T.condT (by kernel_rfl) (decide_eq_true hq2) ?_
      refine T.skip ?_
      refine nT ?_
      refine T.seq ?_
      refine T.block ?_
      refine T.seq ?_
      refine xR [hR 0 rfl rfl (q_index tl nl (kInt .i64) l k (k := .i64) (i := ((k : Nat) : Int)) Try.underlying122 iat_3 rfl rfl (by first | assumption | omega | (unfold maxLen; omega) | (simp [maxLen, -List.getD_eq_getElem?_getD] <;> omega) | decide) (lt_of rfl) trivial)] (by kernel_rfl) (by kernel_rfl) ?_
      refine nT ?_
      refine xR [hR 2 rfl rfl (r_call (wire_PutInt true false (b ++ intsB (l.take k)) (l.getD k 0) (by first | assumption | omega | (unfold maxLen; omega) | (simp [maxLen, -List.getD_eq_getElem?_getD] <;> omega) | decide)) Try.func47 rfl (by decide) [1] [0] (l := [(.tmp 13, ownV 0 kU8 0 (b ++ intsB (l.take k)).length), (.tmp 14, dv (.int .i64 (l.getD k 0)))]) [(0, .live (arrK 5 kU8 (b ++ intsB (l.take k))))] rfl 0 1 rfl rfl rfl rfl rfl rfl rfl rfl rfl ⟨.inr (.inl ⟨rfl, (fun h => by cases h), rfl, rfl, by simp, 5, (b ++ intsB (l.take k)).length, elOf kU8 (b ++ intsB (l.take k)), List.Mem.head _, by omega, fun i j => by rw [Nat.zero_add]⟩), ⟨.inl ⟨rfl, rfl⟩, trivial⟩⟩ rfl (by intro b hb; simp only [List.mem_cons, List.not_mem_nil, or_false] at hb; rcases hb with rfl; exact ⟨_, List.Mem.head _⟩) (.inr ⟨trivial, (And.intro (arr_nt kU8_nt) trivial)⟩) (lt_of rfl) trivial)] (by kernel_rfl) (by kernel_rfl) ?_
      refine nB ?_
      refine nT ?_
      refine xR [hR 0 rfl rfl (r_bin (u1 := .int .i64 ((k : Nat) : Int)) (u2 := .int .i64 1) (v := .int .i64 ((k + 1 : Nat) : Int)) (b_add (by rw [IntKind.wrap_i64]; omega)) (lt_of rfl) ⟨rfl, trivial⟩)] (by kernel_rfl) (by kernel_rfl) ?_
      refine nL (k + 1) (show 1 ≤ (k + 1) ∧ (k + 1) ≤ l.length from (by omega)) (show (l.length - (k + 1) : Nat) < l.length - k from (by omega)) (fun _ _ hG => Gs.into2 (s' := ⟨[ownV 0 kU8 0 (b ++ intsB (l.take (k + 1))).length, slV tl nl (kInt .i64) l, aa, aa, aa, aa, aa, slV tl nl (kInt .i64) l, dv (.int .i64 ((l.length : Nat) : Int)), dv (.int .i64 ((k + 1 : Nat) : Int))], [.live (arrK 5 kU8 (b ++ intsB (l.take (k + 1))))]⟩) [1] (bm 10 899) (t1 := [ownV 1 kU8 0 (b ++ intsB (l.take (k + 1))).length, slV tl nl (kInt .i64) l, aa, aa, aa, aa, aa, slV tl nl (kInt .i64) l, dv (.int .i64 ((l.length : Nat) : Int)), dv (.int .i64 ((k + 1 : Nat) : Int))]) (t2 := [ownV 1 kU8 0 ((b ++ intsB (l.take k)) ++ intB (l.getD k 0)).length, slV tl nl (kInt .i64) l, aa, aa, aa, aa, aa, slV tl nl (kInt .i64) l, dv (.int .i64 ((l.length : Nat) : Int)), dv (.int .i64 ((k + 1 : Nat) : Int))]) (h1 := [.live (arrK 5 kU8 (b ++ intsB (l.take (k + 1))))]) (h2 := [.live (arrK 5 kU8 ((b ++ intsB (l.take k)) ++ intB (l.getD k 0)))]) (by have e1 : ((b ++ intsB (l.take (k + 1))).length : Nat) = ((b ++ intsB (l.take k)) ++ intB (l.getD k 0)).length := (by first | rfl | (rw [ints_succ (by omega), List.append_assoc]) | (rw [ints_succ (by omega), ← List.append_assoc])); have hE := congrArg (fun (q1 : Nat) => ([ownV 1 kU8 0 q1, slV tl nl (kInt .i64) l, aa, aa, aa, aa, aa, slV tl nl (kInt .i64) l, dv (.int .i64 ((l.length : Nat) : Int)), dv (.int .i64 ((k + 1 : Nat) : Int))] : List AV)) e1; exact hE) (by have e1 : ((b ++ intsB (l.take (k + 1))) : List UInt8) = (b ++ intsB (l.take k)) ++ intB (l.getD k 0) := (by first | rfl | (rw [ints_succ (by omega), List.append_assoc]) | (rw [ints_succ (by omega), ← List.append_assoc])); have hE := congrArg (fun (q1 : List UInt8) => ([.live (arrK 5 kU8 q1)] : List HS)) e1; exact hE) (by kernel_rfl) (by kernel_rfl) (by kernel_rfl) (by kernel_rfl) (by kernel_rfl) (by kernel_rfl) (by kernel_rfl) (by kernel_rfl) (by kernel_rfl) (by kernel_rfl) (by kernel_rfl) hG)
    · refine T.condF (by kernel_rfl) (decide_eq_false hq2) ?_
      refine T.exit ?_
      refine xT ?_
      refine xT ?_
      refine xH ?_
      refine nT ?_
      refine T.seq ?_
      refine xR [] (by kernel_rfl) (by kernel_rfl) ?_
      refine nT ?_
      refine T.ret ?_
      exact tE (.inl rfl) [.t 4 (.one (.own 0 kU8.sz 0 (b ++ intsB (l.take k)).length))] ⟨⟨rfl, by kernel_rfl⟩, trivial⟩ [0] (by have e1 : ((b ++ intsB l).length : Nat) = (b ++ intsB (l.take k)).length := (by first | rfl | (have hke : l.take k = l := List.take_of_length_le (by omega); rw [hke])); have hE := congrArg (fun (q1 : Nat) => (ownV 0 kU8 0 q1 : AV)) e1; exact hE) rfl rfl rfl rfl rfl ⟨⟨rfl, (by have e1 : ((b ++ intsB (l.take k)) : List UInt8) = b ++ intsB l := (by first | rfl | (have hke : l.take k = l := List.take_of_length_le (by omega); rw [hke])); have hE := congrArg (fun (q1 : List UInt8) => (.live (arrK 5 kU8 q1) : HS)) e1; exact Eq.trans (by kernel_rfl) hE)⟩, trivial⟩
  · exact absurd (by omega) hq1
end Go.Proofs.Ytdclfhahcfefeaa.Q
