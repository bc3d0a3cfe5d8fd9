import Derived.Test.YtladnlechpadlaaC03n10
namespace Go.Proofs.Ytladnlechpadlaa.Q
open Go Go.RowKit
set_option linter.unusedVariables false
set_option linter.unusedSimpArgs false
set_option maxRecDepth 100000
set_option maxHeartbeats 4000000
abbrev z8016_0 (te : Bool) (ne : Bool) (se : Bool) (l : List api_Envelope) : AV := slV te ne (k_api_Envelope se) l
abbrev z8016_1 (k : Nat) : AV := dv (.int .i64 ((k + 1 : Nat) : Int))
-- (*quaestor/quaestorref03.Authority).Distinct
theorem ref03_Distinct (f : Int) (u : Int) (l0 : List api_Envelope) (te : Bool) (ne : Bool) (se : Bool) (l : List api_Envelope) (hf : 0 ≤ f ∧ f ≤ 2) (hu : 0 ≤ u ∧ u ≤ 8) (hl : l.length ≤ 1000000) : Holds Try.prog 30 ⟨[pv 0 0, slV te ne (k_api_Envelope se) l], [.box 48 [.d (.val (.bool true)), .d (.val (.int .i64 f)), .d (.val (.int .i64 u)), .own 1 (k_api_Envelope false).sz 0 l0.length], arrK 32 (k_api_Envelope false) l0], dv (.int .i64 (dstE f l)), [.live (.box 48 [.d (.val (.bool true)), .d (.val (.int .i64 f)), .d (.val (.int .i64 u)), .own 1 (k_api_Envelope false).sz 0 l0.length]), .live (arrK 32 (k_api_Envelope false) l0)]⟩ := by
 refine Holds.of Try.func30 rfl (N := 36) Try.ntmps30 rfl fun w0 B0 S0 U0 => ?_
 show T _ (mkBase 36 2 w0 S0 U0 B0) ⟨[pv 0 0, (z8016_0 te ne se l)], [.live (.box 48 [.d (.val (.bool true)), .d (.val (.int .i64 f)), .d (.val (.int .i64 u)), .own 1 (k_api_Envelope false).sz 0 l0.length]), .live (arrK 32 (k_api_Envelope false) l0)]⟩ _ _
 refine T.seq ?_
 refine xR [] (by kernel_rfl) (by kernel_rfl) ?_
 refine nT ?_
 refine T.seq ?_
 refine xR [] (by kernel_rfl) (by kernel_rfl) ?_
 refine nT ?_
 refine T.seq ?_
 refine T.seq ?_
 refine xR [] (by kernel_rfl) (by kernel_rfl) ?_
 refine nT ?_
 refine T.block ?_
 refine T.turn (s' := ⟨[pv 0 0, (z8016_0 te ne se l), aa, aa, dv (.int .i64 0), dv (.slice none 0 0), dv (.int .i64 0)], [.live (.box 48 [.d (.val (.bool true)), .d (.val (.int .i64 f)), .d (.val (.int .i64 u)), .own 1 (k_api_Envelope false).sz 0 l0.length]), .live (arrK 32 (k_api_Envelope false) l0)]⟩) (fun _ _ hG => Gs.norm (by kernel_rfl) hG) ?_
 refine T.turn (s' := ⟨[pv 0 0, (z8016_0 te ne se l), aa, aa, dv (.int .i64 0), ownV 2 (kInt .i64) 0 0, dv (.int .i64 0)], [.live (.box 48 [.d (.val (.bool true)), .d (.val (.int .i64 f)), .d (.val (.int .i64 u)), .own 1 (k_api_Envelope false).sz 0 l0.length]), .live (arrK 32 (k_api_Envelope false) l0), .live (arrK 3 (kInt .i64) ([] : List Int))]⟩) (fun _ _ hG => Gs.absent 2 5 3 (kInt .i64) rfl rfl hG) ?_
 refine T.loop (ι := Nat) (fun (k : Nat) => ⟨[pv 0 0, (z8016_0 te ne se l), aa, aa, aa, ownV 2 (kInt .i64) 0 (sgn l k).length, dv (.int .i64 ((k : Nat) : Int))], [.live (.box 48 [.d (.val (.bool true)), .d (.val (.int .i64 f)), .d (.val (.int .i64 u)), .own 1 (k_api_Envelope false).sz 0 l0.length]), .live (arrK 32 (k_api_Envelope false) l0), .live (arrK 3 (kInt .i64) (sgn l k))]⟩) (fun (k : Nat) => (k ≤ l.length) ∧ (∀ j, j < k → dst1 f l j = 0)) (fun (k : Nat) => l.length - k) (0) ⟨(Nat.zero_le _), (fun j hj => absurd hj (Nat.not_lt_zero _))⟩ (fun _ _ hG => Gs.into2 (s' := ⟨[pv 0 0, (z8016_0 te ne se l), aa, aa, aa, ownV 2 (kInt .i64) 0 (sgn l 0).length, dv (.int .i64 0)], [.live (.box 48 [.d (.val (.bool true)), .d (.val (.int .i64 f)), .d (.val (.int .i64 u)), .own 1 (k_api_Envelope false).sz 0 l0.length]), .live (arrK 32 (k_api_Envelope false) l0), .live (arrK 3 (kInt .i64) (sgn l 0))]⟩) [0, 1, 2] (bm 7 99) (t1 := [pv 0 0, (z8016_0 te ne se l), aa, aa, aa, ownV 2 (kInt .i64) 0 (sgn l 0).length, dv (.int .i64 0)]) (t2 := [pv 0 0, (z8016_0 te ne se l), aa, aa, aa, ownV 2 (kInt .i64) 0 0, dv (.int .i64 0)]) (h1 := [.live (.box 48 [.d (.val (.bool true)), .d (.val (.int .i64 f)), .d (.val (.int .i64 u)), .own 1 (k_api_Envelope false).sz 0 l0.length]), .live (arrK 32 (k_api_Envelope false) l0), .live (arrK 3 (kInt .i64) (sgn l 0))]) (h2 := [.live (.box 48 [.d (.val (.bool true)), .d (.val (.int .i64 f)), .d (.val (.int .i64 u)), .own 1 (k_api_Envelope false).sz 0 l0.length]), .live (arrK 32 (k_api_Envelope false) l0), .live (arrK 3 (kInt .i64) ([] : List Int))]) (by have e1 : ((sgn l 0).length : Nat) = 0 := (by first | rfl); have hE := congrArg (fun (q1 : Nat) => ([pv 0 0, (z8016_0 te ne se l), aa, aa, aa, ownV 2 (kInt .i64) 0 q1, dv (.int .i64 0)] : List AV)) e1; exact hE) (by have e1 : ((sgn l 0) : List Int) = ([] : List Int) := (by first | rfl); have hE := congrArg (fun (q1 : List Int) => ([.live (.box 48 [.d (.val (.bool true)), .d (.val (.int .i64 f)), .d (.val (.int .i64 u)), .own 1 (k_api_Envelope false).sz 0 l0.length]), .live (arrK 32 (k_api_Envelope false) l0), .live (arrK 3 (kInt .i64) q1)] : List HS)) e1; exact hE) (by kernel_rfl) (by kernel_rfl) (by kernel_rfl) (by kernel_rfl) (by kernel_rfl) (by kernel_rfl) (by kernel_rfl) (by kernel_rfl) (by kernel_rfl) (by kernel_rfl) (by kernel_rfl) hG) ?_
 rintro k ⟨hk, hb⟩
 show T _ _ ⟨[pv 0 0, (z8016_0 te ne se l), aa, aa, aa, ownV 2 (kInt .i64) 0 (sgn l k).length, dv (.int .i64 ((k : Nat) : Int))], [.live (.box 48 [.d (.val (.bool true)), .d (.val (.int .i64 f)), .d (.val (.int .i64 u)), .own 1 (k_api_Envelope false).sz 0 l0.length]), .live (arrK 32 (k_api_Envelope false) l0), .live (arrK 3 (kInt .i64) (sgn l k))]⟩ _ _
 replace hk : k ≤ l.length := hk
 replace hb : ∀ j, j < k → dst1 f l j = 0 := hb
 have hsl := sgn_len hk
 refine T.seq ?_
 refine T.seq ?_
 refine xR [] (by kernel_rfl) (by kernel_rfl) ?_
 refine nT ?_
 by_cases hq1 : ((k : Nat) : Int) < ((l.length : Nat) : Int)
 ·refine T.condT (by kernel_rfl) (decide_eq_true hq1) ?_
  refine T.skip ?_
  refine nT ?_
  refine T.seq ?_
  refine T.block ?_
  refine T.seq ?_
  refine T.seq ?_
  refine xR [hR 3 rfl rfl (q_index te ne (k_api_Envelope se) l k (k := .i64) (i := ((k : Nat) : Int)) Try.underlying46 iat_32 rfl rfl (by first | assumption | omega | (unfold maxLen; omega) | (simp [maxLen, -List.getD_eq_getElem?_getD] <;> omega) | decide) (lt_of rfl) trivial),
    hR 6 rfl rfl (r_call (ref03_Replica f u l0 (l.getD k z_api_Envelope).f_Signer (by first | assumption | omega | (unfold maxLen; omega) | (simp [maxLen, -List.getD_eq_getElem?_getD] <;> omega) | decide) (by first | assumption | omega | (unfold maxLen; omega) | (simp [maxLen, -List.getD_eq_getElem?_getD] <;> omega) | decide)) Try.func42 rfl (by decide) [0, 1] [] (l := [(.tmp 13, pv 0 0), (.tmp 18, dv (.int .i64 (l.getD k z_api_Envelope).f_Signer))]) [] rfl 2 2 rfl rfl rfl rfl rfl rfl rfl rfl rfl ⟨.inl ⟨rfl, rfl⟩, ⟨.inl ⟨rfl, rfl⟩, trivial⟩⟩ rfl (fun b hb => by cases hb) (.inl rfl) (lt_of rfl) trivial)] (by kernel_rfl) (by kernel_rfl) ?_
  refine nT ?_
  by_cases hq2 : isReplica f (l.getD k z_api_Envelope).f_Signer
  ·have hrep := hq2
   refine T.condF (by kernel_rfl) (congrArg Bool.not (decide_eq_true hq2)) ?_
   refine T.skip ?_
   refine nT ?_
   refine T.seq ?_
   refine T.seq ?_
   refine xR [hR 2 rfl rfl (q_index te ne (k_api_Envelope se) l k (k := .i64) (i := ((k : Nat) : Int)) Try.underlying46 iat_32 rfl rfl (by first | assumption | omega | (unfold maxLen; omega) | (simp [maxLen, -List.getD_eq_getElem?_getD] <;> omega) | decide) (lt_of rfl) trivial),
     hR 6 rfl rfl (r_call (ref03_in (l.getD k z_api_Envelope).f_Signer true false (sgn l k) (by first | assumption | omega | (unfold maxLen; omega) | (simp [maxLen, -List.getD_eq_getElem?_getD] <;> omega) | decide)) Try.func49 rfl (by decide) [] [2] (l := [(.tmp 25, dv (.int .i64 (l.getD k z_api_Envelope).f_Signer)), (.tmp 26, ownV 2 (kInt .i64) 0 (sgn l k).length)]) [(2, .live (arrK 3 (kInt .i64) (sgn l k)))] rfl 0 0 rfl rfl rfl rfl rfl rfl rfl rfl rfl ⟨.inl ⟨rfl, rfl⟩, ⟨.inr (.inl ⟨rfl, (fun h => by cases h), rfl, rfl, by simp, 3, (sgn l k).length, elOf (kInt .i64) (sgn l k), List.Mem.head _, (by first | exact Nat.le_of_eq (Nat.zero_add _) | omega), fun i j => by rw [Nat.zero_add]⟩), trivial⟩⟩ rfl (by intro b hb; simp only [List.mem_cons, List.not_mem_nil, or_false] at hb; rcases hb with rfl; exact ⟨_, List.Mem.head _⟩) (.inr ⟨trivial, trivial⟩) (lt_of rfl) trivial)] (by kernel_rfl) (by kernel_rfl) ?_
   refine nT ?_
   by_cases hq3 : (l.getD k z_api_Envelope).f_Signer ∈ (sgn l k)
   ·have hd9 := dst_dup hrep ((sgn_dup (by omega)).1 hq3)
    refine T.condT (by kernel_rfl) (decide_eq_true hq3) ?_
    refine T.seq ?_
    refine xR [] (by kernel_rfl) (by kernel_rfl) ?_
    refine nT ?_
    refine T.ret ?_
    refine rT ?_
    refine rB ?_
    refine rT ?_
    refine rT ?_
    refine rB ?_
    refine rT ?_
    exact tE (.inl rfl) [.t 4 (.one (.d (.val (.int .i64 33))))] ⟨⟨rfl, by kernel_rfl⟩, trivial⟩ [0, 1] (by have e1 : ((dstE f l) : Int) = 33 := (by first | rfl | exact (dst_at hb (by omega) (by rw [hd9]; decide)).trans hd9 | exact ((dst_at hb (by omega) (by rw [hd9]; decide)).trans hd9).symm | exact dst_0 hb (by omega) | exact (dst_0 hb (by omega)).symm); have hE := congrArg (fun (q1 : Int) => (dv (.int .i64 q1) : AV)) e1; exact hE) rfl rfl rfl rfl rfl ⟨⟨rfl, (by kernel_rfl)⟩, ⟨⟨rfl, (by kernel_rfl)⟩, trivial⟩⟩
   ·have hd9 := dst_ok hrep (fun w => hq3 ((sgn_dup (by omega)).2 w))
    refine T.condF (by kernel_rfl) (decide_eq_false hq3) ?_
    refine T.skip ?_
    refine nT ?_
    refine xR [hR 3 rfl rfl (q_index te ne (k_api_Envelope se) l k (k := .i64) (i := ((k : Nat) : Int)) Try.underlying46 iat_32 rfl rfl (by first | assumption | omega | (unfold maxLen; omega) | (simp [maxLen, -List.getD_eq_getElem?_getD] <;> omega) | decide) (lt_of rfl) trivial),
      hR 6 rfl rfl (q_buildSlice 3 3 (kInt .i64) (kInt_ok .i64) [(l.getD k z_api_Envelope).f_Signer] [⟨0, .tmp 33, .one (.d (.val (.int .i64 (l.getD k z_api_Envelope).f_Signer))), 0⟩] (cs := [.d (.val (.int .i64 (l.getD k z_api_Envelope).f_Signer))]) Try.underlying50 iat_3 rfl zero_3 rfl rfl rfl (Nat.le_of_ble_eq_true rfl) (part_cons rfl rfl (Nat.le_of_ble_eq_true rfl) part_ok) (by kernel_rfl) (wk_eq (by kernel_rfl)) (lt_of rfl) trivial),
      hR 7 rfl rfl (q_appendO 2 4 3 8 (kInt .i64) (kInt_ok .i64) (sgn l k) [(l.getD k z_api_Envelope).f_Signer] ((sgn l k) ++ [(l.getD k z_api_Envelope).f_Signer]) (sgn l k).length (sy := (.own 3 (kInt .i64).sz 0 [(l.getD k z_api_Envelope).f_Signer].length)) (rhs := [(3, .live (arrK 3 (kInt .i64) [(l.getD k z_api_Envelope).f_Signer]))]) elem_50 (by first | assumption | omega | (unfold maxLen; omega) | (simp [maxLen, -List.getD_eq_getElem?_getD] <;> omega) | decide) (src_own 3 3 (kInt .i64) [(l.getD k z_api_Envelope).f_Signer]) (by rw [List.take_length]) (by first | assumption | omega | (unfold maxLen; omega) | (simp [maxLen, -List.getD_eq_getElem?_getD] <;> omega) | decide) (by first | assumption | omega | (unfold maxLen; omega) | (simp [maxLen, -List.getD_eq_getElem?_getD] <;> omega) | decide) (lt_of rfl) trivial)] (by kernel_rfl) (by kernel_rfl) ?_
    refine nB ?_
    refine nT ?_
    refine xR [hR 1 rfl rfl (r_bin (u1 := .int .i64 ((k : Nat) : Int)) (u2 := .int .i64 1) (v := .int .i64 ((k + 1 : Nat) : Int)) (b_add (by rw [IntKind.wrap_i64]; omega)) (lt_of rfl) ⟨rfl, trivial⟩)] (by kernel_rfl) (by kernel_rfl) ?_
    refine nL (k + 1) ⟨(show (k + 1) ≤ l.length from (by omega)), (show ∀ j, j < (k + 1) → dst1 f l j = 0 from (all_succ hb hd9))⟩ (show (l.length - (k + 1) : Nat) < l.length - k from (by omega)) (fun _ _ hG => Gs.into2 (s' := ⟨[pv 0 0, (z8016_0 te ne se l), aa, aa, aa, ownV 2 (kInt .i64) 0 (sgn l (k + 1)).length, (z8016_1 k)], [.live (.box 48 [.d (.val (.bool true)), .d (.val (.int .i64 f)), .d (.val (.int .i64 u)), .own 1 (k_api_Envelope false).sz 0 l0.length]), .live (arrK 32 (k_api_Envelope false) l0), .live (arrK 3 (kInt .i64) (sgn l (k + 1)))]⟩) [0, 1, 4] (bm 7 99) (t1 := [pv 0 0, (z8016_0 te ne se l), aa, aa, aa, ownV 4 (kInt .i64) 0 (sgn l (k + 1)).length, (z8016_1 k)]) (t2 := [pv 0 0, (z8016_0 te ne se l), aa, aa, aa, ownV 4 (kInt .i64) 0 ((sgn l k) ++ [(l.getD k z_api_Envelope).f_Signer]).length, (z8016_1 k)]) (h1 := [.live (.box 48 [.d (.val (.bool true)), .d (.val (.int .i64 f)), .d (.val (.int .i64 u)), .own 1 (k_api_Envelope false).sz 0 l0.length]), .live (arrK 32 (k_api_Envelope false) l0), .live (arrK 3 (kInt .i64) (sgn l (k + 1)))]) (h2 := [.live (.box 48 [.d (.val (.bool true)), .d (.val (.int .i64 f)), .d (.val (.int .i64 u)), .own 1 (k_api_Envelope false).sz 0 l0.length]), .live (arrK 32 (k_api_Envelope false) l0), .live (arrK 3 (kInt .i64) ((sgn l k) ++ [(l.getD k z_api_Envelope).f_Signer]))]) (by have e1 : ((sgn l (k + 1)).length : Nat) = ((sgn l k) ++ [(l.getD k z_api_Envelope).f_Signer]).length := (by first | rfl | (rw [sgn_succ (by omega)])); have hE := congrArg (fun (q1 : Nat) => ([pv 0 0, (z8016_0 te ne se l), aa, aa, aa, ownV 4 (kInt .i64) 0 q1, (z8016_1 k)] : List AV)) e1; exact hE) (by have e1 : ((sgn l (k + 1)) : List Int) = (sgn l k) ++ [(l.getD k z_api_Envelope).f_Signer] := (by first | rfl | (rw [sgn_succ (by omega)])); have hE := congrArg (fun (q1 : List Int) => ([.live (.box 48 [.d (.val (.bool true)), .d (.val (.int .i64 f)), .d (.val (.int .i64 u)), .own 1 (k_api_Envelope false).sz 0 l0.length]), .live (arrK 32 (k_api_Envelope false) l0), .live (arrK 3 (kInt .i64) q1)] : List HS)) e1; exact hE) (by kernel_rfl) (by kernel_rfl) (by kernel_rfl) (by kernel_rfl) (by kernel_rfl) (by kernel_rfl) (by kernel_rfl) (by kernel_rfl) (by kernel_rfl) (by kernel_rfl) (by kernel_rfl) hG)
  ·have hd9 := dst_no hq2
   refine T.condT (by kernel_rfl) (congrArg Bool.not (decide_eq_false hq2)) ?_
   refine T.seq ?_
   refine xR [] (by kernel_rfl) (by kernel_rfl) ?_
   refine nT ?_
   refine T.ret ?_
   refine rT ?_
   refine rB ?_
   refine rT ?_
   refine rT ?_
   refine rB ?_
   refine rT ?_
   exact tE (.inl rfl) [.t 4 (.one (.d (.val (.int .i64 30))))] ⟨⟨rfl, by kernel_rfl⟩, trivial⟩ [0, 1] (by have e1 : ((dstE f l) : Int) = 30 := (by first | rfl | exact (dst_at hb (by omega) (by rw [hd9]; decide)).trans hd9 | exact ((dst_at hb (by omega) (by rw [hd9]; decide)).trans hd9).symm | exact dst_0 hb (by omega) | exact (dst_0 hb (by omega)).symm); have hE := congrArg (fun (q1 : Int) => (dv (.int .i64 q1) : AV)) e1; exact hE) rfl rfl rfl rfl rfl ⟨⟨rfl, (by kernel_rfl)⟩, ⟨⟨rfl, (by kernel_rfl)⟩, trivial⟩⟩
 ·refine T.condF (by kernel_rfl) (decide_eq_false hq1) ?_
  refine T.exit ?_
  refine xT ?_
  refine xT ?_
  refine xH ?_
  refine nT ?_
  refine T.seq ?_
  refine xR [] (by kernel_rfl) (by kernel_rfl) ?_
  refine nT ?_
  refine T.ret ?_
  exact tE (.inl rfl) [.t 4 (.one (.d (.val (.int .i64 0))))] ⟨⟨rfl, by kernel_rfl⟩, trivial⟩ [0, 1] (by have e1 : ((dstE f l) : Int) = 0 := (by first | rfl | exact (dst_at hb (by omega) (by rw [hd9]; decide)).trans hd9 | exact ((dst_at hb (by omega) (by rw [hd9]; decide)).trans hd9).symm | exact dst_0 hb (by omega) | exact (dst_0 hb (by omega)).symm); have hE := congrArg (fun (q1 : Int) => (dv (.int .i64 q1) : AV)) e1; exact hE) rfl rfl rfl rfl rfl ⟨⟨rfl, (by kernel_rfl)⟩, ⟨⟨rfl, (by kernel_rfl)⟩, trivial⟩⟩
end Go.Proofs.Ytladnlechpadlaa.Q
