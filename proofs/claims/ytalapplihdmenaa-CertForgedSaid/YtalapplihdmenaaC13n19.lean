import Derived.Test.YtalapplihdmenaaC13n18
namespace Go.Proofs.Ytalapplihdmenaa.Q
open Go Go.RowKit
set_option linter.unusedVariables false
set_option linter.unusedSimpArgs false
set_option maxRecDepth 100000
set_option maxHeartbeats 4000000
section
variable (f : Int) (u : Int) (rows : List (authn_pair × Bool)) (te : Bool) (e : api_Envelope) (k : Int)
abbrev zb227_0 : List SV := [dI e.f_Signer, .d (dsl te false kU8 e.f_Body)]
abbrev zb227_1 : HS := .live (.box 94 [dI (3 * f + 1), dI u, .mref 1])
abbrev zb227_2 : HS := .live (mpK f_authn_pair kBool rows)
abbrev zb227_3 : List AV := [pv 0 0, .tv (.agg (zb227_0 te e)), vI k, aa, pv 2 0, aa, pv 3 0, vI (checkE f u rows e), vI (checkE f u rows e), aa, aa, aa, aa, aa, aa, vB (decide ((checkE f u rows e) ≠ 0))]
abbrev zb227_4 : SV := .d (.val (.slice none 0 0))
abbrev zb227_5 : HS := .live (.box 51 [dI 0, dI 0, dI 0, dI 0, dI 0, dS [], zb227_4, dI 0, dI 0, zb227_4, zb227_4, zb227_4])
abbrev zb227_6 : SV := .d (dsl false false kU8 ([] : List UInt8))
abbrev zb227_7 : SV := .d (dsl false false (k_api_Envelope false) ([] : List api_Envelope))
abbrev zb227_8 : SV := .d (dsl false false (k_api_Cert false) ([] : List api_Cert))
abbrev zb227_9 : List SV := [dI 0, dI 0, dI 0, dI 0, dI 0, dS [], zb227_6, dI 0, dI 0, zb227_7, zb227_7, zb227_8]
abbrev zb227_a : List AV := [pv 0 0, .tv (.agg (zb227_0 te e)), vI k, aa, pv 2 0, aa, pv 3 0, vI 120, vI (checkE f u rows e), pv 4 0, vI (decE e.f_Body), aa, aa, aa, aa, vB (decide ((checkE f u rows e) ≠ 0)), aa, aa, aa, aa, aa, aa, aa, aa, aa, aa, aa, aa, aa, aa, aa, vB true]
abbrev zb227_b : List SV := [dI (decV e.f_Body).f_Kind, dI (decV e.f_Body).f_View, dI (decV e.f_Body).f_Seq, dI (decV e.f_Body).f_Client, dI (decV e.f_Body).f_Stamp, dS (decV e.f_Body).f_Digest, .d (dsl false false kU8 (decV e.f_Body).f_Data), dI (decV e.f_Body).f_Result.f_Code, dI (decV e.f_Body).f_Result.f_Stage, .d (dsl false false (k_api_Envelope false) (decV e.f_Body).f_Batch), .d (dsl false false (k_api_Envelope false) (decV e.f_Body).f_Pres), .d (dsl false false (k_api_Cert false) (decV e.f_Body).f_Certs)]
abbrev zb227_c : List HS := [(zb227_1 f u), (zb227_2 rows), .live (.box 40 (zb227_0 te e)), zb227_5, .live (.box 51 (zb227_b e))]
abbrev zb227_d : List AV := [pv 0 0, .tv (.agg (zb227_0 te e)), vI k, aa, pv 2 0, aa, pv 3 0, vI 120, vI (checkE f u rows e), pv 4 0, vI (decE e.f_Body), aa, aa, aa, aa, vB (decide ((checkE f u rows e) ≠ 0)), aa, aa, aa, aa, aa, aa, aa, aa, aa, aa, aa, aa, aa, aa, aa, vB (decide ((decV e.f_Body).f_Kind ≠ k))]
end
theorem cert_open (f : Int) (u : Int) (rows : List (authn_pair × Bool)) (te : Bool) (e : api_Envelope) (k : Int) (hf : 0 ≤ f ∧ f ≤ 2) (hu : 0 ≤ u ∧ u ≤ 8) (hs : -9223372036854775808 ≤ e.f_Signer ∧ e.f_Signer ≤ 9223372036854775807) (hb : e.f_Body.length ≤ 100000000) : Holds Try.prog 29 ⟨[pv 0 0, .tv (.agg [dI e.f_Signer, .d (dsl te false kU8 e.f_Body)]), vI k], [.box 94 [dI (3 * f + 1), dI u, .mref 1], mpK f_authn_pair kBool rows], .tup [.agg [dI (opV (checkE f u rows) e k).f_Kind, dI (opV (checkE f u rows) e k).f_View, dI (opV (checkE f u rows) e k).f_Seq, dI (opV (checkE f u rows) e k).f_Client, dI (opV (checkE f u rows) e k).f_Stamp, dS (opV (checkE f u rows) e k).f_Digest, .d (dsl false false kU8 (opV (checkE f u rows) e k).f_Data), dI (opV (checkE f u rows) e k).f_Result.f_Code, dI (opV (checkE f u rows) e k).f_Result.f_Stage, .d (dsl false false (k_api_Envelope false) (opV (checkE f u rows) e k).f_Batch), .d (dsl false false (k_api_Envelope false) (opV (checkE f u rows) e k).f_Pres), .d (dsl false false (k_api_Cert false) (opV (checkE f u rows) e k).f_Certs)], .one (dI (opE (checkE f u rows) e k))], [.live (.box 94 [dI (3 * f + 1), dI u, .mref 1]), .live (mpK f_authn_pair kBool rows)]⟩ := by
 refine Holds.of Try.func29 rfl (N := 34) Try.ntmps29 rfl fun w0 B0 S0 U0 => ?_
 show T _ (mkBase 34 2 w0 S0 U0 B0) ⟨[pv 0 0, .tv (.agg (zb227_0 te e)), vI k], [(zb227_1 f u), (zb227_2 rows)]⟩ _ _
 refine sR [] ?_
 refine T.seq ?_
 refine sR [hR 2 rfl rfl (rCa (authn_Check f u rows te e (by assumption) (by assumption) (by assumption)) Try.func50 [0, 1] [(.tmp 11, pv 0 0), (.tmp 12, .tv (.agg (zb227_0 te e)))] 2 2)] ?_
 refine sR [] ?_
 by_cases hq1 : (checkE f u rows e) ≠ 0
 ·have hx9 := op_c (C := (checkE f u rows)) (k := k) hq1
  refine cT (decide_eq_true hq1) ?_
  refine sR [] ?_
  refine T.ret (rT ?_)
  refine Ends.turn (s' := ⟨(zb227_3 f u rows te e k), [(zb227_1 f u), (zb227_2 rows), .live (.box 40 (zb227_0 te e)), zb227_5]⟩) (fun _ _ hG => Gs.norm (by kernel_rfl) hG) ?_
  refine Ends.turn (s' := ⟨(zb227_3 f u rows te e k), [(zb227_1 f u), (zb227_2 rows), .live (.box 40 (zb227_0 te e)), .live (.box 51 zb227_9)]⟩) (fun _ _ hG => Gs.less (s := ⟨(zb227_3 f u rows te e k), [(zb227_1 f u), (zb227_2 rows), .live (.box 40 (zb227_0 te e)), zb227_5]⟩) (kk16 trivial) ⟨.inl rfl, (kk2 ⟨(.inr ⟨rfl, (kk2 (kk4 ⟨(.inr ⟨rfl, rfl, rfl⟩), (kk2 ⟨(.inr ⟨rfl, rfl, rfl⟩), ⟨(.inr ⟨rfl, rfl, rfl⟩), ⟨(.inr ⟨rfl, rfl, rfl⟩), trivial⟩⟩⟩)⟩))⟩), trivial⟩)⟩ hG) ?_
  exact tE (.inl rfl) [.c 6 3 51 0 51 [dI 0, dI 0, dI 0, dI 0, dI 0, dS [], zb227_6, dI 0, dI 0, zb227_7, zb227_7, zb227_8] (.agg zb227_9), .t 7 (.one (dI (checkE f u rows e)))] ⟨⟨rfl, rfl, by kernel_rfl, by kernel_rfl, .inl ⟨12, wide_51, rfl, Nat.le_of_ble_eq_true rfl⟩⟩, ⟨⟨rfl, by kernel_rfl⟩, trivial⟩⟩ [0, 1] (gc2 (hx9.1) (by exact hx9.2) (fun qq0 (q13 : Int) => (.tup [.agg [dI (qq0.f_Kind), dI (qq0.f_View), dI (qq0.f_Seq), dI (qq0.f_Client), dI (qq0.f_Stamp), dS (qq0.f_Digest), .d (dsl false false kU8 (qq0.f_Data)), dI (qq0.f_Result.f_Code), dI (qq0.f_Result.f_Stage), .d (dsl false false (k_api_Envelope false) (qq0.f_Batch)), .d (dsl false false (k_api_Envelope false) (qq0.f_Pres)), .d (dsl false false (k_api_Cert false) (qq0.f_Certs))], .one (dI q13)] : AV))) rfl rfl rfl rfl rfl ⟨⟨rfl, (by kernel_rfl)⟩, ⟨⟨rfl, (by kernel_rfl)⟩, trivial⟩⟩
 refine cF (decide_eq_false hq1) ?_
 refine T.skip (nT ?_)
 refine sR [hR 2 rfl rfl (rCa (msg_Decode te false e.f_Body (by omega)) Try.func51 [] [(.tmp 20, slV te false kU8 e.f_Body)] 0 0)] ?_
 refine T.seq ?_
 by_cases hq2 : (decE e.f_Body) ≠ 0
 ·have hx9 := op_d (C := (checkE f u rows)) (k := k) (by assumption) hq2
  refine sR [hN 3 false (decide_eq_true hq2),
    hN 4 false (decide_eq_true hq2),
    hN 5 false (decide_eq_true hq2),
    hN 6 false (decide_eq_true hq2),
    hP 7 (decide_eq_true hq2)] ?_
  refine cT (b := true) rfl ?_
  refine sR [] ?_
  refine T.ret (rT ?_)
  refine Ends.turn (s' := ⟨(zb227_a f u rows te e k), (zb227_c f u rows te e)⟩) (fun _ _ hG => Gs.norm (by kernel_rfl) hG) ?_
  refine Ends.turn (s' := ⟨(zb227_a f u rows te e k), [(zb227_1 f u), (zb227_2 rows), .live (.box 40 (zb227_0 te e)), .live (.box 51 zb227_9), .live (.box 51 (zb227_b e))]⟩) (fun _ _ hG => Gs.less (s := ⟨(zb227_a f u rows te e k), (zb227_c f u rows te e)⟩) (kk32 trivial) ⟨.inl rfl, (kk2 ⟨(.inr ⟨rfl, (kk2 (kk4 ⟨(.inr ⟨rfl, rfl, rfl⟩), (kk2 ⟨(.inr ⟨rfl, rfl, rfl⟩), ⟨(.inr ⟨rfl, rfl, rfl⟩), ⟨(.inr ⟨rfl, rfl, rfl⟩), trivial⟩⟩⟩)⟩))⟩), ⟨.inl rfl, trivial⟩⟩)⟩ hG) ?_
  exact tE (.inl rfl) [.c 6 3 51 0 51 [dI 0, dI 0, dI 0, dI 0, dI 0, dS [], zb227_6, dI 0, dI 0, zb227_7, zb227_7, zb227_8] (.agg zb227_9), .t 7 (.one (dI 120))] ⟨⟨rfl, rfl, by kernel_rfl, by kernel_rfl, .inl ⟨12, wide_51, rfl, Nat.le_of_ble_eq_true rfl⟩⟩, ⟨⟨rfl, by kernel_rfl⟩, trivial⟩⟩ [0, 1] (gc2 (hx9.1) (by exact hx9.2) (fun qq0 (q13 : Int) => (.tup [.agg [dI (qq0.f_Kind), dI (qq0.f_View), dI (qq0.f_Seq), dI (qq0.f_Client), dI (qq0.f_Stamp), dS (qq0.f_Digest), .d (dsl false false kU8 (qq0.f_Data)), dI (qq0.f_Result.f_Code), dI (qq0.f_Result.f_Stage), .d (dsl false false (k_api_Envelope false) (qq0.f_Batch)), .d (dsl false false (k_api_Envelope false) (qq0.f_Pres)), .d (dsl false false (k_api_Cert false) (qq0.f_Certs))], .one (dI q13)] : AV))) rfl rfl rfl rfl rfl ⟨⟨rfl, (by kernel_rfl)⟩, ⟨⟨rfl, (by kernel_rfl)⟩, trivial⟩⟩
 refine sR [hY 3 (decide_eq_false hq2),
   hY 4 (decide_eq_false hq2),
   hY 5 (decide_eq_false hq2),
   hY 6 (decide_eq_false hq2),
   hP 7 (decide_eq_false hq2)] ?_
 by_cases hq3 : (decV e.f_Body).f_Kind ≠ k
 ·have hx9 := op_k (C := (checkE f u rows)) (by assumption) (by assumption) hq3
  refine cT (decide_eq_true hq3) ?_
  refine sR [] ?_
  refine T.ret (rT ?_)
  refine Ends.turn (s' := ⟨(zb227_d f u rows te e k), (zb227_c f u rows te e)⟩) (fun _ _ hG => Gs.norm (by kernel_rfl) hG) ?_
  refine Ends.turn (s' := ⟨(zb227_d f u rows te e k), [(zb227_1 f u), (zb227_2 rows), .live (.box 40 (zb227_0 te e)), .live (.box 51 zb227_9), .live (.box 51 (zb227_b e))]⟩) (fun _ _ hG => Gs.less (s := ⟨(zb227_d f u rows te e k), (zb227_c f u rows te e)⟩) (kk32 trivial) ⟨.inl rfl, (kk2 ⟨(.inr ⟨rfl, (kk2 (kk4 ⟨(.inr ⟨rfl, rfl, rfl⟩), (kk2 ⟨(.inr ⟨rfl, rfl, rfl⟩), ⟨(.inr ⟨rfl, rfl, rfl⟩), ⟨(.inr ⟨rfl, rfl, rfl⟩), trivial⟩⟩⟩)⟩))⟩), ⟨.inl rfl, trivial⟩⟩)⟩ hG) ?_
  exact tE (.inl rfl) [.c 6 3 51 0 51 [dI 0, dI 0, dI 0, dI 0, dI 0, dS [], zb227_6, dI 0, dI 0, zb227_7, zb227_7, zb227_8] (.agg zb227_9), .t 7 (.one (dI 120))] ⟨⟨rfl, rfl, by kernel_rfl, by kernel_rfl, .inl ⟨12, wide_51, rfl, Nat.le_of_ble_eq_true rfl⟩⟩, ⟨⟨rfl, by kernel_rfl⟩, trivial⟩⟩ [0, 1] (gc2 (hx9.1) (by exact hx9.2) (fun qq0 (q13 : Int) => (.tup [.agg [dI (qq0.f_Kind), dI (qq0.f_View), dI (qq0.f_Seq), dI (qq0.f_Client), dI (qq0.f_Stamp), dS (qq0.f_Digest), .d (dsl false false kU8 (qq0.f_Data)), dI (qq0.f_Result.f_Code), dI (qq0.f_Result.f_Stage), .d (dsl false false (k_api_Envelope false) (qq0.f_Batch)), .d (dsl false false (k_api_Envelope false) (qq0.f_Pres)), .d (dsl false false (k_api_Cert false) (qq0.f_Certs))], .one (dI q13)] : AV))) rfl rfl rfl rfl rfl ⟨⟨rfl, (by kernel_rfl)⟩, ⟨⟨rfl, (by kernel_rfl)⟩, trivial⟩⟩
 have hx9 := op_ok (C := (checkE f u rows)) (by assumption) (by assumption) hq3
 refine cF (decide_eq_false hq3) ?_
 refine T.skip (nT ?_)
 refine sR [] ?_
 refine T.ret ?_
 exact tE (.inl rfl) [.c 6 3 51 0 51 [dI (decV e.f_Body).f_Kind, dI (decV e.f_Body).f_View, dI (decV e.f_Body).f_Seq, dI (decV e.f_Body).f_Client, dI (decV e.f_Body).f_Stamp, dS (decV e.f_Body).f_Digest, .d (dsl false false kU8 (decV e.f_Body).f_Data), dI (decV e.f_Body).f_Result.f_Code, dI (decV e.f_Body).f_Result.f_Stage, .d (dsl false false (k_api_Envelope false) (decV e.f_Body).f_Batch), .d (dsl false false (k_api_Envelope false) (decV e.f_Body).f_Pres), .d (dsl false false (k_api_Cert false) (decV e.f_Body).f_Certs)] (.agg (zb227_b e)), .t 7 (.one (dI 0))] ⟨⟨rfl, rfl, by kernel_rfl, by kernel_rfl, .inl ⟨12, wide_51, rfl, Nat.le_of_ble_eq_true rfl⟩⟩, ⟨⟨rfl, by kernel_rfl⟩, trivial⟩⟩ [0, 1] (gc2 (hx9.1) (by exact hx9.2) (fun qq0 (q13 : Int) => (.tup [.agg [dI (qq0.f_Kind), dI (qq0.f_View), dI (qq0.f_Seq), dI (qq0.f_Client), dI (qq0.f_Stamp), dS (qq0.f_Digest), .d (dsl false false kU8 (qq0.f_Data)), dI (qq0.f_Result.f_Code), dI (qq0.f_Result.f_Stage), .d (dsl false false (k_api_Envelope false) (qq0.f_Batch)), .d (dsl false false (k_api_Envelope false) (qq0.f_Pres)), .d (dsl false false (k_api_Cert false) (qq0.f_Certs))], .one (dI q13)] : AV))) rfl rfl rfl rfl rfl ⟨⟨rfl, (by kernel_rfl)⟩, ⟨⟨rfl, (by kernel_rfl)⟩, trivial⟩⟩
section
variable (f : Int) (u : Int) (l : List api_Envelope) (e : api_Envelope)
end
theorem elem_79 : Elem Try.prog 79 33 1 24 := ⟨Try.underlying79, _, _, iat_33, rfl, rfl, rfl, rfl, by decide⟩
theorem zero_33 : Zero Try.prog 33 [.slice none 0 0] := ⟨_, _, iat_33, rfl, rfl⟩
section
variable (tl : Bool) (nl : Bool) (sl_ : Bool) (l : List api_Envelope) (k : Nat)
abbrev z4191_0 : AV := slV tl nl (k_api_Envelope sl_) l
abbrev z4191_1 : AV := ownV 0 (kSl false kU8) 0 (fillL [] (l.map envB) k).length
abbrev z4191_2 : AV := vI ((l.length : Nat) : Int)
abbrev z4191_3 : AV := vI ((k : Nat) : Int)
abbrev z4191_4 : List HS := [.live (arrK 33 (kSl false kU8) (fillL [] (l.map envB) k))]
abbrev z4191_6 : List SV := [dI (l.getD k z_api_Envelope).f_Signer, .d (dsl sl_ false kU8 (l.getD k z_api_Envelope).f_Body)]
abbrev z4191_7 : AV := vI ((k + 1 : Nat) : Int)
abbrev z4191_8 : AV := vB (decide (((k : Nat) : Int) < ((l.length : Nat) : Int)))
abbrev z4191_9 : List AV := [aa, aa, aa, (z4191_1 l k), (z4191_3 k), pv 1 0, aa, aa, aa, (z4191_0 tl nl sl_ l), (z4191_2 l), (z4191_7 k), (z4191_8 l k)]
abbrev z4191_a : HS := .live (arrK 33 (kSl false kU8) (((fillL [] (l.map envB) k).set k (([] : List UInt8) ++ envB (l.getD k z_api_Envelope))).take (fillL [] (l.map envB) k).length))
abbrev z4191_c : List AV := [aa, aa, aa, ownV 0 (kSl false kU8) 0 (l.map envB).length, aa, aa, aa, aa, aa, (z4191_0 tl nl sl_ l), (z4191_2 l), (z4191_3 k), (z4191_8 l k)]
abbrev z4191_d : HS := .live (arrK 33 (kSl false kU8) (l.map envB))
end
theorem msg_Batch (tl : Bool) (nl : Bool) (sl_ : Bool) (l : List api_Envelope) (hb : (envsB l).length ≤ 1000000000) : Holds Try.prog 36 ⟨[slV tl nl (k_api_Envelope sl_) l], [], dv (strV (bchB l)), []⟩ := by
 refine Holds.of Try.func36 rfl (N := 24) Try.ntmps36 rfl fun w0 B0 S0 U0 => ?_
 show T _ (mkBase 24 0 w0 S0 U0 B0) ⟨[(z4191_0 tl nl sl_ l)], []⟩ _ _
 have hsz := szP_envs l
 have hml : (l.map envB).length = l.length := List.length_map ..
 have hlc := list_cnt l
 have hll := list_len l
 refine sR [] ?_
 refine sR [hR 2 rfl rfl (q_makeW 0 33 24 (kSl false kU8) (fillL [] (l.map envB) 0) l.length l.length (p := ((l.length : Nat) : Int)) (q := ((l.length : Nat) : Int)) elem_79 zero_33 rfl rfl (by omega) (by omega) (by (unfold maxLen; omega)) (by intro j hj; replace hj : j < 1 := hj; rcases j with _ | j <;> first | exact .inl rfl | exact .inr ⟨rfl, rfl, rfl⟩ | omega) (by (rw [fill_0, hml]; rfl)) (lt_of rfl) trivial)] ?_
 refine T.seq ?_
 refine sR [] ?_
 refine T.block ?_
 refine T.loop (ι := Nat) (fun (k : Nat) => ⟨[aa, aa, aa, (z4191_1 l k), aa, aa, aa, aa, aa, (z4191_0 tl nl sl_ l), (z4191_2 l), (z4191_3 k)], (z4191_4 l k)⟩) (fun (k : Nat) => (k ≤ l.length)) (fun (k : Nat) => l.length - k) (0) (Nat.zero_le _) (fun _ _ hG => Gs.iI [0] (bm 12 3592) rfl rfl hG) ?_
 rintro k hk
 show T _ _ ⟨[aa, aa, aa, (z4191_1 l k), aa, aa, aa, aa, aa, (z4191_0 tl nl sl_ l), (z4191_2 l), (z4191_3 k)], (z4191_4 l k)⟩ _ _
 replace hk : k ≤ l.length := hk
 have hfk := fill_len ([] : List UInt8) (l.map envB) k
 refine sR [] ?_
 refine T.seq ?_
 by_cases hq1 : ((k : Nat) : Int) < ((l.length : Nat) : Int)
 ·have hrm := flat_room (z := z_api_Envelope) envB (l := l) (k := k) (by omega); have hrm2 : (l.flatMap envB).length = (envsB l).length := rfl
  refine cT (decide_eq_true hq1) ?_
  refine T.skip (nT (T.seq ?_))
  refine T.block ?_
  refine sR [hR 1 rfl rfl (q_index tl nl (k_api_Envelope sl_) l k (k := .i64) (i := ((k : Nat) : Int)) Try.underlying31 iat_40 rfl rfl (by omega) (lt_of rfl) trivial)] ?_
  refine xR [hR 3 rfl rfl (rCn (msg_putEnvelope false false ([] : List UInt8) sl_ (l.getD k z_api_Envelope) (by (simp [maxLen, -List.getD_eq_getElem?_getD] <;> omega))) Try.func58 [2] [(.const (.slice none 0 0), dv (.slice none 0 0)), (.tmp 18, .tv (.agg (z4191_6 sl_ l k)))] 0 1 ⟨.inr (.inr ⟨rfl, rfl, rfl⟩), ⟨⟨.inl ⟨rfl, rfl⟩, ⟨.inl ⟨rfl, rfl⟩, trivial⟩⟩, trivial⟩⟩ ⟨rfl, trivial⟩),
    hR 4 rfl rfl (r_indexO (k := .i64) (l := 0) (sz := (kSl false kU8).sz) (off := 0) (n := (fillL [] (l.map envB) k).length) (i := ((k : Nat) : Int)) (m := k) (o' := k * (kSl false kU8).sz + 0) Try.underlying79 iat_33 rfl rfl (by omega) (by simp) (lt_of rfl) trivial),
    hR 5 rfl rfl (ORule.frz 1 19 2 5 kU8 (([] : List UInt8) ++ envB (l.getD k z_api_Envelope)) (av := ownV 2 kU8 0 (([] : List UInt8) ++ envB (l.getD k z_api_Envelope)).length) (q_storeA 0 33 (kSl false kU8) (fillL [] (l.map envB) k) (([] : List UInt8) ++ envB (l.getD k z_api_Envelope)) k 0 1 [dsl false false kU8 (([] : List UInt8) ++ envB (l.getD k z_api_Envelope))] (tv := .one (.d (dsl false false kU8 (([] : List UInt8) ++ envB (l.getD k z_api_Envelope))))) (off := k * (kSl false kU8).sz + 0) cells_33 ⟨.inl rfl, trivial⟩ rfl rfl (by omega) (by decide) rfl (by intro j hj; replace hj : j < 1 := hj; rcases j with _ | j <;> first | rfl | omega) trivial) rfl (.inr (.inr ⟨rfl, rfl, rfl, (fun h => by cases h), rfl, rfl, Nat.le_of_eq (Nat.zero_add _), fun i j _ => by rw [Nat.zero_add]⟩)) (by intro h; cases h) rfl rfl)] (by kernel_rfl) (by kernel_rfl) ?_
  refine nB ?_
  refine nT ?_
  refine xR [hR 0 rfl rfl (r_bin (u1 := .int .i64 ((k : Nat) : Int)) (u2 := .int .i64 1) (v := .int .i64 ((k + 1 : Nat) : Int)) (b_add (by rw [IntKind.wrap_i64]; omega)) (lt_of rfl) ⟨rfl, trivial⟩)] (by kernel_rfl) (by kernel_rfl) ?_
  refine Ends.turn (s' := ⟨(z4191_9 tl nl sl_ l k), [.live (arrK 33 (kSl false kU8) ((fillL [] (l.map envB) k).set k (([] : List UInt8) ++ envB (l.getD k z_api_Envelope)))), .live (.box 40 (z4191_6 sl_ l k)), .dead]⟩) (fun _ _ hG => Gs.norm (by kernel_rfl) hG) ?_
  refine Ends.turn (s' := ⟨(z4191_9 tl nl sl_ l k), [(z4191_a l k), .live (.box 40 (z4191_6 sl_ l k)), .dead]⟩) (fun _ _ hG => Gs.trunc 0 33 (kSl false kU8) ((fillL [] (l.map envB) k).set k (([] : List UInt8) ++ envB (l.getD k z_api_Envelope))) (((fillL [] (l.map envB) k).set k (([] : List UInt8) ++ envB (l.getD k z_api_Envelope))).take (fillL [] (l.map envB) k).length) (fillL [] (l.map envB) k).length rfl rfl hG) ?_
  refine nL (k + 1) (show (k + 1) ≤ l.length from (by omega)) (show (l.length - (k + 1) : Nat) < l.length - k from (by omega)) (fun _ _ hG => Gs.iI [0] (bm 12 3592) (t2 := [aa, aa, aa, (z4191_1 l k), aa, aa, aa, aa, aa, (z4191_0 tl nl sl_ l), (z4191_2 l), (z4191_7 k)]) (h2 := [(z4191_a l k)]) (by have e1 : ((fillL [] (l.map envB) (k + 1)).length : Nat) = (fillL [] (l.map envB) k).length := (by (simp only [fill_len, List.length_set])); have hE := congrArg (fun (q1 : Nat) => ([aa, aa, aa, ownV 0 (kSl false kU8) 0 q1, aa, aa, aa, aa, aa, (z4191_0 tl nl sl_ l), (z4191_2 l), (z4191_7 k)] : List AV)) e1; exact hE) (by have e1 : ((fillL [] (l.map envB) (k + 1)) : List (List UInt8)) = (((fillL [] (l.map envB) k).set k (([] : List UInt8) ++ envB (l.getD k z_api_Envelope))).take (fillL [] (l.map envB) k).length) := (by (rw [← fill_set (by rw [hml]; omega), map_get (by omega), List.take_of_length_le (by rw [List.length_set]; exact Nat.le_refl _)]; rfl)); have hE := congrArg (fun (q1 : List (List UInt8)) => ([.live (arrK 33 (kSl false kU8) q1)] : List HS)) e1; exact hE) hG)
 refine cF (decide_eq_false hq1) ?_
 refine T.exit ?_
 refine xT ?_
 refine xT ?_
 refine xH ?_
 refine nT ?_
 refine T.turn (s' := ⟨[aa, aa, aa, (z4191_1 l k), aa, aa, aa, aa, aa, (z4191_0 tl nl sl_ l), (z4191_2 l), (z4191_3 k), (z4191_8 l k)], (z4191_4 l k)⟩) (fun _ _ hG => Gs.norm (by kernel_rfl) hG) ?_
 refine T.turn (s' := ⟨(z4191_c tl nl sl_ l k), [(z4191_d l)]⟩) (fun _ _ hG => Gs.iI [0] (bm 13 7688) (t2 := [aa, aa, aa, (z4191_1 l k), aa, aa, aa, aa, aa, (z4191_0 tl nl sl_ l), (z4191_2 l), (z4191_3 k), (z4191_8 l k)]) (h2 := (z4191_4 l k)) (by have e1 : ((l.map envB).length : Nat) = (fillL [] (l.map envB) k).length := (by (rw [fill_end (by omega)])); have hE := congrArg (fun (q1 : Nat) => ([aa, aa, aa, ownV 0 (kSl false kU8) 0 q1, aa, aa, aa, aa, aa, (z4191_0 tl nl sl_ l), (z4191_2 l), (z4191_3 k), (z4191_8 l k)] : List AV)) e1; exact hE) (by have e1 : ((l.map envB) : List (List UInt8)) = (fillL [] (l.map envB) k) := (by (rw [fill_end (by omega)])); have hE := congrArg (fun (q1 : List (List UInt8)) => ([.live (arrK 33 (kSl false kU8) q1)] : List HS)) e1; exact hE) hG) ?_
 refine sR [hR 1 rfl rfl (r_call (term_Of (8 : UInt8) true false false (l.map envB) (by omega)) Try.func59 rfl (by decide) [] [0] (l := [(.const (.int .u8 8), dv (.int .u8 8)), (.tmp 22, ownV 0 (kSl false kU8) 0 (l.map envB).length)]) [(0, (z4191_d l))] rfl 0 0 rfl rfl rfl rfl rfl rfl rfl rfl rfl ⟨.inl ⟨rfl, rfl⟩, ⟨.inr (.inl ⟨rfl, (fun h => by cases h), rfl, rfl, by simp, 33, (l.map envB).length, elOf (kSl false kU8) (l.map envB), List.Mem.head _, (by exact Nat.le_of_eq (Nat.zero_add _)), fun i j => by rw [Nat.zero_add]⟩), trivial⟩⟩ rfl (by intro b hb; simp only [List.mem_cons, List.not_mem_nil, or_false] at hb; rcases hb with rfl; exact ⟨_, List.Mem.head _⟩) (.inr ⟨trivial, trivial⟩) (lt_of rfl) ⟨rfl, trivial⟩)] ?_
 refine T.ret ?_
 exact eRt 2 (.one (dS (ofB (8 : UInt8) (l.map envB)))) [] (congrArg (fun (q1 : List UInt8) => (dv (strV q1) : AV)) (by rfl)) trivial
section
variable (tl : Bool) (nl : Bool) (sl_ : Bool) (l : List api_Envelope) (k : Nat)
abbrev z8dd7_0 : AV := slV tl nl (k_api_Envelope sl_) l
abbrev z8dd7_1 : AV := ownV 0 (kSl false kU8) 0 ((l.map envB).take k).length
abbrev z8dd7_2 : AV := vI ((k : Nat) : Int)
abbrev z8dd7_3 : List HS := [.live (arrK 33 (kSl false kU8) ((l.map envB).take k))]
abbrev z8dd7_4 : AV := vI ((k + 1 : Nat) : Int)
abbrev z8dd7_5 : AV := vB (decide (((k : Nat) : Int) < ((l.length : Nat) : Int)))
abbrev z8dd7_6 : List AV := [(z8dd7_0 tl nl sl_ l), aa, aa, ownV 0 (kSl false kU8) 0 (l.map envB).length, (z8dd7_2 k), aa, aa, aa, (z8dd7_5 l k)]
abbrev z8dd7_7 : HS := .live (arrK 33 (kSl false kU8) (l.map envB))
end
theorem ref12_Batch (tl : Bool) (nl : Bool) (sl_ : Bool) (l : List api_Envelope) (hb : (envsB l).length ≤ 1000000000) : Holds Try.prog 15 ⟨[slV tl nl (k_api_Envelope sl_) l], [], dv (strV (bchB l)), []⟩ := by
 refine Holds.of Try.func15 rfl (N := 21) Try.ntmps15 rfl fun w0 B0 S0 U0 => ?_
 show T _ (mkBase 21 0 w0 S0 U0 B0) ⟨[(z8dd7_0 tl nl sl_ l)], []⟩ _ _
 have hsz := szP_envs l
 have hml : (l.map envB).length = l.length := List.length_map ..
 have hlc := list_cnt l
 have hll := list_len l
 refine sR [] ?_
 refine sR [] ?_
 refine T.seq ?_
 refine sR [] ?_
 refine T.block ?_
 refine T.turn (s' := ⟨[(z8dd7_0 tl nl sl_ l), aa, dv (strV []), dv (.slice none 0 0), vI 0], []⟩) (fun _ _ hG => Gs.norm (by kernel_rfl) hG) ?_
 refine T.turn (s' := ⟨[(z8dd7_0 tl nl sl_ l), aa, dv (strV []), ownV 0 (kSl false kU8) 0 0, vI 0], [.live (arrK 33 (kSl false kU8) ([] : List (List UInt8)))]⟩) (fun _ _ hG => Gs.absent 0 3 33 (kSl false kU8) rfl rfl hG) ?_
 refine T.loop (ι := Nat) (fun (k : Nat) => ⟨[(z8dd7_0 tl nl sl_ l), aa, aa, (z8dd7_1 l k), (z8dd7_2 k)], (z8dd7_3 l k)⟩) (fun (k : Nat) => (k ≤ l.length)) (fun (k : Nat) => l.length - k) (0) (Nat.zero_le _) (fun _ _ hG => Gs.iI [0] (bm 5 25) (t2 := [(z8dd7_0 tl nl sl_ l), aa, aa, ownV 0 (kSl false kU8) 0 0, vI 0]) (h2 := [.live (arrK 33 (kSl false kU8) ([] : List (List UInt8)))]) (congrArg (fun (q1 : Nat) => ([(z8dd7_0 tl nl sl_ l), aa, aa, ownV 0 (kSl false kU8) 0 q1, vI 0] : List AV)) (by rfl)) (congrArg (fun (q1 : List (List UInt8)) => ([.live (arrK 33 (kSl false kU8) q1)] : List HS)) (by rfl)) hG) ?_
 rintro k hk
 show T _ _ ⟨[(z8dd7_0 tl nl sl_ l), aa, aa, (z8dd7_1 l k), (z8dd7_2 k)], (z8dd7_3 l k)⟩ _ _
 replace hk : k ≤ l.length := hk
 have htk : ((l.map envB).take k).length = k := (by rw [List.length_take]; omega)
 refine T.seq ?_
 refine sR [] ?_
 by_cases hq1 : ((k : Nat) : Int) < ((l.length : Nat) : Int)
 ·have hrm := flat_room (z := z_api_Envelope) envB (l := l) (k := k) (by omega); have hrm2 : (l.flatMap envB).length = (envsB l).length := rfl
  refine cT (decide_eq_true hq1) ?_
  refine T.skip (nT (T.seq ?_))
  refine T.block ?_
  refine xR [hR 3 rfl rfl (q_index tl nl (k_api_Envelope sl_) l k (k := .i64) (i := ((k : Nat) : Int)) Try.underlying31 iat_40 rfl rfl (by omega) (lt_of rfl) trivial),
    hR 5 rfl rfl (rCn (ref12_Envelope false false ([] : List UInt8) sl_ (l.getD k z_api_Envelope) (by (simp [maxLen, -List.getD_eq_getElem?_getD] <;> omega))) Try.func33 [1] [(.const (.slice none 0 0), dv (.slice none 0 0)), (.tmp 15, .tv (.agg [dI (l.getD k z_api_Envelope).f_Signer, .d (dsl sl_ false kU8 (l.getD k z_api_Envelope).f_Body)]))] 0 1 ⟨.inr (.inr ⟨rfl, rfl, rfl⟩), ⟨⟨.inl ⟨rfl, rfl⟩, ⟨.inl ⟨rfl, rfl⟩, trivial⟩⟩, trivial⟩⟩ ⟨rfl, trivial⟩),
    hR 6 rfl rfl (ORule.frz 0 16 1 5 kU8 (([] : List UInt8) ++ envB (l.getD k z_api_Envelope)) (av := ownV 1 kU8 0 (([] : List UInt8) ++ envB (l.getD k z_api_Envelope)).length) (q_buildSlice 2 33 (kSl false kU8) (kSl_ok false kU8) [([] : List UInt8) ++ envB (l.getD k z_api_Envelope)] [⟨0, .tmp 16, .one (.d (dsl false false kU8 (([] : List UInt8) ++ envB (l.getD k z_api_Envelope)))), 0⟩] (cs := [.d (dsl false false kU8 (([] : List UInt8) ++ envB (l.getD k z_api_Envelope)))]) Try.underlying79 iat_33 rfl zero_33 rfl rfl rfl (Nat.le_of_ble_eq_true rfl) (part_cons rfl rfl (Nat.le_of_ble_eq_true rfl) part_ok) (by kernel_rfl) (wk_eq (by kernel_rfl)) (lt_of rfl) trivial) rfl (.inr (.inr ⟨rfl, rfl, rfl, (fun h => by cases h), rfl, rfl, Nat.le_of_eq (Nat.zero_add _), fun i j _ => by rw [Nat.zero_add]⟩)) (by intro h; cases h) rfl rfl),
    hR 7 rfl rfl (q_appendO 0 3 33 24 (kSl false kU8) (kSl_ok false kU8) ((l.map envB).take k) [([] : List UInt8) ++ envB (l.getD k z_api_Envelope)] (((l.map envB).take k) ++ [([] : List UInt8) ++ envB (l.getD k z_api_Envelope)]) ((l.map envB).take k).length (sy := (.own 2 (kSl false kU8).sz 0 [([] : List UInt8) ++ envB (l.getD k z_api_Envelope)].length)) (rhs := [(2, .live (arrK 33 (kSl false kU8) [([] : List UInt8) ++ envB (l.getD k z_api_Envelope)]))]) elem_79 (by omega) (src_own 2 33 (kSl false kU8) [([] : List UInt8) ++ envB (l.getD k z_api_Envelope)]) (by rw [List.take_length]) (by (simp [maxLen, -List.getD_eq_getElem?_getD] <;> omega)) (by (simp [maxLen, -List.getD_eq_getElem?_getD] <;> omega)) (lt_of rfl) trivial)] (by kernel_rfl) (by kernel_rfl) ?_
  refine nB ?_
  refine nT ?_
  refine xR [hR 1 rfl rfl (r_bin (u1 := .int .i64 ((k : Nat) : Int)) (u2 := .int .i64 1) (v := .int .i64 ((k + 1 : Nat) : Int)) (b_add (by rw [IntKind.wrap_i64]; omega)) (lt_of rfl) ⟨rfl, trivial⟩)] (by kernel_rfl) (by kernel_rfl) ?_
  refine nL (k + 1) (show (k + 1) ≤ l.length from (by omega)) (show (l.length - (k + 1) : Nat) < l.length - k from (by omega)) (fun _ _ hG => Gs.i2 [3] (bm 5 25) (t1 := [(z8dd7_0 tl nl sl_ l), aa, aa, ownV 3 (kSl false kU8) 0 ((l.map envB).take (k + 1)).length, (z8dd7_4 k)]) (t2 := [(z8dd7_0 tl nl sl_ l), aa, aa, ownV 3 (kSl false kU8) 0 (((l.map envB).take k) ++ [([] : List UInt8) ++ envB (l.getD k z_api_Envelope)]).length, (z8dd7_4 k)]) (h1 := [.live (arrK 33 (kSl false kU8) ((l.map envB).take (k + 1)))]) (h2 := [.live (arrK 33 (kSl false kU8) (((l.map envB).take k) ++ [([] : List UInt8) ++ envB (l.getD k z_api_Envelope)]))]) (by have e1 : (((l.map envB).take (k + 1)).length : Nat) = (((l.map envB).take k) ++ [([] : List UInt8) ++ envB (l.getD k z_api_Envelope)]).length := (by (rw [tk_succ (z := []) (by omega), map_get (by omega)]; rfl)); have hE := congrArg (fun (q1 : Nat) => ([(z8dd7_0 tl nl sl_ l), aa, aa, ownV 3 (kSl false kU8) 0 q1, (z8dd7_4 k)] : List AV)) e1; exact hE) (by have e1 : (((l.map envB).take (k + 1)) : List (List UInt8)) = ((l.map envB).take k) ++ [([] : List UInt8) ++ envB (l.getD k z_api_Envelope)] := (by (rw [tk_succ (z := []) (by omega), map_get (by omega)]; rfl)); have hE := congrArg (fun (q1 : List (List UInt8)) => ([.live (arrK 33 (kSl false kU8) q1)] : List HS)) e1; exact hE) hG)
 refine cF (decide_eq_false hq1) ?_
 refine T.exit ?_
 refine xT ?_
 refine xT ?_
 refine xH ?_
 refine nT ?_
 refine T.turn (s' := ⟨[(z8dd7_0 tl nl sl_ l), aa, aa, (z8dd7_1 l k), (z8dd7_2 k), aa, aa, aa, (z8dd7_5 l k)], (z8dd7_3 l k)⟩) (fun _ _ hG => Gs.norm (by kernel_rfl) hG) ?_
 refine T.turn (s' := ⟨(z8dd7_6 tl nl sl_ l k), [(z8dd7_7 l)]⟩) (fun _ _ hG => Gs.iI [0] (bm 9 281) (t2 := [(z8dd7_0 tl nl sl_ l), aa, aa, (z8dd7_1 l k), (z8dd7_2 k), aa, aa, aa, (z8dd7_5 l k)]) (h2 := (z8dd7_3 l k)) (by have e1 : ((l.map envB).length : Nat) = ((l.map envB).take k).length := (by (rw [List.take_of_length_le (by omega)])); have hE := congrArg (fun (q1 : Nat) => ([(z8dd7_0 tl nl sl_ l), aa, aa, ownV 0 (kSl false kU8) 0 q1, (z8dd7_2 k), aa, aa, aa, (z8dd7_5 l k)] : List AV)) e1; exact hE) (by have e1 : ((l.map envB) : List (List UInt8)) = ((l.map envB).take k) := (by (rw [List.take_of_length_le (by omega)])); have hE := congrArg (fun (q1 : List (List UInt8)) => ([.live (arrK 33 (kSl false kU8) q1)] : List HS)) e1; exact hE) hG) ?_
 refine sR [hR 1 rfl rfl (r_call (ref02_Of (8 : UInt8) true false false (l.map envB) (by omega)) Try.func34 rfl (by decide) [] [0] (l := [(.const (.int .u8 8), dv (.int .u8 8)), (.tmp 19, ownV 0 (kSl false kU8) 0 (l.map envB).length)]) [(0, (z8dd7_7 l))] rfl 0 0 rfl rfl rfl rfl rfl rfl rfl rfl rfl ⟨.inl ⟨rfl, rfl⟩, ⟨.inr (.inl ⟨rfl, (fun h => by cases h), rfl, rfl, by simp, 33, (l.map envB).length, elOf (kSl false kU8) (l.map envB), List.Mem.head _, (by exact Nat.le_of_eq (Nat.zero_add _)), fun i j => by rw [Nat.zero_add]⟩), trivial⟩⟩ rfl (by intro b hb; simp only [List.mem_cons, List.not_mem_nil, or_false] at hb; rcases hb with rfl; exact ⟨_, List.Mem.head _⟩) (.inr ⟨trivial, trivial⟩) (lt_of rfl) ⟨rfl, trivial⟩)] ?_
 refine T.ret ?_
 exact eRt 2 (.one (dS (ofB (8 : UInt8) (l.map envB)))) [] (congrArg (fun (q1 : List UInt8) => (dv (strV q1) : AV)) (by rfl)) trivial
end Go.Proofs.Ytalapplihdmenaa.Q
