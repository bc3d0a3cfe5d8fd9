import Derived.Test.YtalapplihdmenaaGreatC13n20
namespace Go.Proofs.YtalapplihdmenaaGreat.Q
open Go Go.RowKit
set_option linter.unusedVariables false
set_option linter.unusedSimpArgs false
set_option maxRecDepth 100000
set_option maxHeartbeats 4000000
section
variable (f : Int) (u : Int) (rows : List (authn_pair × Bool)) (te : Bool) (e : aE) (k : Int)
abbrev Zay : List SV := [dI e.f_Signer, .d (dsl te false kU8 e.f_Body)]
abbrev Zaz : HS := .live (.box 98 [dI (3 * f + 1), dI u, .mref 1])
abbrev Zb0 : HS := .live (mpK f_authn_pair kBool rows)
abbrev Zb1 : List AV := [pv 0 0, .tv (.agg (Zay te e)), vI k, aa, pv 2 0, aa, pv 3 0, vI (checkE f u rows e), vI (checkE f u rows e), aa, aa, aa, aa, aa, aa, vB (decide ((checkE f u rows e) ≠ 0))]
abbrev Zb2 : SV := .d (.val (.slice none 0 0))
abbrev Zb3 : HS := .live (.box 46 [dI 0, dI 0, dI 0, dI 0, dI 0, dS [], Zb2, dI 0, dI 0, Zb2, Zb2, Zb2])
abbrev Zb4 : SV := dU ([] : List UInt8)
abbrev Zb5 : SV := .d (dsl false false (kE false) ([] : List aE))
abbrev Zb6 : SV := .d (dsl false false (kC false) ([] : List aC))
abbrev Zb7 : List SV := [dI 0, dI 0, dI 0, dI 0, dI 0, dS [], Zb4, dI 0, dI 0, Zb5, Zb5, Zb6]
abbrev Zb8 : List AV := [pv 0 0, .tv (.agg (Zay te e)), vI k, aa, pv 2 0, aa, pv 3 0, vI 120, vI (checkE f u rows e), pv 4 0, vI (decE e.f_Body), aa, aa, aa, aa, vB (decide ((checkE f u rows e) ≠ 0)), aa, aa, aa, aa, aa, aa, aa, aa, aa, aa, aa, aa, aa, aa, aa, vB true]
abbrev Zb9 : List SV := [dI (decV e.f_Body).f_Kind, dI (decV e.f_Body).f_View, dI (decV e.f_Body).f_Seq, dI (decV e.f_Body).f_Client, dI (decV e.f_Body).f_Stamp, dS (decV e.f_Body).f_Digest, dU (decV e.f_Body).f_Data, dI (decV e.f_Body).f_Result.f_Code, dI (decV e.f_Body).f_Result.f_Stage, .d (dsl false false (kE false) (decV e.f_Body).f_Batch), .d (dsl false false (kE false) (decV e.f_Body).f_Pres), .d (dsl false false (kC false) (decV e.f_Body).f_Certs)]
abbrev Zba : List HS := [(Zaz f u), (Zb0 rows), .live (.box 35 (Zay te e)), Zb3, .live (.box 46 (Zb9 e))]
abbrev Zbb : List AV := [pv 0 0, .tv (.agg (Zay te e)), vI k, aa, pv 2 0, aa, pv 3 0, vI 120, vI (checkE f u rows e), pv 4 0, vI (decE e.f_Body), aa, aa, aa, aa, vB (decide ((checkE f u rows e) ≠ 0)), aa, aa, aa, aa, aa, aa, aa, aa, aa, aa, aa, aa, aa, aa, aa, vB (decide ((decV e.f_Body).f_Kind ≠ k))]
end
theorem cert_open (f : Int) (u : Int) (rows : List (authn_pair × Bool)) (te : Bool) (e : aE) (k : Int) (hf : 0 ≤ f ∧ f ≤ 2) (hu : 0 ≤ u ∧ u ≤ 8) (hs : -9223372036854775808 ≤ e.f_Signer ∧ e.f_Signer ≤ 9223372036854775807) (hb : e.f_Body.length ≤ 100000000) : Holds Tryz.prog 50 ⟨[pv 0 0, .tv (.agg [dI e.f_Signer, .d (dsl te false kU8 e.f_Body)]), vI k], [.box 98 [dI (3 * f + 1), dI u, .mref 1], mpK f_authn_pair kBool rows], .tup [.agg [dI (opV (checkE f u rows) e k).f_Kind, dI (opV (checkE f u rows) e k).f_View, dI (opV (checkE f u rows) e k).f_Seq, dI (opV (checkE f u rows) e k).f_Client, dI (opV (checkE f u rows) e k).f_Stamp, dS (opV (checkE f u rows) e k).f_Digest, dU (opV (checkE f u rows) e k).f_Data, dI (opV (checkE f u rows) e k).f_Result.f_Code, dI (opV (checkE f u rows) e k).f_Result.f_Stage, .d (dsl false false (kE false) (opV (checkE f u rows) e k).f_Batch), .d (dsl false false (kE false) (opV (checkE f u rows) e k).f_Pres), .d (dsl false false (kC false) (opV (checkE f u rows) e k).f_Certs)], .one (dI (opE (checkE f u rows) e k))], [.live (.box 98 [dI (3 * f + 1), dI u, .mref 1]), .live (mpK f_authn_pair kBool rows)]⟩ := by
 refine Holds.of Tryz.func50 rfl (N := 34) Tryz.ntmps50 rfl fun w0 B0 S0 U0 => ?_
 show T _ (mkBase 34 2 w0 S0 U0 B0) ⟨[pv 0 0, .tv (.agg (Zay te e)), vI k], [(Zaz f u), (Zb0 rows)]⟩ _ _
 refine sR [] ?_
 refine T.seq ?_
 refine sR [hR 2 rfl rfl (rCa (authn_Check f u rows te e ‹_› ‹_› ‹_›) Tryz.func21 [0, 1] [(.tmp 11, pv 0 0), (.tmp 12, .tv (.agg (Zay te e)))] 2 2)] ?_
 refine sR [] ?_
 by_cases hq1 : (checkE f u rows e) ≠ 0
 ·have hx9 := op_c (C := (checkE f u rows)) (k := k) hq1
  refine cT (dT hq1) ?_
  refine sR [] ?_
  refine T.ret (rT ?_)
  refine eN ⟨(Zb1 f u rows te e k), [(Zaz f u), (Zb0 rows), .live (.box 35 (Zay te e)), Zb3]⟩ ?_
  refine Ends.turn (s' := ⟨(Zb1 f u rows te e k), [(Zaz f u), (Zb0 rows), .live (.box 35 (Zay te e)), .live (.box 46 Zb7)]⟩) (fun _ _ hG => Gs.less (s := ⟨(Zb1 f u rows te e k), [(Zaz f u), (Zb0 rows), .live (.box 35 (Zay te e)), Zb3]⟩) (kk16 trivial) ⟨.inl rfl, (kk2 ⟨(.inr ⟨rfl, (kk2 (kk4 ⟨(.inr ⟨rfl, rfl, rfl⟩), (kk2 ⟨(.inr ⟨rfl, rfl, rfl⟩), ⟨(.inr ⟨rfl, rfl, rfl⟩), ⟨(.inr ⟨rfl, rfl, rfl⟩), trivial⟩⟩⟩)⟩))⟩), trivial⟩)⟩ hG) ?_
  exact eX [.c 6 3 46 0 46 [dI 0, dI 0, dI 0, dI 0, dI 0, dS [], Zb4, dI 0, dI 0, Zb5, Zb5, Zb6] (.agg Zb7), .t 7 (.one (dI (checkE f u rows e)))] ⟨⟨rfl, rfl, by kernel_rfl, by kernel_rfl, .inl ⟨12, wide_46, rfl, Nat.le_of_ble_eq_true rfl⟩⟩, ⟨⟨rfl, by kernel_rfl⟩, trivial⟩⟩ [0, 1] (gc2 (hx9.1) (by exact hx9.2) (fun qq0 (q13 : Int) => (.tup [.agg [dI (qq0.f_Kind), dI (qq0.f_View), dI (qq0.f_Seq), dI (qq0.f_Client), dI (qq0.f_Stamp), dS (qq0.f_Digest), dU (qq0.f_Data), dI (qq0.f_Result.f_Code), dI (qq0.f_Result.f_Stage), .d (dsl false false (kE false) (qq0.f_Batch)), .d (dsl false false (kE false) (qq0.f_Pres)), .d (dsl false false (kC false) (qq0.f_Certs))], .one (dI q13)] : AV))) (ix (ix trivial))
 refine cF (dF hq1) ?_
 refine T.skip (nT ?_)
 refine sR [hR 2 rfl rfl (rCa (msg_Decode te false e.f_Body (by omega)) Tryz.func68 [] [(.tmp 20, slV te false kU8 e.f_Body)] 0 0)] ?_
 refine T.seq ?_
 by_cases hq2 : (decE e.f_Body) ≠ 0
 ·have hx9 := op_d (C := (checkE f u rows)) (k := k) ‹_› hq2
  refine sR [hN 3 false (dT hq2),
    hN 4 false (dT hq2),
    hN 5 false (dT hq2),
    hN 6 false (dT hq2),
    hP 7 (dT hq2)] ?_
  refine cT (b := true) rfl ?_
  refine sR [] ?_
  refine T.ret (rT ?_)
  refine eN ⟨(Zb8 f u rows te e k), (Zba f u rows te e)⟩ ?_
  refine Ends.turn (s' := ⟨(Zb8 f u rows te e k), [(Zaz f u), (Zb0 rows), .live (.box 35 (Zay te e)), .live (.box 46 Zb7), .live (.box 46 (Zb9 e))]⟩) (fun _ _ hG => Gs.less (s := ⟨(Zb8 f u rows te e k), (Zba f u rows te e)⟩) (kk32 trivial) ⟨.inl rfl, (kk2 ⟨(.inr ⟨rfl, (kk2 (kk4 ⟨(.inr ⟨rfl, rfl, rfl⟩), (kk2 ⟨(.inr ⟨rfl, rfl, rfl⟩), ⟨(.inr ⟨rfl, rfl, rfl⟩), ⟨(.inr ⟨rfl, rfl, rfl⟩), trivial⟩⟩⟩)⟩))⟩), ⟨.inl rfl, trivial⟩⟩)⟩ hG) ?_
  exact eX [.c 6 3 46 0 46 [dI 0, dI 0, dI 0, dI 0, dI 0, dS [], Zb4, dI 0, dI 0, Zb5, Zb5, Zb6] (.agg Zb7), .t 7 (.one (dI 120))] ⟨⟨rfl, rfl, by kernel_rfl, by kernel_rfl, .inl ⟨12, wide_46, rfl, Nat.le_of_ble_eq_true rfl⟩⟩, ⟨⟨rfl, by kernel_rfl⟩, trivial⟩⟩ [0, 1] (gc2 (hx9.1) (by exact hx9.2) (fun qq0 (q13 : Int) => (.tup [.agg [dI (qq0.f_Kind), dI (qq0.f_View), dI (qq0.f_Seq), dI (qq0.f_Client), dI (qq0.f_Stamp), dS (qq0.f_Digest), dU (qq0.f_Data), dI (qq0.f_Result.f_Code), dI (qq0.f_Result.f_Stage), .d (dsl false false (kE false) (qq0.f_Batch)), .d (dsl false false (kE false) (qq0.f_Pres)), .d (dsl false false (kC false) (qq0.f_Certs))], .one (dI q13)] : AV))) (ix (ix trivial))
 refine sR [hY 3 (dF hq2),
   hY 4 (dF hq2),
   hY 5 (dF hq2),
   hY 6 (dF hq2),
   hP 7 (dF hq2)] ?_
 by_cases hq3 : (decV e.f_Body).f_Kind ≠ k
 ·have hx9 := op_k (C := (checkE f u rows)) ‹_› ‹_› hq3
  refine cT (dT hq3) ?_
  refine sR [] ?_
  refine T.ret (rT ?_)
  refine eN ⟨(Zbb f u rows te e k), (Zba f u rows te e)⟩ ?_
  refine Ends.turn (s' := ⟨(Zbb f u rows te e k), [(Zaz f u), (Zb0 rows), .live (.box 35 (Zay te e)), .live (.box 46 Zb7), .live (.box 46 (Zb9 e))]⟩) (fun _ _ hG => Gs.less (s := ⟨(Zbb f u rows te e k), (Zba f u rows te e)⟩) (kk32 trivial) ⟨.inl rfl, (kk2 ⟨(.inr ⟨rfl, (kk2 (kk4 ⟨(.inr ⟨rfl, rfl, rfl⟩), (kk2 ⟨(.inr ⟨rfl, rfl, rfl⟩), ⟨(.inr ⟨rfl, rfl, rfl⟩), ⟨(.inr ⟨rfl, rfl, rfl⟩), trivial⟩⟩⟩)⟩))⟩), ⟨.inl rfl, trivial⟩⟩)⟩ hG) ?_
  exact eX [.c 6 3 46 0 46 [dI 0, dI 0, dI 0, dI 0, dI 0, dS [], Zb4, dI 0, dI 0, Zb5, Zb5, Zb6] (.agg Zb7), .t 7 (.one (dI 120))] ⟨⟨rfl, rfl, by kernel_rfl, by kernel_rfl, .inl ⟨12, wide_46, rfl, Nat.le_of_ble_eq_true rfl⟩⟩, ⟨⟨rfl, by kernel_rfl⟩, trivial⟩⟩ [0, 1] (gc2 (hx9.1) (by exact hx9.2) (fun qq0 (q13 : Int) => (.tup [.agg [dI (qq0.f_Kind), dI (qq0.f_View), dI (qq0.f_Seq), dI (qq0.f_Client), dI (qq0.f_Stamp), dS (qq0.f_Digest), dU (qq0.f_Data), dI (qq0.f_Result.f_Code), dI (qq0.f_Result.f_Stage), .d (dsl false false (kE false) (qq0.f_Batch)), .d (dsl false false (kE false) (qq0.f_Pres)), .d (dsl false false (kC false) (qq0.f_Certs))], .one (dI q13)] : AV))) (ix (ix trivial))
 have hx9 := op_ok (C := (checkE f u rows)) ‹_› ‹_› hq3
 refine cF (dF hq3) ?_
 refine T.skip (nT ?_)
 refine sR [] ?_
 refine T.ret ?_
 exact eX [.c 6 3 46 0 46 [dI (decV e.f_Body).f_Kind, dI (decV e.f_Body).f_View, dI (decV e.f_Body).f_Seq, dI (decV e.f_Body).f_Client, dI (decV e.f_Body).f_Stamp, dS (decV e.f_Body).f_Digest, dU (decV e.f_Body).f_Data, dI (decV e.f_Body).f_Result.f_Code, dI (decV e.f_Body).f_Result.f_Stage, .d (dsl false false (kE false) (decV e.f_Body).f_Batch), .d (dsl false false (kE false) (decV e.f_Body).f_Pres), .d (dsl false false (kC false) (decV e.f_Body).f_Certs)] (.agg (Zb9 e)), .t 7 (.one (dI 0))] ⟨⟨rfl, rfl, by kernel_rfl, by kernel_rfl, .inl ⟨12, wide_46, rfl, Nat.le_of_ble_eq_true rfl⟩⟩, ⟨⟨rfl, by kernel_rfl⟩, trivial⟩⟩ [0, 1] (gc2 (hx9.1) (by exact hx9.2) (fun qq0 (q13 : Int) => (.tup [.agg [dI (qq0.f_Kind), dI (qq0.f_View), dI (qq0.f_Seq), dI (qq0.f_Client), dI (qq0.f_Stamp), dS (qq0.f_Digest), dU (qq0.f_Data), dI (qq0.f_Result.f_Code), dI (qq0.f_Result.f_Stage), .d (dsl false false (kE false) (qq0.f_Batch)), .d (dsl false false (kE false) (qq0.f_Pres)), .d (dsl false false (kC false) (qq0.f_Certs))], .one (dI q13)] : AV))) (ix (ix trivial))
section
variable (f : Int) (u : Int) (l : List aE) (e : aE)
end
theorem elem_79 : Elem Tryz.prog 79 33 1 24 := ⟨Tryz.underlying79, _, _, iat_33, rfl, rfl, rfl, rfl, by decide⟩
theorem zero_33 : Zero Tryz.prog 33 [.slice none 0 0] := ⟨_, _, iat_33, rfl, rfl⟩
section
variable (tl : Bool) (nl : Bool) (sl_ : Bool) (l : List aE) (k : Nat)
abbrev Zbo : AV := slV tl nl (kE sl_) l
abbrev Zbp : AV := ownV 0 (kSl false kU8) 0 (fillL [] (l.map envB) k).length
abbrev Zbq : AV := vI ((l.length : Nat) : Int)
abbrev Zbr : AV := vI ((k : Nat) : Int)
abbrev Zbs : List HS := [.live (arrK 33 (kSl false kU8) (fillL [] (l.map envB) k))]
abbrev Zbu : List SV := [dI (l.getD k zE).f_Signer, .d (dsl sl_ false kU8 (l.getD k zE).f_Body)]
abbrev Zbv : AV := vI ((k + 1 : Nat) : Int)
abbrev Zbw : AV := vB (decide (((k : Nat) : Int) < ((l.length : Nat) : Int)))
abbrev Zbx : List AV := [aa, aa, aa, (Zbp l k), (Zbr k), pv 1 0, aa, aa, aa, (Zbo tl nl sl_ l), (Zbq l), (Zbv k), (Zbw l k)]
abbrev Zby : HS := .live (arrK 33 (kSl false kU8) (((fillL [] (l.map envB) k).set k (([] : List UInt8) ++ envB (l.getD k zE))).take (fillL [] (l.map envB) k).length))
abbrev Zc0 : List AV := [aa, aa, aa, ownV 0 (kSl false kU8) 0 (l.map envB).length, aa, aa, aa, aa, aa, (Zbo tl nl sl_ l), (Zbq l), (Zbr k), (Zbw l k)]
abbrev Zc1 : HS := .live (arrK 33 (kSl false kU8) (l.map envB))
end
theorem msg_Batch (tl : Bool) (nl : Bool) (sl_ : Bool) (l : List aE) (hb : (envsB l).length ≤ 1000000000) : Holds Tryz.prog 73 ⟨[slV tl nl (kE sl_) l], [], dv (strV (bchB l)), []⟩ := by
 refine Holds.of Tryz.func73 rfl (N := 24) Tryz.ntmps73 rfl fun w0 B0 S0 U0 => ?_
 show T _ (mkBase 24 0 w0 S0 U0 B0) ⟨[(Zbo tl nl sl_ l)], []⟩ _ _
 have hsz := szP_envs l
 have hml : (l.map envB).length = l.length := List.length_map ..
 have hlc := list_cnt l
 have hll := list_len l
 refine sR [] ?_
 refine sR [hR 2 rfl rfl (q_makeW 0 33 24 (kSl false kU8) (fillL [] (l.map envB) 0) l.length l.length (p := ((l.length : Nat) : Int)) (q := ((l.length : Nat) : Int)) elem_79 zero_33 rfl rfl (by omega) (by omega) (by (unfold maxLen; omega)) (by intro j hj; replace hj : j < 1 := hj; rcases j with _ | j <;> first | exact .inl rfl | exact .inr ⟨rfl, rfl, rfl⟩ | omega) (by (rw [fill_0, hml]; rfl)) (lt_of rfl) trivial)] ?_
 refine T.seq ?_
 refine sR [] ?_
 refine T.block ?_
 refine T.loop (ι := Nat) (fun (k : Nat) => ⟨[aa, aa, aa, (Zbp l k), aa, aa, aa, aa, aa, (Zbo tl nl sl_ l), (Zbq l), (Zbr k)], (Zbs l k)⟩) (fun (k : Nat) => (k ≤ l.length)) (fun (k : Nat) => l.length - k) (0) (Nat.zero_le _) (fun _ _ hG => Gs.iI [0] (bm 12 3592) rfl rfl hG) ?_
 rintro k hk
 show T _ _ ⟨[aa, aa, aa, (Zbp l k), aa, aa, aa, aa, aa, (Zbo tl nl sl_ l), (Zbq l), (Zbr k)], (Zbs l k)⟩ _ _
 replace hk : k ≤ l.length := hk
 have hfk := fill_len ([] : List UInt8) (l.map envB) k
 refine sR [] ?_
 refine T.seq ?_
 by_cases hq1 : ((k : Nat) : Int) < ((l.length : Nat) : Int)
 ·have hrm := flat_room (z := zE) envB (l := l) (k := k) (by omega); have hrm2 : (l.flatMap envB).length = (envsB l).length := rfl
  refine cT (dT hq1) ?_
  refine T.skip (nT (T.seq ?_))
  refine T.block ?_
  refine sR [hR 1 rfl rfl (q_index tl nl (kE sl_) l k (k := .i64) (i := ((k : Nat) : Int)) Tryz.underlying36 iat_35 rfl rfl (by omega) (lt_of rfl) trivial)] ?_
  refine xR [hR 3 rfl rfl (rCn (msg_putEnvelope false false ([] : List UInt8) sl_ (l.getD k zE) (by (simp [maxLen, -List.getD_eq_getElem?_getD] <;> omega))) Tryz.func101 [2] [(.const (.slice none 0 0), dv (.slice none 0 0)), (.tmp 18, .tv (.agg (Zbu sl_ l k)))] 0 1 ⟨.inr (.inr ⟨rfl, rfl, rfl⟩), ⟨⟨.inl ⟨rfl, rfl⟩, ⟨.inl ⟨rfl, rfl⟩, trivial⟩⟩, trivial⟩⟩ ⟨rfl, trivial⟩),
    hR 4 rfl rfl (r_indexO (k := .i64) (l := 0) (sz := (kSl false kU8).sz) (off := 0) (n := (fillL [] (l.map envB) k).length) (i := ((k : Nat) : Int)) (m := k) (o' := k * (kSl false kU8).sz + 0) Tryz.underlying79 iat_33 rfl rfl (by omega) (by simp) (lt_of rfl) trivial),
    hR 5 rfl rfl (ORule.frz 1 19 2 5 kU8 (([] : List UInt8) ++ envB (l.getD k zE)) (av := ownV 2 kU8 0 (([] : List UInt8) ++ envB (l.getD k zE)).length) (q_storeA 0 33 (kSl false kU8) (fillL [] (l.map envB) k) (([] : List UInt8) ++ envB (l.getD k zE)) k 0 1 [dsl false false kU8 (([] : List UInt8) ++ envB (l.getD k zE))] (tv := .one (dU (([] : List UInt8) ++ envB (l.getD k zE)))) (off := k * (kSl false kU8).sz + 0) cells_33 ⟨.inl rfl, trivial⟩ rfl rfl (by omega) (by decide) rfl (by intro j hj; replace hj : j < 1 := hj; rcases j with _ | j <;> first | rfl | omega) trivial) rfl (.inr (.inr ⟨rfl, rfl, rfl, (fun h => by cases h), rfl, rfl, Nat.le_of_eq (Nat.zero_add _), fun i j _ => by rw [Nat.zero_add]⟩)) (by intro h; cases h) rfl rfl)] (by kernel_rfl) (by kernel_rfl) ?_
  refine nB ?_
  refine nT ?_
  refine xK [hR 0 rfl rfl (r_bin (u1 := .int .i64 ((k : Nat) : Int)) (u2 := .int .i64 1) (v := .int .i64 ((k + 1 : Nat) : Int)) (b_add (by rw [IntKind.wrap_i64]; omega)) (lt_of rfl) ⟨rfl, trivial⟩)] ?_
  refine eN ⟨(Zbx tl nl sl_ l k), [.live (arrK 33 (kSl false kU8) ((fillL [] (l.map envB) k).set k (([] : List UInt8) ++ envB (l.getD k zE)))), .live (.box 35 (Zbu sl_ l k)), .dead]⟩ ?_
  refine Ends.turn (s' := ⟨(Zbx tl nl sl_ l k), [(Zby l k), .live (.box 35 (Zbu sl_ l k)), .dead]⟩) (fun _ _ hG => Gs.trunc 0 33 (kSl false kU8) ((fillL [] (l.map envB) k).set k (([] : List UInt8) ++ envB (l.getD k zE))) (((fillL [] (l.map envB) k).set k (([] : List UInt8) ++ envB (l.getD k zE))).take (fillL [] (l.map envB) k).length) (fillL [] (l.map envB) k).length rfl rfl hG) ?_
  refine nL (k + 1) (show (k + 1) ≤ l.length from (by omega)) (show (l.length - (k + 1) : Nat) < l.length - k from (by omega)) (fun _ _ hG => Gs.iI [0] (bm 12 3592) (t2 := [aa, aa, aa, (Zbp l k), aa, aa, aa, aa, aa, (Zbo tl nl sl_ l), (Zbq l), (Zbv k)]) (h2 := [(Zby l k)]) (by have e1 : ((fillL [] (l.map envB) (k + 1)).length : Nat) = (fillL [] (l.map envB) k).length := (by (simp only [fill_len, List.length_set])); have hE := congrArg (fun (q1 : Nat) => ([aa, aa, aa, ownV 0 (kSl false kU8) 0 q1, aa, aa, aa, aa, aa, (Zbo tl nl sl_ l), (Zbq l), (Zbv k)] : List AV)) e1; exact hE) (by have e1 : ((fillL [] (l.map envB) (k + 1)) : List (List UInt8)) = (((fillL [] (l.map envB) k).set k (([] : List UInt8) ++ envB (l.getD k zE))).take (fillL [] (l.map envB) k).length) := (by (rw [← fill_set (by rw [hml]; omega), map_get (by omega), List.take_of_length_le (by rw [List.length_set]; exact Nat.le_refl _)]; rfl)); have hE := congrArg (fun (q1 : List (List UInt8)) => ([.live (arrK 33 (kSl false kU8) q1)] : List HS)) e1; exact hE) hG)
 refine cF (dF hq1) ?_
 refine T.exit ?_
 refine xT ?_
 refine xT ?_
 refine xH ?_
 refine nT ?_
 refine tN ⟨[aa, aa, aa, (Zbp l k), aa, aa, aa, aa, aa, (Zbo tl nl sl_ l), (Zbq l), (Zbr k), (Zbw l k)], (Zbs l k)⟩ ?_
 refine T.turn (s' := ⟨(Zc0 tl nl sl_ l k), [(Zc1 l)]⟩) (fun _ _ hG => Gs.iI [0] (bm 13 7688) (t2 := [aa, aa, aa, (Zbp l k), aa, aa, aa, aa, aa, (Zbo tl nl sl_ l), (Zbq l), (Zbr k), (Zbw l k)]) (h2 := (Zbs l k)) (by have e1 : ((l.map envB).length : Nat) = (fillL [] (l.map envB) k).length := (by (rw [fill_end (by omega)])); have hE := congrArg (fun (q1 : Nat) => ([aa, aa, aa, ownV 0 (kSl false kU8) 0 q1, aa, aa, aa, aa, aa, (Zbo tl nl sl_ l), (Zbq l), (Zbr k), (Zbw l k)] : List AV)) e1; exact hE) (by have e1 : ((l.map envB) : List (List UInt8)) = (fillL [] (l.map envB) k) := (by (rw [fill_end (by omega)])); have hE := congrArg (fun (q1 : List (List UInt8)) => ([.live (arrK 33 (kSl false kU8) q1)] : List HS)) e1; exact hE) hG) ?_
 refine sR [hR 1 rfl rfl (r_call (term_Of (8 : UInt8) true false false (l.map envB) (by omega)) Tryz.func102 rfl (by decide) [] [0] (l := [(.const (.int .u8 8), dv (.int .u8 8)), (.tmp 22, ownV 0 (kSl false kU8) 0 (l.map envB).length)]) [(0, (Zc1 l))] rfl 0 0 rfl rfl rfl rfl rfl rfl rfl rfl rfl ⟨.inl ⟨rfl, rfl⟩, ⟨.inr (.inl ⟨rfl, (fun h => by cases h), rfl, rfl, by simp, 33, (l.map envB).length, elOf (kSl false kU8) (l.map envB), List.Mem.head _, (by exact Nat.le_of_eq (Nat.zero_add _)), fun i j => by rw [Nat.zero_add]⟩), trivial⟩⟩ rfl (by intro b hb; simp only [List.mem_cons, List.not_mem_nil, or_false] at hb; rcases hb with rfl; exact ⟨_, List.Mem.head _⟩) (.inr ⟨trivial, trivial⟩) (lt_of rfl) ⟨rfl, trivial⟩)] ?_
 refine T.ret ?_
 exact eRt 2 (.one (dS (ofB (8 : UInt8) (l.map envB)))) [] (congrArg (fun (q1 : List UInt8) => (dv (strV q1) : AV)) (by rfl)) trivial
section
variable (tl : Bool) (nl : Bool) (sl_ : Bool) (l : List aE) (k : Nat)
abbrev Zc2 : AV := slV tl nl (kE sl_) l
abbrev Zc3 : AV := ownV 0 (kSl false kU8) 0 ((l.map envB).take k).length
abbrev Zc4 : AV := vI ((k : Nat) : Int)
abbrev Zc5 : List HS := [.live (arrK 33 (kSl false kU8) ((l.map envB).take k))]
abbrev Zc6 : AV := vI ((k + 1 : Nat) : Int)
abbrev Zc7 : AV := vB (decide (((k : Nat) : Int) < ((l.length : Nat) : Int)))
abbrev Zc8 : List AV := [(Zc2 tl nl sl_ l), aa, aa, ownV 0 (kSl false kU8) 0 (l.map envB).length, (Zc4 k), aa, aa, aa, (Zc7 l k)]
abbrev Zc9 : HS := .live (arrK 33 (kSl false kU8) (l.map envB))
end
theorem ref12_Batch (tl : Bool) (nl : Bool) (sl_ : Bool) (l : List aE) (hb : (envsB l).length ≤ 1000000000) : Holds Tryz.prog 15 ⟨[slV tl nl (kE sl_) l], [], dv (strV (bchB l)), []⟩ := by
 refine Holds.of Tryz.func15 rfl (N := 21) Tryz.ntmps15 rfl fun w0 B0 S0 U0 => ?_
 show T _ (mkBase 21 0 w0 S0 U0 B0) ⟨[(Zc2 tl nl sl_ l)], []⟩ _ _
 have hsz := szP_envs l
 have hml : (l.map envB).length = l.length := List.length_map ..
 have hlc := list_cnt l
 have hll := list_len l
 refine sR [] ?_
 refine sR [] ?_
 refine T.seq ?_
 refine sR [] ?_
 refine T.block ?_
 refine tN ⟨[(Zc2 tl nl sl_ l), aa, dv (strV []), dv (.slice none 0 0), vI 0], []⟩ ?_
 refine T.turn (s' := ⟨[(Zc2 tl nl sl_ l), aa, dv (strV []), ownV 0 (kSl false kU8) 0 0, vI 0], [.live (arrK 33 (kSl false kU8) ([] : List (List UInt8)))]⟩) (fun _ _ hG => Gs.absent 0 3 33 (kSl false kU8) rfl rfl hG) ?_
 refine T.loop (ι := Nat) (fun (k : Nat) => ⟨[(Zc2 tl nl sl_ l), aa, aa, (Zc3 l k), (Zc4 k)], (Zc5 l k)⟩) (fun (k : Nat) => (k ≤ l.length)) (fun (k : Nat) => l.length - k) (0) (Nat.zero_le _) (fun _ _ hG => Gs.iI [0] (bm 5 25) (t2 := [(Zc2 tl nl sl_ l), aa, aa, ownV 0 (kSl false kU8) 0 0, vI 0]) (h2 := [.live (arrK 33 (kSl false kU8) ([] : List (List UInt8)))]) (congrArg (fun (q1 : Nat) => ([(Zc2 tl nl sl_ l), aa, aa, ownV 0 (kSl false kU8) 0 q1, vI 0] : List AV)) (by rfl)) (congrArg (fun (q1 : List (List UInt8)) => ([.live (arrK 33 (kSl false kU8) q1)] : List HS)) (by rfl)) hG) ?_
 rintro k hk
 show T _ _ ⟨[(Zc2 tl nl sl_ l), aa, aa, (Zc3 l k), (Zc4 k)], (Zc5 l k)⟩ _ _
 replace hk : k ≤ l.length := hk
 have htk : ((l.map envB).take k).length = k := (by rw [List.length_take]; omega)
 refine T.seq ?_
 refine sR [] ?_
 by_cases hq1 : ((k : Nat) : Int) < ((l.length : Nat) : Int)
 ·have hrm := flat_room (z := zE) envB (l := l) (k := k) (by omega); have hrm2 : (l.flatMap envB).length = (envsB l).length := rfl
  refine cT (dT hq1) ?_
  refine T.skip (nT (T.seq ?_))
  refine T.block ?_
  refine xR [hR 3 rfl rfl (q_index tl nl (kE sl_) l k (k := .i64) (i := ((k : Nat) : Int)) Tryz.underlying36 iat_35 rfl rfl (by omega) (lt_of rfl) trivial),
    hR 5 rfl rfl (rCn (ref12_Envelope false false ([] : List UInt8) sl_ (l.getD k zE) (by (simp [maxLen, -List.getD_eq_getElem?_getD] <;> omega))) Tryz.func33 [1] [(.const (.slice none 0 0), dv (.slice none 0 0)), (.tmp 15, .tv (.agg [dI (l.getD k zE).f_Signer, .d (dsl sl_ false kU8 (l.getD k zE).f_Body)]))] 0 1 ⟨.inr (.inr ⟨rfl, rfl, rfl⟩), ⟨⟨.inl ⟨rfl, rfl⟩, ⟨.inl ⟨rfl, rfl⟩, trivial⟩⟩, trivial⟩⟩ ⟨rfl, trivial⟩),
    hR 6 rfl rfl (ORule.frz 0 16 1 5 kU8 (([] : List UInt8) ++ envB (l.getD k zE)) (av := ownV 1 kU8 0 (([] : List UInt8) ++ envB (l.getD k zE)).length) (q_buildSlice 2 33 (kSl false kU8) (kSl_ok false kU8) [([] : List UInt8) ++ envB (l.getD k zE)] [⟨0, .tmp 16, .one (dU (([] : List UInt8) ++ envB (l.getD k zE))), 0⟩] (cs := [dU (([] : List UInt8) ++ envB (l.getD k zE))]) Tryz.underlying79 iat_33 rfl zero_33 rfl rfl rfl (Nat.le_of_ble_eq_true rfl) (part_cons rfl rfl (Nat.le_of_ble_eq_true rfl) part_ok) (by kernel_rfl) (wk_eq (by kernel_rfl)) (lt_of rfl) trivial) rfl (.inr (.inr ⟨rfl, rfl, rfl, (fun h => by cases h), rfl, rfl, Nat.le_of_eq (Nat.zero_add _), fun i j _ => by rw [Nat.zero_add]⟩)) (by intro h; cases h) rfl rfl),
    hR 7 rfl rfl (q_appendO 0 3 33 24 (kSl false kU8) (kSl_ok false kU8) ((l.map envB).take k) [([] : List UInt8) ++ envB (l.getD k zE)] (((l.map envB).take k) ++ [([] : List UInt8) ++ envB (l.getD k zE)]) ((l.map envB).take k).length (sy := (.own 2 (kSl false kU8).sz 0 [([] : List UInt8) ++ envB (l.getD k zE)].length)) (rhs := [(2, .live (arrK 33 (kSl false kU8) [([] : List UInt8) ++ envB (l.getD k zE)]))]) elem_79 (by omega) (src_own 2 33 (kSl false kU8) [([] : List UInt8) ++ envB (l.getD k zE)]) (by rw [List.take_length]) (by (simp [maxLen, -List.getD_eq_getElem?_getD] <;> omega)) (by (simp [maxLen, -List.getD_eq_getElem?_getD] <;> omega)) (lt_of rfl) trivial)] (by kernel_rfl) (by kernel_rfl) ?_
  refine nB ?_
  refine nT ?_
  refine xK [hR 1 rfl rfl (r_bin (u1 := .int .i64 ((k : Nat) : Int)) (u2 := .int .i64 1) (v := .int .i64 ((k + 1 : Nat) : Int)) (b_add (by rw [IntKind.wrap_i64]; omega)) (lt_of rfl) ⟨rfl, trivial⟩)] ?_
  refine nL (k + 1) (show (k + 1) ≤ l.length from (by omega)) (show (l.length - (k + 1) : Nat) < l.length - k from (by omega)) (fun _ _ hG => Gs.i2 [3] (bm 5 25) (t1 := [(Zc2 tl nl sl_ l), aa, aa, ownV 3 (kSl false kU8) 0 ((l.map envB).take (k + 1)).length, (Zc6 k)]) (t2 := [(Zc2 tl nl sl_ l), aa, aa, ownV 3 (kSl false kU8) 0 (((l.map envB).take k) ++ [([] : List UInt8) ++ envB (l.getD k zE)]).length, (Zc6 k)]) (h1 := [.live (arrK 33 (kSl false kU8) ((l.map envB).take (k + 1)))]) (h2 := [.live (arrK 33 (kSl false kU8) (((l.map envB).take k) ++ [([] : List UInt8) ++ envB (l.getD k zE)]))]) (by have e1 : (((l.map envB).take (k + 1)).length : Nat) = (((l.map envB).take k) ++ [([] : List UInt8) ++ envB (l.getD k zE)]).length := (by (rw [tk_succ (z := []) (by omega), map_get (by omega)]; rfl)); have hE := congrArg (fun (q1 : Nat) => ([(Zc2 tl nl sl_ l), aa, aa, ownV 3 (kSl false kU8) 0 q1, (Zc6 k)] : List AV)) e1; exact hE) (by have e1 : (((l.map envB).take (k + 1)) : List (List UInt8)) = ((l.map envB).take k) ++ [([] : List UInt8) ++ envB (l.getD k zE)] := (by (rw [tk_succ (z := []) (by omega), map_get (by omega)]; rfl)); have hE := congrArg (fun (q1 : List (List UInt8)) => ([.live (arrK 33 (kSl false kU8) q1)] : List HS)) e1; exact hE) hG)
 refine cF (dF hq1) ?_
 refine T.exit ?_
 refine xT ?_
 refine xT ?_
 refine xH ?_
 refine nT ?_
 refine tN ⟨[(Zc2 tl nl sl_ l), aa, aa, (Zc3 l k), (Zc4 k), aa, aa, aa, (Zc7 l k)], (Zc5 l k)⟩ ?_
 refine T.turn (s' := ⟨(Zc8 tl nl sl_ l k), [(Zc9 l)]⟩) (fun _ _ hG => Gs.iI [0] (bm 9 281) (t2 := [(Zc2 tl nl sl_ l), aa, aa, (Zc3 l k), (Zc4 k), aa, aa, aa, (Zc7 l k)]) (h2 := (Zc5 l k)) (by have e1 : ((l.map envB).length : Nat) = ((l.map envB).take k).length := (by (rw [List.take_of_length_le (by omega)])); have hE := congrArg (fun (q1 : Nat) => ([(Zc2 tl nl sl_ l), aa, aa, ownV 0 (kSl false kU8) 0 q1, (Zc4 k), aa, aa, aa, (Zc7 l k)] : List AV)) e1; exact hE) (by have e1 : ((l.map envB) : List (List UInt8)) = ((l.map envB).take k) := (by (rw [List.take_of_length_le (by omega)])); have hE := congrArg (fun (q1 : List (List UInt8)) => ([.live (arrK 33 (kSl false kU8) q1)] : List HS)) e1; exact hE) hG) ?_
 refine sR [hR 1 rfl rfl (r_call (ref02_Of (8 : UInt8) true false false (l.map envB) (by omega)) Tryz.func34 rfl (by decide) [] [0] (l := [(.const (.int .u8 8), dv (.int .u8 8)), (.tmp 19, ownV 0 (kSl false kU8) 0 (l.map envB).length)]) [(0, (Zc9 l))] rfl 0 0 rfl rfl rfl rfl rfl rfl rfl rfl rfl ⟨.inl ⟨rfl, rfl⟩, ⟨.inr (.inl ⟨rfl, (fun h => by cases h), rfl, rfl, by simp, 33, (l.map envB).length, elOf (kSl false kU8) (l.map envB), List.Mem.head _, (by exact Nat.le_of_eq (Nat.zero_add _)), fun i j => by rw [Nat.zero_add]⟩), trivial⟩⟩ rfl (by intro b hb; simp only [List.mem_cons, List.not_mem_nil, or_false] at hb; rcases hb with rfl; exact ⟨_, List.Mem.head _⟩) (.inr ⟨trivial, trivial⟩) (lt_of rfl) ⟨rfl, trivial⟩)] ?_
 refine T.ret ?_
 exact eRt 2 (.one (dS (ofB (8 : UInt8) (l.map envB)))) [] (congrArg (fun (q1 : List UInt8) => (dv (strV q1) : AV)) (by rfl)) trivial
end Go.Proofs.YtalapplihdmenaaGreat.Q
