import Derived.Test.YtalapplihdmenaaGreatC13n21
namespace Go.Proofs.YtalapplihdmenaaGreat.Q
open Go Go.RowKit
set_option linter.unusedVariables false
set_option linter.unusedSimpArgs false
set_option maxRecDepth 100000
set_option maxHeartbeats 4000000
theorem iat_62 : Tryz.prog.info? 62 = some Tryz.t62 := by kernel_rfl
theorem wide_62 : Wide Tryz.prog 62 (some 3) := ⟨_, _, Tryz.underlying62, .inl ⟨_, rfl⟩, iat_62, rfl⟩
section
variable (f : Int) (u : Int) (rows : List (authn_pair × Bool)) (te : Bool) (e : aE)
abbrev Zca : List SV := [dI e.f_Signer, .d (dsl te false kU8 e.f_Body)]
abbrev Zcb : HS := .live (.box 98 [dI (3 * f + 1), dI u, .mref 1])
abbrev Zcc : List AV := [pv 0 0, .tv (.agg (Zca te e)), aa, pv 2 0, pv 3 0, vI 120, pv 4 0, vI 120, aa, aa, aa, aa, aa, aa, aa, aa, aa, aa, aa, aa, aa, aa, aa, aa, aa, aa, aa, aa, vB true, aa, vB true]
abbrev Zcd : HS := .live (.box 46 [dI (opV (checkE f u rows) e 1).f_Kind, dI (opV (checkE f u rows) e 1).f_View, dI (opV (checkE f u rows) e 1).f_Seq, dI (opV (checkE f u rows) e 1).f_Client, dI (opV (checkE f u rows) e 1).f_Stamp, dS (opV (checkE f u rows) e 1).f_Digest, dU (opV (checkE f u rows) e 1).f_Data, dI (opV (checkE f u rows) e 1).f_Result.f_Code, dI (opV (checkE f u rows) e 1).f_Result.f_Stage, .d (dsl false false (kE false) (opV (checkE f u rows) e 1).f_Batch), .d (dsl false false (kE false) (opV (checkE f u rows) e 1).f_Pres), .d (dsl false false (kC false) (opV (checkE f u rows) e 1).f_Certs)])
abbrev Zce : List HS := [(Zcb f u), .live (mpK f_authn_pair kBool rows), .live (.box 35 (Zca te e)), .live (.box 62 [dI 0, dI 0, .d (.val (.slice none 0 0))]), (Zcd f u rows e)]
abbrev Zcf : SV := dU ([] : List UInt8)
abbrev Zcg : List SV := [dI 0, dI 0, Zcf]
abbrev Zch : List HS := [(Zcb f u), .live (mpK f_authn_pair kBool rows), .live (.box 35 (Zca te e)), .live (.box 62 Zcg), (Zcd f u rows e)]
abbrev Zci : List AV := [pv 0 0, .tv (.agg (Zca te e)), aa, pv 2 0, pv 3 0, vI 120, pv 4 0, vI 120, aa, aa, aa, aa, aa, aa, aa, aa, aa, aa, aa, aa, aa, aa, aa, aa, aa, aa, aa, aa, vB (decide (isReplica f e.f_Signer)), aa, vB true]
abbrev Zcj : List AV := [pv 0 0, .tv (.agg (Zca te e)), aa, pv 2 0, pv 3 0, vI (opE (checkE f u rows) e 1), pv 4 0, vI (opE (checkE f u rows) e 1), aa, aa, aa, aa, aa, aa, aa, aa, aa, aa, aa, aa, aa, aa, aa, aa, aa, aa, aa, aa, vB false, aa, vB (decide ((opE (checkE f u rows) e 1) ≠ 0))]
end
theorem cert_Request (f : Int) (u : Int) (rows : List (authn_pair × Bool)) (te : Bool) (e : aE) (hf : 0 ≤ f ∧ f ≤ 2) (hu : 0 ≤ u ∧ u ≤ 8) (hs : -9223372036854775808 ≤ e.f_Signer ∧ e.f_Signer ≤ 9223372036854775807) (hb : e.f_Body.length ≤ 100000000) : Holds Tryz.prog 23 ⟨[pv 0 0, .tv (.agg [dI e.f_Signer, .d (dsl te false kU8 e.f_Body)])], [.box 98 [dI (3 * f + 1), dI u, .mref 1], mpK f_authn_pair kBool rows], .tup [.agg [dI (rqV (checkE f u rows) f e).f_Client, dI (rqV (checkE f u rows) f e).f_Stamp, dU (rqV (checkE f u rows) f e).f_Op], .one (dI (rqE (checkE f u rows) f e))], [.live (.box 98 [dI (3 * f + 1), dI u, .mref 1]), .live (mpK f_authn_pair kBool rows)]⟩ := by
 refine Holds.of Tryz.func23 rfl (N := 40) Tryz.ntmps23 rfl fun w0 B0 S0 U0 => ?_
 show T _ (mkBase 40 2 w0 S0 U0 B0) ⟨[pv 0 0, .tv (.agg (Zca te e))], [(Zcb f u), .live (mpK f_authn_pair kBool rows)]⟩ _ _
 refine sR [] ?_
 refine sR [hR 2 rfl rfl (rCa (cert_open f u rows te e 1 ‹_› ‹_› ‹_› ‹_›) Tryz.func50 [0, 1] [(.tmp 9, pv 0 0), (.tmp 10, .tv (.agg (Zca te e))), (.const (.int .i64 1), vI 1)] 2 2)] ?_
 refine T.seq ?_
 by_cases hq1 : (opE (checkE f u rows) e 1) = 0
 ·have ho9 : ¬ opE (checkE f u rows) e 1 ≠ 0 := fun q => q hq1; have hv9 := op_val ho9
  by_cases hq2 : (opV (checkE f u rows) e 1).f_Client ≠ e.f_Signer
  ·have hc9 := hq2; rw [hv9] at hc9; have hx9 := rq_c (f := f) ho9 hc9
   refine sR [hY 3 (dT hq1),
     hY 4 (dT hq1),
     hY 5 (dT hq1),
     hY 6 (dT hq1),
     hY 7 (dT hq1),
     hY 8 (dT hq1),
     hN 9 false (dT hq2),
     hN 10 false (dT hq2),
     hN 11 false (dT hq2),
     hN 12 false (dT hq2),
     hS 13 (oY rfl rfl rfl rfl (lt_of rfl) (dT hq1) (r_pickT (b := (decide ((opV (checkE f u rows) e 1).f_Client ≠ e.f_Signer))) (av := vB true) (lt_of rfl) ⟨rfl, trivial⟩ (dT hq2))),
     hP 14 (dT hq1)] ?_
   refine cT (b := true) rfl ?_
   refine xK [] ?_
   refine nT (T.seq ?_)
   refine sR [] ?_
   refine cT (b := true) rfl ?_
   refine sR [] ?_
   refine T.ret (rT ?_)
   refine eN ⟨(Zcc te e), (Zce f u rows te e)⟩ ?_
   refine Ends.turn (s' := ⟨(Zcc te e), (Zch f u rows te e)⟩) (fun _ _ hG => Gs.less (s := ⟨(Zcc te e), (Zce f u rows te e)⟩) ⟨.inl rfl, (kk2 (kk4 (kk8 (kk16 trivial))))⟩ ⟨.inl rfl, (kk2 ⟨(.inr ⟨rfl, (kk2 ⟨(.inr ⟨rfl, rfl, rfl⟩), trivial⟩)⟩), ⟨.inl rfl, trivial⟩⟩)⟩ hG) ?_
   exact eX [.c 4 3 62 0 62 [dI 0, dI 0, Zcf] (.agg Zcg), .t 5 (.one (dI 120))] ⟨⟨rfl, rfl, by kernel_rfl, by kernel_rfl, .inl ⟨3, wide_62, rfl, Nat.le_of_ble_eq_true rfl⟩⟩, ⟨⟨rfl, by kernel_rfl⟩, trivial⟩⟩ [0, 1] (gc2 (hx9.1) (by exact hx9.2) (fun qq0 (q4 : Int) => (.tup [.agg [dI (qq0.f_Client), dI (qq0.f_Stamp), dU (qq0.f_Op)], .one (dI q4)] : AV))) (ix (ix trivial))
  have hc9 := hq2; rw [hv9] at hc9
  refine sR [hY 3 (dT hq1),
    hY 4 (dT hq1),
    hY 5 (dT hq1),
    hY 6 (dT hq1),
    hY 7 (dT hq1),
    hY 8 (dT hq1),
    hY 9 (dF hq2),
    hY 10 (dF hq2),
    hY 11 (dF hq2),
    hS 12 (oY rfl rfl rfl rfl (lt_of rfl) (dF hq2) (rCa (authn_Replica f u rows e.f_Signer ‹_› ‹_›) Tryz.func39 [0, 1] [(.tmp 23, pv 0 0), (.tmp 25, vI e.f_Signer)] 2 2)),
    hS 13 (oY rfl rfl rfl rfl (lt_of rfl) (dT hq1) (r_pickF (b := (decide ((opV (checkE f u rows) e 1).f_Client ≠ e.f_Signer))) (av := vB (decide (isReplica f e.f_Signer))) (lt_of rfl) trivial (dF hq2))),
    hP 14 (dT hq1)] ?_
  by_cases hq3 : isReplica f e.f_Signer
  ·have hx9 := rq_r ho9 hq3
   refine cT (dT hq3) ?_
   refine xK [] ?_
   refine nT (T.seq ?_)
   refine sR [] ?_
   refine cT (b := true) rfl ?_
   refine sR [] ?_
   refine T.ret (rT ?_)
   refine eN ⟨(Zci f te e), (Zce f u rows te e)⟩ ?_
   refine Ends.turn (s' := ⟨(Zci f te e), (Zch f u rows te e)⟩) (fun _ _ hG => Gs.less (s := ⟨(Zci f te e), (Zce f u rows te e)⟩) ⟨.inl rfl, (kk2 (kk4 (kk8 (kk16 trivial))))⟩ ⟨.inl rfl, (kk2 ⟨(.inr ⟨rfl, (kk2 ⟨(.inr ⟨rfl, rfl, rfl⟩), trivial⟩)⟩), ⟨.inl rfl, trivial⟩⟩)⟩ hG) ?_
   exact eX [.c 4 3 62 0 62 [dI 0, dI 0, Zcf] (.agg Zcg), .t 5 (.one (dI 120))] ⟨⟨rfl, rfl, by kernel_rfl, by kernel_rfl, .inl ⟨3, wide_62, rfl, Nat.le_of_ble_eq_true rfl⟩⟩, ⟨⟨rfl, by kernel_rfl⟩, trivial⟩⟩ [0, 1] (gc2 (hx9.1) (by exact hx9.2) (fun qq0 (q4 : Int) => (.tup [.agg [dI (qq0.f_Client), dI (qq0.f_Stamp), dU (qq0.f_Op)], .one (dI q4)] : AV))) (ix (ix trivial))
  have hx9 := rq_ok ho9 hc9 hq3
  refine cF (dF hq3) ?_
  refine T.skip (nT (T.seq ?_))
  refine sR [] ?_
  by_cases hq4 : (opE (checkE f u rows) e 1) ≠ 0
  ·exact absurd hq4 ho9
  refine cF (dF hq4) ?_
  refine T.skip (nT ?_)
  refine sR [] ?_
  refine T.ret ?_
  exact eX [.c 4 3 62 0 62 [dI (opV (checkE f u rows) e 1).f_Client, dI (opV (checkE f u rows) e 1).f_Stamp, dU (opV (checkE f u rows) e 1).f_Data] (.agg [dI (opV (checkE f u rows) e 1).f_Client, dI (opV (checkE f u rows) e 1).f_Stamp, dU (opV (checkE f u rows) e 1).f_Data]), .t 5 (.one (dI 0))] ⟨⟨rfl, rfl, by kernel_rfl, by kernel_rfl, .inl ⟨3, wide_62, rfl, Nat.le_of_ble_eq_true rfl⟩⟩, ⟨⟨rfl, by kernel_rfl⟩, trivial⟩⟩ [0, 1] (by have e1 : ((rqV (checkE f u rows) f e).f_Client : Int) = (opV (checkE f u rows) e 1).f_Client := (by (rw [hx9.1, hv9]; done)); have e2 : ((rqV (checkE f u rows) f e).f_Stamp : Int) = (opV (checkE f u rows) e 1).f_Stamp := (by (rw [hx9.1, hv9]; done)); have e3 : ((rqV (checkE f u rows) f e).f_Op : List UInt8) = (opV (checkE f u rows) e 1).f_Data := (by (rw [hx9.1, hv9]; done)); have e4 : ((rqE (checkE f u rows) f e) : Int) = 0 := (by exact hx9.2); have hE := congr (congr (congr (congrArg (fun (q1 : Int) (q2 : Int) (q3 : List UInt8) (q4 : Int) => (.tup [.agg [dI q1, dI q2, dU q3], .one (dI q4)] : AV)) e1) e2) e3) e4; exact hE) (ix (ix trivial))
 have ho9 : opE (checkE f u rows) e 1 ≠ 0 := hq1; have hx9 := rq_o (f := f) ho9
 refine sR [hN 3 true (dF hq1),
   hN 4 true (dF hq1),
   hN 5 true (dF hq1),
   hN 6 true (dF hq1),
   hN 7 true (dF hq1),
   hN 8 true (dF hq1),
   hU 9,
   hU 10,
   hU 11,
   hU 12,
   hN 13 true (dF hq1),
   hP 14 (dF hq1)] ?_
 refine cF (b := false) rfl ?_
 refine T.skip (nT (T.seq ?_))
 refine sR [] ?_
 by_cases hq5 : (opE (checkE f u rows) e 1) ≠ 0
 ·refine cT (dT hq5) ?_
  refine sR [] ?_
  refine T.ret (rT ?_)
  refine eN ⟨(Zcj f u rows te e), (Zce f u rows te e)⟩ ?_
  refine Ends.turn (s' := ⟨(Zcj f u rows te e), (Zch f u rows te e)⟩) (fun _ _ hG => Gs.less (s := ⟨(Zcj f u rows te e), (Zce f u rows te e)⟩) ⟨.inl rfl, (kk2 (kk4 (kk8 (kk16 trivial))))⟩ ⟨.inl rfl, (kk2 ⟨(.inr ⟨rfl, (kk2 ⟨(.inr ⟨rfl, rfl, rfl⟩), trivial⟩)⟩), ⟨.inl rfl, trivial⟩⟩)⟩ hG) ?_
  exact eX [.c 4 3 62 0 62 [dI 0, dI 0, Zcf] (.agg Zcg), .t 5 (.one (dI (opE (checkE f u rows) e 1)))] ⟨⟨rfl, rfl, by kernel_rfl, by kernel_rfl, .inl ⟨3, wide_62, rfl, Nat.le_of_ble_eq_true rfl⟩⟩, ⟨⟨rfl, by kernel_rfl⟩, trivial⟩⟩ [0, 1] (gc2 (hx9.1) (by exact hx9.2) (fun qq0 (q4 : Int) => (.tup [.agg [dI (qq0.f_Client), dI (qq0.f_Stamp), dU (qq0.f_Op)], .one (dI q4)] : AV))) (ix (ix trivial))
 exact absurd ho9 hq5
section
variable (f : Int) (u : Int) (l : List aE) (e : aE)
end
section
variable (f : Int) (u : Int) (rows : List (authn_pair × Bool)) (tx : Bool) (nx : Bool) (sx : Bool) (x : List aE) (k : Nat)
abbrev Zcu : List HS := [.live (.box 98 [dI (3 * f + 1), dI u, .mref 1]), .live (mpK f_authn_pair kBool rows)]
abbrev Zcv : AV := vB (decide (((x.length : Nat) : Int) > 4))
abbrev Zcw : List AV := [pv 0 0, slV tx nx (kE sx) x, aa, aa, vI 0, aa, aa, aa, aa, aa, aa, (Zcv x), slV tx nx (kE sx) x, vI ((x.length : Nat) : Int), vI ((k : Nat) : Int)]
end
theorem cert_Batch (f : Int) (u : Int) (rows : List (authn_pair × Bool)) (tx : Bool) (nx : Bool) (sx : Bool) (x : List aE) (hf : 0 ≤ f ∧ f ≤ 2) (hu : 0 ≤ u ∧ u ≤ 8) (hx : okEs x) : Holds Tryz.prog 74 ⟨[pv 0 0, slV tx nx (kE sx) x], [.box 98 [dI (3 * f + 1), dI u, .mref 1], mpK f_authn_pair kBool rows], vI (btE (checkE f u rows) f x), [.live (.box 98 [dI (3 * f + 1), dI u, .mref 1]), .live (mpK f_authn_pair kBool rows)]⟩ := by
 refine Holds.of Tryz.func74 rfl (N := 28) Tryz.ntmps74 rfl fun w0 B0 S0 U0 => ?_
 show T _ (mkBase 28 2 w0 S0 U0 B0) ⟨[pv 0 0, slV tx nx (kE sx) x], (Zcu f u rows)⟩ _ _
 have hx1 := hx.1
 refine sR [] ?_
 refine T.seq ?_
 refine sR [] ?_
 by_cases hq1 : ((x.length : Nat) : Int) > 4
 ·have hz9 := bt_long (C := (checkE f u rows)) (f := f) hq1
  refine cT (dT hq1) ?_
  refine sR [] ?_
  refine T.ret (rT ?_)
  exact eRt 4 (.one (dI 11)) [0, 1] (cI (by exact hz9)) (ix (ix trivial))
 have hl4 := hq1
 refine cF (dF hq1) ?_
 refine T.skip (nT (T.seq ?_))
 refine sR [] ?_
 refine T.block ?_
 refine T.loop (ι := Nat) (fun (k : Nat) => ⟨(Zcw tx nx sx x k), (Zcu f u rows)⟩) (fun (k : Nat) => (k ≤ x.length) ∧ (∀ i, i < k → rqN (checkE f u rows) f x i = 0)) (fun (k : Nat) => x.length - k) (0) ⟨(Nat.zero_le _), (fun j hj => absurd hj (Nat.not_lt_zero _))⟩ (fun _ _ hG => Gs.iI [0, 1] (bm 15 30739) rfl rfl hG) ?_
 rintro k ⟨hk, hb⟩
 show T _ _ ⟨(Zcw tx nx sx x k), (Zcu f u rows)⟩ _ _
 replace hk : k ≤ x.length := hk
 replace hb : ∀ i, i < k → rqN (checkE f u rows) f x i = 0 := hb
 refine sR [] ?_
 refine T.seq ?_
 by_cases hq2 : ((k : Nat) : Int) < ((x.length : Nat) : Int)
 ·have hgk := okEs_get hx (k := k) (by omega); have hgk1 := hgk.1.1; have hgk2 := hgk.1.2; have hgk3 := hgk.2
  refine cT (dT hq2) ?_
  refine T.skip (nT (T.seq ?_))
  refine T.block ?_
  refine sR [hR 0 rfl rfl (q_index tx nx (kE sx) x k (k := .i64) (i := ((k : Nat) : Int)) Tryz.underlying36 iat_35 rfl rfl (by omega) (lt_of rfl) trivial)] ?_
  refine sR [hR 2 rfl rfl (rCa (cert_Request f u rows sx (x.getD k zE) ‹_› ‹_› (by omega) (by omega)) Tryz.func23 [0, 1] [(.tmp 19, pv 0 0), (.tmp 20, .tv (.agg [dI (x.getD k zE).f_Signer, .d (dsl sx false kU8 (x.getD k zE).f_Body)]))] 2 2)] ?_
  refine sR [] ?_
  by_cases hq3 : (rqE (checkE f u rows) f (x.getD k zE)) ≠ 0
  ·have hz9 := bt_at (C := (checkE f u rows)) (f := f) hl4 hb hq3 (by omega)
   refine cT (dT hq3) ?_
   refine sR [] ?_
   refine T.ret (rB (rT (rT (rB (rT ?_)))))
   exact eRt 4 (.one (dI (rqE (checkE f u rows) f (x.getD k zE)))) [0, 1] (cI (by exact hz9)) (ix (ix trivial))
  refine cF (dF hq3) ?_
  refine T.skip ?_
  refine nB ?_
  refine nT ?_
  refine xK [hR 0 rfl rfl (r_bin (u1 := .int .i64 ((k : Nat) : Int)) (u2 := .int .i64 1) (v := .int .i64 ((k + 1 : Nat) : Int)) (b_add (by rw [IntKind.wrap_i64]; omega)) (lt_of rfl) ⟨rfl, trivial⟩)] ?_
  refine nL (k + 1) ⟨(show (k + 1) ≤ x.length from (by omega)), (show ∀ i, i < (k + 1) → rqN (checkE f u rows) f x i = 0 from (all_succ hb (by exact Classical.not_not.1 ‹_›)))⟩ (show (x.length - (k + 1) : Nat) < x.length - k from (by omega)) (fun _ _ hG => Gs.iI [0, 1] (bm 15 30739) rfl rfl hG)
 have hz9 := bt_0 (C := (checkE f u rows)) (f := f) hl4 hb (by omega)
 refine cF (dF hq2) ?_
 refine T.exit ?_
 refine xT ?_
 refine xT ?_
 refine xH ?_
 refine nT ?_
 refine sR [] ?_
 refine T.ret ?_
 exact eRt 4 (.one (dI 0)) [0, 1] (cI (by exact hz9)) (ix (ix trivial))
section
variable (x : List aE) (f : Int) (u : Int) (l : List aE) (k : Nat)
end
end Go.Proofs.YtalapplihdmenaaGreat.Q
