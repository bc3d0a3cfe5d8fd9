import Derived.Test.YtalapplihdmenaaC13n30
namespace Go.Proofs.Ytalapplihdmenaa.Q
open Go Go.RowKit
set_option linter.unusedVariables false
set_option linter.unusedSimpArgs false
set_option maxRecDepth 100000
set_option maxHeartbeats 4000000
section
variable (x : quaestorlaw03_Size) (l : List aW) (k : Nat)
abbrev Zj5 : AV := .tv (.agg [dI x.f_F, dI x.f_Clients])
abbrev Zj6 : AV := slV false false (k_quaestorlaw13_Word false) l
abbrev Zj7 : AV := slV false false (kE false) (l.map saidE)
abbrev Zj8 := (sayL (fOf x.f_F) (cOf x.f_Clients) ([] : List aE) l l.length)
abbrev Zj9 : List HS := [.live (.box 23 [dI x.f_F, dI x.f_Clients]), .live (.box 94 [dI (3 * (fOf x.f_F) + 1), dI (cOf x.f_Clients), .mref 2]), .live (mpK f_authn_pair kBool (tabM (Zj8 x l))), .live (.box 83 [dB true, dI (fOf x.f_F), dI (cOf x.f_Clients), .own 6 (kE false).sz 0 (Zj8 x l).length]), .dead, .live (.box 29 [.ptr 1 0, .ptr 3 0]), .live (arrK 40 (kE false) (Zj8 x l))]
abbrev Zja : St := ⟨[(Zj5 x), (Zj6 l), pv 0 0, aa, vB false, pv 5 0, (Zj7 l), vI ((k : Nat) : Int), aa, aa, aa, aa, aa, aa, vB (!(decide (fewS l)))], (Zj9 x l)⟩
abbrev Zjb : List AV := [(Zj5 x), (Zj6 l), pv 0 0, aa, vB false, pv 5 0, (Zj7 l), vI 0, aa, aa, aa, aa, aa, aa, vB (!(decide (fewS l)))]
abbrev Zjc : AV := .tv (.agg [dI ((l.map saidE).getD k zE).f_Signer, dU ((l.map saidE).getD k zE).f_Body])
abbrev Zjd : List AV := [(Zj5 x), (Zj6 l), pv 0 0, aa, vB false, pv 5 0, (Zj7 l), vI ((k + 1 : Nat) : Int), aa, aa, aa, aa, aa, aa, vB (!(decide (fewS l)))]
end
theorem law_CertRequests (x : quaestorlaw03_Size) (l : List aW) (hll : l.length ≤ 9223372036854775807) (hrl : ∀ w, w ∈ l → i64R w.f_Signer) (hml : ∀ w, w ∈ l → w.f_M.f_Batch.length ≤ 1000000000000000 ∧ w.f_M.f_Pres.length ≤ 1000000000000000) : Holds Try.prog 3 ⟨[.tv (.agg [dI x.f_F, dI x.f_Clients]), slV false false (k_quaestorlaw13_Word false) l], [], vB true, []⟩ := by
 refine Holds.of Try.func3 rfl (N := 84) Try.ntmps3 rfl fun w0 B0 S0 U0 => ?_
 show T _ (mkBase 84 0 w0 S0 U0 B0) ⟨[(Zj5 x), (Zj6 l)], []⟩ _ _
 have hfx := fOf_ok x.f_F
 have hux := cOf_ok x.f_Clients
 refine sR [] ?_
 refine T.seq ?_
 refine sR [hR 1 rfl rfl (rCa (law_few l ‹_› ‹_›) Try.func7 [] [(.tmp 12, (Zj6 l))] 0 0)] ?_
 by_cases hq1 : fewS l
 ·have hfs := hq1; have hgd := few_good hfs hrl; have hl30 := hfs.1; have hso := said_ok hfs hrl; have hml : (l.map saidE).length = l.length := List.length_map ..; have hoe : okEs (l.map saidE) := ⟨by omega, fun e he => ⟨(hso e he).1, Nat.le_trans (hso e he).2 (by decide)⟩⟩; have hsy := say_len (fOf x.f_F) (cOf x.f_Clients) [] l l.length; simp only [List.length_nil] at hsy
  refine cF (cn (dT hq1)) ?_
  refine T.skip (nT ?_)
  refine sR [hR 1 rfl rfl (rCa (law_begun x ) Try.func8 [1, 2, 3, 4] [(.tmp 15, (Zj5 x))] 0 4)] ?_
  refine sR [hR 2 rfl rfl (rCa (law_all (fOf x.f_F) (cOf x.f_Clients) ([] : List (authn_pair × Bool)) ([] : List aE) l ‹_› ‹_› (by rfl) (by (simp [maxLen, -List.getD_eq_getElem?_getD] <;> omega)) (by omega) ‹_›) Try.func9 [1, 2, 3, 4, 6] [(.tmp 17, .tv (.agg [.ptr 1 0, .ptr 3 0])), (.tmp 18, (Zj6 l))] 4 5)] ?_
  refine T.seq ?_
  refine sR [] ?_
  refine T.block ?_
  refine T.loop (ι := Nat) (fun (k : Nat) => (Zja x l k)) (fun (k : Nat) => (k ≤ (l.map saidE).length)) (fun (k : Nat) => (l.map saidE).length - k) (0) (Nat.zero_le _) (fun _ _ hG => Gs.i2 [0, 1, 2, 3, 12, 5, 6] (bm 15 16631) (t1 := (Zjb x l)) (h1 := (Zj9 x l)) rfl rfl hG) ?_
  rintro k hk
  show T _ _ (Zja x l k) _ _
  replace hk : k ≤ (l.map saidE).length := hk
  refine T.seq ?_
  refine sR [] ?_
  by_cases hq2 : ((k : Nat) : Int) < (((l.map saidE).length : Nat) : Int)
  ·have hs9 := hso _ (getD_mem (z := zE) (show k < (l.map saidE).length by omega)); have hs91 : -9223372036854775808 ≤ ((l.map saidE).getD k zE).f_Signer ∧ ((l.map saidE).getD k zE).f_Signer ≤ 9223372036854775807 := hs9.1; have hs92 := hs9.2
   refine cT (dT hq2) ?_
   refine T.skip (nT (T.seq ?_))
   refine T.block ?_
   refine sD [[], [0], [], [], [2, 3], [2, 3, 4], [0, 1, 2, 3, 4, 5], [0, 1, 2, 3, 4, 5, 6], [0, 1, 2, 3, 4, 5, 6, 7], [0, 1, 2, 3, 4, 5, 6, 7], [], [0, 1, 2, 3, 4, 5, 6, 7, 8, 10], [0, 1, 2, 3, 4, 5, 6, 7, 8, 9, 10, 11]] [hR 4 rfl rfl (q_index false false (kE false) (l.map saidE) k (k := .i64) (i := ((k : Nat) : Int)) Try.underlying31 iat_40 rfl rfl (by omega) (lt_of rfl) trivial),
     hR 6 rfl rfl (rCa (cert_Request (fOf x.f_F) (cOf x.f_Clients) (tabM (sayL (fOf x.f_F) (cOf x.f_Clients) ([] : List aE) l l.length)) false ((l.map saidE).getD k zE) ‹_› ‹_› ‹_› (by omega)) Try.func10 [1, 2] [(.tmp 28, pv 1 0), (.tmp 32, (Zjc l k))] 2 2)] ?_
   refine sD [[], [0], [], [], [2, 3], [2, 3, 4], [0, 1, 2, 3, 4, 5], [0, 1, 2, 3, 4, 5, 6], [0, 1, 2, 3, 4, 5, 6, 7], [0, 1, 2, 3, 4, 5, 6, 7], [], [0, 1, 2, 3, 4, 5, 6, 7, 8, 10], [0, 1, 2, 3, 4, 5, 6, 7, 8, 9, 10, 11]] [hR 4 rfl rfl (q_index false false (kE false) (l.map saidE) k (k := .i64) (i := ((k : Nat) : Int)) Try.underlying31 iat_40 rfl rfl (by omega) (lt_of rfl) trivial),
     hR 6 rfl rfl (rCa (ref13_Request (fOf x.f_F) (cOf x.f_Clients) (sayL (fOf x.f_F) (cOf x.f_Clients) ([] : List aE) l l.length) ((l.map saidE).getD k zE) ‹_› ‹_› (by omega) ‹_› (by omega)) Try.func11 [3, 6] [(.tmp 38, pv 3 0), (.tmp 42, (Zjc l k))] 2 2)] ?_
   by_cases hq3 : (rqV (checkE (fOf x.f_F) (cOf x.f_Clients) (tabM (sayL (fOf x.f_F) (cOf x.f_Clients) ([] : List aE) l l.length))) (fOf x.f_F) ((l.map saidE).getD k zE)).f_Client ≠ (rqV (checkL (fOf x.f_F) (cOf x.f_Clients) (sayL (fOf x.f_F) (cOf x.f_Clients) ([] : List aE) l l.length)) (fOf x.f_F) ((l.map saidE).getD k zE)).f_Client
   ·exact absurd (by rw [check_fun]) hq3
   by_cases hq4 : (rqV (checkE (fOf x.f_F) (cOf x.f_Clients) (tabM (sayL (fOf x.f_F) (cOf x.f_Clients) ([] : List aE) l l.length))) (fOf x.f_F) ((l.map saidE).getD k zE)).f_Stamp ≠ (rqV (checkL (fOf x.f_F) (cOf x.f_Clients) (sayL (fOf x.f_F) (cOf x.f_Clients) ([] : List aE) l l.length)) (fOf x.f_F) ((l.map saidE).getD k zE)).f_Stamp
   ·exact absurd (by rw [check_fun]) hq4
   by_cases hq5 : (rqV (checkE (fOf x.f_F) (cOf x.f_Clients) (tabM (sayL (fOf x.f_F) (cOf x.f_Clients) ([] : List aE) l l.length))) (fOf x.f_F) ((l.map saidE).getD k zE)).f_Op ≠ (rqV (checkL (fOf x.f_F) (cOf x.f_Clients) (sayL (fOf x.f_F) (cOf x.f_Clients) ([] : List aE) l l.length)) (fOf x.f_F) ((l.map saidE).getD k zE)).f_Op
   ·exact absurd (by rw [check_fun]) hq5
   refine sR [hY 6 (dF hq3),
     hY 7 (dF hq3),
     hY 8 (dF hq3),
     hY 9 (dF hq3),
     hY 10 (dF hq3),
     hP 11 (dF hq3),
     hY 13 (dF hq4),
     hY 14 (dF hq4),
     hS 15 (oY rfl rfl rfl rfl (lt_of rfl) (dF hq4) (q_strOf () (rqV (checkE (fOf x.f_F) (cOf x.f_Clients) (tabM (sayL (fOf x.f_F) (cOf x.f_Clients) ([] : List aE) l l.length))) (fOf x.f_F) ((l.map saidE).getD k zE)).f_Op (ys := (dU (rqV (checkE (fOf x.f_F) (cOf x.f_Clients) (tabM (Zj8 x l))) (fOf x.f_F) ((l.map saidE).getD k zE)).f_Op)) (rhs := []) Try.underlying33 Try.underlying5 Try.underlying9 (src_sl false false kU8 (rqV (checkE (fOf x.f_F) (cOf x.f_Clients) (tabM (sayL (fOf x.f_F) (cOf x.f_Clients) ([] : List aE) l l.length))) (fOf x.f_F) ((l.map saidE).getD k zE)).f_Op) (lt_of rfl) (by exact trivial))),
     hY 16 (dF hq4),
     hY 17 (dF hq4),
     hS 18 (oY rfl rfl rfl rfl (lt_of rfl) (dF hq4) (q_strOf () (rqV (checkL (fOf x.f_F) (cOf x.f_Clients) (sayL (fOf x.f_F) (cOf x.f_Clients) ([] : List aE) l l.length)) (fOf x.f_F) ((l.map saidE).getD k zE)).f_Op (ys := (dU (rqV (checkL (fOf x.f_F) (cOf x.f_Clients) (Zj8 x l)) (fOf x.f_F) ((l.map saidE).getD k zE)).f_Op)) (rhs := []) Try.underlying33 Try.underlying5 Try.underlying9 (src_sl false false kU8 (rqV (checkL (fOf x.f_F) (cOf x.f_Clients) (sayL (fOf x.f_F) (cOf x.f_Clients) ([] : List aE) l l.length)) (fOf x.f_F) ((l.map saidE).getD k zE)).f_Op) (lt_of rfl) (by exact trivial))),
     hY 19 (dF hq4),
     hP 20 (dF hq4),
     hY 22 (dF hq5),
     hY 23 (dF hq5),
     hY 24 (dF hq5),
     hP 25 (dF hq5)] ?_
   by_cases hq6 : (rqE (checkE (fOf x.f_F) (cOf x.f_Clients) (tabM (sayL (fOf x.f_F) (cOf x.f_Clients) ([] : List aE) l l.length))) (fOf x.f_F) ((l.map saidE).getD k zE)) ≠ (rqE (checkL (fOf x.f_F) (cOf x.f_Clients) (sayL (fOf x.f_F) (cOf x.f_Clients) ([] : List aE) l l.length)) (fOf x.f_F) ((l.map saidE).getD k zE))
   ·exact absurd (by rw [check_fun]) hq6
   refine cF (dF hq6) ?_
   refine T.skip ?_
   refine nB ?_
   refine nT ?_
   refine xK [hR 1 rfl rfl (r_bin (u1 := .int .i64 ((k : Nat) : Int)) (u2 := .int .i64 1) (v := .int .i64 ((k + 1 : Nat) : Int)) (b_add (by rw [IntKind.wrap_i64]; omega)) (lt_of rfl) ⟨rfl, trivial⟩)] ?_
   refine nL (k + 1) (show (k + 1) ≤ (l.map saidE).length from (by omega)) (show ((l.map saidE).length - (k + 1) : Nat) < (l.map saidE).length - k from (by omega)) (fun _ _ hG => Gs.i2 [0, 1, 2, 3, 14, 5, 6] (bm 15 16631) (t1 := (Zjd x l k)) (h1 := (Zj9 x l)) rfl rfl hG)
  refine cF (dF hq2) ?_
  refine T.exit ?_
  refine xT ?_
  refine xT ?_
  refine xH ?_
  refine nT ?_
  by_cases hq7 : (btE (checkE (fOf x.f_F) (cOf x.f_Clients) (tabM (sayL (fOf x.f_F) (cOf x.f_Clients) ([] : List aE) l l.length))) (fOf x.f_F) (l.map saidE)) = (btE (checkL (fOf x.f_F) (cOf x.f_Clients) (sayL (fOf x.f_F) (cOf x.f_Clients) ([] : List aE) l l.length)) (fOf x.f_F) (l.map saidE))
  ·refine sD [[], [0], [], [0, 1, 2], [], [4], [], [0, 1, 2, 3, 4, 5, 6], [0, 1, 2, 3, 4, 5, 6, 7], [0, 1, 2, 3, 4, 5, 6, 7, 8], [0, 1, 2, 3, 4, 5, 6, 7, 8, 9], [0, 1, 2, 3, 4, 5, 6, 7, 8, 9, 10], [0, 1, 2, 3, 4, 5, 6, 7, 8, 9, 10, 11]] [hR 3 rfl rfl (rCa (cert_Batch (fOf x.f_F) (cOf x.f_Clients) (tabM (sayL (fOf x.f_F) (cOf x.f_Clients) ([] : List aE) l l.length)) false false false (l.map saidE) ‹_› ‹_› ‹_›) Try.func12 [1, 2] [(.tmp 73, pv 1 0), (.tmp 74, (Zj7 l))] 2 2),
     hR 7 rfl rfl (rCa (ref13_Batch (fOf x.f_F) (cOf x.f_Clients) (sayL (fOf x.f_F) (cOf x.f_Clients) ([] : List aE) l l.length) (l.map saidE) ‹_› ‹_› (by omega) ‹_›) Try.func13 [3, 6] [(.tmp 77, pv 3 0), (.tmp 78, (Zj7 l))] 2 2),
     hS 10 (oY rfl rfl rfl rfl (lt_of rfl) (dT hq7) (rCa (law_awake  ) Try.func14 [] [] 0 0)),
     hP 11 (dT hq7)] ?_
   refine T.ret ?_
   exact eRt 4 (.one (dB true)) [] rfl trivial
  exact absurd (by rw [check_fun]) hq7
 refine cT (cn (dF hq1)) ?_
 refine sR [] ?_
 refine T.ret (rT ?_)
 exact eRt 4 (.one (dB true)) [] rfl trivial
end Go.Proofs.Ytalapplihdmenaa.Q
