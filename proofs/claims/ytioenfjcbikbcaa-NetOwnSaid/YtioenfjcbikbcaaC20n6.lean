import Derived.Test.YtioenfjcbikbcaaC20n5
namespace Go.Proofs.Ytioenfjcbikbcaa.Q
open Go Go.RowKit
set_option linter.unusedVariables false
set_option linter.unusedSimpArgs false
set_option maxRecDepth 100000
set_option maxHeartbeats 4000000
abbrev z7319_0 (l : List quaestorlaw20_Act) : AV := slV false false (k_quaestorlaw20_Act false) l
abbrev z7319_1 (e : api_Envelope) : AV := .tv (.agg [.d (.val (.int .i64 e.f_Signer)), .d (dsl false false kU8 e.f_Body)])
abbrev z7319_2 : TV := .one (.d (.val (.bool true)))
abbrev z7319_3 (e : api_Envelope) : AV := dv (.bool (decide (((e.f_Body.length : Nat) : Int) > 200)))
abbrev z7319_4 (l : List quaestorlaw20_Act) (e : api_Envelope) : List AV := [(z7319_0 l), (z7319_1 e), aa, pv 0 0, dv (.bool false), pv 1 0, pv 3 0, dv (.int .i64 0), aa, aa, aa, aa, aa, aa, aa, aa, aa, aa, aa, aa, aa, (z7319_3 e)]
abbrev z7319_5 (e : api_Envelope) : HS := .live (.box 29 [.d (.val (.int .i64 e.f_Signer)), .d (dsl false false kU8 e.f_Body)])
abbrev z7319_6 : HS := .live (.box 54 [.own 2 (k_api_Packet false).sz 0 ([] : List api_Packet).length, .d (.val (.int .i64 0))])
abbrev z7319_7 : HS := .live (arrK 35 (k_api_Packet false) ([] : List api_Packet))
abbrev z7319_8 (e : api_Envelope) : List HS := [(z7319_5 e), z7319_6, z7319_7, .live (.box 46 [.own 4 (k_api_Packet false).sz 0 0, .d (.val (.int .i64 0))]), z7319_7]
abbrev z7319_9 (k : Nat) : AV := dv (.int .i64 ((k : Nat) : Int))
abbrev z7319_a (l : List quaestorlaw20_Act) (e : api_Envelope) (k : Nat) : St := ⟨[(z7319_0 l), (z7319_1 e), aa, pv 0 0, dv (.bool false), pv 1 0, pv 3 0, (z7319_9 k), aa, aa, aa, aa, aa, aa, aa, aa, aa, aa, aa, aa, aa, (z7319_3 e)], [(z7319_5 e), .live (.box 54 [.own 2 (k_api_Packet false).sz 0 (runN l k).l.length, .d (.val (.int .i64 (runN l k).n))]), .live (arrK 35 (k_api_Packet false) (runN l k).l), .live (.box 46 [.own 4 (k_api_Packet false).sz 0 (runN l k).l.length, .d (.val (.int .i64 (runN l k).n))]), .live (arrK 35 (k_api_Packet false) (runN l k).l)]⟩
abbrev z7319_b (l : List quaestorlaw20_Act) (e : api_Envelope) : List HS := [(z7319_5 e), .live (.box 54 [.own 2 (k_api_Packet false).sz 0 (runN l 0).l.length, .d (.val (.int .i64 (runN l 0).n))]), .live (arrK 35 (k_api_Packet false) (runN l 0).l), .live (.box 46 [.own 4 (k_api_Packet false).sz 0 (runN l 0).l.length, .d (.val (.int .i64 (runN l 0).n))]), .live (arrK 35 (k_api_Packet false) (runN l 0).l)]
abbrev z7319_c (l : List quaestorlaw20_Act) (e : api_Envelope) (k : Nat) : List AV := [(z7319_0 l), (z7319_1 e), aa, pv 0 0, dv (.bool false), pv 1 0, pv 3 0, dv (.int .i64 ((k + 1 : Nat) : Int)), aa, aa, aa, aa, aa, aa, aa, aa, aa, aa, aa, aa, aa, (z7319_3 e)]
abbrev z7319_d (l : List quaestorlaw20_Act) (k : Nat) : HS := .live (arrK 35 (k_api_Packet false) (runN l (k + 1)).l)
abbrev z7319_e (l : List quaestorlaw20_Act) (k : Nat) := (stepN (runN l k) (l.getD k z_quaestorlaw20_Act))
abbrev z7319_f (e : api_Envelope) : List SV := [.d (.val (.int .i64 e.f_Signer)), .own 6 kU8.sz 0 e.f_Body.length]
abbrev z7319_g (l : List quaestorlaw20_Act) (k : Nat) : AV := dv (.bool (decide (((k : Nat) : Int) < ((l.length : Nat) : Int))))
abbrev z7319_h (e : api_Envelope) : AV := dv (.int .i64 ((e.f_Body.length : Nat) : Int))
abbrev z7319_i (l : List quaestorlaw20_Act) (e : api_Envelope) (k : Nat) := (netSend (runN l k) 1 e)
abbrev z7319_j (l : List quaestorlaw20_Act) (e : api_Envelope) (k : Nat) : HS := .live (.box 54 [.own 8 (k_api_Packet false).sz 0 (z7319_i l e k).l.length, .d (.val (.int .i64 (z7319_i l e k).n))])
abbrev z7319_k (l : List quaestorlaw20_Act) (e : api_Envelope) (k : Nat) : HS := .live (.box 46 [.own 9 (k_api_Packet false).sz 0 (z7319_i l e k).l.length, .d (.val (.int .i64 (z7319_i l e k).n))])
abbrev z7319_l (l : List quaestorlaw20_Act) (e : api_Envelope) (k : Nat) : HS := .live (arrK 35 (k_api_Packet false) (z7319_i l e k).l)
abbrev z7319_m (l : List quaestorlaw20_Act) (e : api_Envelope) (k : Nat) : List AV := [(z7319_0 l), (z7319_1 e), aa, pv 0 0, dv (.bool false), pv 1 0, pv 3 0, (z7319_9 k), pv 7 0, aa, aa, aa, aa, aa, aa, aa, aa, aa, aa, aa, aa, (z7319_3 e), aa, aa, aa, aa, aa, aa, (z7319_g l k), aa, aa, aa, aa, aa, aa, aa, aa, aa, aa, aa, aa, aa, aa, aa, aa, aa, aa, aa, aa, aa, aa, aa, aa, (z7319_h e), dv (.int .i64 0)]
abbrev z7319_n (l : List quaestorlaw20_Act) (e : api_Envelope) (k : Nat) : List HS := [(z7319_5 e), (z7319_j l e k), .dead, (z7319_k l e k), .dead, .dead, .live (arrK 5 kU8 e.f_Body), .live (.box 29 (z7319_f e)), (z7319_l l e k), (z7319_l l e k)]
abbrev z7319_o (l : List quaestorlaw20_Act) (e : api_Envelope) (k : Nat) (ys : List UInt8) : List HS := [(z7319_5 e), (z7319_j l e k), .dead, (z7319_k l e k), .dead, .dead, .live (arrK 5 kU8 ys), .live (.box 29 (z7319_f e)), (z7319_l l e k), (z7319_l l e k)]
abbrev z7319_p (l : List quaestorlaw20_Act) (e : api_Envelope) (k : Nat) (k2 : Nat) : List AV := [(z7319_0 l), (z7319_1 e), aa, pv 0 0, dv (.bool false), pv 1 0, pv 3 0, (z7319_9 k), pv 7 0, aa, aa, aa, aa, aa, aa, aa, aa, aa, aa, aa, aa, (z7319_3 e), aa, aa, aa, aa, aa, aa, (z7319_g l k), aa, aa, aa, aa, aa, aa, aa, aa, aa, aa, aa, aa, aa, aa, aa, aa, aa, aa, aa, aa, aa, aa, aa, aa, (z7319_h e), dv (.int .i64 ((k2 + 1 : Nat) : Int))]
abbrev z7319_q (l : List quaestorlaw20_Act) (e : api_Envelope) (k : Nat) (k2 : Nat) (ys : List UInt8) : List HS := [(z7319_5 e), (z7319_j l e k), .dead, (z7319_k l e k), .dead, .dead, .live (arrK 5 kU8 (ys.set k2 (238 : UInt8))), .live (.box 29 (z7319_f e)), (z7319_l l e k), (z7319_l l e k)]
abbrev z7319_r (l : List quaestorlaw20_Act) (e : api_Envelope) (k : Nat) : AV := ownV 0 kSplP 0 (z7319_i l e k).l.length
abbrev z7319_s (l : List quaestorlaw20_Act) (e : api_Envelope) (k : Nat) : List HS := [.live (arrK 35 kSplP (z7319_i l e k).l)]
abbrev z7319_t (i : Nat) : AV := dv (.int .i64 ((i : Nat) : Int))
abbrev z7319_u (l : List quaestorlaw20_Act) (e : api_Envelope) (k : Nat) (i : Nat) : AV := dv (.int .i64 ((((z7319_i l e k).l.getD i z_api_Packet).f_Env.f_Body.length : Nat) : Int))
abbrev z7319_v (j : Nat) : AV := dv (.int .i64 ((j : Nat) : Int))
abbrev z7319_w (l : List quaestorlaw20_Act) (e : api_Envelope) (k : Nat) (i : Nat) (j : Nat) : AV := dv (.bool (decide (((j : Nat) : Int) < ((((z7319_i l e k).l.getD i z_api_Packet).f_Env.f_Body.length : Nat) : Int))))
-- quaestor/quaestorlaw20.NetOwn
theorem law_NetOwn (l : List quaestorlaw20_Act) (e : api_Envelope) (hl : l.length ≤ 9223372036854775807) : Holds Try.prog 7 ⟨[slV false false (k_quaestorlaw20_Act false) l, .tv (.agg [.d (.val (.int .i64 e.f_Signer)), .d (dsl false false kU8 e.f_Body)])], [], dv (.bool true), []⟩ := by
 refine Holds.of Try.func7 rfl (N := 116) Try.ntmps7 rfl fun w0 B0 S0 U0 => ?_
 show T _ (mkBase 116 0 w0 S0 U0 B0) ⟨[(z7319_0 l), (z7319_1 e)], []⟩ _ _
 refine sR [] ?_
 refine T.seq ?_
 by_cases hq1 : fewA l
 ·refine sR [hR 1 rfl rfl (r_call (law_few l (by first | assumption | omega | (unfold maxLen; omega) | (simp [maxLen, -List.getD_eq_getElem?_getD] <;> omega) | decide)) Try.func9 rfl (by decide) [] [] (l := [(.tmp 13, (z7319_0 l))]) [] rfl 0 0 rfl rfl rfl rfl rfl rfl rfl rfl rfl ⟨.inl ⟨rfl, rfl⟩, trivial⟩ rfl (fun b hb => by cases hb) (.inl rfl) (lt_of rfl) trivial),
    hY 4 (congrArg Bool.not (decide_eq_true hq1)),
    hY 5 (congrArg Bool.not (decide_eq_true hq1)),
    hY 6 (congrArg Bool.not (decide_eq_true hq1)),
    hY 7 (congrArg Bool.not (decide_eq_true hq1)),
    hP 8 (congrArg Bool.not (decide_eq_true hq1))] ?_
  by_cases hq2 : ((e.f_Body.length : Nat) : Int) > 200
  ·refine cT (decide_eq_true hq2) ?_
   refine sR [] ?_
   refine T.ret ?_
   refine rT ?_
   exact tE (.inl rfl) [.t 4 (z7319_2)] ⟨⟨rfl, by kernel_rfl⟩, trivial⟩ [] rfl rfl rfl rfl rfl rfl trivial
  ·refine cF (decide_eq_false hq2) ?_
   refine T.skip ?_
   refine nT ?_
   refine sR [hR 0 rfl rfl (r_call (net_New  ) Try.func10 rfl (by decide) [1, 2] [] (l := []) [] rfl 0 2 rfl rfl rfl rfl rfl rfl rfl rfl rfl trivial rfl (fun b hb => by cases hb) (.inl rfl) (lt_of rfl) trivial)] ?_
   refine T.seq ?_
   refine sR [] ?_
   refine T.block ?_
   refine T.turn (s' := ⟨(z7319_4 l e), [(z7319_5 e), z7319_6, z7319_7, .live (.box 46 [.d (.val (.slice none 0 0)), .d (.val (.int .i64 0))])]⟩) (fun _ _ hG => Gs.norm (by kernel_rfl) hG) ?_
   refine T.turn (s' := ⟨(z7319_4 l e), (z7319_8 e)⟩) (fun _ _ hG => Gs.absentB 4 3 0 35 (k_api_Packet false) (Tb := 46) (cs := [.d (.val (.slice none 0 0)), .d (.val (.int .i64 0))]) rfl rfl rfl hG) ?_
   refine T.loop (ι := Nat) (fun (k : Nat) => (z7319_a l e k)) (fun (k : Nat) => (k ≤ l.length)) (fun (k : Nat) => l.length - k) (0) (Nat.zero_le _) (fun _ _ hG => Gs.into2 (s' := ⟨(z7319_4 l e), (z7319_b l e)⟩) [0, 1, 2, 3, 4] (bm 22 2097403) (t1 := (z7319_4 l e)) (h1 := (z7319_b l e)) (h2 := (z7319_8 e)) rfl (by have e1 : ((runN l 0).l.length : Nat) = ([] : List api_Packet).length := (by rfl); have e2 : ((runN l 0).n : Int) = 0 := (by rfl); have e3 : ((runN l 0).l : List api_Packet) = ([] : List api_Packet) := (by rfl); have e4 : ((runN l 0).l.length : Nat) = 0 := (by rfl); have e5 : ((runN l 0).n : Int) = 0 := (by rfl); have e6 : ((runN l 0).l : List api_Packet) = ([] : List api_Packet) := (by rfl); have hE := congr (congr (congr (congr (congr (congrArg (fun (q1 : Nat) (q2 : Int) (q3 : List api_Packet) (q4 : Nat) (q5 : Int) (q6 : List api_Packet) => ([(z7319_5 e), .live (.box 54 [.own 2 (k_api_Packet false).sz 0 q1, .d (.val (.int .i64 q2))]), .live (arrK 35 (k_api_Packet false) q3), .live (.box 46 [.own 4 (k_api_Packet false).sz 0 q4, .d (.val (.int .i64 q5))]), .live (arrK 35 (k_api_Packet false) q6)] : List HS)) e1) e2) e3) e4) e5) e6; exact hE) (by kernel_rfl) (by kernel_rfl) (by kernel_rfl) (by kernel_rfl) (by kernel_rfl) (by kernel_rfl) (by kernel_rfl) (by kernel_rfl) (by kernel_rfl) (by kernel_rfl) (by kernel_rfl) hG) ?_
   rintro k hk
   show T _ _ (z7319_a l e k) _ _
   replace hk : k ≤ l.length := hk
   have hsm := (run_ok hq1 k hk).1
   have hlen := hsm.1
   have hgx := few_get hq1 k
   refine T.seq ?_
   refine sR [] ?_
   by_cases hq3 : ((k : Nat) : Int) < ((l.length : Nat) : Int)
   ·refine cT (decide_eq_true hq3) ?_
    refine T.skip ?_
    refine nT ?_
    refine T.seq ?_
    refine T.block ?_
    refine xR [hR 4 rfl rfl (q_index false false (k_quaestorlaw20_Act false) l k (k := .i64) (i := ((k : Nat) : Int)) Try.underlying22 iat_31 rfl rfl (by first | assumption | omega | (unfold maxLen; omega) | (simp [maxLen, -List.getD_eq_getElem?_getD] <;> omega) | decide) (lt_of rfl) trivial),
      hR 6 rfl rfl (r_call (law_step (runN l k).l (runN l k).n (l.getD k z_quaestorlaw20_Act) (by first | assumption | omega | (unfold maxLen; omega) | (simp [maxLen, -List.getD_eq_getElem?_getD] <;> omega) | decide) (by first | assumption | omega | (unfold maxLen; omega) | (simp [maxLen, -List.getD_eq_getElem?_getD] <;> omega) | decide)) Try.func18 rfl (by decide) [1, 2, 3, 4, 5, 6] [] (l := [(.tmp 31, pv 1 0), (.tmp 32, pv 3 0), (.tmp 36, .tv (.agg [.d (.val (.int .i64 (l.getD k z_quaestorlaw20_Act).f_Kind)), .d (.val (.int .i64 (l.getD k z_quaestorlaw20_Act).f_N)), .d (.val (.int .i64 (l.getD k z_quaestorlaw20_Act).f_E.f_Signer)), .d (dsl false false kU8 (l.getD k z_quaestorlaw20_Act).f_E.f_Body)]))]) [] rfl 4 6 rfl rfl rfl rfl rfl rfl rfl rfl rfl ⟨.inl ⟨rfl, rfl⟩, ⟨.inl ⟨rfl, rfl⟩, ⟨⟨.inl ⟨rfl, rfl⟩, ⟨.inl ⟨rfl, rfl⟩, ⟨.inl ⟨rfl, rfl⟩, ⟨.inl ⟨rfl, rfl⟩, trivial⟩⟩⟩⟩, trivial⟩⟩⟩ rfl (fun b hb => by cases hb) (.inl rfl) (lt_of rfl) trivial)] (by kernel_rfl) (by kernel_rfl) ?_
    refine nB ?_
    refine nT ?_
    refine xR [hR 1 rfl rfl (r_bin (u1 := .int .i64 ((k : Nat) : Int)) (u2 := .int .i64 1) (v := .int .i64 ((k + 1 : Nat) : Int)) (b_add (by rw [IntKind.wrap_i64]; omega)) (lt_of rfl) ⟨rfl, trivial⟩)] (by kernel_rfl) (by kernel_rfl) ?_
    refine nL (k + 1) (show (k + 1) ≤ l.length from (by omega)) (show (l.length - (k + 1) : Nat) < l.length - k from (by omega)) (fun _ _ hG => Gs.into2 (s' := ⟨(z7319_c l e k), [(z7319_5 e), .live (.box 54 [.own 2 (k_api_Packet false).sz 0 (runN l (k + 1)).l.length, .d (.val (.int .i64 (runN l (k + 1)).n))]), (z7319_d l k), .live (.box 46 [.own 4 (k_api_Packet false).sz 0 (runN l (k + 1)).l.length, .d (.val (.int .i64 (runN l (k + 1)).n))]), (z7319_d l k)]⟩) [0, 1, 5, 3, 6] (bm 22 2097403) (t1 := (z7319_c l e k)) (h1 := [(z7319_5 e), .live (.box 54 [.own 5 (k_api_Packet false).sz 0 (runN l (k + 1)).l.length, .d (.val (.int .i64 (runN l (k + 1)).n))]), (z7319_d l k), .live (.box 46 [.own 6 (k_api_Packet false).sz 0 (runN l (k + 1)).l.length, .d (.val (.int .i64 (runN l (k + 1)).n))]), (z7319_d l k)]) (h2 := [(z7319_5 e), .live (.box 54 [.own 5 (k_api_Packet false).sz 0 (z7319_e l k).l.length, .d (.val (.int .i64 (z7319_e l k).n))]), .live (arrK 35 (k_api_Packet false) (z7319_e l k).l), .live (.box 46 [.own 6 (k_api_Packet false).sz 0 (z7319_e l k).l.length, .d (.val (.int .i64 (z7319_e l k).n))]), .live (arrK 35 (k_api_Packet false) (z7319_e l k).l)]) rfl (by have e1 : ((runN l (k + 1)).l.length : Nat) = (stepN (runN l k) (l.getD k z_quaestorlaw20_Act)).l.length := (by rw [runN_succ (z := z_quaestorlaw20_Act) (l := l) (k := k) (by omega)]); have e2 : ((runN l (k + 1)).n : Int) = (stepN (runN l k) (l.getD k z_quaestorlaw20_Act)).n := (by rw [runN_succ (z := z_quaestorlaw20_Act) (l := l) (k := k) (by omega)]); have e3 : ((runN l (k + 1)).l : List api_Packet) = (stepN (runN l k) (l.getD k z_quaestorlaw20_Act)).l := (by rw [runN_succ (z := z_quaestorlaw20_Act) (l := l) (k := k) (by omega)]); have e4 : ((runN l (k + 1)).l.length : Nat) = (stepN (runN l k) (l.getD k z_quaestorlaw20_Act)).l.length := (by rw [runN_succ (z := z_quaestorlaw20_Act) (l := l) (k := k) (by omega)]); have e5 : ((runN l (k + 1)).n : Int) = (stepN (runN l k) (l.getD k z_quaestorlaw20_Act)).n := (by rw [runN_succ (z := z_quaestorlaw20_Act) (l := l) (k := k) (by omega)]); have e6 : ((runN l (k + 1)).l : List api_Packet) = (stepN (runN l k) (l.getD k z_quaestorlaw20_Act)).l := (by rw [runN_succ (z := z_quaestorlaw20_Act) (l := l) (k := k) (by omega)]); have hE := congr (congr (congr (congr (congr (congrArg (fun (q1 : Nat) (q2 : Int) (q3 : List api_Packet) (q4 : Nat) (q5 : Int) (q6 : List api_Packet) => ([(z7319_5 e), .live (.box 54 [.own 5 (k_api_Packet false).sz 0 q1, .d (.val (.int .i64 q2))]), .live (arrK 35 (k_api_Packet false) q3), .live (.box 46 [.own 6 (k_api_Packet false).sz 0 q4, .d (.val (.int .i64 q5))]), .live (arrK 35 (k_api_Packet false) q6)] : List HS)) e1) e2) e3) e4) e5) e6; exact hE) (by kernel_rfl) (by kernel_rfl) (by kernel_rfl) (by kernel_rfl) (by kernel_rfl) (by kernel_rfl) (by kernel_rfl) (by kernel_rfl) (by kernel_rfl) (by kernel_rfl) (by kernel_rfl) hG)
   ·refine cF (decide_eq_false hq3) ?_
    refine T.exit ?_
    refine xT ?_
    refine xT ?_
    refine xH ?_
    refine nT ?_
    refine sD [[], [0], [], [], [3], [2, 3, 4], [0, 1, 2, 3, 4, 5], [], [0, 1, 2, 3, 4, 5, 6, 7]] [hR 2 rfl rfl (q_buildSlice 5 5 kU8 kU8_ok ([] : List UInt8) [] (cs := []) Try.underlying27 iat_5 rfl zero_5 rfl rfl rfl (Nat.le_of_ble_eq_true rfl) part_ok (by kernel_rfl) (wk_eq (by kernel_rfl)) (lt_of rfl) trivial),
      hR 5 rfl rfl (q_appendO 5 6 5 1 kU8 kU8_ok ([] : List UInt8) e.f_Body e.f_Body ([] : List UInt8).length (sy := (.d (dsl false false kU8 e.f_Body))) (rhs := []) elem_27 (by first | assumption | omega | (unfold maxLen; omega) | (simp [maxLen, -List.getD_eq_getElem?_getD] <;> omega) | decide) (src_sl false false kU8 e.f_Body) (by simp) (by first | assumption | omega | (unfold maxLen; omega) | (simp [maxLen, -List.getD_eq_getElem?_getD] <;> omega) | decide) (by first | assumption | omega | (unfold maxLen; omega) | (simp [maxLen, -List.getD_eq_getElem?_getD] <;> omega) | decide) (lt_of rfl) trivial)] ?_
    refine sR [hR 2 rfl rfl (r_call (net_Send (runN l k).l (runN l k).n true 1 e (by first | assumption | omega | (unfold maxLen; omega) | (simp [maxLen, -List.getD_eq_getElem?_getD] <;> omega) | decide) (by first | assumption | omega | (unfold maxLen; omega) | (simp [maxLen, -List.getD_eq_getElem?_getD] <;> omega) | decide)) Try.func11 rfl (by decide) [1, 2, 8] [6] (l := [(.tmp 45, pv 1 0), (.const (.int .i64 1), dv (.int .i64 1)), (.tmp 46, .tv (.agg (z7319_f e)))]) [(6, .live (arrK 5 kU8 e.f_Body))] rfl 2 3 rfl rfl rfl rfl rfl rfl rfl rfl rfl ⟨.inl ⟨rfl, rfl⟩, ⟨.inl ⟨rfl, rfl⟩, ⟨⟨.inl ⟨rfl, rfl⟩, ⟨.inr (.inl ⟨rfl, (fun h => by cases h), rfl, rfl, by simp, 5, e.f_Body.length, elOf kU8 e.f_Body, List.Mem.head _, (by first | exact Nat.le_of_eq (Nat.zero_add _) | omega), fun i j => by rw [Nat.zero_add]⟩), trivial⟩⟩, trivial⟩⟩⟩ rfl (by intro b hb; simp only [List.mem_cons, List.not_mem_nil, or_false] at hb; rcases hb with rfl; exact ⟨_, List.Mem.head _⟩) (.inr ⟨trivial, (And.intro (And.intro trivial (And.intro trivial trivial)) (And.intro trivial (And.intro (arr_nt k_api_Packet_nt) trivial)))⟩) (lt_of rfl) ⟨rfl, trivial⟩)] ?_
    refine sR [hR 2 rfl rfl (r_call (ref_Send (runN l k).l (runN l k).n false 1 e (by first | assumption | omega | (unfold maxLen; omega) | (simp [maxLen, -List.getD_eq_getElem?_getD] <;> omega) | decide) (by first | assumption | omega | (unfold maxLen; omega) | (simp [maxLen, -List.getD_eq_getElem?_getD] <;> omega) | decide)) Try.func21 rfl (by decide) [3, 4, 9] [] (l := [(.tmp 48, pv 3 0), (.const (.int .i64 1), dv (.int .i64 1)), (.tmp 49, (z7319_1 e))]) [] rfl 2 3 rfl rfl rfl rfl rfl rfl rfl rfl rfl ⟨.inl ⟨rfl, rfl⟩, ⟨.inl ⟨rfl, rfl⟩, ⟨⟨.inl ⟨rfl, rfl⟩, ⟨.inl ⟨rfl, rfl⟩, trivial⟩⟩, trivial⟩⟩⟩ rfl (fun b hb => by cases hb) (.inl rfl) (lt_of rfl) ⟨rfl, trivial⟩)] ?_
    refine T.seq ?_
    refine sR [] ?_
    refine T.block ?_
    refine T.loop (ι := Nat × (List UInt8)) (fun (x_ : Nat × (List UInt8)) => ⟨[(z7319_0 l), (z7319_1 e), aa, pv 0 0, dv (.bool false), pv 1 0, pv 3 0, (z7319_9 k), pv 7 0, aa, aa, aa, aa, aa, aa, aa, aa, aa, aa, aa, aa, (z7319_3 e), aa, aa, aa, aa, aa, aa, (z7319_g l k), aa, aa, aa, aa, aa, aa, aa, aa, aa, aa, aa, aa, aa, aa, aa, aa, aa, aa, aa, aa, aa, aa, aa, aa, (z7319_h e), dv (.int .i64 ((x_.1 : Nat) : Int))], [(z7319_5 e), (z7319_j l e k), .dead, (z7319_k l e k), .dead, .dead, .live (arrK 5 kU8 x_.2), .live (.box 29 (z7319_f e)), (z7319_l l e k), (z7319_l l e k)]⟩) (fun (x_ : Nat × (List UInt8)) => (x_.1 ≤ e.f_Body.length) ∧ (x_.2.length = e.f_Body.length)) (fun (x_ : Nat × (List UInt8)) => e.f_Body.length - x_.1) (0, e.f_Body) ⟨(Nat.zero_le _), rfl⟩ (fun _ _ hG => Gs.into2 (s' := ⟨(z7319_m l e k), (z7319_n l e k)⟩) [0, 1, 13, 3, 18, 24, 6, 7, 8, 9] (bm 55 27021598034756091) (t1 := (z7319_m l e k)) (h1 := (z7319_n l e k)) rfl rfl (by kernel_rfl) (by kernel_rfl) (by kernel_rfl) (by kernel_rfl) (by kernel_rfl) (by kernel_rfl) (by kernel_rfl) (by kernel_rfl) (by kernel_rfl) (by kernel_rfl) (by kernel_rfl) hG) ?_
    rintro ⟨k2, ys⟩ ⟨hk2, hy⟩
    show T _ _ ⟨[(z7319_0 l), (z7319_1 e), aa, pv 0 0, dv (.bool false), pv 1 0, pv 3 0, (z7319_9 k), pv 7 0, aa, aa, aa, aa, aa, aa, aa, aa, aa, aa, aa, aa, (z7319_3 e), aa, aa, aa, aa, aa, aa, (z7319_g l k), aa, aa, aa, aa, aa, aa, aa, aa, aa, aa, aa, aa, aa, aa, aa, aa, aa, aa, aa, aa, aa, aa, aa, aa, (z7319_h e), dv (.int .i64 ((k2 : Nat) : Int))], (z7319_o l e k ys)⟩ _ _
    replace hk2 : k2 ≤ e.f_Body.length := hk2
    replace hy : ys.length = e.f_Body.length := hy
    refine sR [] ?_
    refine T.seq ?_
    by_cases hq4 : ((k2 : Nat) : Int) < ((e.f_Body.length : Nat) : Int)
    ·refine cT (decide_eq_true hq4) ?_
     refine T.skip ?_
     refine nT ?_
     refine T.seq ?_
     refine T.block ?_
     refine sR [] ?_
     refine xR [hR 3 rfl rfl (r_indexO (k := .i64) (l := 6) (sz := kU8.sz) (off := 0) (n := e.f_Body.length) (i := ((k2 : Nat) : Int)) (m := k2) (o' := k2 * kU8.sz + 0) Try.underlying27 iat_5 rfl rfl (by first | assumption | omega | (unfold maxLen; omega) | (simp [maxLen, -List.getD_eq_getElem?_getD] <;> omega) | decide) (by first | rfl | simp) (lt_of rfl) trivial),
       hR 4 rfl rfl (q_storeA 6 5 kU8 ys (238 : UInt8) k2 0 1 [.val (.int .u8 238)] (tv := .one (.d (.val (.int .u8 238)))) (off := k2 * kU8.sz + 0) cells_5 ⟨.inl rfl, trivial⟩ rfl rfl (by first | assumption | omega | (unfold maxLen; omega) | (simp [maxLen, -List.getD_eq_getElem?_getD] <;> omega) | decide) (by decide) rfl (by intro j hj; replace hj : j < 1 := hj; rcases j with _ | j <;> first | rfl | omega) ⟨rfl, trivial⟩)] (by kernel_rfl) (by kernel_rfl) ?_
     refine nB ?_
     refine nT ?_
     refine xR [hR 0 rfl rfl (r_bin (u1 := .int .i64 ((k2 : Nat) : Int)) (u2 := .int .i64 1) (v := .int .i64 ((k2 + 1 : Nat) : Int)) (b_add (by rw [IntKind.wrap_i64]; omega)) (lt_of rfl) ⟨rfl, trivial⟩)] (by kernel_rfl) (by kernel_rfl) ?_
     refine nL (k2 + 1, (ys.set k2 (238 : UInt8))) ⟨(show (k2 + 1) ≤ e.f_Body.length from (by omega)), (show (ys.set k2 (238 : UInt8)).length = e.f_Body.length from (by simp only [List.length_set]; omega))⟩ (show (e.f_Body.length - (k2 + 1) : Nat) < e.f_Body.length - k2 from (by omega)) (fun _ _ hG => Gs.into2 (s' := ⟨(z7319_p l e k k2), (z7319_q l e k k2 ys)⟩) [0, 1, 13, 3, 18, 24, 6, 7, 8, 9] (bm 55 27021598034756091) (t1 := (z7319_p l e k k2)) (h1 := (z7319_q l e k k2 ys)) rfl rfl (by kernel_rfl) (by kernel_rfl) (by kernel_rfl) (by kernel_rfl) (by kernel_rfl) (by kernel_rfl) (by kernel_rfl) (by kernel_rfl) (by kernel_rfl) (by kernel_rfl) (by kernel_rfl) hG)
    ·refine cF (decide_eq_false hq4) ?_
     refine T.exit ?_
     refine xT ?_
     refine xT ?_
     refine xH ?_
     refine nT ?_
     refine T.turn (s' := ⟨[(z7319_0 l), (z7319_1 e), aa, pv 0 0, dv (.bool false), pv 1 0, pv 3 0, (z7319_9 k), pv 7 0, aa, aa, aa, aa, aa, aa, aa, aa, aa, aa, aa, aa, (z7319_3 e), aa, aa, aa, aa, aa, aa, (z7319_g l k), aa, aa, aa, aa, aa, aa, aa, aa, aa, aa, aa, aa, aa, aa, aa, aa, aa, aa, aa, aa, aa, aa, aa, aa, (z7319_h e), dv (.int .i64 ((k2 : Nat) : Int)), dv (.bool (decide (((k2 : Nat) : Int) < ((e.f_Body.length : Nat) : Int))))], (z7319_o l e k ys)⟩) (fun _ _ hG => Gs.norm (by kernel_rfl) hG) ?_
     have hrl := run_len l k
     have hf3 := hq1.1
     have hn9 := (run_ok hq1 k hk).2
     have hs9 : smallN (netSend (runN l k) 1 e) := small_send hsm (by omega) 1 (show e.f_Body.length ≤ 140737488355328 by omega)
     have hs8 := hs9.1
     have hX := sendX (s := runN l k) (by omega) 1 e
     have hXl := sendX_len (s := runN l k) (by omega) 1 e
     have hX9 : e = ((netSend (runN l k) 1 e).l.getD ((((netSend (runN l k) 1 e).l.length : Nat) : Int) - 1).toNat z_api_Packet).f_Env := by rw [show ((((netSend (runN l k) 1 e).l.length : Nat) : Int) - 1).toNat = (netSend (runN l k) 1 e).l.length - 1 by omega]; exact hX.symm
     refine T.own (l := 1) (l2 := 8) (N := 116) (X := (netSend (runN l k) 1 e).l) (n := (netSend (runN l k) 1 e).n) rfl rfl (by decide) rfl rfl rfl fun a1 w1 hG1 => ?_
     show NT _ _ ⟨[aa, aa, aa, dv (rawV a1 3), aa, dv (rawV a1 5), dv (rawV a1 6), aa, aa, aa, aa, aa, aa, aa, aa, aa, aa, aa, aa, aa, aa, aa, aa, aa, aa, aa, aa, aa, aa, aa, aa, aa, aa, aa, aa, aa, aa, aa, aa, aa, aa, aa, aa, aa, aa, aa, aa, aa, aa, aa, aa, aa, aa, aa, aa, aa, aa, aa, aa, aa, aa, aa, sv (.ep true 2 ((k_net_Net true).cell (net_Net.mk (z7319_i l e k).l (z7319_i l e k).n)))], []⟩ _ _ _
     refine nR [hR 0 rfl rfl (r_call (net_AllE (net_Net.mk (netSend (runN l k) 1 e).l (netSend (runN l k) 1 e).n) (by first | assumption | omega | (unfold maxLen; omega) | (simp [maxLen, -List.getD_eq_getElem?_getD] <;> omega) | decide)) Try.func20 rfl (by decide) [0] [] (l := [(.tmp 62, sv (.ep true 2 ((k_net_Net true).cell (net_Net.mk (z7319_i l e k).l (z7319_i l e k).n))))]) [] rfl 0 1 rfl rfl rfl rfl rfl rfl rfl rfl rfl ⟨.inl ⟨rfl, rfl⟩, trivial⟩ rfl (fun b hb => by cases hb) (.inl rfl) (lt_of rfl) trivial)] ?_
     refine T.turn (s' := ⟨[aa, aa, aa, dv (rawV a1 3), aa, dv (rawV a1 5), dv (rawV a1 6), aa, aa, aa, ownV 0 (k_api_Packet false) 0 (z7319_i l e k).l.length], [(z7319_l l e k)]⟩) (fun _ _ hG => Gs.norm (by kernel_rfl) hG) ?_
     refine T.spl ?_
     show T _ _ ⟨[aa, aa, aa, dv (rawV a1 3), aa, dv (rawV a1 5), dv (rawV a1 6), aa, aa, aa, (z7319_r l e k)], (z7319_s l e k)⟩ _ _
     refine T.seq ?_
     refine sR [] ?_
     refine T.block ?_
     refine T.loop (ι := Nat) (fun (i : Nat) => ⟨[aa, aa, aa, dv (rawV a1 3), aa, dv (rawV a1 5), dv (rawV a1 6), aa, aa, aa, (z7319_r l e k), (z7319_t i)], (z7319_s l e k)⟩) (fun (i : Nat) => (i ≤ (netSend (runN l k) 1 e).l.length)) (fun (i : Nat) => (netSend (runN l k) 1 e).l.length - i) (0) (Nat.zero_le _) (fun _ _ hG => Gs.into2 (s' := ⟨[aa, aa, aa, dv (rawV a1 3), aa, dv (rawV a1 5), dv (rawV a1 6), aa, aa, aa, (z7319_r l e k), dv (.int .i64 0)], (z7319_s l e k)⟩) [0] (bm 12 3176) (t1 := [aa, aa, aa, dv (rawV a1 3), aa, dv (rawV a1 5), dv (rawV a1 6), aa, aa, aa, (z7319_r l e k), dv (.int .i64 0)]) (h1 := (z7319_s l e k)) rfl rfl (by kernel_rfl) (by kernel_rfl) (by kernel_rfl) (by kernel_rfl) (by kernel_rfl) (by kernel_rfl) (by kernel_rfl) (by kernel_rfl) (by kernel_rfl) (by kernel_rfl) (by kernel_rfl) hG) ?_
     rintro i hi
     show T _ _ ⟨[aa, aa, aa, dv (rawV a1 3), aa, dv (rawV a1 5), dv (rawV a1 6), aa, aa, aa, (z7319_r l e k), (z7319_t i)], (z7319_s l e k)⟩ _ _
     replace hi : i ≤ (netSend (runN l k) 1 e).l.length := hi
     refine T.seq ?_
     refine sR [] ?_
     by_cases hq5 : ((i : Nat) : Int) < (((netSend (runN l k) 1 e).l.length : Nat) : Int)
     ·refine cT (decide_eq_true hq5) ?_
      refine T.skip ?_
      refine nT ?_
      refine T.seq ?_
      refine T.block ?_
      refine sR [hR 2 rfl rfl (r_indexO (k := .i64) (l := 0) (sz := kSplP.sz) (off := 0) (n := (netSend (runN l k) 1 e).l.length) (i := ((i : Nat) : Int)) (m := i) (o' := i * kSplP.sz + 0) Try.underlying44 iat_35 rfl rfl (by first | assumption | omega | (unfold maxLen; omega) | (simp [maxLen, -List.getD_eq_getElem?_getD] <;> omega) | decide) (by first | rfl | simp) (lt_of rfl) trivial),
        hR 5 rfl rfl (r_loadA (l := 0) (off := i * kSplP.sz + 3) (i := i) (j := 3) (T := 35) (sz := kSplP.sz) (n := (netSend (runN l k) 1 e).l.length) (el := elOf kSplP (netSend (runN l k) 1 e).l) (c := dsl false false kAny ((z7319_i l e k).l.getD i z_api_Packet).f_Env.f_Body) wide_27 rfl (by first | assumption | omega | (unfold maxLen; omega) | (simp [maxLen, -List.getD_eq_getElem?_getD] <;> omega) | decide) (by decide) rfl (lt_of rfl) trivial)] ?_
      refine T.block ?_
      refine T.loop (ι := Nat) (fun (j : Nat) => ⟨[aa, aa, aa, dv (rawV a1 3), aa, dv (rawV a1 5), dv (rawV a1 6), aa, aa, aa, (z7319_r l e k), (z7319_t i), aa, aa, aa, aa, aa, aa, aa, aa, aa, aa, aa, aa, aa, aa, aa, aa, aa, aa, aa, aa, aa, aa, aa, aa, aa, aa, aa, aa, aa, aa, aa, aa, aa, aa, aa, aa, aa, aa, aa, aa, aa, aa, aa, aa, aa, aa, aa, aa, aa, aa, aa, aa, aa, aa, aa, aa, aa, aa, aa, aa, aa, aa, aa, aa, (z7319_u l e k i), (z7319_v j)], (z7319_s l e k)⟩) (fun (j : Nat) => (j ≤ ((netSend (runN l k) 1 e).l.getD i z_api_Packet).f_Env.f_Body.length)) (fun (j : Nat) => ((netSend (runN l k) 1 e).l.getD i z_api_Packet).f_Env.f_Body.length - j) (0) (Nat.zero_le _) (fun _ _ hG => Gs.into2 (s' := ⟨[aa, aa, aa, dv (rawV a1 3), aa, dv (rawV a1 5), dv (rawV a1 6), aa, aa, aa, (z7319_r l e k), (z7319_t i), aa, aa, aa, aa, aa, aa, aa, aa, aa, aa, aa, aa, aa, aa, aa, aa, aa, aa, aa, aa, aa, aa, aa, aa, aa, aa, aa, aa, aa, aa, aa, aa, aa, aa, aa, aa, aa, aa, aa, aa, aa, aa, aa, aa, aa, aa, aa, aa, aa, aa, aa, aa, aa, aa, aa, aa, aa, aa, aa, aa, aa, aa, aa, aa, (z7319_u l e k i), dv (.int .i64 0)], (z7319_s l e k)⟩) [0] (bm 78 226673591177742970260584) (t1 := [aa, aa, aa, dv (rawV a1 3), aa, dv (rawV a1 5), dv (rawV a1 6), aa, aa, aa, (z7319_r l e k), (z7319_t i), aa, aa, aa, aa, aa, aa, aa, aa, aa, aa, aa, aa, aa, aa, aa, aa, aa, aa, aa, aa, aa, aa, aa, aa, aa, aa, aa, aa, aa, aa, aa, aa, aa, aa, aa, aa, aa, aa, aa, aa, aa, aa, aa, aa, aa, aa, aa, aa, aa, aa, aa, aa, aa, aa, aa, aa, aa, aa, aa, aa, aa, aa, aa, aa, (z7319_u l e k i), dv (.int .i64 0)]) (h1 := (z7319_s l e k)) rfl rfl (by kernel_rfl) (by kernel_rfl) (by kernel_rfl) (by kernel_rfl) (by kernel_rfl) (by kernel_rfl) (by kernel_rfl) (by kernel_rfl) (by kernel_rfl) (by kernel_rfl) (by kernel_rfl) hG) ?_
      rintro j hj
      show T _ _ ⟨[aa, aa, aa, dv (rawV a1 3), aa, dv (rawV a1 5), dv (rawV a1 6), aa, aa, aa, (z7319_r l e k), (z7319_t i), aa, aa, aa, aa, aa, aa, aa, aa, aa, aa, aa, aa, aa, aa, aa, aa, aa, aa, aa, aa, aa, aa, aa, aa, aa, aa, aa, aa, aa, aa, aa, aa, aa, aa, aa, aa, aa, aa, aa, aa, aa, aa, aa, aa, aa, aa, aa, aa, aa, aa, aa, aa, aa, aa, aa, aa, aa, aa, aa, aa, aa, aa, aa, aa, (z7319_u l e k i), (z7319_v j)], (z7319_s l e k)⟩ _ _
      replace hj : j ≤ ((netSend (runN l k) 1 e).l.getD i z_api_Packet).f_Env.f_Body.length := hj
      have hsj := small_getD hs9 i
      simp only [smallE] at hsj
      refine sR [] ?_
      refine T.seq ?_
      by_cases hq6 : ((j : Nat) : Int) < ((((netSend (runN l k) 1 e).l.getD i z_api_Packet).f_Env.f_Body.length : Nat) : Int)
      ·refine cT (decide_eq_true hq6) ?_
       refine T.skip ?_
       refine nT ?_
       refine T.seq ?_
       refine T.block ?_
       refine sR [] ?_
       refine T.turn (s' := ⟨[aa, aa, aa, dv (rawV a1 3), aa, dv (rawV a1 5), dv (rawV a1 6), aa, aa, aa, (z7319_r l e k), (z7319_t i), (z7319_v j), aa, aa, aa, aa, aa, aa, aa, aa, aa, aa, aa, aa, aa, aa, aa, aa, aa, aa, aa, aa, aa, aa, aa, aa, aa, aa, aa, aa, aa, aa, aa, aa, aa, aa, aa, aa, aa, aa, aa, aa, aa, aa, aa, aa, aa, aa, aa, aa, aa, aa, aa, aa, aa, aa, aa, aa, aa, aa, aa, aa, aa, aa, aa, (z7319_u l e k i), (z7319_v j), (z7319_w l e k i j)], (z7319_s l e k)⟩) (fun _ _ hG => Gs.norm (by kernel_rfl) hG) ?_
       refine T.spoil (m := 8) (x := 87) (k := .u8) ⟨[aa, aa, aa, dv (rawV a1 3), aa, dv (rawV a1 5), dv (rawV a1 6), aa, aa, aa, (z7319_r l e k), (z7319_t i), (z7319_v j), aa, aa, aa, aa, aa, aa, aa, aa, aa, aa, aa, aa, aa, aa, aa, aa, aa, aa, aa, aa, aa, aa, aa, aa, aa, aa, aa, aa, aa, aa, aa, aa, aa, aa, aa, aa, aa, aa, aa, aa, aa, aa, aa, aa, aa, aa, aa, aa, aa, aa, aa, aa, aa, aa, aa, aa, aa, aa, aa, aa, aa, aa, aa, (z7319_u l e k i), (z7319_v j), (z7319_w l e k i j), aa, aa, aa, aa, aa, aa, aa, aa, sv (.ep false 1 (kAny.cell (((z7319_i l e k).l.getD i z_api_Packet).f_Env.f_Body.getD j kAny.z)))], (z7319_s l e k)⟩ [hR 2 rfl rfl (r_indexO (k := .i64) (l := 0) (sz := kSplP.sz) (off := 0) (n := (netSend (runN l k) 1 e).l.length) (i := ((i : Nat) : Int)) (m := i) (o' := i * kSplP.sz + 0) Try.underlying44 iat_35 rfl rfl (by first | assumption | omega | (unfold maxLen; omega) | (simp [maxLen, -List.getD_eq_getElem?_getD] <;> omega) | decide) (by first | rfl | simp) (lt_of rfl) trivial),
         hR 5 rfl rfl (r_loadA (l := 0) (off := i * kSplP.sz + 3) (i := i) (j := 3) (T := 35) (sz := kSplP.sz) (n := (netSend (runN l k) 1 e).l.length) (el := elOf kSplP (netSend (runN l k) 1 e).l) (c := dsl false false kAny ((z7319_i l e k).l.getD i z_api_Packet).f_Env.f_Body) wide_27 rfl (by first | assumption | omega | (unfold maxLen; omega) | (simp [maxLen, -List.getD_eq_getElem?_getD] <;> omega) | decide) (by decide) rfl (lt_of rfl) trivial),
         hR 7 rfl rfl (q_index false false kAny ((netSend (runN l k) 1 e).l.getD i z_api_Packet).f_Env.f_Body j (k := .i64) (i := ((j : Nat) : Int)) Try.underlying27 iat_5 rfl rfl (by first | assumption | omega | (unfold maxLen; omega) | (simp [maxLen, -List.getD_eq_getElem?_getD] <;> omega) | decide) (lt_of rfl) trivial)] rfl rfl cells_5 (fun _ h => h) (by kernel_rfl) (by kernel_rfl) (by kernel_rfl) rfl ⟨trivial, ⟨trivial, ⟨trivial, ⟨trivial, ⟨trivial, ⟨trivial, ⟨trivial, ⟨trivial, ⟨trivial, ⟨trivial, ⟨trivial, ⟨trivial, ⟨trivial, ⟨trivial, ⟨trivial, ⟨trivial, ⟨trivial, ⟨trivial, ⟨trivial, ⟨trivial, ⟨trivial, ⟨trivial, ⟨trivial, ⟨trivial, ⟨trivial, ⟨trivial, ⟨trivial, ⟨trivial, ⟨trivial, ⟨trivial, ⟨trivial, ⟨trivial, ⟨trivial, ⟨trivial, ⟨trivial, ⟨trivial, ⟨trivial, ⟨trivial, ⟨trivial, ⟨trivial, ⟨trivial, ⟨trivial, ⟨trivial, ⟨trivial, ⟨trivial, ⟨trivial, ⟨trivial, ⟨trivial, ⟨trivial, ⟨trivial, ⟨trivial, ⟨trivial, ⟨trivial, ⟨trivial, ⟨trivial, ⟨trivial, ⟨trivial, ⟨trivial, ⟨trivial, ⟨trivial, ⟨trivial, ⟨trivial, ⟨trivial, ⟨trivial, ⟨trivial, ⟨trivial, ⟨trivial, ⟨trivial, ⟨trivial, ⟨trivial, ⟨trivial, ⟨trivial, ⟨trivial, ⟨trivial, ⟨trivial, ⟨trivial, ⟨trivial, ⟨trivial, ⟨trivial, ⟨trivial, ⟨trivial, ⟨trivial, ⟨trivial, ⟨trivial, ⟨trivial, ⟨trivial, ⟨trivial, ⟨⟨rfl, fun _ => rfl⟩, trivial⟩⟩⟩⟩⟩⟩⟩⟩⟩⟩⟩⟩⟩⟩⟩⟩⟩⟩⟩⟩⟩⟩⟩⟩⟩⟩⟩⟩⟩⟩⟩⟩⟩⟩⟩⟩⟩⟩⟩⟩⟩⟩⟩⟩⟩⟩⟩⟩⟩⟩⟩⟩⟩⟩⟩⟩⟩⟩⟩⟩⟩⟩⟩⟩⟩⟩⟩⟩⟩⟩⟩⟩⟩⟩⟩⟩⟩⟩⟩⟩⟩⟩⟩⟩⟩⟩⟩⟩ ⟨spl_arr 35 (netSend (runN l k) 1 e).l, trivial⟩ ?_
       refine Ends.turn (s' := ⟨[aa, aa, aa, dv (rawV a1 3), aa, dv (rawV a1 5), dv (rawV a1 6), aa, aa, aa, (z7319_r l e k), (z7319_t i), (z7319_v j), aa, aa, aa, aa, aa, aa, aa, aa, aa, aa, aa, aa, aa, aa, aa, aa, aa, aa, aa, aa, aa, aa, aa, aa, aa, aa, aa, aa, aa, aa, aa, aa, aa, aa, aa, aa, aa, aa, aa, aa, aa, aa, aa, aa, aa, aa, aa, aa, aa, aa, aa, aa, aa, aa, aa, aa, aa, aa, aa, aa, aa, aa, aa, (z7319_u l e k i), (z7319_v j), (z7319_w l e k i j)], (z7319_s l e k)⟩) (fun _ _ hG => Gs.norm (by kernel_rfl) hG) ?_
       refine nB ?_
       refine nT ?_
       refine xR [hR 0 rfl rfl (r_bin (u1 := .int .i64 ((j : Nat) : Int)) (u2 := .int .i64 1) (v := .int .i64 ((j + 1 : Nat) : Int)) (b_add (by rw [IntKind.wrap_i64]; omega)) (lt_of rfl) ⟨rfl, trivial⟩)] (by kernel_rfl) (by kernel_rfl) ?_
       refine nL (j + 1) (show (j + 1) ≤ ((netSend (runN l k) 1 e).l.getD i z_api_Packet).f_Env.f_Body.length from (by omega)) (show (((netSend (runN l k) 1 e).l.getD i z_api_Packet).f_Env.f_Body.length - (j + 1) : Nat) < ((netSend (runN l k) 1 e).l.getD i z_api_Packet).f_Env.f_Body.length - j from (by omega)) (fun _ _ hG => Gs.into2 (s' := ⟨[aa, aa, aa, dv (rawV a1 3), aa, dv (rawV a1 5), dv (rawV a1 6), aa, aa, aa, (z7319_r l e k), (z7319_t i), aa, aa, aa, aa, aa, aa, aa, aa, aa, aa, aa, aa, aa, aa, aa, aa, aa, aa, aa, aa, aa, aa, aa, aa, aa, aa, aa, aa, aa, aa, aa, aa, aa, aa, aa, aa, aa, aa, aa, aa, aa, aa, aa, aa, aa, aa, aa, aa, aa, aa, aa, aa, aa, aa, aa, aa, aa, aa, aa, aa, aa, aa, aa, aa, (z7319_u l e k i), dv (.int .i64 ((j + 1 : Nat) : Int))], (z7319_s l e k)⟩) [0] (bm 78 226673591177742970260584) (t1 := [aa, aa, aa, dv (rawV a1 3), aa, dv (rawV a1 5), dv (rawV a1 6), aa, aa, aa, (z7319_r l e k), (z7319_t i), aa, aa, aa, aa, aa, aa, aa, aa, aa, aa, aa, aa, aa, aa, aa, aa, aa, aa, aa, aa, aa, aa, aa, aa, aa, aa, aa, aa, aa, aa, aa, aa, aa, aa, aa, aa, aa, aa, aa, aa, aa, aa, aa, aa, aa, aa, aa, aa, aa, aa, aa, aa, aa, aa, aa, aa, aa, aa, aa, aa, aa, aa, aa, aa, (z7319_u l e k i), dv (.int .i64 ((j + 1 : Nat) : Int))]) (h1 := (z7319_s l e k)) rfl rfl (by kernel_rfl) (by kernel_rfl) (by kernel_rfl) (by kernel_rfl) (by kernel_rfl) (by kernel_rfl) (by kernel_rfl) (by kernel_rfl) (by kernel_rfl) (by kernel_rfl) (by kernel_rfl) hG)
      ·refine cF (decide_eq_false hq6) ?_
       refine T.exit ?_
       refine xT ?_
       refine xT ?_
       refine xH ?_
       refine nB ?_
       refine nT ?_
       refine xR [hR 1 rfl rfl (r_bin (u1 := .int .i64 ((i : Nat) : Int)) (u2 := .int .i64 1) (v := .int .i64 ((i + 1 : Nat) : Int)) (b_add (by rw [IntKind.wrap_i64]; omega)) (lt_of rfl) ⟨rfl, trivial⟩)] (by kernel_rfl) (by kernel_rfl) ?_
       refine nL (i + 1) (show (i + 1) ≤ (netSend (runN l k) 1 e).l.length from (by omega)) (show ((netSend (runN l k) 1 e).l.length - (i + 1) : Nat) < (netSend (runN l k) 1 e).l.length - i from (by omega)) (fun _ _ hG => Gs.into2 (s' := ⟨[aa, aa, aa, dv (rawV a1 3), aa, dv (rawV a1 5), dv (rawV a1 6), aa, aa, aa, (z7319_r l e k), dv (.int .i64 ((i + 1 : Nat) : Int))], (z7319_s l e k)⟩) [0] (bm 12 3176) (t1 := [aa, aa, aa, dv (rawV a1 3), aa, dv (rawV a1 5), dv (rawV a1 6), aa, aa, aa, (z7319_r l e k), dv (.int .i64 ((i + 1 : Nat) : Int))]) (h1 := (z7319_s l e k)) rfl rfl (by kernel_rfl) (by kernel_rfl) (by kernel_rfl) (by kernel_rfl) (by kernel_rfl) (by kernel_rfl) (by kernel_rfl) (by kernel_rfl) (by kernel_rfl) (by kernel_rfl) (by kernel_rfl) hG)
     ·refine cF (decide_eq_false hq5) ?_
      refine T.exit ?_
      refine xT ?_
      refine xT ?_
      refine xH ?_
      refine nT ?_
      by_cases hq7 : e = ((netSend (runN l k) 1 e).l.getD ((((netSend (runN l k) 1 e).l.length : Nat) : Int) - 1).toNat z_api_Packet).f_Env
      ·refine T.turn (s' := ⟨[aa, aa, aa, dv (rawV a1 3), aa, dv (rawV a1 5), dv (rawV a1 6), aa, aa, aa, (z7319_r l e k), (z7319_t i), aa, aa, aa, aa, aa, aa, aa, aa, aa, aa, aa, aa, aa, aa, aa, aa, aa, aa, aa, aa, aa, aa, aa, aa, aa, aa, aa, aa, aa, aa, aa, aa, aa, aa, aa, aa, aa, aa, aa, aa, aa, aa, aa, aa, aa, aa, aa, aa, aa, aa, aa, aa, aa, aa, aa, dv (.bool (decide (((i : Nat) : Int) < (((z7319_i l e k).l.length : Nat) : Int))))], (z7319_s l e k)⟩) (fun _ _ hG => Gs.norm (by kernel_rfl) hG) ?_
       refine T.turn (s' := ⟨[aa, aa, aa, dv (rawV a1 3), aa, dv (rawV a1 5), dv (rawV a1 6), aa, aa, aa, (z7319_r l e k), (z7319_t i), aa, aa, aa, aa, aa, aa, aa, aa, aa, aa, aa, aa, aa, aa, aa, aa, aa, aa, aa, aa, aa, aa, aa, aa, aa, aa, aa, aa, aa, aa, aa, aa, aa, aa, aa, aa, aa, aa, aa, aa, aa, aa, aa, aa, aa, aa, aa, aa, aa, aa, aa, aa, aa, aa, aa, dv (.bool (decide (((i : Nat) : Int) < (((z7319_i l e k).l.length : Nat) : Int))))], (z7319_s l e k)⟩) (fun _ _ hG => Gs.norm (by kernel_rfl) hG) ?_
       refine T.back hG1 rfl rfl rfl rfl ?_
       show T _ _ ⟨[aa, aa, aa, pv 0 0, aa, pv 1 0, pv 3 0], (z7319_o l e k ys)⟩ _ _
       refine sD [[], [0], [], [2], [2, 3], [2, 3, 4], [0, 1, 2, 3, 4, 5], [0, 1, 2, 3, 4, 5, 6], [0, 1, 2, 3, 4, 5, 6, 7], [0, 1, 2, 3, 4, 5, 6, 7], [0, 1, 2, 3, 4, 5, 6, 7, 9], [0, 1, 2, 3, 4, 5, 6, 7, 9, 10], [0, 1, 2, 3, 4, 5, 6, 7, 9, 10, 11], [0, 1, 2, 3, 4, 5, 6, 7], [0, 1, 2, 3, 4, 5, 6, 7, 13], [0, 1, 2, 3, 4, 5, 6, 7, 13, 14], [0, 1, 2, 3, 4, 5, 6, 7, 13, 14, 15], [0, 1, 2, 3, 4, 5, 6, 7, 13, 14, 15, 16], [0, 1, 2, 3, 4, 5, 6, 7, 13, 14, 15, 16, 17], [0, 1, 2, 3, 4, 5, 6, 7, 9, 10, 11, 12, 13, 14, 15, 16, 17, 18], [0, 1, 2, 3, 4, 5, 6, 7, 9, 10, 11, 12, 13, 14, 15, 16, 17, 18, 19], [0, 1, 2, 3, 4, 5, 6, 7, 9, 10, 11, 12, 13, 14, 15, 16, 17, 18, 19, 20], [0, 1, 2, 3, 4, 5, 6, 7, 8, 9, 10, 11, 12, 13, 14, 15, 16, 17, 18, 19, 20, 21], [0, 1, 2, 3, 4, 5, 6, 7, 8, 9, 10, 11, 12, 13, 14, 15, 16, 17, 18, 19, 20, 21, 22], [0, 1, 2, 3, 4, 5, 6, 7, 8, 9, 10, 11, 12, 13, 14, 15, 16, 17, 18, 19, 20, 21, 22, 23], [0, 1, 2, 3, 4, 5, 6, 7, 8, 9, 10, 11, 12, 13, 14, 15, 16, 17, 18, 19, 20, 21, 22, 23, 24], [0, 1, 2, 3, 4, 5, 6, 7, 8, 9, 10, 11, 12, 13, 14, 15, 16, 17, 18, 19, 20, 21, 22, 23, 24, 25], [0, 1, 2, 3, 4, 5, 6, 7, 8, 9, 10, 11, 12, 13, 14, 15, 16, 17, 18, 19, 20, 21, 22, 23, 24, 25, 26]] [hR 1 rfl rfl (r_call (net_All (netSend (runN l k) 1 e).l (netSend (runN l k) 1 e).n (by first | assumption | omega | (unfold maxLen; omega) | (simp [maxLen, -List.getD_eq_getElem?_getD] <;> omega) | decide)) Try.func20 rfl (by decide) [1, 8] [] (l := [(.tmp 89, pv 1 0)]) [] rfl 2 2 rfl rfl rfl rfl rfl rfl rfl rfl rfl ⟨.inl ⟨rfl, rfl⟩, trivial⟩ rfl (fun b hb => by cases hb) (.inl rfl) (lt_of rfl) trivial),
         hR 6 rfl rfl (r_call (ref20_All false false false true false false (netSend (runN l k) 1 e).l (netSend (runN l k) 1 e).l (by first | assumption | omega | (unfold maxLen; omega) | (simp [maxLen, -List.getD_eq_getElem?_getD] <;> omega) | decide)) Try.func19 rfl (by decide) [] [9] (l := [(.tmp 90, slV false false (k_api_Packet false) (z7319_i l e k).l), (.tmp 94, ownV 9 (k_api_Packet false) 0 (z7319_i l e k).l.length)]) [(9, (z7319_l l e k))] rfl 0 0 rfl rfl rfl rfl rfl rfl rfl rfl rfl ⟨.inl ⟨rfl, rfl⟩, ⟨.inr (.inl ⟨rfl, (fun h => by cases h), rfl, rfl, by simp, 35, (netSend (runN l k) 1 e).l.length, elOf (k_api_Packet false) (netSend (runN l k) 1 e).l, List.Mem.head _, (by first | exact Nat.le_of_eq (Nat.zero_add _) | omega), fun i j => by rw [Nat.zero_add]⟩), trivial⟩⟩ rfl (by intro b hb; simp only [List.mem_cons, List.not_mem_nil, or_false] at hb; rcases hb with rfl; exact ⟨_, List.Mem.head _⟩) (.inr ⟨trivial, trivial⟩) (lt_of rfl) trivial),
         hY 8 (show decide ((netSend (runN l k) 1 e).l = (netSend (runN l k) 1 e).l) = true from decide_eq_true (Eq.refl _)),
         hY 9 (show decide ((netSend (runN l k) 1 e).l = (netSend (runN l k) 1 e).l) = true from decide_eq_true (Eq.refl _)),
         hY 10 (show decide ((netSend (runN l k) 1 e).l = (netSend (runN l k) 1 e).l) = true from decide_eq_true (Eq.refl _)),
         hY 11 (show decide ((netSend (runN l k) 1 e).l = (netSend (runN l k) 1 e).l) = true from decide_eq_true (Eq.refl _)),
         hY 12 (show decide ((netSend (runN l k) 1 e).l = (netSend (runN l k) 1 e).l) = true from decide_eq_true (Eq.refl _)),
         hY 13 (show decide ((netSend (runN l k) 1 e).l = (netSend (runN l k) 1 e).l) = true from decide_eq_true (Eq.refl _)),
         hY 14 (show decide ((netSend (runN l k) 1 e).l = (netSend (runN l k) 1 e).l) = true from decide_eq_true (Eq.refl _)),
         hY 15 (show decide ((netSend (runN l k) 1 e).l = (netSend (runN l k) 1 e).l) = true from decide_eq_true (Eq.refl _)),
         hY 16 (show decide ((netSend (runN l k) 1 e).l = (netSend (runN l k) 1 e).l) = true from decide_eq_true (Eq.refl _)),
         hY 17 (show decide ((netSend (runN l k) 1 e).l = (netSend (runN l k) 1 e).l) = true from decide_eq_true (Eq.refl _)),
         hS 18 (oY rfl rfl rfl rfl (lt_of rfl) (show decide ((netSend (runN l k) 1 e).l = (netSend (runN l k) 1 e).l) = true from decide_eq_true (Eq.refl _)) (r_bin (u1 := .int .i64 (((netSend (runN l k) 1 e).l.length : Nat) : Int)) (u2 := .int .i64 1) (v := .int .i64 ((((netSend (runN l k) 1 e).l.length : Nat) : Int) - 1)) (b_sub (by rw [IntKind.wrap_i64]; omega)) (lt_of rfl) ⟨rfl, trivial⟩)),
         hS 19 (oY rfl rfl rfl rfl (lt_of rfl) (show decide ((netSend (runN l k) 1 e).l = (netSend (runN l k) 1 e).l) = true from decide_eq_true (Eq.refl _)) (r_indexO (k := .i64) (l := 9) (sz := (k_api_Packet false).sz) (off := 0) (n := (netSend (runN l k) 1 e).l.length) (i := ((((netSend (runN l k) 1 e).l.length : Nat) : Int) - 1)) (m := ((((netSend (runN l k) 1 e).l.length : Nat) : Int) - 1).toNat) (o' := ((((netSend (runN l k) 1 e).l.length : Nat) : Int) - 1).toNat * (k_api_Packet false).sz + 0) Try.underlying44 iat_35 rfl (by omega) (by first | assumption | omega | (unfold maxLen; omega) | (simp [maxLen, -List.getD_eq_getElem?_getD] <;> omega) | decide) (by first | rfl | simp) (lt_of rfl) (by exact trivial))),
         hY 20 (show decide ((netSend (runN l k) 1 e).l = (netSend (runN l k) 1 e).l) = true from decide_eq_true (Eq.refl _)),
         hS 21 (oY rfl rfl rfl rfl (lt_of rfl) (show decide ((netSend (runN l k) 1 e).l = (netSend (runN l k) 1 e).l) = true from decide_eq_true (Eq.refl _)) (r_loadAs (l := 9) (off := ((((netSend (runN l k) 1 e).l.length : Nat) : Int) - 1).toNat * (k_api_Packet false).sz + 2) (i := ((((netSend (runN l k) 1 e).l.length : Nat) : Int) - 1).toNat) (j := 2) (T := 35) (sz := (k_api_Packet false).sz) (n := (netSend (runN l k) 1 e).l.length) (el := elOf (k_api_Packet false) (netSend (runN l k) 1 e).l) (ds := [.d (.val (.int .i64 ((z7319_i l e k).l.getD ((((z7319_i l e k).l.length : Nat) : Int) - 1).toNat z_api_Packet).f_Env.f_Signer)), .d (dsl false false kU8 ((z7319_i l e k).l.getD ((((z7319_i l e k).l.length : Nat) : Int) - 1).toNat z_api_Packet).f_Env.f_Body)]) wide_29 rfl (by first | assumption | omega | (unfold maxLen; omega) | (simp [maxLen, -List.getD_eq_getElem?_getD] <;> omega) | decide) (by decide) rfl (lt_of rfl) (by exact trivial))),
         hS 22 (oY rfl rfl rfl rfl (lt_of rfl) (show decide ((netSend (runN l k) 1 e).l = (netSend (runN l k) 1 e).l) = true from decide_eq_true (Eq.refl _)) (r_call (ref03_Same false false e ((netSend (runN l k) 1 e).l.getD ((((netSend (runN l k) 1 e).l.length : Nat) : Int) - 1).toNat z_api_Packet).f_Env ) Try.func22 rfl (by decide) [] [] (l := [(.tmp 97, (z7319_1 e)), (.tmp 110, .tv (.agg [.d (.val (.int .i64 ((z7319_i l e k).l.getD ((((z7319_i l e k).l.length : Nat) : Int) - 1).toNat z_api_Packet).f_Env.f_Signer)), .d (dsl false false kU8 ((z7319_i l e k).l.getD ((((z7319_i l e k).l.length : Nat) : Int) - 1).toNat z_api_Packet).f_Env.f_Body)]))]) [] rfl 0 0 rfl rfl rfl rfl rfl rfl rfl rfl rfl ⟨⟨.inl ⟨rfl, rfl⟩, ⟨.inl ⟨rfl, rfl⟩, trivial⟩⟩, ⟨⟨.inl ⟨rfl, rfl⟩, ⟨.inl ⟨rfl, rfl⟩, trivial⟩⟩, trivial⟩⟩ rfl (fun b hb => by cases hb) (.inl rfl) (lt_of rfl) (by exact trivial))),
         hP 23 (show decide ((netSend (runN l k) 1 e).l = (netSend (runN l k) 1 e).l) = true from decide_eq_true (Eq.refl _)),
         hS 25 (oY rfl rfl rfl rfl (lt_of rfl) (decide_eq_true hq7) (r_call (awake_true  ) Try.func17 rfl (by decide) [] [] (l := []) [] rfl 0 0 rfl rfl rfl rfl rfl rfl rfl rfl rfl trivial rfl (fun b hb => by cases hb) (.inl rfl) (lt_of rfl) (by exact trivial))),
         hP 26 (decide_eq_true hq7)] ?_
       refine T.ret ?_
       exact tE (.inl rfl) [.t 4 (z7319_2)] ⟨⟨rfl, by kernel_rfl⟩, trivial⟩ [] rfl rfl rfl rfl rfl rfl trivial
      ·exact absurd hX9 hq7
 ·refine sR [hR 1 rfl rfl (r_call (law_few l (by first | assumption | omega | (unfold maxLen; omega) | (simp [maxLen, -List.getD_eq_getElem?_getD] <;> omega) | decide)) Try.func9 rfl (by decide) [] [] (l := [(.tmp 13, (z7319_0 l))]) [] rfl 0 0 rfl rfl rfl rfl rfl rfl rfl rfl rfl ⟨.inl ⟨rfl, rfl⟩, trivial⟩ rfl (fun b hb => by cases hb) (.inl rfl) (lt_of rfl) trivial),
    hN 4 false (congrArg Bool.not (decide_eq_false hq1)),
    hN 5 false (congrArg Bool.not (decide_eq_false hq1)),
    hN 6 false (congrArg Bool.not (decide_eq_false hq1)),
    hN 7 false (congrArg Bool.not (decide_eq_false hq1)),
    hP 8 (congrArg Bool.not (decide_eq_false hq1))] ?_
  refine cT (b := true) rfl ?_
  refine sR [] ?_
  refine T.ret ?_
  refine rT ?_
  exact tE (.inl rfl) [.t 4 (z7319_2)] ⟨⟨rfl, by kernel_rfl⟩, trivial⟩ [] rfl rfl rfl rfl rfl rfl trivial
end Go.Proofs.Ytioenfjcbikbcaa.Q
