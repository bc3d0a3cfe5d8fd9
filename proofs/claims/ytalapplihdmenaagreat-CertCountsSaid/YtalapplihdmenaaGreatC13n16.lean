import Derived.Test.YtalapplihdmenaaGreatC13n15
namespace Go.Proofs.YtalapplihdmenaaGreat.Q
open Go Go.RowKit
set_option linter.unusedVariables false
set_option linter.unusedSimpArgs false
set_option maxRecDepth 100000
set_option maxHeartbeats 4000000
abbrev Z6y (B : List UInt8) (r : List UInt8) (e : Int) : HS := .live (.box 170 [dU B, dI ((posB B (rdYR (rdR r e 8 0) (rdE r e 8 0) 1099511627776) : Nat) : Int), dI (rdYE (rdR r e 8 0) (rdE r e 8 0) 1099511627776)])
abbrev Z6z (r : List UInt8) (e : Int) := (rdY (rdR r e 8 0) (rdE r e 8 0) 1099511627776)
abbrev Z70 (B : List UInt8) (r : List UInt8) (e : Int) : St := ⟨[pv 0 0, aa, pv 1 0], [(Z6y B r e), .live (.box 35 [dI (rdI r e), .own 2 kU8.sz 0 (Z6z r e).length]), .live (arrK 5 kU8 (Z6z r e))]⟩
theorem ref12_envelope (B : List UInt8) (r : List UInt8) (e : Int) (hs : r <:+ B) (hB : B.length ≤ 100000000) : Holds Tryz.prog 135 ⟨[pv 0 0], [.box 170 [dU B, dI ((posB B r : Nat) : Int), dI e]], .tv (.agg [dI (evV 1099511627776 r e).f_Signer, dU (evV 1099511627776 r e).f_Body]), [.live (.box 170 [dU B, dI ((posB B (evR 1099511627776 r e) : Nat) : Int), dI (evE 1099511627776 r e)])]⟩ := by
 refine Holds.of Tryz.func135 rfl (N := 8) Tryz.ntmps135 rfl fun w0 B0 S0 U0 => ?_
 show T _ (mkBase 8 1 w0 S0 U0 B0) ⟨[pv 0 0], [.live (.box 170 [dU B, dI ((posB B r : Nat) : Int), dI e])]⟩ _ _
 refine sR [] ?_
 refine sR [hR 1 rfl rfl (rCa (ref01_sInt B r e (by repeat assumption) (by omega)) Tryz.func123 [0] [(.tmp 3, pv 0 0)] 1 1),
   hR 3 rfl rfl (rCa (ref01_sBytes B (rdR r e 8 0) (rdE r e 8 0) 1099511627776 (by repeat first | assumption | exact List.suffix_refl _ | apply sufR | apply sufY | apply sufE | apply sufF | apply sufG | apply sufL | apply sufC | apply sufM) (by omega)) Tryz.func132 [0, 2] [(.tmp 5, pv 0 0), (.const (.int .i64 1099511627776), vI 1099511627776)] 1 2)] ?_
 refine T.ret ?_
 refine eN (Z70 B r e) ?_
 refine Ends.turn (s' := ⟨[pv 0 0, aa, pv 1 0], [(Z6y B r e), .live (.box 35 [dI (rdI r e), dU (Z6z r e)]), .dead]⟩) (fun _ _ hG => Gs.freeze (s := (Z70 B r e)) 2 (el := elOf kU8 (rdY (rdR r e 8 0) (rdE r e 8 0) 1099511627776)) (sz := kU8.sz) (n := (rdY (rdR r e 8 0) (rdE r e 8 0) 1099511627776).length) rfl ⟨.inl rfl, (kk2 trivial)⟩ ⟨(.inr ⟨by decide, .inl rfl⟩), ⟨(.inr ⟨by decide, .inr ⟨rfl, ⟨.inl rfl, ⟨(.inr ⟨rfl, rfl, rfl, (fun h => by cases h), rfl, rfl, Nat.le_of_eq (Nat.zero_add _), fun i j _ => by rw [Nat.zero_add]⟩), trivial⟩⟩⟩⟩), ⟨(.inl ⟨rfl, rfl⟩), trivial⟩⟩⟩ hG) ?_
 exact eX [.c 2 1 35 0 35 [dI (rdI r e), dU (Z6z r e)] (.agg [dI (rdI r e), dU (Z6z r e)])] ⟨⟨rfl, rfl, by kernel_rfl, by kernel_rfl, .inl ⟨2, wide_35, rfl, Nat.le_of_ble_eq_true rfl⟩⟩, trivial⟩ [0] (cg2 (fun (q1 : Int) (q2 : List UInt8) => (.tv (.agg [dI q1, dU q2]) : AV)) (by rfl) (by rfl)) ⟨⟨rfl, (by have e1 : (((posB B (rdYR (rdR r e 8 0) (rdE r e 8 0) 1099511627776) : Nat) : Int) : Int) = ((posB B (evR 1099511627776 r e) : Nat) : Int) := (by rfl); have e2 : ((rdYE (rdR r e 8 0) (rdE r e 8 0) 1099511627776) : Int) = (evE 1099511627776 r e) := (by rfl); have hE := congr (congrArg (fun (q1 : Int) (q2 : Int) => (.live (.box 170 [dU B, dI q1, dI q2]) : HS)) e1) e2; exact Eq.trans (by kernel_rfl) hE)⟩, trivial⟩
section
variable (B : List UInt8) (r : List UInt8) (e : Int) (k : Nat)
abbrev Z71 : SV := dU B
abbrev Z72 : AV := vI ((rdC r e 15 : Nat) : Int)
abbrev Z73 : HS := .live (.box 170 [(Z71 B), dI ((posB B (rdR r e 4 (limE 15 (r.take 4))) : Nat) : Int), dI (rdE r e 4 (limE 15 (r.take 4)))])
abbrev Z74 := (runL 1099511627776 r e k)
abbrev Z75 : AV := ownV 1 (kE false) 0 (Z74 r e k).l.length
abbrev Z76 : List HS := [.live (.box 170 [(Z71 B), dI ((posB B (Z74 r e k).rest : Nat) : Int), dI (Z74 r e k).e]), .live (arrK 35 (kE false) (Z74 r e k).l)]
abbrev Z79 := (evV 1099511627776 (Z74 r e k).rest (Z74 r e k).e)
abbrev Z7a : AV := vI ((k + 1 : Nat) : Int)
abbrev Z7b : List HS := [.live (.box 170 [(Z71 B), dI ((posB B (runL 1099511627776 r e (k + 1)).rest : Nat) : Int), dI (runL 1099511627776 r e (k + 1)).e]), .live (arrK 35 (kE false) (runL 1099511627776 r e (k + 1)).l)]
abbrev Z7c : List AV := [pv 0 0, aa, (Z75 r e k), (Z75 r e k), (Z72 r e), vI ((k : Nat) : Int), aa, aa, aa, aa, vB (decide (((k : Nat) : Int) < ((rdC r e 15 : Nat) : Int)))]
end
theorem ref12_getList (B : List UInt8) (r : List UInt8) (e : Int) (hs : r <:+ B) (hB : B.length ≤ 100000000) : Holds Tryz.prog 133 ⟨[pv 0 0], [.box 170 [dU B, dI ((posB B r : Nat) : Int), dI e]], slV false false (kE false) (finL 1099511627776 r e).l, [.live (.box 170 [dU B, dI ((posB B (finL 1099511627776 r e).rest : Nat) : Int), dI (finL 1099511627776 r e).e])]⟩ := by
 refine Holds.of Tryz.func133 rfl (N := 19) Tryz.ntmps133 rfl fun w0 B0 S0 U0 => ?_
 show T _ (mkBase 19 1 w0 S0 U0 B0) ⟨[pv 0 0], [.live (.box 170 [(Z71 B), dI ((posB B r : Nat) : Int), dI e])]⟩ _ _
 refine sR [] ?_
 refine sR [] ?_
 refine sR [hR 1 rfl rfl (rCa (ref01_sCount B r e 15 (by repeat assumption) (by omega)) Tryz.func134 [0] [(.tmp 6, pv 0 0), (.const (.int .i64 15), vI 15)] 1 1)] ?_
 refine T.seq ?_
 refine sR [] ?_
 refine T.block ?_
 refine tN ⟨[pv 0 0, aa, dv (.slice none 0 0), dv (.slice none 0 0), (Z72 r e), vI 0], [(Z73 B r e)]⟩ ?_
 refine T.turn (s' := ⟨[pv 0 0, aa, dv (.slice none 0 0), ownV 1 (kE false) 0 0, (Z72 r e), vI 0], [(Z73 B r e), .live (arrK 35 (kE false) ([] : List aE))]⟩) (fun _ _ hG => Gs.absent 1 3 35 (kE false) rfl rfl hG) ?_
 refine T.loop (ι := Nat) (fun (k : Nat) => ⟨[pv 0 0, aa, aa, (Z75 r e k), (Z72 r e), vI ((k : Nat) : Int)], (Z76 B r e k)⟩) (fun (k : Nat) => (k ≤ rdC r e 15)) (fun (k : Nat) => rdC r e 15 - k) (0) (Nat.zero_le _) (fun _ _ hG => Gs.iI [0, 1] (bm 6 57) (t2 := [pv 0 0, aa, aa, ownV 1 (kE false) 0 0, (Z72 r e), vI 0]) (h2 := [(Z73 B r e), .live (arrK 35 (kE false) ([] : List aE))]) (congrArg (fun (q1 : Nat) => ([pv 0 0, aa, aa, ownV 1 (kE false) 0 q1, (Z72 r e), vI 0] : List AV)) (by rfl)) (cg3 (fun (q1 : Int) (q2 : Int) (q3 : List aE) => ([.live (.box 170 [(Z71 B), dI q1, dI q2]), .live (arrK 35 (kE false) q3)] : List HS)) (by rfl) (by rfl) (by rfl)) hG) ?_
 rintro k hk
 show T _ _ ⟨[pv 0 0, aa, aa, (Z75 r e k), (Z72 r e), vI ((k : Nat) : Int)], (Z76 B r e k)⟩ _ _
 replace hk : k ≤ rdC r e 15 := hk
 have hg := runL_len 1099511627776 r e k
 have hg1 := hg.1
 have hg2 := hg.2
 have hcm : rdC r e 15 ≤ 15 := rdC_max r e 15
 refine T.seq ?_
 refine sR [] ?_
 by_cases hq1 : ((k : Nat) : Int) < ((rdC r e 15 : Nat) : Int)
 ·refine cT (dT hq1) ?_
  refine T.skip (nT (T.seq ?_))
  refine T.block ?_
  refine xR [hR 2 rfl rfl (rCa (ref12_envelope B (runL 1099511627776 r e k).rest (runL 1099511627776 r e k).e (by repeat first | assumption | exact List.suffix_refl _ | apply sufR | apply sufY | apply sufE | apply sufF | apply sufG | apply sufL | apply sufC | apply sufM) ‹_›) Tryz.func135 [0] [(.tmp 14, pv 0 0)] 1 1),
    hR 3 rfl rfl (q_buildSlice 2 35 (kE false) (k_api_Envelope_ok false) [(evV 1099511627776 (runL 1099511627776 r e k).rest (runL 1099511627776 r e k).e)] [⟨0, .tmp 15, .agg [dI (Z79 r e k).f_Signer, dU (Z79 r e k).f_Body], 0⟩] (cs := [dI (Z79 r e k).f_Signer, dU (Z79 r e k).f_Body]) Tryz.underlying36 iat_35 rfl zero_35 rfl rfl rfl (Nat.le_of_ble_eq_true rfl) (part_cons rfl rfl (Nat.le_of_ble_eq_true rfl) part_ok) (by kernel_rfl) (wk_eq (by kernel_rfl)) (lt_of rfl) trivial),
    hR 4 rfl rfl (q_appendO 1 3 35 32 (kE false) (k_api_Envelope_ok false) (runL 1099511627776 r e k).l [(evV 1099511627776 (runL 1099511627776 r e k).rest (runL 1099511627776 r e k).e)] ((runL 1099511627776 r e k).l ++ [(evV 1099511627776 (runL 1099511627776 r e k).rest (runL 1099511627776 r e k).e)]) (runL 1099511627776 r e k).l.length (sy := (.own 2 (kE false).sz 0 [(Z79 r e k)].length)) (rhs := [(2, .live (arrK 35 (kE false) [(Z79 r e k)]))]) elem_36 (by omega) (src_own 2 35 (kE false) [(evV 1099511627776 (runL 1099511627776 r e k).rest (runL 1099511627776 r e k).e)]) (by rw [List.take_length]) (by (simp [maxLen, -List.getD_eq_getElem?_getD] <;> omega)) (by (simp [maxLen, -List.getD_eq_getElem?_getD] <;> omega)) (lt_of rfl) trivial)] (by kernel_rfl) (by kernel_rfl) ?_
  refine nB ?_
  refine nT ?_
  refine xK [hR 1 rfl rfl (r_bin (u1 := .int .i64 ((k : Nat) : Int)) (u2 := .int .i64 1) (v := .int .i64 ((k + 1 : Nat) : Int)) (b_add (by rw [IntKind.wrap_i64]; omega)) (lt_of rfl) ⟨rfl, trivial⟩)] ?_
  refine nL (k + 1) (show (k + 1) ≤ rdC r e 15 from (by omega)) (show (rdC r e 15 - (k + 1) : Nat) < rdC r e 15 - k from (by omega)) (fun _ _ hG => Gs.i2 [0, 3] (bm 6 57) (t1 := [pv 0 0, aa, aa, ownV 3 (kE false) 0 (runL 1099511627776 r e (k + 1)).l.length, (Z72 r e), (Z7a k)]) (t2 := [pv 0 0, aa, aa, ownV 3 (kE false) 0 ((Z74 r e k).l ++ [(Z79 r e k)]).length, (Z72 r e), (Z7a k)]) (h1 := (Z7b B r e k)) (h2 := [.live (.box 170 [(Z71 B), dI ((posB B (evR 1099511627776 (Z74 r e k).rest (Z74 r e k).e) : Nat) : Int), dI (evE 1099511627776 (Z74 r e k).rest (Z74 r e k).e)]), .live (arrK 35 (kE false) ((Z74 r e k).l ++ [(Z79 r e k)]))]) (congrArg (fun (q1 : Nat) => ([pv 0 0, aa, aa, ownV 3 (kE false) 0 q1, (Z72 r e), (Z7a k)] : List AV)) (by rfl)) (cg3 (fun (q1 : Int) (q2 : Int) (q3 : List aE) => ([.live (.box 170 [(Z71 B), dI q1, dI q2]), .live (arrK 35 (kE false) q3)] : List HS)) (by rfl) (by rfl) (by rfl)) hG)
 refine cF (dF hq1) ?_
 refine T.exit ?_
 refine xT ?_
 refine xT ?_
 refine xH ?_
 refine nT ?_
 refine sR [] ?_
 refine T.ret ?_
 refine eN ⟨(Z7c r e k), (Z76 B r e k)⟩ ?_
 refine Ends.turn (s' := ⟨[pv 0 0, aa, slV false false (kE false) (Z74 r e k).l, slV false false (kE false) (Z74 r e k).l, (Z72 r e), vI ((k : Nat) : Int), aa, aa, aa, aa, vB (decide (((k : Nat) : Int) < ((rdC r e 15 : Nat) : Int)))], [.live (.box 170 [(Z71 B), dI ((posB B (Z74 r e k).rest : Nat) : Int), dI (Z74 r e k).e]), .dead]⟩) (fun _ _ hG => Gs.freeze (s := ⟨(Z7c r e k), (Z76 B r e k)⟩) 1 (el := elOf (kE false) (runL 1099511627776 r e k).l) (sz := (kE false).sz) (n := (runL 1099511627776 r e k).l.length) rfl (kk2 ⟨(.inr (.inr ⟨rfl, rfl, rfl, (fun h => by cases h), rfl, rfl, Nat.le_of_eq (Nat.zero_add _), fun i j _ => by rw [Nat.zero_add]⟩)), ⟨(.inr (.inr ⟨rfl, rfl, rfl, (fun h => by cases h), rfl, rfl, Nat.le_of_eq (Nat.zero_add _), fun i j _ => by rw [Nat.zero_add]⟩)), ⟨.inl rfl, (kk2 (kk4 trivial))⟩⟩⟩) ⟨(.inr ⟨by decide, .inl rfl⟩), ⟨(.inl ⟨rfl, rfl⟩), trivial⟩⟩ hG) ?_
 exact eRt 2 (.one (.d (dsl false false (kE false) (Z74 r e k).l))) [0] (by have e1 : ((finL 1099511627776 r e).l : List aE) = (runL 1099511627776 r e k).l := (by (rw [finL, show rdC r e 15 = k by omega]; done)); have hE := congrArg (fun (q1 : List aE) => (slV false false (kE false) q1 : AV)) e1; exact hE) ⟨⟨rfl, (by have e1 : (((posB B (runL 1099511627776 r e k).rest : Nat) : Int) : Int) = ((posB B (finL 1099511627776 r e).rest : Nat) : Int) := (by (rw [finL, show rdC r e 15 = k by omega]; done)); have e2 : ((runL 1099511627776 r e k).e : Int) = (finL 1099511627776 r e).e := (by (rw [finL, show rdC r e 15 = k by omega]; done)); have hE := congr (congrArg (fun (q1 : Int) (q2 : Int) => (.live (.box 170 [(Z71 B), dI q1, dI q2]) : HS)) e1) e2; exact Eq.trans (by kernel_rfl) hE)⟩, trivial⟩
end Go.Proofs.YtalapplihdmenaaGreat.Q
