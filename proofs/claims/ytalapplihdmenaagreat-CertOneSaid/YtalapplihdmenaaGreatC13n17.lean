import Derived.Test.YtalapplihdmenaaGreatC13n16
namespace Go.Proofs.YtalapplihdmenaaGreat.Q
open Go Go.RowKit
set_option linter.unusedVariables false
set_option linter.unusedSimpArgs false
set_option maxRecDepth 100000
set_option maxHeartbeats 4000000
section
variable (tb : Bool) (nb : Bool) (b : List UInt8) (j : Nat)
abbrev Z61 : List AV := [slV tb nb kU8 b, aa, pv 0 0, vI 11, aa, aa, aa, aa, aa, aa, aa, vB (decide (((b.length : Nat) : Int) > 16777216))]
abbrev Z62 : SV := .d (.val (.slice none 0 0))
abbrev Z63 : HS := .live (.box 46 [dI 0, dI 0, dI 0, dI 0, dI 0, dS [], Z62, dI 0, dI 0, Z62, Z62, Z62])
abbrev Z64 : SV := dU ([] : List UInt8)
abbrev Z65 : SV := .d (dsl false false (kE false) ([] : List aE))
abbrev Z66 : SV := .d (dsl false false (kC false) ([] : List aC))
abbrev Z67 : List SV := [dI 0, dI 0, dI 0, dI 0, dI 0, dS [], Z64, dI 0, dI 0, Z65, Z65, Z66]
abbrev Z68 : AV := vB (decide (okK (rdI b 0)))
abbrev Z69 : List AV := [slV tb nb kU8 b, aa, pv 0 0, vI 0, pv 2 0, pv 3 0, pv 4 0, (Z68 b), vI 1, aa, aa, vB (decide (((b.length : Nat) : Int) > 16777216))]
abbrev Z6a : HS := .live (.box 160 [dU (rdR b 0 8 0), dI (rdE b 0 8 0)])
abbrev Z6b : HS := .live (.box 142 [.ptr 1 0])
abbrev Z6c : HS := .live (.box 144 [dI (shapeM (rdI b 0)).f_has, dI (shapeM (rdI b 0)).f_minView, dI (shapeM (rdI b 0)).f_minSeq, dI (shapeM (rdI b 0)).f_batch])
abbrev Z6d : List HS := [Z63, (Z6a b), Z6b, .live (.box 46 [dI (rdI b 0), dI 0, dI 0, dI 0, dI 0, dS [], Z62, dI 0, dI 0, Z62, Z62, Z62]), (Z6c b)]
abbrev Z6e : HS := .live (.box 46 [dI (rdI b 0), dI 0, dI 0, dI 0, dI 0, dS [], Z64, dI 0, dI 0, Z65, Z65, Z66])
abbrev Z6f : AV := vI ((2 ^ j : Nat) : Int)
abbrev Z6g : HS := .live (.box 142 [.ptr 2 0])
abbrev Z6h := (runM ((b.length : Nat) : Int) 16777216 (rdR b 0 8 0) (rdE b 0 8 0) (rdI b 0) j)
abbrev Z6i : SV := dI (Z6h b j).m.f_Kind
abbrev Z6j : SV := dI (Z6h b j).m.f_View
abbrev Z6k : SV := dI (Z6h b j).m.f_Seq
abbrev Z6l : SV := dI (Z6h b j).m.f_Client
abbrev Z6m : SV := dI (Z6h b j).m.f_Stamp
abbrev Z6n : SV := dS (Z6h b j).m.f_Digest
abbrev Z6o : SV := dU (Z6h b j).m.f_Data
abbrev Z6p : SV := dI (Z6h b j).m.f_Result.f_Code
abbrev Z6q : SV := dI (Z6h b j).m.f_Result.f_Stage
abbrev Z6r : SV := .d (dsl false false (kE false) (Z6h b j).m.f_Batch)
abbrev Z6s : SV := .d (dsl false false (kE false) (Z6h b j).m.f_Pres)
abbrev Z6t : SV := .d (dsl false false (kC false) (Z6h b j).m.f_Certs)
abbrev Z6u : List SV := [(Z6i b j), (Z6j b j), (Z6k b j), (Z6l b j), (Z6m b j), (Z6n b j), (Z6o b j), (Z6p b j), (Z6q b j), (Z6r b j), (Z6s b j), (Z6t b j)]
abbrev Z6v : List HS := [Z63, Z6g, .live (.box 160 [dU (Z6h b j).rest, dI (Z6h b j).e]), .live (.box 46 (Z6u b j)), (Z6c b)]
abbrev Z6w := (runM ((b.length : Nat) : Int) 16777216 (rdR b 0 8 0) (rdE b 0 8 0) (rdI b 0) 0)
abbrev Z6x : HS := .live (.box 160 [dU (Z6w b).rest, dI (Z6w b).e])
abbrev Z6y : HS := .live (.box 46 [dI (Z6w b).m.f_Kind, dI (Z6w b).m.f_View, dI (Z6w b).m.f_Seq, dI (Z6w b).m.f_Client, dI (Z6w b).m.f_Stamp, dS (Z6w b).m.f_Digest, dU (Z6w b).m.f_Data, dI (Z6w b).m.f_Result.f_Code, dI (Z6w b).m.f_Result.f_Stage, .d (dsl false false (kE false) (Z6w b).m.f_Batch), .d (dsl false false (kE false) (Z6w b).m.f_Pres), .d (dsl false false (kC false) (Z6w b).m.f_Certs)])
abbrev Z73 : List AV := [slV tb nb kU8 b, aa, pv 0 0, aa, pv 1 0, pv 3 0, pv 4 0, (Z68 b), vI (((2 ^ j) * 2 ^ 1 : Nat) : Int)]
abbrev Z74 := (rdR (Z6h b j).rest (Z6h b j).e 8 0)
abbrev Z75 := (rdE (Z6h b j).rest (Z6h b j).e 8 0)
abbrev Z76 : SV := dI (rdI (Z6h b j).rest (Z6h b j).e)
abbrev Z77 : HS := .live (.box 160 [dU (rdR (Z74 b j) (Z75 b j) 8 0), dI (rdE (Z74 b j) (Z75 b j) 8 0)])
abbrev Z78 := (rdY (Z6h b j).rest (Z6h b j).e ((b.length : Nat) : Int))
abbrev Z79 : List AV := [slV tb nb kU8 b, aa, pv 0 0, aa, pv 1 0, pv 3 0, pv 4 0, (Z68 b), (Z6f j), aa, aa, aa, aa, aa, aa, aa, aa, aa, aa, aa, aa, aa, aa, aa, aa, aa, aa, aa, aa, (Z68 b), aa, aa, aa, aa, aa, aa, vB (decide ((andI (shapeM (rdI b 0)).f_has ((2 ^ j : Nat) : Int)) = 0)), (Z6f j), vB (decide (((2 ^ j : Nat) : Int) = 1)), aa, aa, aa, aa, vB (decide (((2 ^ j : Nat) : Int) = 2)), aa, aa, aa, aa, vB (decide (((2 ^ j : Nat) : Int) = 4)), aa, aa, aa, aa, aa, aa, aa, vB (decide (((2 ^ j : Nat) : Int) = 8))]
abbrev Z7a : HS := .live (.box 160 [dU (rdYR (Z6h b j).rest (Z6h b j).e ((b.length : Nat) : Int)), dI (rdYE (Z6h b j).rest (Z6h b j).e ((b.length : Nat) : Int))])
abbrev Z7b : HS := .live (.box 46 [(Z6i b j), (Z6j b j), (Z6k b j), (Z6l b j), (Z6m b j), dS (Z78 b j), (Z6o b j), (Z6p b j), (Z6q b j), (Z6r b j), (Z6s b j), (Z6t b j)])
abbrev Z7c : List AV := [slV tb nb kU8 b, aa, pv 0 0, aa, pv 1 0, pv 3 0, pv 4 0, (Z68 b), (Z6f j), aa, aa, aa, aa, aa, aa, aa, aa, aa, aa, aa, aa, aa, aa, aa, aa, aa, aa, aa, aa, (Z68 b), aa, aa, aa, aa, aa, aa, vB (decide ((andI (shapeM (rdI b 0)).f_has ((2 ^ j : Nat) : Int)) = 0)), (Z6f j), vB (decide (((2 ^ j : Nat) : Int) = 1)), aa, aa, aa, aa, vB (decide (((2 ^ j : Nat) : Int) = 2)), aa, aa, aa, aa, vB (decide (((2 ^ j : Nat) : Int) = 4)), aa, aa, aa, aa, aa, aa, aa, vB (decide (((2 ^ j : Nat) : Int) = 8)), aa, aa, aa, aa, aa, aa, aa, aa, vB (decide (((2 ^ j : Nat) : Int) = 16))]
abbrev Z7d : List HS := [Z63, Z6g, (Z7a b j), .live (.box 46 [(Z6i b j), (Z6j b j), (Z6k b j), (Z6l b j), (Z6m b j), (Z6n b j), .own 5 kU8.sz 0 (Z78 b j).length, (Z6p b j), (Z6q b j), (Z6r b j), (Z6s b j), (Z6t b j)]), (Z6c b), .live (arrK 5 kU8 (Z78 b j))]
abbrev Z7e : HS := .live (.box 46 [(Z6i b j), (Z6j b j), (Z6k b j), (Z6l b j), (Z6m b j), (Z6n b j), dU (Z78 b j), (Z6p b j), (Z6q b j), (Z6r b j), (Z6s b j), (Z6t b j)])
abbrev Z7f := (finL 16777216 (Z6h b j).rest (Z6h b j).e)
abbrev Z7g := (finC 16777216 (Z6h b j).rest (Z6h b j).e)
abbrev Z7h : List AV := [slV tb nb kU8 b, aa, pv 0 0, vI 12, pv 1 0, pv 3 0, pv 4 0, (Z68 b), (Z6f j), aa, aa, aa, aa, aa, aa, aa, aa, aa, aa, aa, aa, aa, aa, aa, aa, aa, aa, aa, aa, (Z68 b), aa, aa, aa, aa, aa, aa, aa, aa, aa, aa, aa, aa, aa, aa, aa, aa, aa, aa, aa, aa, aa, aa, aa, aa, aa, aa, aa, aa, aa, aa, aa, aa, aa, aa, aa, aa, aa, aa, aa, aa, aa, aa, aa, aa, aa, aa, aa, aa, aa, aa, aa, aa, aa, aa, aa, aa, aa, aa, aa, aa, aa, aa, aa, aa, aa, aa, aa, aa, aa, aa, aa, aa, aa, aa, aa, aa, aa, aa, aa, aa, aa, aa, aa, vB true]
abbrev Z7i : HS := .live (.box 160 [dU (Z6h b j).rest, dI (rdX (Z6h b j).rest (Z6h b j).e)])
abbrev Z7j : List HS := [Z63, Z6g, (Z7i b j), .live (.box 46 (Z6u b j)), (Z6c b)]
abbrev Z7k : List HS := [.live (.box 46 Z67), Z6g, (Z7i b j), .live (.box 46 (Z6u b j)), (Z6c b)]
abbrev Z7l : TV := .one (dI 12)
abbrev Z7m : List AV := [slV tb nb kU8 b, aa, pv 0 0, vI 12, pv 1 0, pv 3 0, pv 4 0, (Z68 b), (Z6f j), aa, aa, aa, aa, aa, aa, aa, aa, aa, aa, aa, aa, aa, aa, aa, aa, aa, aa, aa, aa, vB false, aa, aa, aa, aa, aa, aa, aa, aa, aa, aa, aa, aa, aa, aa, aa, aa, aa, aa, aa, aa, aa, aa, aa, aa, aa, aa, aa, aa, aa, aa, aa, aa, aa, aa, aa, aa, aa, aa, aa, aa, aa, aa, aa, aa, aa, aa, aa, aa, aa, aa, aa, aa, aa, aa, aa, aa, aa, aa, aa, aa, aa, aa, aa, aa, aa, aa, aa, aa, aa, aa, aa, aa, aa, aa, aa, aa, aa, aa, aa, aa, aa, aa, aa, vB true]
abbrev Z7n : List AV := [slV tb nb kU8 b, aa, pv 0 0, vI 12, pv 1 0, pv 3 0, pv 4 0, (Z68 b), (Z6f j), aa, aa, aa, aa, aa, aa, aa, aa, aa, aa, aa, aa, aa, aa, aa, aa, aa, aa, aa, aa, vB false, aa, aa, aa, aa, aa, aa, aa, aa, aa, aa, aa, aa, aa, aa, aa, aa, aa, aa, aa, aa, aa, aa, aa, aa, aa, aa, aa, aa, aa, aa, aa, aa, aa, aa, aa, aa, aa, aa, aa, aa, aa, aa, aa, aa, aa, aa, aa, aa, aa, aa, aa, aa, aa, aa, aa, aa, aa, aa, aa, aa, aa, aa, aa, aa, aa, aa, aa, aa, aa, aa, aa, aa, aa, aa, aa, aa, aa, aa, aa, aa, aa, aa, aa, vB (decide ((chkM (Z6h b j).m) ≠ 0))]
end
theorem msg_Decode (tb : Bool) (nb : Bool) (b : List UInt8) (hb : b.length ≤ 140737488355328) : Holds Tryz.prog 68 ⟨[slV tb nb kU8 b], [], .tup [.agg [dI (decV b).f_Kind, dI (decV b).f_View, dI (decV b).f_Seq, dI (decV b).f_Client, dI (decV b).f_Stamp, dS (decV b).f_Digest, dU (decV b).f_Data, dI (decV b).f_Result.f_Code, dI (decV b).f_Result.f_Stage, .d (dsl false false (kE false) (decV b).f_Batch), .d (dsl false false (kE false) (decV b).f_Pres), .d (dsl false false (kC false) (decV b).f_Certs)], .one (dI (decE b))], []⟩ := by
 refine Holds.of Tryz.func68 rfl (N := 116) Tryz.ntmps68 rfl fun w0 B0 S0 U0 => ?_
 show T _ (mkBase 116 0 w0 S0 U0 B0) ⟨[slV tb nb kU8 b], []⟩ _ _
 have hr1 := rdR_len b 0 8 0
 refine sR [] ?_
 refine T.seq ?_
 refine sR [] ?_
 by_cases hq1 : ((b.length : Nat) : Int) > 16777216
 ·have hd9 := dec_long (M := ((b.length : Nat) : Int)) (N := 16777216) (b := b) (by omega)
  refine cT (dT hq1) ?_
  refine sR [] ?_
  refine T.ret (rT ?_)
  refine eN ⟨(Z61 tb nb b), [Z63]⟩ ?_
  refine Ends.turn (s' := ⟨(Z61 tb nb b), [.live (.box 46 Z67)]⟩) (fun _ _ hG => Gs.less (s := ⟨(Z61 tb nb b), [Z63]⟩) (kk4 (kk8 trivial)) ⟨(.inr ⟨rfl, (kk2 (kk4 ⟨(.inr ⟨rfl, rfl, rfl⟩), (kk2 ⟨(.inr ⟨rfl, rfl, rfl⟩), ⟨(.inr ⟨rfl, rfl, rfl⟩), ⟨(.inr ⟨rfl, rfl, rfl⟩), trivial⟩⟩⟩)⟩))⟩), trivial⟩ hG) ?_
  exact eX [.c 2 0 46 0 46 [dI 0, dI 0, dI 0, dI 0, dI 0, dS [], Z64, dI 0, dI 0, Z65, Z65, Z66] (.agg Z67), .t 3 (.one (dI 11))] ⟨⟨rfl, rfl, by kernel_rfl, by kernel_rfl, .inl ⟨12, wide_46, rfl, Nat.le_of_ble_eq_true rfl⟩⟩, ⟨⟨rfl, by kernel_rfl⟩, trivial⟩⟩ [] (by have hE := cg2 (fun (qq0 : aM) (qq1 : Int) => (.tup [.agg [dI (qq0.f_Kind), dI (qq0.f_View), dI (qq0.f_Seq), dI (qq0.f_Client), dI (qq0.f_Stamp), dS (qq0.f_Digest), dU (qq0.f_Data), dI (qq0.f_Result.f_Code), dI (qq0.f_Result.f_Stage), .d (dsl false false (kE false) (qq0.f_Batch)), .d (dsl false false (kE false) (qq0.f_Pres)), .d (dsl false false (kC false) (qq0.f_Certs))], .one (dI (qq1))] : AV)) (show decV b = _ from hd9.1) hd9.2; (try dsimp only at hE); exact hE) trivial
 have hbl : ¬ b.length > 16777216 := (by omega)
 refine cF (dF hq1) ?_
 refine T.skip (nT ?_)
 refine sR [hR 1 rfl rfl (rCa (wire_New tb nb b ‹_›) Tryz.func91 [1] [(.tmp 13, slV tb nb kU8 b)] 0 1)] ?_
 refine sR [hR 1 rfl rfl (rCa (src_number b 0 (by omega)) Tryz.func92 [1] [(.tmp 16, .tv (.agg [.ptr 1 0]))] 1 1)] ?_
 refine sR [hR 2 rfl rfl (rCa (msg_shapeOf (rdI b 0) ) Tryz.func93 [] [(.tmp 21, vI (rdI b 0))] 0 0)] ?_
 refine T.seq ?_
 refine sR [] ?_
 refine T.block ?_
 refine tN ⟨(Z69 tb nb b), (Z6d b)⟩ ?_
 refine T.turn (s' := ⟨(Z69 tb nb b), [Z63, (Z6a b), Z6b, (Z6e b), (Z6c b)]⟩) (fun _ _ hG => Gs.less (s := ⟨(Z69 tb nb b), (Z6d b)⟩) (kk4 (kk8 trivial)) ⟨.inl rfl, (kk2 ⟨(.inr ⟨rfl, (kk2 (kk4 ⟨(.inr ⟨rfl, rfl, rfl⟩), (kk2 ⟨(.inr ⟨rfl, rfl, rfl⟩), ⟨(.inr ⟨rfl, rfl, rfl⟩), ⟨(.inr ⟨rfl, rfl, rfl⟩), trivial⟩⟩⟩)⟩))⟩), ⟨.inl rfl, trivial⟩⟩)⟩ hG) ?_
 refine T.loop (ι := Nat) (fun (j : Nat) => ⟨[slV tb nb kU8 b, aa, pv 0 0, aa, pv 1 0, pv 3 0, pv 4 0, (Z68 b), (Z6f j)], (Z6v b j)⟩) (fun (j : Nat) => (j ≤ 9)) (fun (j : Nat) => 9 - j) (0) (by omega) (fun _ _ hG => Gs.i2 [0, 2, 1, 3, 4] (bm 9 501) (t1 := [slV tb nb kU8 b, aa, pv 0 0, aa, pv 2 0, pv 3 0, pv 4 0, (Z68 b), vI ((2 ^ 0 : Nat) : Int)]) (t2 := [slV tb nb kU8 b, aa, pv 0 0, aa, pv 2 0, pv 3 0, pv 4 0, (Z68 b), vI 1]) (h1 := [Z63, Z6b, (Z6x b), (Z6y b), (Z6c b)]) (h2 := [Z63, Z6b, (Z6a b), (Z6e b), (Z6c b)]) (congrArg (fun (q1 : Int) => ([slV tb nb kU8 b, aa, pv 0 0, aa, pv 2 0, pv 3 0, pv 4 0, (Z68 b), vI q1] : List AV)) (by rfl)) (cg14 (fun (q1 : List UInt8) (q2 : Int) (q3 : Int) (q4 : Int) (q5 : Int) (q6 : Int) (q7 : Int) (q8 : List UInt8) (q9 : List UInt8) (q10 : Int) (q11 : Int) (q12 : List aE) (q13 : List aE) (q14 : List aC) => ([Z63, Z6b, .live (.box 160 [dU q1, dI q2]), .live (.box 46 [dI q3, dI q4, dI q5, dI q6, dI q7, dS q8, dU q9, dI q10, dI q11, .d (dsl false false (kE false) q12), .d (dsl false false (kE false) q13), .d (dsl false false (kC false) q14)]), (Z6c b)] : List HS)) (by rfl) (by rfl) (by rfl) (by rfl) (by rfl) (by rfl) (by rfl) (by rfl) (by rfl) (by rfl) (by rfl) (by rfl) (by rfl) (by rfl)) hG) ?_
 rintro j hj
 show T _ _ ⟨[slV tb nb kU8 b, aa, pv 0 0, aa, pv 1 0, pv 3 0, pv 4 0, (Z68 b), (Z6f j)], (Z6v b j)⟩ _ _
 replace hj : j ≤ 9 := hj
 have hp9 := pow_le9 hj
 have hrl := runM_len ((b.length : Nat) : Int) 16777216 (rdR b 0 8 0) (rdE b 0 8 0) (rdI b 0) j
 have hr2 := rdR_len (runM ((b.length : Nat) : Int) 16777216 (rdR b 0 8 0) (rdE b 0 8 0) (rdI b 0) j).rest (runM ((b.length : Nat) : Int) 16777216 (rdR b 0 8 0) (rdE b 0 8 0) (rdI b 0) j).e 8 0
 have hr3 := rdY_len (runM ((b.length : Nat) : Int) 16777216 (rdR b 0 8 0) (rdE b 0 8 0) (rdI b 0) j).rest (runM ((b.length : Nat) : Int) 16777216 (rdR b 0 8 0) (rdE b 0 8 0) (rdI b 0) j).e ((b.length : Nat) : Int)
 obtain ⟨hf1, hf2, hf3, hf4, hf5⟩ := runM_fit ((b.length : Nat) : Int) 16777216 (rdR b 0 8 0) (rdE b 0 8 0) (rdI b 0) j
 refine T.seq ?_
 by_cases hq2 : ((2 ^ j : Nat) : Int) ≤ 256
 ·have hj8 : j ≤ 8 := (pow_le hj).1 hq2
  refine sR [hY 3 (dT hq2),
    hP 4 (dT hq2)] ?_
  by_cases hq3 : okK (rdI b 0)
  ·refine cT (dT hq3) ?_
   refine T.skip (nT (T.seq ?_))
   refine T.block ?_
   refine T.seq ?_
   refine sR [hR 3 rfl rfl (r_bin (u1 := .int .i64 (shapeM (rdI b 0)).f_has) (u2 := .int .i64 ((2 ^ j : Nat) : Int)) (v := .int .i64 (andI (shapeM (rdI b 0)).f_has ((2 ^ j : Nat) : Int))) (b_andI rfl) (lt_of rfl) trivial)] ?_
   by_cases hq4 : (andI (shapeM (rdI b 0)).f_has ((2 ^ j : Nat) : Int)) = 0
   ·have hbt := (bit_pow hj8).1 hq4; have hst : (runM ((b.length : Nat) : Int) 16777216 (rdR b 0 8 0) (rdE b 0 8 0) (rdI b 0) (j + 1)) = (runM ((b.length : Nat) : Int) 16777216 (rdR b 0 8 0) (rdE b 0 8 0) (rdI b 0) j) := run_no hbt
    refine cT (dT hq4) ?_
    refine T.exit ?_
    refine xT ?_
    refine xH ?_
    refine nT ?_
    refine xK [hR 1 rfl rfl (r_bin (u1 := .int .i64 ((2 ^ j : Nat) : Int)) (u2 := .int .u64 1) (v := .int .i64 (((2 ^ j) * 2 ^ 1 : Nat) : Int)) (b_shlN (n := 1) rfl (Nat.le_trans (by omega) (by decide : 64 ≤ _)) (by rw [IntKind.wrap_i64]; omega)) (lt_of rfl) ⟨rfl, trivial⟩)] ?_
    refine nL (j + 1) (show (j + 1) ≤ 9 from (by omega)) (show (9 - (j + 1) : Nat) < 9 - j from (by omega)) (fun _ _ hG => Gs.iI [0, 1, 2, 3, 4] (bm 9 501) (t2 := (Z73 tb nb b j)) (h2 := (Z6v b j)) (congrArg (fun (q1 : Int) => ([slV tb nb kU8 b, aa, pv 0 0, aa, pv 1 0, pv 3 0, pv 4 0, (Z68 b), vI q1] : List AV)) (by rfl)) (by have hE := congrArg (fun (qq0 : RdM) => ([Z63, Z6g, .live (.box 160 [dU (qq0.rest), dI (qq0.e)]), .live (.box 46 [dI (qq0.m.f_Kind), dI (qq0.m.f_View), dI (qq0.m.f_Seq), dI (qq0.m.f_Client), dI (qq0.m.f_Stamp), dS (qq0.m.f_Digest), dU (qq0.m.f_Data), dI (qq0.m.f_Result.f_Code), dI (qq0.m.f_Result.f_Stage), .d (dsl false false (kE false) (qq0.m.f_Batch)), .d (dsl false false (kE false) (qq0.m.f_Pres)), .d (dsl false false (kC false) (qq0.m.f_Certs))]), (Z6c b)] : List HS)) hst; (try dsimp only at hE); exact hE) hG)
   have hbt : bitH (hasM (rdI b 0)) j = true := Classical.byContradiction fun q => hq4 ((bit_pow hj8).2 q)
   refine cF (dF hq4) ?_
   refine T.skip (nT ?_)
   refine sR [] ?_
   refine T.block ?_
   refine sR [] ?_
   by_cases hq5 : ((2 ^ j : Nat) : Int) = 1
   ·have hji : j = 0 := pow_is (i := 0) hj hq5; have hst : (runM ((b.length : Nat) : Int) 16777216 (rdR b 0 8 0) (rdE b 0 8 0) (rdI b 0) (j + 1)) = stepM ((b.length : Nat) : Int) 16777216 (runM ((b.length : Nat) : Int) 16777216 (rdR b 0 8 0) (rdE b 0 8 0) (rdI b 0) j) 0 := run_yes hji hbt; simp only [stepM] at hst
    refine cT (dT hq5) ?_
    refine xK [hR 1 rfl rfl (rCa (src_number (runM ((b.length : Nat) : Int) 16777216 (rdR b 0 8 0) (rdE b 0 8 0) (rdI b 0) j).rest (runM ((b.length : Nat) : Int) 16777216 (rdR b 0 8 0) (rdE b 0 8 0) (rdI b 0) j).e (by omega)) Tryz.func92 [2] [(.tmp 40, .tv (.agg [.ptr 2 0]))] 1 1)] ?_
    refine nB ?_
    refine nB ?_
    refine nT ?_
    refine xK [hR 1 rfl rfl (r_bin (u1 := .int .i64 ((2 ^ j : Nat) : Int)) (u2 := .int .u64 1) (v := .int .i64 (((2 ^ j) * 2 ^ 1 : Nat) : Int)) (b_shlN (n := 1) rfl (Nat.le_trans (by omega) (by decide : 64 ≤ _)) (by rw [IntKind.wrap_i64]; omega)) (lt_of rfl) ⟨rfl, trivial⟩)] ?_
    refine nL (j + 1) (show (j + 1) ≤ 9 from (by omega)) (show (9 - (j + 1) : Nat) < 9 - j from (by omega)) (fun _ _ hG => Gs.iI [0, 1, 2, 3, 4] (bm 9 501) (t2 := (Z73 tb nb b j)) (h2 := [Z63, Z6g, .live (.box 160 [dU (Z74 b j), dI (Z75 b j)]), .live (.box 46 [(Z6i b j), (Z76 b j), (Z6k b j), (Z6l b j), (Z6m b j), (Z6n b j), (Z6o b j), (Z6p b j), (Z6q b j), (Z6r b j), (Z6s b j), (Z6t b j)]), (Z6c b)]) (congrArg (fun (q1 : Int) => ([slV tb nb kU8 b, aa, pv 0 0, aa, pv 1 0, pv 3 0, pv 4 0, (Z68 b), vI q1] : List AV)) (by rfl)) (by have hE := congrArg (fun (qq0 : RdM) => ([Z63, Z6g, .live (.box 160 [dU (qq0.rest), dI (qq0.e)]), .live (.box 46 [dI (qq0.m.f_Kind), dI (qq0.m.f_View), dI (qq0.m.f_Seq), dI (qq0.m.f_Client), dI (qq0.m.f_Stamp), dS (qq0.m.f_Digest), dU (qq0.m.f_Data), dI (qq0.m.f_Result.f_Code), dI (qq0.m.f_Result.f_Stage), .d (dsl false false (kE false) (qq0.m.f_Batch)), .d (dsl false false (kE false) (qq0.m.f_Pres)), .d (dsl false false (kC false) (qq0.m.f_Certs))]), (Z6c b)] : List HS)) hst; (try dsimp only at hE); exact hE) hG)
   have hn0 : j ≠ 0 := (fun q => hq5 (by rw [q]; rfl))
   refine cF (dF hq5) ?_
   refine sR [] ?_
   by_cases hq6 : ((2 ^ j : Nat) : Int) = 2
   ·have hji : j = 1 := pow_is (i := 1) hj hq6; have hst : (runM ((b.length : Nat) : Int) 16777216 (rdR b 0 8 0) (rdE b 0 8 0) (rdI b 0) (j + 1)) = stepM ((b.length : Nat) : Int) 16777216 (runM ((b.length : Nat) : Int) 16777216 (rdR b 0 8 0) (rdE b 0 8 0) (rdI b 0) j) 1 := run_yes hji hbt; simp only [stepM] at hst
    refine cT (dT hq6) ?_
    refine xK [hR 1 rfl rfl (rCa (src_number (runM ((b.length : Nat) : Int) 16777216 (rdR b 0 8 0) (rdE b 0 8 0) (rdI b 0) j).rest (runM ((b.length : Nat) : Int) 16777216 (rdR b 0 8 0) (rdE b 0 8 0) (rdI b 0) j).e (by omega)) Tryz.func92 [2] [(.tmp 45, .tv (.agg [.ptr 2 0]))] 1 1)] ?_
    refine nB ?_
    refine nB ?_
    refine nT ?_
    refine xK [hR 1 rfl rfl (r_bin (u1 := .int .i64 ((2 ^ j : Nat) : Int)) (u2 := .int .u64 1) (v := .int .i64 (((2 ^ j) * 2 ^ 1 : Nat) : Int)) (b_shlN (n := 1) rfl (Nat.le_trans (by omega) (by decide : 64 ≤ _)) (by rw [IntKind.wrap_i64]; omega)) (lt_of rfl) ⟨rfl, trivial⟩)] ?_
    refine nL (j + 1) (show (j + 1) ≤ 9 from (by omega)) (show (9 - (j + 1) : Nat) < 9 - j from (by omega)) (fun _ _ hG => Gs.iI [0, 1, 2, 3, 4] (bm 9 501) (t2 := (Z73 tb nb b j)) (h2 := [Z63, Z6g, .live (.box 160 [dU (Z74 b j), dI (Z75 b j)]), .live (.box 46 [(Z6i b j), (Z6j b j), (Z76 b j), (Z6l b j), (Z6m b j), (Z6n b j), (Z6o b j), (Z6p b j), (Z6q b j), (Z6r b j), (Z6s b j), (Z6t b j)]), (Z6c b)]) (congrArg (fun (q1 : Int) => ([slV tb nb kU8 b, aa, pv 0 0, aa, pv 1 0, pv 3 0, pv 4 0, (Z68 b), vI q1] : List AV)) (by rfl)) (by have hE := congrArg (fun (qq0 : RdM) => ([Z63, Z6g, .live (.box 160 [dU (qq0.rest), dI (qq0.e)]), .live (.box 46 [dI (qq0.m.f_Kind), dI (qq0.m.f_View), dI (qq0.m.f_Seq), dI (qq0.m.f_Client), dI (qq0.m.f_Stamp), dS (qq0.m.f_Digest), dU (qq0.m.f_Data), dI (qq0.m.f_Result.f_Code), dI (qq0.m.f_Result.f_Stage), .d (dsl false false (kE false) (qq0.m.f_Batch)), .d (dsl false false (kE false) (qq0.m.f_Pres)), .d (dsl false false (kC false) (qq0.m.f_Certs))]), (Z6c b)] : List HS)) hst; (try dsimp only at hE); exact hE) hG)
   have hn1 : j ≠ 1 := (fun q => hq6 (by rw [q]; rfl))
   refine cF (dF hq6) ?_
   refine sR [] ?_
   by_cases hq7 : ((2 ^ j : Nat) : Int) = 4
   ·have hji : j = 2 := pow_is (i := 2) hj hq7; have hst : (runM ((b.length : Nat) : Int) 16777216 (rdR b 0 8 0) (rdE b 0 8 0) (rdI b 0) (j + 1)) = stepM ((b.length : Nat) : Int) 16777216 (runM ((b.length : Nat) : Int) 16777216 (rdR b 0 8 0) (rdE b 0 8 0) (rdI b 0) j) 2 := run_yes hji hbt; simp only [stepM] at hst
    refine cT (dT hq7) ?_
    refine sR [hR 1 rfl rfl (rCa (src_number (runM ((b.length : Nat) : Int) 16777216 (rdR b 0 8 0) (rdE b 0 8 0) (rdI b 0) j).rest (runM ((b.length : Nat) : Int) 16777216 (rdR b 0 8 0) (rdE b 0 8 0) (rdI b 0) j).e (by omega)) Tryz.func92 [2] [(.tmp 50, .tv (.agg [.ptr 2 0]))] 1 1)] ?_
    refine xK [hR 1 rfl rfl (rCa (src_number (rdR (runM ((b.length : Nat) : Int) 16777216 (rdR b 0 8 0) (rdE b 0 8 0) (rdI b 0) j).rest (runM ((b.length : Nat) : Int) 16777216 (rdR b 0 8 0) (rdE b 0 8 0) (rdI b 0) j).e 8 0) (rdE (runM ((b.length : Nat) : Int) 16777216 (rdR b 0 8 0) (rdE b 0 8 0) (rdI b 0) j).rest (runM ((b.length : Nat) : Int) 16777216 (rdR b 0 8 0) (rdE b 0 8 0) (rdI b 0) j).e 8 0) (by omega)) Tryz.func92 [2] [(.tmp 53, .tv (.agg [.ptr 2 0]))] 1 1)] ?_
    refine nB ?_
    refine nB ?_
    refine nT ?_
    refine xK [hR 1 rfl rfl (r_bin (u1 := .int .i64 ((2 ^ j : Nat) : Int)) (u2 := .int .u64 1) (v := .int .i64 (((2 ^ j) * 2 ^ 1 : Nat) : Int)) (b_shlN (n := 1) rfl (Nat.le_trans (by omega) (by decide : 64 ≤ _)) (by rw [IntKind.wrap_i64]; omega)) (lt_of rfl) ⟨rfl, trivial⟩)] ?_
    refine nL (j + 1) (show (j + 1) ≤ 9 from (by omega)) (show (9 - (j + 1) : Nat) < 9 - j from (by omega)) (fun _ _ hG => Gs.iI [0, 1, 2, 3, 4] (bm 9 501) (t2 := (Z73 tb nb b j)) (h2 := [Z63, Z6g, (Z77 b j), .live (.box 46 [(Z6i b j), (Z6j b j), (Z6k b j), (Z76 b j), dI (rdI (Z74 b j) (Z75 b j)), (Z6n b j), (Z6o b j), (Z6p b j), (Z6q b j), (Z6r b j), (Z6s b j), (Z6t b j)]), (Z6c b)]) (congrArg (fun (q1 : Int) => ([slV tb nb kU8 b, aa, pv 0 0, aa, pv 1 0, pv 3 0, pv 4 0, (Z68 b), vI q1] : List AV)) (by rfl)) (by have hE := congrArg (fun (qq0 : RdM) => ([Z63, Z6g, .live (.box 160 [dU (qq0.rest), dI (qq0.e)]), .live (.box 46 [dI (qq0.m.f_Kind), dI (qq0.m.f_View), dI (qq0.m.f_Seq), dI (qq0.m.f_Client), dI (qq0.m.f_Stamp), dS (qq0.m.f_Digest), dU (qq0.m.f_Data), dI (qq0.m.f_Result.f_Code), dI (qq0.m.f_Result.f_Stage), .d (dsl false false (kE false) (qq0.m.f_Batch)), .d (dsl false false (kE false) (qq0.m.f_Pres)), .d (dsl false false (kC false) (qq0.m.f_Certs))]), (Z6c b)] : List HS)) hst; (try dsimp only at hE); exact hE) hG)
   have hn2 : j ≠ 2 := (fun q => hq7 (by rw [q]; rfl))
   refine cF (dF hq7) ?_
   refine sR [] ?_
   by_cases hq8 : ((2 ^ j : Nat) : Int) = 8
   ·have hji : j = 3 := pow_is (i := 3) hj hq8; have hst : (runM ((b.length : Nat) : Int) 16777216 (rdR b 0 8 0) (rdE b 0 8 0) (rdI b 0) (j + 1)) = stepM ((b.length : Nat) : Int) 16777216 (runM ((b.length : Nat) : Int) 16777216 (rdR b 0 8 0) (rdE b 0 8 0) (rdI b 0) j) 3 := run_yes hji hbt; simp only [stepM] at hst
    refine cT (dT hq8) ?_
    refine xR [hR 4 rfl rfl (rCa (rd_Bytes (runM ((b.length : Nat) : Int) 16777216 (rdR b 0 8 0) (rdE b 0 8 0) (rdI b 0) j).rest (runM ((b.length : Nat) : Int) 16777216 (rdR b 0 8 0) (rdE b 0 8 0) (rdI b 0) j).e ((b.length : Nat) : Int) (by omega)) Tryz.func94 [2, 5] [(.tmp 59, pv 2 0), (.tmp 61, vI ((b.length : Nat) : Int))] 1 2),
      hR 5 rfl rfl (q_strOf () (rdY (runM ((b.length : Nat) : Int) 16777216 (rdR b 0 8 0) (rdE b 0 8 0) (rdI b 0) j).rest (runM ((b.length : Nat) : Int) 16777216 (rdR b 0 8 0) (rdE b 0 8 0) (rdI b 0) j).e ((b.length : Nat) : Int)) (ys := (.own 5 kU8.sz 0 (Z78 b j).length)) (rhs := [(5, .live (arrK 5 kU8 (Z78 b j)))]) Tryz.underlying33 Tryz.underlying5 Tryz.underlying40 (src_own 5 5 kU8 (rdY (runM ((b.length : Nat) : Int) 16777216 (rdR b 0 8 0) (rdE b 0 8 0) (rdI b 0) j).rest (runM ((b.length : Nat) : Int) 16777216 (rdR b 0 8 0) (rdE b 0 8 0) (rdI b 0) j).e ((b.length : Nat) : Int))) (lt_of rfl) trivial)] (by kernel_rfl) (by kernel_rfl) ?_
    refine nB ?_
    refine nB ?_
    refine nT ?_
    refine tN ⟨(Z79 tb nb b j), [Z63, Z6g, (Z7a b j), (Z7b b j), (Z6c b), .live (arrK 5 kU8 (Z78 b j))]⟩ ?_
    refine T.turn (s' := ⟨(Z79 tb nb b j), [Z63, Z6g, (Z7a b j), (Z7b b j), (Z6c b), .dead]⟩) (fun _ _ hG => Gs.freeze (s := ⟨(Z79 tb nb b j), [Z63, Z6g, (Z7a b j), (Z7b b j), (Z6c b), .live (arrK 5 kU8 (Z78 b j))]⟩) 5 (el := elOf kU8 (rdY (runM ((b.length : Nat) : Int) 16777216 (rdR b 0 8 0) (rdE b 0 8 0) (rdI b 0) j).rest (runM ((b.length : Nat) : Int) 16777216 (rdR b 0 8 0) (rdE b 0 8 0) (rdI b 0) j).e ((b.length : Nat) : Int))) (sz := kU8.sz) (n := (rdY (runM ((b.length : Nat) : Int) 16777216 (rdR b 0 8 0) (rdE b 0 8 0) (rdI b 0) j).rest (runM ((b.length : Nat) : Int) 16777216 (rdR b 0 8 0) (rdE b 0 8 0) (rdI b 0) j).e ((b.length : Nat) : Int)).length) rfl ⟨.inl rfl, (kk8 (kk16 (kk32 trivial)))⟩ ⟨(.inr ⟨by decide, .inl rfl⟩), ⟨(.inr ⟨by decide, .inl rfl⟩), ⟨(.inr ⟨by decide, .inl rfl⟩), ⟨(.inr ⟨by decide, .inl rfl⟩), ⟨(.inr ⟨by decide, .inl rfl⟩), ⟨(.inl ⟨rfl, rfl⟩), trivial⟩⟩⟩⟩⟩⟩ hG) ?_
    refine xK [hR 1 rfl rfl (r_bin (u1 := .int .i64 ((2 ^ j : Nat) : Int)) (u2 := .int .u64 1) (v := .int .i64 (((2 ^ j) * 2 ^ 1 : Nat) : Int)) (b_shlN (n := 1) rfl (Nat.le_trans (by omega) (by decide : 64 ≤ _)) (by rw [IntKind.wrap_i64]; omega)) (lt_of rfl) ⟨rfl, trivial⟩)] ?_
    refine nL (j + 1) (show (j + 1) ≤ 9 from (by omega)) (show (9 - (j + 1) : Nat) < 9 - j from (by omega)) (fun _ _ hG => Gs.iI [0, 1, 2, 3, 4] (bm 9 501) (t2 := (Z73 tb nb b j)) (h2 := [Z63, Z6g, (Z7a b j), (Z7b b j), (Z6c b)]) (congrArg (fun (q1 : Int) => ([slV tb nb kU8 b, aa, pv 0 0, aa, pv 1 0, pv 3 0, pv 4 0, (Z68 b), vI q1] : List AV)) (by rfl)) (by have hE := congrArg (fun (qq0 : RdM) => ([Z63, Z6g, .live (.box 160 [dU (qq0.rest), dI (qq0.e)]), .live (.box 46 [dI (qq0.m.f_Kind), dI (qq0.m.f_View), dI (qq0.m.f_Seq), dI (qq0.m.f_Client), dI (qq0.m.f_Stamp), dS (qq0.m.f_Digest), dU (qq0.m.f_Data), dI (qq0.m.f_Result.f_Code), dI (qq0.m.f_Result.f_Stage), .d (dsl false false (kE false) (qq0.m.f_Batch)), .d (dsl false false (kE false) (qq0.m.f_Pres)), .d (dsl false false (kC false) (qq0.m.f_Certs))]), (Z6c b)] : List HS)) hst; (try dsimp only at hE); exact hE) hG)
   have hn3 : j ≠ 3 := (fun q => hq8 (by rw [q]; rfl))
   refine cF (dF hq8) ?_
   refine sR [] ?_
   by_cases hq9 : ((2 ^ j : Nat) : Int) = 16
   ·have hji : j = 4 := pow_is (i := 4) hj hq9; have hst : (runM ((b.length : Nat) : Int) 16777216 (rdR b 0 8 0) (rdE b 0 8 0) (rdI b 0) (j + 1)) = stepM ((b.length : Nat) : Int) 16777216 (runM ((b.length : Nat) : Int) 16777216 (rdR b 0 8 0) (rdE b 0 8 0) (rdI b 0) j) 4 := run_yes hji hbt; simp only [stepM] at hst
    refine cT (dT hq9) ?_
    refine xK [hR 4 rfl rfl (rCa (rd_Bytes (runM ((b.length : Nat) : Int) 16777216 (rdR b 0 8 0) (rdE b 0 8 0) (rdI b 0) j).rest (runM ((b.length : Nat) : Int) 16777216 (rdR b 0 8 0) (rdE b 0 8 0) (rdI b 0) j).e ((b.length : Nat) : Int) (by omega)) Tryz.func94 [2, 5] [(.tmp 68, pv 2 0), (.tmp 70, vI ((b.length : Nat) : Int))] 1 2)] ?_
    refine nB ?_
    refine nB ?_
    refine nT ?_
    refine tN ⟨(Z7c tb nb b j), (Z7d b j)⟩ ?_
    refine T.turn (s' := ⟨(Z7c tb nb b j), [Z63, Z6g, (Z7a b j), (Z7e b j), (Z6c b), .dead]⟩) (fun _ _ hG => Gs.freeze (s := ⟨(Z7c tb nb b j), (Z7d b j)⟩) 5 (el := elOf kU8 (rdY (runM ((b.length : Nat) : Int) 16777216 (rdR b 0 8 0) (rdE b 0 8 0) (rdI b 0) j).rest (runM ((b.length : Nat) : Int) 16777216 (rdR b 0 8 0) (rdE b 0 8 0) (rdI b 0) j).e ((b.length : Nat) : Int))) (sz := kU8.sz) (n := (rdY (runM ((b.length : Nat) : Int) 16777216 (rdR b 0 8 0) (rdE b 0 8 0) (rdI b 0) j).rest (runM ((b.length : Nat) : Int) 16777216 (rdR b 0 8 0) (rdE b 0 8 0) (rdI b 0) j).e ((b.length : Nat) : Int)).length) rfl (kk2 (kk32 (kk32 trivial))) ⟨(.inr ⟨by decide, .inl rfl⟩), ⟨(.inr ⟨by decide, .inl rfl⟩), ⟨(.inr ⟨by decide, .inl rfl⟩), ⟨(.inr ⟨by decide, .inr ⟨rfl, (kk2 (kk4 ⟨(.inr ⟨rfl, rfl, rfl, (fun h => by cases h), rfl, rfl, Nat.le_of_eq (Nat.zero_add _), fun i j _ => by rw [Nat.zero_add]⟩), ⟨.inl rfl, (kk4 trivial)⟩⟩))⟩⟩), ⟨(.inr ⟨by decide, .inl rfl⟩), ⟨(.inl ⟨rfl, rfl⟩), trivial⟩⟩⟩⟩⟩⟩ hG) ?_
    refine xK [hR 1 rfl rfl (r_bin (u1 := .int .i64 ((2 ^ j : Nat) : Int)) (u2 := .int .u64 1) (v := .int .i64 (((2 ^ j) * 2 ^ 1 : Nat) : Int)) (b_shlN (n := 1) rfl (Nat.le_trans (by omega) (by decide : 64 ≤ _)) (by rw [IntKind.wrap_i64]; omega)) (lt_of rfl) ⟨rfl, trivial⟩)] ?_
    refine nL (j + 1) (show (j + 1) ≤ 9 from (by omega)) (show (9 - (j + 1) : Nat) < 9 - j from (by omega)) (fun _ _ hG => Gs.iI [0, 1, 2, 3, 4] (bm 9 501) (t2 := (Z73 tb nb b j)) (h2 := [Z63, Z6g, (Z7a b j), (Z7e b j), (Z6c b)]) (congrArg (fun (q1 : Int) => ([slV tb nb kU8 b, aa, pv 0 0, aa, pv 1 0, pv 3 0, pv 4 0, (Z68 b), vI q1] : List AV)) (by rfl)) (by have hE := congrArg (fun (qq0 : RdM) => ([Z63, Z6g, .live (.box 160 [dU (qq0.rest), dI (qq0.e)]), .live (.box 46 [dI (qq0.m.f_Kind), dI (qq0.m.f_View), dI (qq0.m.f_Seq), dI (qq0.m.f_Client), dI (qq0.m.f_Stamp), dS (qq0.m.f_Digest), dU (qq0.m.f_Data), dI (qq0.m.f_Result.f_Code), dI (qq0.m.f_Result.f_Stage), .d (dsl false false (kE false) (qq0.m.f_Batch)), .d (dsl false false (kE false) (qq0.m.f_Pres)), .d (dsl false false (kC false) (qq0.m.f_Certs))]), (Z6c b)] : List HS)) hst; (try dsimp only at hE); exact hE) hG)
   have hn4 : j ≠ 4 := (fun q => hq9 (by rw [q]; rfl))
   refine cF (dF hq9) ?_
   refine sR [] ?_
   by_cases hq10 : ((2 ^ j : Nat) : Int) = 32
   ·have hji : j = 5 := pow_is (i := 5) hj hq10; have hst : (runM ((b.length : Nat) : Int) 16777216 (rdR b 0 8 0) (rdE b 0 8 0) (rdI b 0) (j + 1)) = stepM ((b.length : Nat) : Int) 16777216 (runM ((b.length : Nat) : Int) 16777216 (rdR b 0 8 0) (rdE b 0 8 0) (rdI b 0) j) 5 := run_yes hji hbt; simp only [stepM] at hst
    refine cT (dT hq10) ?_
    refine sR [hR 1 rfl rfl (rCa (src_number (runM ((b.length : Nat) : Int) 16777216 (rdR b 0 8 0) (rdE b 0 8 0) (rdI b 0) j).rest (runM ((b.length : Nat) : Int) 16777216 (rdR b 0 8 0) (rdE b 0 8 0) (rdI b 0) j).e (by omega)) Tryz.func92 [2] [(.tmp 75, .tv (.agg [.ptr 2 0]))] 1 1)] ?_
    refine xK [hR 1 rfl rfl (rCa (src_number (rdR (runM ((b.length : Nat) : Int) 16777216 (rdR b 0 8 0) (rdE b 0 8 0) (rdI b 0) j).rest (runM ((b.length : Nat) : Int) 16777216 (rdR b 0 8 0) (rdE b 0 8 0) (rdI b 0) j).e 8 0) (rdE (runM ((b.length : Nat) : Int) 16777216 (rdR b 0 8 0) (rdE b 0 8 0) (rdI b 0) j).rest (runM ((b.length : Nat) : Int) 16777216 (rdR b 0 8 0) (rdE b 0 8 0) (rdI b 0) j).e 8 0) (by omega)) Tryz.func92 [2] [(.tmp 79, .tv (.agg [.ptr 2 0]))] 1 1)] ?_
    refine nB ?_
    refine nB ?_
    refine nT ?_
    refine xK [hR 1 rfl rfl (r_bin (u1 := .int .i64 ((2 ^ j : Nat) : Int)) (u2 := .int .u64 1) (v := .int .i64 (((2 ^ j) * 2 ^ 1 : Nat) : Int)) (b_shlN (n := 1) rfl (Nat.le_trans (by omega) (by decide : 64 ≤ _)) (by rw [IntKind.wrap_i64]; omega)) (lt_of rfl) ⟨rfl, trivial⟩)] ?_
    refine nL (j + 1) (show (j + 1) ≤ 9 from (by omega)) (show (9 - (j + 1) : Nat) < 9 - j from (by omega)) (fun _ _ hG => Gs.iI [0, 1, 2, 3, 4] (bm 9 501) (t2 := (Z73 tb nb b j)) (h2 := [Z63, Z6g, (Z77 b j), .live (.box 46 [(Z6i b j), (Z6j b j), (Z6k b j), (Z6l b j), (Z6m b j), (Z6n b j), (Z6o b j), (Z76 b j), dI (rdI (Z74 b j) (Z75 b j)), (Z6r b j), (Z6s b j), (Z6t b j)]), (Z6c b)]) (congrArg (fun (q1 : Int) => ([slV tb nb kU8 b, aa, pv 0 0, aa, pv 1 0, pv 3 0, pv 4 0, (Z68 b), vI q1] : List AV)) (by rfl)) (by have hE := congrArg (fun (qq0 : RdM) => ([Z63, Z6g, .live (.box 160 [dU (qq0.rest), dI (qq0.e)]), .live (.box 46 [dI (qq0.m.f_Kind), dI (qq0.m.f_View), dI (qq0.m.f_Seq), dI (qq0.m.f_Client), dI (qq0.m.f_Stamp), dS (qq0.m.f_Digest), dU (qq0.m.f_Data), dI (qq0.m.f_Result.f_Code), dI (qq0.m.f_Result.f_Stage), .d (dsl false false (kE false) (qq0.m.f_Batch)), .d (dsl false false (kE false) (qq0.m.f_Pres)), .d (dsl false false (kC false) (qq0.m.f_Certs))]), (Z6c b)] : List HS)) hst; (try dsimp only at hE); exact hE) hG)
   have hn5 : j ≠ 5 := (fun q => hq10 (by rw [q]; rfl))
   refine cF (dF hq10) ?_
   refine sR [] ?_
   by_cases hq11 : ((2 ^ j : Nat) : Int) = 64
   ·have hji : j = 6 := pow_is (i := 6) hj hq11; have hst : (runM ((b.length : Nat) : Int) 16777216 (rdR b 0 8 0) (rdE b 0 8 0) (rdI b 0) (j + 1)) = stepM ((b.length : Nat) : Int) 16777216 (runM ((b.length : Nat) : Int) 16777216 (rdR b 0 8 0) (rdE b 0 8 0) (rdI b 0) j) 6 := run_yes hji hbt; simp only [stepM] at hst
    refine cT (dT hq11) ?_
    refine xK [hR 1 rfl rfl (rCa (src_list (runM ((b.length : Nat) : Int) 16777216 (rdR b 0 8 0) (rdE b 0 8 0) (rdI b 0) j).rest (runM ((b.length : Nat) : Int) 16777216 (rdR b 0 8 0) (rdE b 0 8 0) (rdI b 0) j).e (by omega)) Tryz.func95 [2] [(.tmp 85, .tv (.agg [.ptr 2 0]))] 1 1)] ?_
    refine nB ?_
    refine nB ?_
    refine nT ?_
    refine xK [hR 1 rfl rfl (r_bin (u1 := .int .i64 ((2 ^ j : Nat) : Int)) (u2 := .int .u64 1) (v := .int .i64 (((2 ^ j) * 2 ^ 1 : Nat) : Int)) (b_shlN (n := 1) rfl (Nat.le_trans (by omega) (by decide : 64 ≤ _)) (by rw [IntKind.wrap_i64]; omega)) (lt_of rfl) ⟨rfl, trivial⟩)] ?_
    refine nL (j + 1) (show (j + 1) ≤ 9 from (by omega)) (show (9 - (j + 1) : Nat) < 9 - j from (by omega)) (fun _ _ hG => Gs.iI [0, 1, 2, 3, 4] (bm 9 501) (t2 := (Z73 tb nb b j)) (h2 := [Z63, Z6g, .live (.box 160 [dU (Z7f b j).rest, dI (Z7f b j).e]), .live (.box 46 [(Z6i b j), (Z6j b j), (Z6k b j), (Z6l b j), (Z6m b j), (Z6n b j), (Z6o b j), (Z6p b j), (Z6q b j), .d (dsl false false (kE false) (Z7f b j).l), (Z6s b j), (Z6t b j)]), (Z6c b)]) (congrArg (fun (q1 : Int) => ([slV tb nb kU8 b, aa, pv 0 0, aa, pv 1 0, pv 3 0, pv 4 0, (Z68 b), vI q1] : List AV)) (by rfl)) (by have hE := congrArg (fun (qq0 : RdM) => ([Z63, Z6g, .live (.box 160 [dU (qq0.rest), dI (qq0.e)]), .live (.box 46 [dI (qq0.m.f_Kind), dI (qq0.m.f_View), dI (qq0.m.f_Seq), dI (qq0.m.f_Client), dI (qq0.m.f_Stamp), dS (qq0.m.f_Digest), dU (qq0.m.f_Data), dI (qq0.m.f_Result.f_Code), dI (qq0.m.f_Result.f_Stage), .d (dsl false false (kE false) (qq0.m.f_Batch)), .d (dsl false false (kE false) (qq0.m.f_Pres)), .d (dsl false false (kC false) (qq0.m.f_Certs))]), (Z6c b)] : List HS)) hst; (try dsimp only at hE); exact hE) hG)
   have hn6 : j ≠ 6 := (fun q => hq11 (by rw [q]; rfl))
   refine cF (dF hq11) ?_
   refine sR [] ?_
   by_cases hq12 : ((2 ^ j : Nat) : Int) = 128
   ·have hji : j = 7 := pow_is (i := 7) hj hq12; have hst : (runM ((b.length : Nat) : Int) 16777216 (rdR b 0 8 0) (rdE b 0 8 0) (rdI b 0) (j + 1)) = stepM ((b.length : Nat) : Int) 16777216 (runM ((b.length : Nat) : Int) 16777216 (rdR b 0 8 0) (rdE b 0 8 0) (rdI b 0) j) 7 := run_yes hji hbt; simp only [stepM] at hst
    refine cT (dT hq12) ?_
    refine xK [hR 1 rfl rfl (rCa (src_list (runM ((b.length : Nat) : Int) 16777216 (rdR b 0 8 0) (rdE b 0 8 0) (rdI b 0) j).rest (runM ((b.length : Nat) : Int) 16777216 (rdR b 0 8 0) (rdE b 0 8 0) (rdI b 0) j).e (by omega)) Tryz.func95 [2] [(.tmp 90, .tv (.agg [.ptr 2 0]))] 1 1)] ?_
    refine nB ?_
    refine nB ?_
    refine nT ?_
    refine xK [hR 1 rfl rfl (r_bin (u1 := .int .i64 ((2 ^ j : Nat) : Int)) (u2 := .int .u64 1) (v := .int .i64 (((2 ^ j) * 2 ^ 1 : Nat) : Int)) (b_shlN (n := 1) rfl (Nat.le_trans (by omega) (by decide : 64 ≤ _)) (by rw [IntKind.wrap_i64]; omega)) (lt_of rfl) ⟨rfl, trivial⟩)] ?_
    refine nL (j + 1) (show (j + 1) ≤ 9 from (by omega)) (show (9 - (j + 1) : Nat) < 9 - j from (by omega)) (fun _ _ hG => Gs.iI [0, 1, 2, 3, 4] (bm 9 501) (t2 := (Z73 tb nb b j)) (h2 := [Z63, Z6g, .live (.box 160 [dU (Z7f b j).rest, dI (Z7f b j).e]), .live (.box 46 [(Z6i b j), (Z6j b j), (Z6k b j), (Z6l b j), (Z6m b j), (Z6n b j), (Z6o b j), (Z6p b j), (Z6q b j), (Z6r b j), .d (dsl false false (kE false) (Z7f b j).l), (Z6t b j)]), (Z6c b)]) (congrArg (fun (q1 : Int) => ([slV tb nb kU8 b, aa, pv 0 0, aa, pv 1 0, pv 3 0, pv 4 0, (Z68 b), vI q1] : List AV)) (by rfl)) (by have hE := congrArg (fun (qq0 : RdM) => ([Z63, Z6g, .live (.box 160 [dU (qq0.rest), dI (qq0.e)]), .live (.box 46 [dI (qq0.m.f_Kind), dI (qq0.m.f_View), dI (qq0.m.f_Seq), dI (qq0.m.f_Client), dI (qq0.m.f_Stamp), dS (qq0.m.f_Digest), dU (qq0.m.f_Data), dI (qq0.m.f_Result.f_Code), dI (qq0.m.f_Result.f_Stage), .d (dsl false false (kE false) (qq0.m.f_Batch)), .d (dsl false false (kE false) (qq0.m.f_Pres)), .d (dsl false false (kC false) (qq0.m.f_Certs))]), (Z6c b)] : List HS)) hst; (try dsimp only at hE); exact hE) hG)
   have hn7 : j ≠ 7 := (fun q => hq12 (by rw [q]; rfl))
   refine cF (dF hq12) ?_
   refine sR [] ?_
   by_cases hq13 : ((2 ^ j : Nat) : Int) = 256
   ·have hji : j = 8 := pow_is (i := 8) hj hq13; have hst : (runM ((b.length : Nat) : Int) 16777216 (rdR b 0 8 0) (rdE b 0 8 0) (rdI b 0) (j + 1)) = stepM ((b.length : Nat) : Int) 16777216 (runM ((b.length : Nat) : Int) 16777216 (rdR b 0 8 0) (rdE b 0 8 0) (rdI b 0) j) 8 := run_yes hji hbt; simp only [stepM] at hst
    refine cT (dT hq13) ?_
    refine xK [hR 1 rfl rfl (rCa (src_certs (runM ((b.length : Nat) : Int) 16777216 (rdR b 0 8 0) (rdE b 0 8 0) (rdI b 0) j).rest (runM ((b.length : Nat) : Int) 16777216 (rdR b 0 8 0) (rdE b 0 8 0) (rdI b 0) j).e (by omega)) Tryz.func96 [2] [(.tmp 95, .tv (.agg [.ptr 2 0]))] 1 1)] ?_
    refine nB ?_
    refine nB ?_
    refine nT ?_
    refine xK [hR 1 rfl rfl (r_bin (u1 := .int .i64 ((2 ^ j : Nat) : Int)) (u2 := .int .u64 1) (v := .int .i64 (((2 ^ j) * 2 ^ 1 : Nat) : Int)) (b_shlN (n := 1) rfl (Nat.le_trans (by omega) (by decide : 64 ≤ _)) (by rw [IntKind.wrap_i64]; omega)) (lt_of rfl) ⟨rfl, trivial⟩)] ?_
    refine nL (j + 1) (show (j + 1) ≤ 9 from (by omega)) (show (9 - (j + 1) : Nat) < 9 - j from (by omega)) (fun _ _ hG => Gs.iI [0, 1, 2, 3, 4] (bm 9 501) (t2 := (Z73 tb nb b j)) (h2 := [Z63, Z6g, .live (.box 160 [dU (Z7g b j).rest, dI (Z7g b j).e]), .live (.box 46 [(Z6i b j), (Z6j b j), (Z6k b j), (Z6l b j), (Z6m b j), (Z6n b j), (Z6o b j), (Z6p b j), (Z6q b j), (Z6r b j), (Z6s b j), .d (dsl false false (kC false) (Z7g b j).l)]), (Z6c b)]) (congrArg (fun (q1 : Int) => ([slV tb nb kU8 b, aa, pv 0 0, aa, pv 1 0, pv 3 0, pv 4 0, (Z68 b), vI q1] : List AV)) (by rfl)) (by have hE := congrArg (fun (qq0 : RdM) => ([Z63, Z6g, .live (.box 160 [dU (qq0.rest), dI (qq0.e)]), .live (.box 46 [dI (qq0.m.f_Kind), dI (qq0.m.f_View), dI (qq0.m.f_Seq), dI (qq0.m.f_Client), dI (qq0.m.f_Stamp), dS (qq0.m.f_Digest), dU (qq0.m.f_Data), dI (qq0.m.f_Result.f_Code), dI (qq0.m.f_Result.f_Stage), .d (dsl false false (kE false) (qq0.m.f_Batch)), .d (dsl false false (kE false) (qq0.m.f_Pres)), .d (dsl false false (kC false) (qq0.m.f_Certs))]), (Z6c b)] : List HS)) hst; (try dsimp only at hE); exact hE) hG)
   exact absurd (show j = 8 by omega) (fun q => hq13 (by rw [q]; rfl))
  have hd9 := dec_no (M := ((b.length : Nat) : Int)) (N := 16777216) (fun q => hq3 q.2.1) hbl
  refine cF (dF hq3) ?_
  refine T.exit ?_
  refine xT ?_
  refine xT ?_
  refine xH ?_
  refine nT (T.seq ?_)
  refine sR [hR 2 rfl rfl (rCa (rd_End (runM ((b.length : Nat) : Int) 16777216 (rdR b 0 8 0) (rdE b 0 8 0) (rdI b 0) j).rest (runM ((b.length : Nat) : Int) 16777216 (rdR b 0 8 0) (rdE b 0 8 0) (rdI b 0) j).e (by omega)) Tryz.func97 [2] [(.tmp 99, pv 2 0)] 1 1)] ?_
  refine sR [hN 3 false (cn (dF hq3)),
    hN 4 false (cn (dF hq3)),
    hN 5 false (cn (dF hq3)),
    hN 6 false (cn (dF hq3)),
    hP 7 (cn (dF hq3)),
    hN0 9,
    hN0 10,
    hN0 11,
    hP1 12] ?_
  refine cT (b := true) rfl ?_
  refine sR [] ?_
  refine T.ret (rT ?_)
  refine eN ⟨(Z7h tb nb b j), (Z7j b j)⟩ ?_
  refine Ends.turn (s' := ⟨(Z7h tb nb b j), (Z7k b j)⟩) (fun _ _ hG => Gs.less (s := ⟨(Z7h tb nb b j), (Z7j b j)⟩) (kk2 (kk16 (kk32 (kk32 (kk32 trivial))))) ⟨(.inr ⟨rfl, (kk2 (kk4 ⟨(.inr ⟨rfl, rfl, rfl⟩), (kk2 ⟨(.inr ⟨rfl, rfl, rfl⟩), ⟨(.inr ⟨rfl, rfl, rfl⟩), ⟨(.inr ⟨rfl, rfl, rfl⟩), trivial⟩⟩⟩)⟩))⟩), (kk4 trivial)⟩ hG) ?_
  exact eX [.c 2 0 46 0 46 [dI 0, dI 0, dI 0, dI 0, dI 0, dS [], Z64, dI 0, dI 0, Z65, Z65, Z66] (.agg Z67), .t 3 (Z7l)] ⟨⟨rfl, rfl, by kernel_rfl, by kernel_rfl, .inl ⟨12, wide_46, rfl, Nat.le_of_ble_eq_true rfl⟩⟩, ⟨⟨rfl, by kernel_rfl⟩, trivial⟩⟩ [] (by have hE := cg2 (fun (qq0 : aM) (qq1 : Int) => (.tup [.agg [dI (qq0.f_Kind), dI (qq0.f_View), dI (qq0.f_Seq), dI (qq0.f_Client), dI (qq0.f_Stamp), dS (qq0.f_Digest), dU (qq0.f_Data), dI (qq0.f_Result.f_Code), dI (qq0.f_Result.f_Stage), .d (dsl false false (kE false) (qq0.f_Batch)), .d (dsl false false (kE false) (qq0.f_Pres)), .d (dsl false false (kC false) (qq0.f_Certs))], .one (dI (qq1))] : AV)) (show decV b = _ from hd9.1) hd9.2; (try dsimp only at hE); exact hE) trivial
 have hj9 : j = 9 := (by have h9 : ¬ j ≤ 8 := fun q => hq2 ((pow_le hj).2 q); omega)
 refine sR [hN 3 true (dF hq2),
   hP 4 (dF hq2)] ?_
 refine cF (b := false) rfl ?_
 refine T.exit ?_
 refine xT ?_
 refine xT ?_
 refine xH ?_
 refine nT (T.seq ?_)
 refine sR [hR 2 rfl rfl (rCa (rd_End (runM ((b.length : Nat) : Int) 16777216 (rdR b 0 8 0) (rdE b 0 8 0) (rdI b 0) j).rest (runM ((b.length : Nat) : Int) 16777216 (rdR b 0 8 0) (rdE b 0 8 0) (rdI b 0) j).e (by omega)) Tryz.func97 [2] [(.tmp 99, pv 2 0)] 1 1)] ?_
 by_cases hq14 : okK (rdI b 0)
 ·by_cases hq15 : (rdX (runM ((b.length : Nat) : Int) 16777216 (rdR b 0 8 0) (rdE b 0 8 0) (rdI b 0) j).rest (runM ((b.length : Nat) : Int) 16777216 (rdR b 0 8 0) (rdE b 0 8 0) (rdI b 0) j).e) ≠ 0
  ·have hF : (runM ((b.length : Nat) : Int) 16777216 (rdR b 0 8 0) (rdE b 0 8 0) (rdI b 0) j) = finM ((b.length : Nat) : Int) 16777216 b := (by rw [hj9]; rfl); have hd9 := dec_no (M := ((b.length : Nat) : Int)) (N := 16777216) (fun q => hq15 (by rw [hF]; exact q.2.2.1)) hbl
   refine sR [hY 3 (cn (dT hq14)),
     hY 4 (cn (dT hq14)),
     hS 5 (oY rfl rfl rfl rfl (lt_of rfl) (cn (dT hq14)) (rCa (rd_Err (runM ((b.length : Nat) : Int) 16777216 (rdR b 0 8 0) (rdE b 0 8 0) (rdI b 0) j).rest (rdX (runM ((b.length : Nat) : Int) 16777216 (rdR b 0 8 0) (rdE b 0 8 0) (rdI b 0) j).rest (runM ((b.length : Nat) : Int) 16777216 (rdR b 0 8 0) (rdE b 0 8 0) (rdI b 0) j).e) ) Tryz.func98 [2] [(.tmp 105, pv 2 0)] 1 1)),
     hY 6 (cn (dT hq14)),
     hP 7 (cn (dT hq14)),
     hN 9 false (dT hq15),
     hN 10 false (dT hq15),
     hN 11 false (dT hq15),
     hP 12 (dT hq15)] ?_
   refine cT (b := true) rfl ?_
   refine sR [] ?_
   refine T.ret (rT ?_)
   refine eN ⟨(Z7m tb nb b j), (Z7j b j)⟩ ?_
   refine Ends.turn (s' := ⟨(Z7m tb nb b j), (Z7k b j)⟩) (fun _ _ hG => Gs.less (s := ⟨(Z7m tb nb b j), (Z7j b j)⟩) (kk2 (kk16 (kk32 (kk32 (kk32 trivial))))) ⟨(.inr ⟨rfl, (kk2 (kk4 ⟨(.inr ⟨rfl, rfl, rfl⟩), (kk2 ⟨(.inr ⟨rfl, rfl, rfl⟩), ⟨(.inr ⟨rfl, rfl, rfl⟩), ⟨(.inr ⟨rfl, rfl, rfl⟩), trivial⟩⟩⟩)⟩))⟩), (kk4 trivial)⟩ hG) ?_
   exact eX [.c 2 0 46 0 46 [dI 0, dI 0, dI 0, dI 0, dI 0, dS [], Z64, dI 0, dI 0, Z65, Z65, Z66] (.agg Z67), .t 3 (Z7l)] ⟨⟨rfl, rfl, by kernel_rfl, by kernel_rfl, .inl ⟨12, wide_46, rfl, Nat.le_of_ble_eq_true rfl⟩⟩, ⟨⟨rfl, by kernel_rfl⟩, trivial⟩⟩ [] (by have hE := cg2 (fun (qq0 : aM) (qq1 : Int) => (.tup [.agg [dI (qq0.f_Kind), dI (qq0.f_View), dI (qq0.f_Seq), dI (qq0.f_Client), dI (qq0.f_Stamp), dS (qq0.f_Digest), dU (qq0.f_Data), dI (qq0.f_Result.f_Code), dI (qq0.f_Result.f_Stage), .d (dsl false false (kE false) (qq0.f_Batch)), .d (dsl false false (kE false) (qq0.f_Pres)), .d (dsl false false (kC false) (qq0.f_Certs))], .one (dI (qq1))] : AV)) (show decV b = _ from hd9.1) hd9.2; (try dsimp only at hE); exact hE) trivial
  refine sR [hY 3 (cn (dT hq14)),
    hY 4 (cn (dT hq14)),
    hS 5 (oY rfl rfl rfl rfl (lt_of rfl) (cn (dT hq14)) (rCa (rd_Err (runM ((b.length : Nat) : Int) 16777216 (rdR b 0 8 0) (rdE b 0 8 0) (rdI b 0) j).rest (rdX (runM ((b.length : Nat) : Int) 16777216 (rdR b 0 8 0) (rdE b 0 8 0) (rdI b 0) j).rest (runM ((b.length : Nat) : Int) 16777216 (rdR b 0 8 0) (rdE b 0 8 0) (rdI b 0) j).e) ) Tryz.func98 [2] [(.tmp 105, pv 2 0)] 1 1)),
    hY 6 (cn (dT hq14)),
    hP 7 (cn (dT hq14)),
    hY 9 (dF hq15),
    hS 10 (oY rfl rfl rfl rfl (lt_of rfl) (dF hq15) (rCa (msg_Check false (runM ((b.length : Nat) : Int) 16777216 (rdR b 0 8 0) (rdE b 0 8 0) (rdI b 0) j).m (by omega) (by omega) (by omega) (by omega) (by omega)) Tryz.func99 [] [(.tmp 110, .tv (.agg (Z6u b j)))] 0 0)),
    hY 11 (dF hq15),
    hP 12 (dF hq15)] ?_
  by_cases hq16 : (chkM (runM ((b.length : Nat) : Int) 16777216 (rdR b 0 8 0) (rdE b 0 8 0) (rdI b 0) j).m) ≠ 0
  ·have hF : (runM ((b.length : Nat) : Int) 16777216 (rdR b 0 8 0) (rdE b 0 8 0) (rdI b 0) j) = finM ((b.length : Nat) : Int) 16777216 b := (by rw [hj9]; rfl); have hd9 := dec_no (M := ((b.length : Nat) : Int)) (N := 16777216) (fun q => hq16 (by rw [hF]; exact chk0.2 q.2.2.2)) hbl
   refine cT (dT hq16) ?_
   refine sR [] ?_
   refine T.ret (rT ?_)
   refine eN ⟨(Z7n tb nb b j), (Z7j b j)⟩ ?_
   refine Ends.turn (s' := ⟨(Z7n tb nb b j), (Z7k b j)⟩) (fun _ _ hG => Gs.less (s := ⟨(Z7n tb nb b j), (Z7j b j)⟩) (kk2 (kk16 (kk32 (kk32 (kk32 trivial))))) ⟨(.inr ⟨rfl, (kk2 (kk4 ⟨(.inr ⟨rfl, rfl, rfl⟩), (kk2 ⟨(.inr ⟨rfl, rfl, rfl⟩), ⟨(.inr ⟨rfl, rfl, rfl⟩), ⟨(.inr ⟨rfl, rfl, rfl⟩), trivial⟩⟩⟩)⟩))⟩), (kk4 trivial)⟩ hG) ?_
   exact eX [.c 2 0 46 0 46 [dI 0, dI 0, dI 0, dI 0, dI 0, dS [], Z64, dI 0, dI 0, Z65, Z65, Z66] (.agg Z67), .t 3 (Z7l)] ⟨⟨rfl, rfl, by kernel_rfl, by kernel_rfl, .inl ⟨12, wide_46, rfl, Nat.le_of_ble_eq_true rfl⟩⟩, ⟨⟨rfl, by kernel_rfl⟩, trivial⟩⟩ [] (by have hE := cg2 (fun (qq0 : aM) (qq1 : Int) => (.tup [.agg [dI (qq0.f_Kind), dI (qq0.f_View), dI (qq0.f_Seq), dI (qq0.f_Client), dI (qq0.f_Stamp), dS (qq0.f_Digest), dU (qq0.f_Data), dI (qq0.f_Result.f_Code), dI (qq0.f_Result.f_Stage), .d (dsl false false (kE false) (qq0.f_Batch)), .d (dsl false false (kE false) (qq0.f_Pres)), .d (dsl false false (kC false) (qq0.f_Certs))], .one (dI (qq1))] : AV)) (show decV b = _ from hd9.1) hd9.2; (try dsimp only at hE); exact hE) trivial
  have hF : (runM ((b.length : Nat) : Int) 16777216 (rdR b 0 8 0) (rdE b 0 8 0) (rdI b 0) j) = finM ((b.length : Nat) : Int) 16777216 b := (by rw [hj9]; rfl); have hd9 := dec_yes (M := ((b.length : Nat) : Int)) (N := 16777216) (b := b) ⟨by omega, by assumption, by rw [← hF]; exact Classical.not_not.1 ‹_›, chk0.1 (by rw [← hF]; exact Classical.not_not.1 hq16)⟩; rw [← hF] at hd9
  refine cF (dF hq16) ?_
  refine T.skip (nT ?_)
  refine sR [] ?_
  refine T.ret ?_
  exact eX [.c 2 0 46 0 46 [(Z6i b j), (Z6j b j), (Z6k b j), (Z6l b j), (Z6m b j), (Z6n b j), (Z6o b j), (Z6p b j), (Z6q b j), (Z6r b j), (Z6s b j), (Z6t b j)] (.agg (Z6u b j)), .t 3 (.one (dI 0))] ⟨⟨rfl, rfl, by kernel_rfl, by kernel_rfl, .inl ⟨12, wide_46, rfl, Nat.le_of_ble_eq_true rfl⟩⟩, ⟨⟨rfl, by kernel_rfl⟩, trivial⟩⟩ [] (by have hE := cg2 (fun (qq0 : aM) (qq1 : Int) => (.tup [.agg [dI (qq0.f_Kind), dI (qq0.f_View), dI (qq0.f_Seq), dI (qq0.f_Client), dI (qq0.f_Stamp), dS (qq0.f_Digest), dU (qq0.f_Data), dI (qq0.f_Result.f_Code), dI (qq0.f_Result.f_Stage), .d (dsl false false (kE false) (qq0.f_Batch)), .d (dsl false false (kE false) (qq0.f_Pres)), .d (dsl false false (kC false) (qq0.f_Certs))], .one (dI (qq1))] : AV)) (show decV b = _ from hd9.1) hd9.2; (try dsimp only at hE); exact hE) trivial
 have hd9 := dec_no (M := ((b.length : Nat) : Int)) (N := 16777216) (fun q => hq14 q.2.1) hbl
 refine sR [hN 3 false (cn (dF hq14)),
   hN 4 false (cn (dF hq14)),
   hN 5 false (cn (dF hq14)),
   hN 6 false (cn (dF hq14)),
   hP 7 (cn (dF hq14)),
   hN0 9,
   hN0 10,
   hN0 11,
   hP1 12] ?_
 refine cT (b := true) rfl ?_
 refine sR [] ?_
 refine T.ret (rT ?_)
 refine eN ⟨(Z7m tb nb b j), (Z7j b j)⟩ ?_
 refine Ends.turn (s' := ⟨(Z7m tb nb b j), (Z7k b j)⟩) (fun _ _ hG => Gs.less (s := ⟨(Z7m tb nb b j), (Z7j b j)⟩) (kk2 (kk16 (kk32 (kk32 (kk32 trivial))))) ⟨(.inr ⟨rfl, (kk2 (kk4 ⟨(.inr ⟨rfl, rfl, rfl⟩), (kk2 ⟨(.inr ⟨rfl, rfl, rfl⟩), ⟨(.inr ⟨rfl, rfl, rfl⟩), ⟨(.inr ⟨rfl, rfl, rfl⟩), trivial⟩⟩⟩)⟩))⟩), (kk4 trivial)⟩ hG) ?_
 exact eX [.c 2 0 46 0 46 [dI 0, dI 0, dI 0, dI 0, dI 0, dS [], Z64, dI 0, dI 0, Z65, Z65, Z66] (.agg Z67), .t 3 (Z7l)] ⟨⟨rfl, rfl, by kernel_rfl, by kernel_rfl, .inl ⟨12, wide_46, rfl, Nat.le_of_ble_eq_true rfl⟩⟩, ⟨⟨rfl, by kernel_rfl⟩, trivial⟩⟩ [] (by have hE := cg2 (fun (qq0 : aM) (qq1 : Int) => (.tup [.agg [dI (qq0.f_Kind), dI (qq0.f_View), dI (qq0.f_Seq), dI (qq0.f_Client), dI (qq0.f_Stamp), dS (qq0.f_Digest), dU (qq0.f_Data), dI (qq0.f_Result.f_Code), dI (qq0.f_Result.f_Stage), .d (dsl false false (kE false) (qq0.f_Batch)), .d (dsl false false (kE false) (qq0.f_Pres)), .d (dsl false false (kC false) (qq0.f_Certs))], .one (dI (qq1))] : AV)) (show decV b = _ from hd9.1) hd9.2; (try dsimp only at hE); exact hE) trivial
end Go.Proofs.YtalapplihdmenaaGreat.Q
