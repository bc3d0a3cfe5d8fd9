import Derived.Test.YtalapplihdmenaaGreatC13n5
namespace Go.Proofs.YtalapplihdmenaaGreat.Q
open Go Go.RowKit
set_option linter.unusedVariables false
set_option linter.unusedSimpArgs false
set_option maxRecDepth 100000
set_option maxHeartbeats 4000000
abbrev Z1w (rest : List UInt8) (e : Int) (most : Int) : HS := .live (.box 160 [dU (rdR rest e 4 (limE most (rest.take 4))), dI (rdE rest e 4 (limE most (rest.take 4)))])
theorem rd_Bytes (rest : List UInt8) (e : Int) (most : Int) (hr : rest.length ≤ 140737488355328) : Holds Tryz.prog 94 ⟨[pv 0 0, vI most], [.box 160 [dU rest, dI e]], ownV 1 kU8 0 (rdY rest e most).length, [.live (.box 160 [dU (rdYR rest e most), dI (rdYE rest e most)]), .live (arrK 5 kU8 (rdY rest e most))]⟩ := by
 refine Holds.of Tryz.func94 rfl (N := 36) Tryz.ntmps94 rfl fun w0 B0 S0 U0 => ?_
 show T _ (mkBase 36 1 w0 S0 U0 B0) ⟨[pv 0 0, vI most], [.live (.box 160 [dU rest, dI e])]⟩ _ _
 have hrc := rdC_lt rest e most
 have hrl := rdR_len rest e 4 (limE most (rest.take 4))
 refine sR [] ?_
 refine T.seq ?_
 refine sR [] ?_
 refine cF (b := false) rfl ?_
 refine T.skip (nT ?_)
 refine sR [] ?_
 refine sR [hR 2 rfl rfl (rCa (rd_Count rest e most ‹_›) Tryz.func113 [0] [(.tmp 14, pv 0 0), (.tmp 15, vI most)] 1 1)] ?_
 refine T.seq ?_
 refine sR [] ?_
 by_cases hq1 : (rdE rest e 4 (limE most (rest.take 4))) ≠ 0
 ·have hy := rdY_fail hq1
  refine cT (dT hq1) ?_
  refine sR [] ?_
  refine T.ret (rT ?_)
  refine eN ⟨[pv 0 0, vI most, aa, aa, dv (.slice none 0 0), slV false false kU8 rest, vI ((rdC rest e most : Nat) : Int), aa, aa, vB false, aa, aa, aa, aa, aa, aa, aa, aa, aa, aa, aa, vB (decide ((rdE rest e 4 (limE most (rest.take 4))) ≠ 0))], [(Z1w rest e most)]⟩ ?_
  refine Ends.turn (s' := ⟨[pv 0 0, vI most, aa, aa, ownV 1 kU8 0 0, slV false false kU8 rest, vI ((rdC rest e most : Nat) : Int), aa, aa, vB false, aa, aa, aa, aa, aa, aa, aa, aa, aa, aa, aa, vB (decide ((rdE rest e 4 (limE most (rest.take 4))) ≠ 0))], [(Z1w rest e most), .live (arrK 5 kU8 ([] : List UInt8))]⟩) (fun _ _ hG => Gs.absent 1 4 5 kU8 rfl rfl hG) ?_
  exact eRt 4 (.one (.own 1 kU8.sz 0 0)) [0, 1] (by have e1 : ((rdY rest e most).length : Nat) = 0 := (by (rw [hy.1]; rfl)); have hE := congrArg (fun (q1 : Nat) => (ownV 1 kU8 0 q1 : AV)) e1; exact hE) ⟨⟨rfl, (by have e1 : ((rdR rest e 4 (limE most (rest.take 4))) : List UInt8) = (rdYR rest e most) := (by (rw [hy.2.1, hy.2.2.2])); have e2 : ((rdE rest e 4 (limE most (rest.take 4))) : Int) = (rdYE rest e most) := (by (rw [hy.2.2.1]; done)); have hE := congr (congrArg (fun (q1 : List UInt8) (q2 : Int) => (.live (.box 160 [dU q1, dI q2]) : HS)) e1) e2; exact Eq.trans (by kernel_rfl) hE)⟩, ⟨⟨rfl, (by have e1 : (([] : List UInt8) : List UInt8) = (rdY rest e most) := (by (rw [hy.1]; done)); have hE := congrArg (fun (q1 : List UInt8) => (.live (arrK 5 kU8 q1) : HS)) e1; exact Eq.trans (by kernel_rfl) hE)⟩, trivial⟩⟩
 have hz := Classical.not_not.1 hq1
 refine cF (dF hq1) ?_
 refine T.skip (nT ?_)
 by_cases hq2 : okT (rdR rest e 4 (limE most (rest.take 4))) (rdE rest e 4 (limE most (rest.take 4))) ((rdC rest e most : Nat) : Int) 0
 ·have hy := rdY_ok hz hq2
  refine sR [hR 2 rfl rfl (rCa (take_any_ok (rdR rest e 4 (limE most (rest.take 4))) (rdE rest e 4 (limE most (rest.take 4))) ((rdC rest e most : Nat) : Int) (by omega) (by omega) ‹_›) Tryz.func114 [0] [(.tmp 22, pv 0 0), (.tmp 23, vI ((rdC rest e most : Nat) : Int)), (.func 115, dv (.func (.func 115) #[] #[]))] 1 1)] ?_
  refine T.seq ?_
  refine sR [] ?_
  refine cF (b := false) rfl ?_
  refine T.skip (nT ?_)
  refine sR [hR 1 rfl rfl (rCa (clone_u8 false false ((rdR rest e 4 (limE most (rest.take 4))).take ((rdC rest e most : Nat) : Int).toNat) (by (simp [maxLen, -List.getD_eq_getElem?_getD] <;> omega))) Tryz.func69 [1] [(.tmp 34, slV false false kU8 ((rdR rest e 4 (limE most (rest.take 4))).take ((rdC rest e most : Nat) : Int).toNat))] 0 1)] ?_
  refine T.ret ?_
  exact eRt 4 (.one (.own 1 kU8.sz 0 ((rdR rest e 4 (limE most (rest.take 4))).take ((rdC rest e most : Nat) : Int).toNat).length)) [0, 1] (by have e1 : ((rdY rest e most).length : Nat) = ((rdR rest e 4 (limE most (rest.take 4))).take ((rdC rest e most : Nat) : Int).toNat).length := (by (rw [hy.1]; done)); have hE := congrArg (fun (q1 : Nat) => (ownV 1 kU8 0 q1 : AV)) e1; exact hE) ⟨⟨rfl, (by have e1 : (((rdR rest e 4 (limE most (rest.take 4))).drop ((rdC rest e most : Nat) : Int).toNat) : List UInt8) = (rdYR rest e most) := (by (rw [hy.2.1]; done)); have e2 : (0 : Int) = (rdYE rest e most) := (by (rw [hy.2.2]; done)); have hE := congr (congrArg (fun (q1 : List UInt8) (q2 : Int) => (.live (.box 160 [dU q1, dI q2]) : HS)) e1) e2; exact Eq.trans (by kernel_rfl) hE)⟩, ⟨⟨rfl, (by have e1 : (((rdR rest e 4 (limE most (rest.take 4))).take ((rdC rest e most : Nat) : Int).toNat) : List UInt8) = (rdY rest e most) := (by (rw [hy.1]; done)); have hE := congrArg (fun (q1 : List UInt8) => (.live (arrK 5 kU8 q1) : HS)) e1; exact Eq.trans (by kernel_rfl) hE)⟩, trivial⟩⟩
 have hy := rdY_short hz hq2
 refine sR [hR 2 rfl rfl (rCa (take_any_no (rdR rest e 4 (limE most (rest.take 4))) (rdE rest e 4 (limE most (rest.take 4))) ((rdC rest e most : Nat) : Int) (by omega) (by omega) ‹_›) Tryz.func114 [0] [(.tmp 22, pv 0 0), (.tmp 23, vI ((rdC rest e most : Nat) : Int)), (.func 115, dv (.func (.func 115) #[] #[]))] 1 1)] ?_
 refine T.seq ?_
 refine sR [] ?_
 by_cases hq3 : (rdE (rdR rest e 4 (limE most (rest.take 4))) (rdE rest e 4 (limE most (rest.take 4))) ((rdC rest e most : Nat) : Int) 0) ≠ 0
 ·refine cT (dT hq3) ?_
  refine xK [] ?_
  refine nT ?_
  refine sR [hR 1 rfl rfl (rCn (clone_u8 false false ([] : List UInt8) (by (simp [maxLen, -List.getD_eq_getElem?_getD] <;> omega))) Tryz.func69 [1] [(.tmp 34, dv (.slice none 0 0))] 0 1 ⟨.inr (.inr ⟨rfl, rfl, rfl⟩), trivial⟩ trivial)] ?_
  refine T.ret ?_
  exact eRt 4 (.one (.own 1 kU8.sz 0 ([] : List UInt8).length)) [0, 1] (by have e1 : ((rdY rest e most).length : Nat) = ([] : List UInt8).length := (by (rw [hy.1]; done)); have hE := congrArg (fun (q1 : Nat) => (ownV 1 kU8 0 q1 : AV)) e1; exact hE) ⟨⟨rfl, (by have e1 : (rest : List UInt8) = (rdYR rest e most) := (by (rw [hy.2.1]; done)); have e2 : ((rdE (rdR rest e 4 (limE most (rest.take 4))) (rdE rest e 4 (limE most (rest.take 4))) ((rdC rest e most : Nat) : Int) 0) : Int) = (rdYE rest e most) := (by (rw [hy.2.2]; done)); have hE := congr (congrArg (fun (q1 : List UInt8) (q2 : Int) => (.live (.box 160 [dU q1, dI q2]) : HS)) e1) e2; exact Eq.trans (by kernel_rfl) hE)⟩, ⟨⟨rfl, (by have e1 : (([] : List UInt8) : List UInt8) = (rdY rest e most) := (by (rw [hy.1]; done)); have hE := congrArg (fun (q1 : List UInt8) => (.live (arrK 5 kU8 q1) : HS)) e1; exact Eq.trans (by kernel_rfl) hE)⟩, trivial⟩⟩
 exact absurd (rdE_no hq2) hq3
section
variable (B : List UInt8) (a : Nat) (m : Nat) (e : Int) (k : Nat)
end
section
variable (B : List UInt8) (a : Nat) (e : Int) (most : Int)
end
end Go.Proofs.YtalapplihdmenaaGreat.Q
