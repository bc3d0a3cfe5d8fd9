import Derived.Test.YtalapplihdmenaaGreatC13n1
import Derived.Shelf.Sort.Plain
import Derived.Shelf.Slices.In.SortNone
namespace Go.Proofs.YtalapplihdmenaaGreat.Q
open Go Go.RowKit
set_option linter.unusedVariables false
set_option linter.unusedSimpArgs false
set_option maxRecDepth 100000
set_option maxHeartbeats 4000000
section
variable (f : Int) (u : Int) (rows : List (authn_pair × Bool)) (s : Int) (tb : Bool) (nb : Bool) (b : List UInt8)
abbrev Z4 : HS := .live (.box 98 [dI (3 * f + 1), dI u, .mref 1])
abbrev Z5 : HS := .live (mpK f_authn_pair kBool rows)
abbrev Z6 : List AV := [pv 0 0, vI s, slV tb nb kU8 b, aa, aa, aa, pv 2 0, vI 11, vB (!(decide (isKnown f u s))), aa, aa, aa, aa, aa, vB (decide (((b.length : Nat) : Int) > 16777216))]
abbrev Z7 : HS := .live (.box 35 [dI 0, .d (.val (.slice none 0 0))])
abbrev Z8 : SV := dU ([] : List UInt8)
abbrev Z9 : List SV := [dI 0, Z8]
abbrev Za : List AV := [pv 0 0, vI s, slV tb nb kU8 b, aa, aa, aa, pv 2 0, vI 0, vB (!(decide (isKnown f u s))), aa, aa, aa, aa, aa, vB (decide (((b.length : Nat) : Int) > 16777216))]
abbrev Zb : List AV := [pv 0 0, vI s, slV tb nb kU8 b, aa, aa, aa, pv 2 0, vI 30, vB (!(decide (isKnown f u s)))]
end
theorem authn_Sign (f : Int) (u : Int) (rows : List (authn_pair × Bool)) (s : Int) (tb : Bool) (nb : Bool) (b : List UInt8) (hf : 0 ≤ f ∧ f ≤ 2) (hu : 0 ≤ u ∧ u ≤ 8) (hs : -9223372036854775808 ≤ s ∧ s ≤ 9223372036854775807) (hb : b.length ≤ 140737488355328) : Holds Tryz.prog 51 ⟨[pv 0 0, vI s, slV tb nb kU8 b], [.box 98 [dI (3 * f + 1), dI u, .mref 1], mpK f_authn_pair kBool rows], .tup [.agg [dI (signV f u s b).f_Signer, dU (signV f u s b).f_Body], .one (dI (signE f u s b))], [.live (.box 98 [dI (3 * f + 1), dI u, .mref 1]), .live (mpK f_authn_pair kBool (signT f u rows s b))]⟩ := by
 refine Holds.of Tryz.func51 rfl (N := 31) Tryz.ntmps51 rfl fun w0 B0 S0 U0 => ?_
 show T _ (mkBase 31 2 w0 S0 U0 B0) ⟨[pv 0 0, vI s, slV tb nb kU8 b], [(Z4 f u), (Z5 rows)]⟩ _ _
 refine sR [] ?_
 refine T.seq ?_
 refine T.block ?_
 refine sR [hR 2 rfl rfl (rCa (authn_Known f u rows s ‹_› ‹_› ‹_›) Tryz.func49 [0, 1] [(.tmp 9, pv 0 0), (.tmp 10, vI s)] 2 2)] ?_
 by_cases hq1 : isKnown f u s
 ·refine cF (cn (dT hq1)) ?_
  refine sR [] ?_
  by_cases hq2 : ((b.length : Nat) : Int) > 16777216
  ·refine cT (dT hq2) ?_
   refine sR [] ?_
   refine T.ret (rB (rT ?_))
   refine eN ⟨(Z6 f u s tb nb b), [(Z4 f u), (Z5 rows), Z7]⟩ ?_
   refine Ends.turn (s' := ⟨(Z6 f u s tb nb b), [(Z4 f u), (Z5 rows), .live (.box 35 Z9)]⟩) (fun _ _ hG => Gs.less (s := ⟨(Z6 f u s tb nb b), [(Z4 f u), (Z5 rows), Z7]⟩) ⟨.inl rfl, (kk2 (kk4 (kk8 trivial)))⟩ (kk2 ⟨(.inr ⟨rfl, ⟨.inl rfl, ⟨(.inr ⟨rfl, rfl, rfl⟩), trivial⟩⟩⟩), trivial⟩) hG) ?_
   exact eX [.c 6 2 35 0 35 [dI 0, Z8] (.agg Z9), .t 7 (.one (dI 11))] ⟨⟨rfl, rfl, by kernel_rfl, by kernel_rfl, .inl ⟨2, wide_35, rfl, Nat.le_of_ble_eq_true rfl⟩⟩, ⟨⟨rfl, by kernel_rfl⟩, trivial⟩⟩ [0, 1] (by have e1 : ((signV f u s b).f_Signer : Int) = 0 := (by (simp [signE, signV, signT, zE, *]; done)); have e2 : ((signV f u s b).f_Body : List UInt8) = ([] : List UInt8) := (by (simp [signE, signV, signT, zE, *]; done)); have e3 : ((signE f u s b) : Int) = 11 := (by (simp [signE, signV, signT, zE, *]; done)); have hE := congr (congr (congrArg (fun (q1 : Int) (q2 : List UInt8) (q3 : Int) => (.tup [.agg [dI q1, dU q2], .one (dI q3)] : AV)) e1) e2) e3; exact hE) (ix ⟨⟨rfl, (by have e1 : (rows : List (authn_pair × Bool)) = (signT f u rows s b) := (by (simp [signE, signV, signT, zE, *]; done)); have hE := congrArg (fun (q1 : List (authn_pair × Bool)) => (.live (mpK f_authn_pair kBool q1) : HS)) e1; exact Eq.trans (by kernel_rfl) hE)⟩, trivial⟩)
  refine cF (dF hq2) ?_
  refine T.skip ?_
  refine nB ?_
  refine nT ?_
  refine sD [[], [0], [0, 1], [0, 1, 2], [], [], [5], [4, 5, 6], [0, 1, 2, 3, 4, 5, 6, 7]] [hR 6 rfl rfl (q_strOf () b (ys := (.d (dsl tb nb kU8 b))) (rhs := []) Tryz.underlying33 Tryz.underlying5 Tryz.underlying9 (src_sl tb nb kU8 b) (lt_of rfl) trivial),
    hR 8 rfl rfl (r_mapUpdate 1 rows (authn_pair.mk s b) true (kd := kBool) (ak := .tv (.agg [dI s, dS b])) (tv := .one (dB true)) Tryz.underlying96 mkey_authn_pair ⟨[.int .i64 s, strV b], rfl, rfl⟩ rfl ⟨.inl rfl, trivial⟩ ⟨rfl, trivial⟩)] ?_
  refine sR [hR 2 rfl rfl (rCa (clone_u8 tb nb b ‹_›) Tryz.func69 [3] [(.tmp 28, slV tb nb kU8 b)] 0 1)] ?_
  refine T.ret ?_
  refine eN ⟨(Za f u s tb nb b), [(Z4 f u), .live (mpK f_authn_pair kBool (mput rows (authn_pair.mk s b) true)), .live (.box 35 [dI s, .own 3 kU8.sz 0 b.length]), .live (arrK 5 kU8 b)]⟩ ?_
  refine Ends.turn (s' := ⟨(Za f u s tb nb b), [(Z4 f u), .live (mpK f_authn_pair kBool (mput rows (authn_pair.mk s b) true)), .live (.box 35 [dI s, dU b]), .dead]⟩) (fun _ _ hG => Gs.freeze (s := ⟨(Za f u s tb nb b), [(Z4 f u), .live (mpK f_authn_pair kBool (mput rows (authn_pair.mk s b) true)), .live (.box 35 [dI s, .own 3 kU8.sz 0 b.length]), .live (arrK 5 kU8 b)]⟩) 3 (el := elOf kU8 b) (sz := kU8.sz) (n := b.length) rfl ⟨.inl rfl, (kk2 (kk4 (kk8 trivial)))⟩ ⟨(.inr ⟨by decide, .inl rfl⟩), ⟨(.inr ⟨by decide, .inl rfl⟩), ⟨(.inr ⟨by decide, .inr ⟨rfl, ⟨.inl rfl, ⟨(.inr ⟨rfl, rfl, rfl, (fun h => by cases h), rfl, rfl, Nat.le_of_eq (Nat.zero_add _), fun i j _ => by rw [Nat.zero_add]⟩), trivial⟩⟩⟩⟩), ⟨(.inl ⟨rfl, rfl⟩), trivial⟩⟩⟩⟩ hG) ?_
  exact eX [.c 6 2 35 0 35 [dI s, dU b] (.agg [dI s, dU b]), .t 7 (.one (dI 0))] ⟨⟨rfl, rfl, by kernel_rfl, by kernel_rfl, .inl ⟨2, wide_35, rfl, Nat.le_of_ble_eq_true rfl⟩⟩, ⟨⟨rfl, by kernel_rfl⟩, trivial⟩⟩ [0, 1] (by have e1 : ((signV f u s b).f_Signer : Int) = s := (by (simp [signE, signV, signT, zE, *]; done)); have e2 : ((signV f u s b).f_Body : List UInt8) = b := (by (simp [signE, signV, signT, zE, *]; done)); have e3 : ((signE f u s b) : Int) = 0 := (by (simp [signE, signV, signT, zE, *]; done)); have hE := congr (congr (congrArg (fun (q1 : Int) (q2 : List UInt8) (q3 : Int) => (.tup [.agg [dI q1, dU q2], .one (dI q3)] : AV)) e1) e2) e3; exact hE) (ix ⟨⟨rfl, (by have e1 : ((mput rows (authn_pair.mk s b) true) : List (authn_pair × Bool)) = (signT f u rows s b) := (by (simp [signE, signV, signT, zE, *]; done)); have hE := congrArg (fun (q1 : List (authn_pair × Bool)) => (.live (mpK f_authn_pair kBool q1) : HS)) e1; exact Eq.trans (by kernel_rfl) hE)⟩, trivial⟩)
 refine cT (cn (dF hq1)) ?_
 refine sR [] ?_
 refine T.ret (rB (rT ?_))
 refine eN ⟨(Zb f u s tb nb b), [(Z4 f u), (Z5 rows), Z7]⟩ ?_
 refine Ends.turn (s' := ⟨(Zb f u s tb nb b), [(Z4 f u), (Z5 rows), .live (.box 35 Z9)]⟩) (fun _ _ hG => Gs.less (s := ⟨(Zb f u s tb nb b), [(Z4 f u), (Z5 rows), Z7]⟩) ⟨.inl rfl, (kk8 trivial)⟩ (kk2 ⟨(.inr ⟨rfl, ⟨.inl rfl, ⟨(.inr ⟨rfl, rfl, rfl⟩), trivial⟩⟩⟩), trivial⟩) hG) ?_
 exact eX [.c 6 2 35 0 35 [dI 0, Z8] (.agg Z9), .t 7 (.one (dI 30))] ⟨⟨rfl, rfl, by kernel_rfl, by kernel_rfl, .inl ⟨2, wide_35, rfl, Nat.le_of_ble_eq_true rfl⟩⟩, ⟨⟨rfl, by kernel_rfl⟩, trivial⟩⟩ [0, 1] (by have e1 : ((signV f u s b).f_Signer : Int) = 0 := (by (simp [signE, signV, signT, zE, *]; done)); have e2 : ((signV f u s b).f_Body : List UInt8) = ([] : List UInt8) := (by (simp [signE, signV, signT, zE, *]; done)); have e3 : ((signE f u s b) : Int) = 30 := (by (simp [signE, signV, signT, zE, *]; done)); have hE := congr (congr (congrArg (fun (q1 : Int) (q2 : List UInt8) (q3 : Int) => (.tup [.agg [dI q1, dU q2], .one (dI q3)] : AV)) e1) e2) e3; exact hE) (ix ⟨⟨rfl, (by have e1 : (rows : List (authn_pair × Bool)) = (signT f u rows s b) := (by (simp [signE, signV, signT, zE, *]; done)); have hE := congrArg (fun (q1 : List (authn_pair × Bool)) => (.live (mpK f_authn_pair kBool q1) : HS)) e1; exact Eq.trans (by kernel_rfl) hE)⟩, trivial⟩)
theorem wide_33 : Wide Tryz.prog 33 none := ⟨_, Tryz.underlying33, (fun _ h => by cases h), (fun _ _ h => by cases h)⟩
theorem iat_4 : Tryz.prog.info? 4 = some Tryz.t4 := by kernel_rfl
theorem zerom_4 : ZeroM Tryz.prog 4 [.bool false] := ⟨_, _, iat_4, rfl, rfl, fun _ => rfl⟩
theorem authn_Check (f : Int) (u : Int) (rows : List (authn_pair × Bool)) (te : Bool) (e : aE) (hf : 0 ≤ f ∧ f ≤ 2) (hu : 0 ≤ u ∧ u ≤ 8) (hs : -9223372036854775808 ≤ e.f_Signer ∧ e.f_Signer ≤ 9223372036854775807) : Holds Tryz.prog 21 ⟨[pv 0 0, .tv (.agg [dI e.f_Signer, .d (dsl te false kU8 e.f_Body)])], [.box 98 [dI (3 * f + 1), dI u, .mref 1], mpK f_authn_pair kBool rows], vI (checkE f u rows e), [.live (.box 98 [dI (3 * f + 1), dI u, .mref 1]), .live (mpK f_authn_pair kBool rows)]⟩ := by
 refine Holds.of Tryz.func21 rfl (N := 28) Tryz.ntmps21 rfl fun w0 B0 S0 U0 => ?_
 show T _ (mkBase 28 2 w0 S0 U0 B0) ⟨[pv 0 0, .tv (.agg [dI e.f_Signer, .d (dsl te false kU8 e.f_Body)])], [.live (.box 98 [dI (3 * f + 1), dI u, .mref 1]), .live (mpK f_authn_pair kBool rows)]⟩ _ _
 refine sR [] ?_
 refine T.seq ?_
 refine sR [hR 3 rfl rfl (rCa (authn_Known f u rows e.f_Signer ‹_› ‹_› ‹_›) Tryz.func49 [0, 1] [(.tmp 7, pv 0 0), (.tmp 9, vI e.f_Signer)] 2 2)] ?_
 by_cases hq1 : isKnown f u e.f_Signer
 ·refine cF (cn (dT hq1)) ?_
  refine T.skip (nT (T.seq ?_))
  refine sD [[], [0], [0, 1], [0, 1, 2], [], [4], [], [6], [6, 7], [4, 5, 6, 7, 8], [0, 1, 2, 3, 4, 5, 6, 7, 8, 9], [0, 1, 2, 3, 4, 5, 6, 7, 8, 9, 10], [0, 1, 2, 3, 4, 5, 6, 7, 8, 9, 10, 11], [0, 1, 2, 3, 4, 5, 6, 7, 8, 9, 10, 11], [0, 1, 2, 3, 4, 5, 6, 7, 8, 9, 10, 11, 12], [0, 1, 2, 3, 4, 5, 6, 7, 8, 9, 10, 11, 12, 13, 14]] [hR 8 rfl rfl (q_strOf () e.f_Body (ys := (.d (dsl te false kU8 e.f_Body))) (rhs := []) Tryz.underlying33 Tryz.underlying5 Tryz.underlying9 (src_sl te false kU8 e.f_Body) (lt_of rfl) trivial),
    hR 10 rfl rfl (r_lookup2 1 rows (authn_pair.mk e.f_Signer e.f_Body) (.one (dB (mget rows (authn_pair.mk e.f_Signer e.f_Body) false))) (ak := .tv (.agg [dI e.f_Signer, dS e.f_Body])) (kd := kBool) Tryz.underlying96 mkey_authn_pair ⟨[.int .i64 e.f_Signer, strV e.f_Body], rfl, rfl⟩ zerom_4 ⟨.inl rfl, trivial⟩ rfl (lt_of rfl) trivial)] ?_
  refine sR [] ?_
  by_cases hq2 : (mhas rows (authn_pair.mk e.f_Signer e.f_Body)) = true
  ·refine cF (cn hq2) ?_
   refine T.skip (nT ?_)
   refine sR [] ?_
   refine T.ret ?_
   exact eRt 4 (.one (dI 0)) [0, 1] (by have e1 : ((checkE f u rows e) : Int) = 0 := (by (simp [checkE, *]; done)); have hE := cI e1; exact hE) (ix (ix trivial))
  replace hq2 := Bool.eq_false_iff.2 hq2
  refine cT (cn hq2) ?_
  refine sR [] ?_
  refine T.ret (rT ?_)
  exact eRt 4 (.one (dI 31)) [0, 1] (by have e1 : ((checkE f u rows e) : Int) = 31 := (by (simp [checkE, *]; done)); have hE := cI e1; exact hE) (ix (ix trivial))
 refine cT (cn (dF hq1)) ?_
 refine sR [] ?_
 refine T.ret (rT ?_)
 exact eRt 4 (.one (dI 30)) [0, 1] (by have e1 : ((checkE f u rows e) : Int) = 30 := (by (simp [checkE, *]; done)); have hE := cI e1; exact hE) (ix (ix trivial))
end Go.Proofs.YtalapplihdmenaaGreat.Q
namespace Go.Proofs.YtalapplihdmenaaGreat.Q
set_option linter.unusedVariables false
set_option linter.unusedSimpArgs false
set_option maxRecDepth 100000
def sortI (xs : List Int) : List Int := xs.mergeSort fun x y => decide (x ≤ y)
theorem sort_len (xs : List Int) : (sortI xs).length = xs.length := List.length_mergeSort _
theorem put_get (d : Array Int) (cur : Array Value) {j : Nat} (hj : j < d.size) (hc : j < cur.size) : (Go.Sort.putCells (Value.int .i64) 0 d cur)[j]? = some (.int .i64 d[j]!) := by
  simp only [Go.Sort.putCells, Array.getElem?_mapIdx, Array.getElem?_eq_getElem hc, Option.map_some, Nat.sub_zero]
  rw [if_pos ⟨Nat.zero_le _, by omega⟩]
theorem row_at {w : World} {b n : Nat} {d : Array Int} {cur : Array Value} {T : Nat} {fr : Nat × Nat} {os : Array Obj} (h : w.heap[b]? = some (.cells cur T fr)) : (Go.Sort.grow (Go.Sort.putRow (Value.int .i64) (Go.Sort.ahead w n) b 0 d) os).heap[b]? = some (.cells (Go.Sort.putCells (Value.int .i64) 0 d cur) T fr) := by
  have hb : b < w.heap.size := by
    rcases Nat.lt_or_ge b w.heap.size with q | q
    · exact q
    · rw [Array.getElem?_eq_none (by omega)] at h; cases h
  rw [Go.Sort.heap_grow_old _ _ (by simpa [Go.Sort.ahead] using hb)]
  simp only [Go.Sort.putRow, Go.Sort.mapBlock, Go.Sort.ahead, Array.getElem?_modify, if_true, h, Option.map_some, Go.Sort.onCells]
theorem row_other {w : World} {b n k : Nat} {d : Array Int} {os : Array Obj} (hk : k < w.heap.size) (hne : k ≠ b) : (Go.Sort.grow (Go.Sort.putRow (Value.int .i64) (Go.Sort.ahead w n) b 0 d) os).heap[k]? = w.heap[k]? := by
  rw [Go.Sort.heap_grow_old _ _ (by simpa [Go.Sort.ahead] using hk)]
  simp only [Go.Sort.putRow, Go.Sort.mapBlock, Go.Sort.ahead, Array.getElem?_modify]
  rw [if_neg (Ne.symm hne)]
theorem sort_holds {P : Program} {ρ : Go.Shelf.Ren} (L : Go.Proofs.Lays.n189 P ρ) (T : Nat) (xs : List Int) (hx : xs.length ≤ 1000000000) : Holds P (ρ.f 189) ⟨[ownV 0 (kInt .i64) 0 xs.length], [arrK T (kInt .i64) xs], .tup [], [.live (arrK T (kInt .i64) (sortI xs))]⟩ := by
  intro w B S U vs hl g
  obtain ⟨v, rfl⟩ : ∃ v, vs = [v] := by
    match vs, hl with
    | [v], _ => exact ⟨v, rfl⟩
  have h0 : svOk B S U w (.own 0 1 0 xs.length) v := g.tm 0
  have ho : obOk B S U w 0 (arrK T (kInt .i64) xs) := g.ob 0 _ rfl
  have hone : ∀ {l : Nat} {o : HObj} {h : HS}, hget [h] l = .live o → l = 0 ∧ h = .live o := fun {l o h} e => by
    cases l with
    | zero => exact ⟨rfl, e⟩
    | succ l => cases e
  rcases h0 with ⟨hB, _, hn, rfl⟩ | ⟨b, κ, o, cap, hB, rfl, hoc, hcap, hoo⟩
  · have hx : xs = [] := List.eq_nil_of_length_eq_zero hn
    subst hx
    rw [show sortI [] = [] from List.mergeSort_nil ..]
    refine (Go.Proofs.Any.slices_Sort_int_none L none 0 w).mono fun e w' ⟨he, hw⟩ => ?_
    subst he hw
    refine ⟨_, B, S, U, rfl, ?_⟩
    exact { g with
      df := rfl
      sz := rfl
      tm := fun k => by
        cases k with
        | zero => exact ⟨[], rfl, trivial⟩
        | succ k => exact trivial
      ob := fun l o e => g.ob l o e }
  · rcases ho with ⟨h, _⟩ | ⟨b', κ', cur, hB', hheap, hcs, hnκ, hκm, hel⟩
    · rw [hB] at h; cases h
    · rw [hB] at hB'
      obtain ⟨rfl, rfl⟩ : b = b' ∧ κ = κ' := by
        simp only [Option.some.injEq, Prod.mk.injEq] at hB'; exact hB'
      have ho : o = 0 := by rw [hoo (.inr rfl)]
      subst ho
      have hcs : cur.size = κ := by rw [hcs]; exact Nat.mul_one _
      have hb : b < w.heap.size := by
        rcases Nat.lt_or_ge b w.heap.size with q | q
        · exact q
        · rw [Array.getElem?_eq_none (by omega)] at hheap; cases hheap
      have hH : Go.Sort.Holds (Value.int .i64) w b 0 xs.toArray := fun j hj => by
        have hj : j < xs.length := by simpa using hj
        obtain ⟨u, hu, hd⟩ := hel j hj 0 (by decide)
        have hu : cur[j]? = some u := by rw [← hu]; rw [show j * (kInt .i64).sz + 0 = j from Nat.mul_one j]
        have hd : u = .int .i64 (xs.getD j 0) := hd
        refine ⟨?_, by simp [World.frozen?, hheap]⟩
        rw [show (⟨b, 0 + j, none⟩ : Addr) = ⟨b, j, none⟩ by rw [Nat.zero_add]]
        have : w.cell? ⟨b, j, none⟩ = cur[j]? := by simp [World.cell?, hheap]
        rw [this, hu, hd]
        simp [List.getElem!_eq_getElem?_getD, List.getD_eq_getElem?_getD]
      refine (Go.Proofs.Any.slices_Sort_int L b 0 cap xs w hH hb (by omega)).mono fun e w' ⟨he, n, os, hw⟩ => ?_
      have hw : w' = Go.Sort.grow (Go.Sort.putRow (Value.int .i64) (Go.Sort.ahead w n) b 0 (sortI xs).toArray) os := hw
      subst he hw
      have hat := row_at (n := n) (d := (sortI xs).toArray) (os := os) hheap
      have hC : Cs 1 B b := ⟨0, κ, by decide, hB⟩
      have hsz : (Go.Sort.grow (Go.Sort.putRow (Value.int .i64) (Go.Sort.ahead w n) b 0 (sortI xs).toArray) os).heap.size = w.heap.size + os.size := by
        rw [Go.Sort.size_grow, Go.Sort.size_putRow]; rfl
      refine ⟨_, B, S, U, rfl, ?_⟩
      exact { g with
        df := rfl
        sz := rfl
        tm := fun k => by
          cases k with
          | zero => exact ⟨[], rfl, trivial⟩
          | succ k => exact trivial
        ob := fun l o e => by
          obtain ⟨rfl, e⟩ := hone e
          cases e
          refine .inr ⟨b, κ, _, hB, hat, ?_, ?_, hκm, fun i hi j hj => ?_⟩
          · simp [Go.Sort.putCells, hcs]; exact (Nat.mul_one κ).symm
          · rw [sort_len]; exact hnκ
          · have hj : j < 1 := hj
            have hi : i < (sortI xs).length := hi
            have hi2 := hi
            rw [sort_len] at hi2
            refine ⟨.int .i64 ((sortI xs).getD i 0), ?_, ?_⟩
            · rw [show i * (kInt .i64).sz + j = i by rw [show (kInt .i64).sz = 1 from rfl]; omega, put_get _ _ (by simpa using hi) (by omega)]
              simp [List.getElem!_eq_getElem?_getD, List.getD_eq_getElem?_getD]
            · exact rfl
        nj := fun l l' o o' e e' hne => absurd ((hone e).1.trans (hone e').1.symm) hne
        sp := fun l o p e hp => by
          obtain ⟨rfl, _⟩ := hone e
          exact g.sp 0 _ p rfl hp
        cf := fun l o p e hp => by
          obtain ⟨rfl, _⟩ := hone e
          exact g.cf 0 _ p rfl hp
        fr := fun l e => by
          cases l with
          | zero => cases e
          | succ l => exact g.fr (l + 1) rfl
        ub := fun k hk => by rw [hsz]; exact Nat.lt_of_lt_of_le (g.ub k hk) (Nat.le_add_right _ _)
        ps := fun k hk hc => by
          have hne : k ≠ b := fun q => hc (q ▸ hC)
          have hk : k < w.heap.size := hk
          exact row_other hk hne
        hs := by rw [hsz]; exact Nat.le_add_right _ _
        os := rfl
        tp := rfl
        op := rfl }
end Go.Proofs.YtalapplihdmenaaGreat.Q
namespace Go.Proofs.YtalapplihdmenaaGreat.Q
open Go.Shelf
def lays189_ren : Go.Shelf.Ren := ⟨fun | 189 => 40 | 125 => 62 | 257 => 61 | 128 => 88 | 129 => 89 | 294 => 79 | 295 => 80 | 296 => 81 | 297 => 82 | 298 => 83 | 299 => 84 | 216 => 85 | 300 => 86 | 301 => 87 | 328 => 106 | 329 => 107 | 330 => 108 | 331 => 109 | 332 => 110 | 215 => 111 | 343 => 126 | n => n, fun | 28 => 55 | 3 => 3 | 46 => 114 | 0 => 0 | 51 => 137 | 53 => 120 | 4 => 4 | 183 => 129 | 182 => 128 | 131 => 134 | 5 => 5 | 9 => 9 | 218 => 153 | 222 => 157 | 228 => 172 | 229 => 115 | n => n, fun | n => n⟩
theorem lays189 : Go.Proofs.Lays.n189 Tryz.prog lays189_ren := {
  mixed := by kernel_rfl
  f125 := Tryz.func62.trans (congrArg some (by kernel_rfl))
  f128 := Tryz.func88.trans (congrArg some (by kernel_rfl))
  f129 := Tryz.func89.trans (congrArg some (by kernel_rfl))
  f189 := Tryz.func40.trans (congrArg some (by kernel_rfl))
  f215 := Tryz.func111.trans (congrArg some (by kernel_rfl))
  f216 := Tryz.func85.trans (congrArg some (by kernel_rfl))
  f257 := Tryz.func61.trans (congrArg some (by kernel_rfl))
  f294 := Tryz.func79.trans (congrArg some (by kernel_rfl))
  f295 := Tryz.func80.trans (congrArg some (by kernel_rfl))
  f296 := Tryz.func81.trans (congrArg some (by kernel_rfl))
  f297 := Tryz.func82.trans (congrArg some (by kernel_rfl))
  f298 := Tryz.func83.trans (congrArg some (by kernel_rfl))
  f299 := Tryz.func84.trans (congrArg some (by kernel_rfl))
  f300 := Tryz.func86.trans (congrArg some (by kernel_rfl))
  f301 := Tryz.func87.trans (congrArg some (by kernel_rfl))
  f328 := Tryz.func106.trans (congrArg some (by kernel_rfl))
  f329 := Tryz.func107.trans (congrArg some (by kernel_rfl))
  f330 := Tryz.func108.trans (congrArg some (by kernel_rfl))
  f331 := Tryz.func109.trans (congrArg some (by kernel_rfl))
  f332 := Tryz.func110.trans (congrArg some (by kernel_rfl))
  f343 := Tryz.func126.trans (congrArg some (by kernel_rfl))
  t0 := Tryz.underlying0
  a0 := Tryz.isAgg0
  z0 := Tryz.sizeOf0
  v0 := Tryz.zeroValue0
  t3 := Tryz.underlying3
  a3 := Tryz.isAgg3
  z3 := Tryz.sizeOf3
  v3 := Tryz.zeroValue3
  t4 := Tryz.underlying4
  a4 := Tryz.isAgg4
  z4 := Tryz.sizeOf4
  v4 := Tryz.zeroValue4
  t5 := Tryz.underlying5
  a5 := Tryz.isAgg5
  z5 := Tryz.sizeOf5
  v5 := Tryz.zeroValue5
  t9 := Tryz.underlying9
  a9 := Tryz.isAgg9
  z9 := Tryz.sizeOf9
  v9 := Tryz.zeroValue9
  t28 := Tryz.underlying55
  a28 := Tryz.isAgg55
  z28 := Tryz.sizeOf55
  v28 := Tryz.zeroValue55
  t46 := Tryz.underlying114
  a46 := Tryz.isAgg114
  z46 := Tryz.sizeOf114
  v46 := Tryz.zeroValue114
  t51 := Tryz.underlying137
  a51 := Tryz.isAgg137
  z51 := Tryz.sizeOf137
  v51 := Tryz.zeroValue137
  t53 := Tryz.underlying120
  a53 := Tryz.isAgg120
  z53 := Tryz.sizeOf120
  v53 := Tryz.zeroValue120
  t131 := Tryz.underlying134
  a131 := Tryz.isAgg134
  z131 := Tryz.sizeOf134
  v131 := Tryz.zeroValue134
  t182 := Tryz.underlying128
  a182 := Tryz.isAgg128
  z182 := Tryz.sizeOf128
  v182 := Tryz.zeroValue128
  t183 := Tryz.underlying129
  a183 := Tryz.isAgg129
  z183 := Tryz.sizeOf129
  v183 := Tryz.zeroValue129
  t218 := Tryz.underlying153
  a218 := Tryz.isAgg153
  z218 := Tryz.sizeOf153
  v218 := Tryz.zeroValue153
  t222 := Tryz.underlying157
  a222 := Tryz.isAgg157
  z222 := Tryz.sizeOf157
  v222 := Tryz.zeroValue157
  t228 := Tryz.underlying172
  a228 := Tryz.isAgg172
  z228 := Tryz.sizeOf172
  v228 := Tryz.zeroValue172
  t229 := Tryz.underlying115
  a229 := Tryz.isAgg115
  z229 := Tryz.sizeOf115
  v229 := Tryz.zeroValue115 }
end Go.Proofs.YtalapplihdmenaaGreat.Q
namespace Go.Proofs.YtalapplihdmenaaGreat.Q
set_option linter.unusedVariables false
set_option linter.unusedSimpArgs false
set_option maxRecDepth 100000
theorem zeroCells_int (n : Nat) : (Builtin.zeroCells #[.int .i64 0] n).toList = List.replicate n (Value.int .i64 0) := by
  have e : (fun i : Nat => (#[Value.int .i64 0] : Array Value)[i % (#[Value.int .i64 0] : Array Value).size]!) = fun _ => Value.int .i64 0 := funext fun i => by
    rw [show (#[Value.int .i64 0] : Array Value).size = 1 from rfl, Nat.mod_one]; rfl
  unfold Builtin.zeroCells
  rw [e, Array.toList_map, List.map_const', Array.length_toList]
  simp
section
variable {P : Program} {bs : Base}
theorem q_clearI (l T : Nat) (xs ys : List Int) (d0 dn : Nat) {x : Operand} {t e bytes ty : TypeId} {pos : String} {af : Array Edge} {gd : Option (Nat × Bool)} (hE : Elem P t e 1 bytes) (hz : Zero P e [.int .i64 0]) (hd : d0 + dn ≤ xs.length) (hys : xs.take d0 ++ List.replicate dn 0 ++ xs.drop (d0 + dn) = ys) (hc : cOk [(x, ownV l (kInt .i64) d0 dn)]) :
    ORule P bs ⟨none, .call { callee := .builtin .clear, args := #[x], argTypes := #[t] }, ty, pos, af, gd⟩
      ⟨rtOf [(x, ownV l (kInt .i64) d0 dn)], [(l, .live (arrK T (kInt .i64) xs))], [], [(l, .live (arrK T (kInt .i64) ys))]⟩ :=
  .unitV rfl hc fun B S U s a w g hh he => by
    have hylen : ys.length = xs.length := by rw [← hys]; simp; omega
    obtain ⟨ht, inf, z, hi, hzo, _, _, _, _⟩ := hE
    obtain ⟨inf', z', hi', hzo', hzc⟩ := hz
    rw [hi] at hi'
    cases hi'
    rw [hzo] at hzo'
    cases hzo'
    have hzc : z.cells = #[.int .i64 0] := by rw [← Array.toList_inj]; exact hzc
    have elY : ∀ i, i < xs.length → ys.getD i 0 = if d0 ≤ i ∧ i < d0 + dn then 0 else xs.getD i 0 := by
      intro i hi
      rw [← hys]
      simp only [List.getD_eq_getElem?_getD, List.append_assoc]
      by_cases h1 : i < d0
      · rw [if_neg (by omega), List.getElem?_append_left (by simp; omega), List.getElem?_take, if_pos h1]
      · by_cases h2 : i < d0 + dn
        · rw [if_pos (by omega), List.getElem?_append_right (by simp; omega), List.getElem?_append_left (by simp; omega)]
          simp only [List.length_take, List.getElem?_replicate]
          rw [if_pos (by omega)]; rfl
        · rw [if_neg (by omega), List.getElem?_append_right (by simp; omega), List.getElem?_append_right (by simp; omega)]
          simp only [List.length_take, List.length_replicate, List.getElem?_drop]
          congr 2
          omega
    have g0 : ∀ (w' : World) (b κ : Nat) (cur' : Array Value), B l = some (some (b, κ)) → (∀ c, c ≠ b → w'.heap[c]? = w.heap[c]?) → w'.heap.size = w.heap.size → w'.heap[b]? = some (.cells cur' T (0, 0)) → cur'.size = κ → xs.length ≤ κ → κ ≤ maxLen → w'.os = w.os → w'.tape = w.tape → w'.output = w.output →
        (∀ i, i < ys.length → cur'[i]? = some (.int .i64 (ys.getD i 0))) → G bs B S U ⟨s.t, hset s.h l (.live (arrK T (kInt .i64) ys))⟩ a w' := by
      intro w' b κ cur' hb hoth hsz' hcur' hcs hxk hkm hos htp hop hel
      have hP : Pres (fun b => S b ∨ U b) w w' := fun c hc' => by
        have hU : U c := hc'.elim (g.su c) id
        exact hoth c fun e => g.sp l _ (b, κ) hh.1 hb (e ▸ hU)
      refine g.upd (fun k => k = l) _ (fun k hk => by simp [hget_hset, hk]) (fun _ _ h => h) (fun _ _ => rfl) (fun _ h => h) (fun _ h => h) g.su (fun b hb => by rw [hsz']; exact g.ub b hb) (fun _ h => .inl h) (fun _ h => .inl h)
        (fun k y' hk hy' => ?_) (fun k k' _ _ _ _ h h' _ _ hne => absurd (h.trans h'.symm) hne) (fun c hc hne => hoth c (hne l _ (b, κ) rfl hh.1 hb)) (fun k hk h => ?_) (fun k y q _ hk hq => g.sp k y q hk hq) (by omega) hos htp hop
      · subst hk
        rw [hget_hset, if_pos rfl] at hy'
        cases hy'
        refine ⟨.inr ⟨b, κ, cur', hb, hcur', by rw [hcs]; exact (Nat.mul_one κ).symm, by omega, hkm, fun i hi j hj => ?_⟩, fun p hp => ⟨g.sp k _ p hh.1 hp, g.cf k _ p hh.1 hp, fun k' o' q hk' ho' hq => g.nj k' k o' _ ho' hh.1 hk' q p hq hp⟩⟩
        have hj : j < 1 := hj
        refine ⟨_, ?_, (rfl : Value.int .i64 (ys.getD i 0) = _)⟩
        rw [show i * (kInt .i64).sz + j = i by rw [show (kInt .i64).sz = 1 from rfl]; omega]
        exact hel i hi
      · subst hk; rw [hget_hset, if_pos rfl] at h; cases h
    have hx : svOk B S U w (.own l 1 d0 dn) (a.eval x) := he.1
    have gsame : ys = xs → G bs B S U ⟨s.t, hset s.h l (.live (arrK T (kInt .i64) ys))⟩ a w := fun hysx => by
      rw [hysx]
      have hsame : ∀ k, hget (hsets s.h [(l, .live (arrK T (kInt .i64) xs))]) k = hget s.h k := fun k => by
        show hget (hset s.h l (.live (arrK T (kInt .i64) xs))) k = _
        rw [hget_hset]
        split
        · rename_i h; rw [h]; exact hh.1.symm
        · rfl
      exact { g with ob := fun k o' e => g.ob k o' (by rw [← hsame k]; exact e), nj := fun k k' o1 o2 e e' => g.nj k k' o1 o2 (by rw [← hsame k]; exact e) (by rw [← hsame k']; exact e'), sp := fun k o' p e => g.sp k o' p (by rw [← hsame k]; exact e), cf := fun k o' p e => g.cf k o' p (by rw [← hsame k]; exact e), fr := fun k e => g.fr k (by rw [← hsame k]; exact e) }
    rcases hx with ⟨hb, h0, hn0, hv⟩ | ⟨b, κ, o, cap, hb, hv, hcap, hle, ho⟩
    · have hysx : ys = xs := by rw [← hys, h0, hn0]; simp
      refine ⟨.tuple #[], w, B, S, U, ?_, gsame hysx⟩
      simp [execOp, resolve, invoke, builtin, hv, Builtin.clear_, run_underlying' ht, Sem.run_bind]
    · by_cases hd0 : dn = 0
      · have hysx : ys = xs := by rw [← hys, hd0]; simp
        refine ⟨.tuple #[], w, B, S, U, ?_, gsame hysx⟩
        subst hd0
        simp [execOp, resolve, invoke, builtin, hv, Builtin.clear_, run_underlying' ht, Sem.run_bind]
      · rcases g.ob l _ hh.1 with ⟨hob, _⟩ | ⟨b', κ', cur, hb', hcur, hcsz, hnk, hkm, hel⟩
        · rw [hb] at hob; cases hob
        · rw [hb] at hb'
          cases hb'
          have hblt : b < w.heap.size := (Array.getElem?_eq_some_iff.1 hcur).1
          have hcsz : cur.size = κ := by rw [hcsz]; exact Nat.mul_one κ
          have hod : o = d0 := by rw [ho (.inl (by omega))]; exact Nat.mul_one d0
          subst hod
          obtain ⟨cur', hrun, hsz', hget⟩ := run_storeCells (P := P) (b := b) (T := T) (List.replicate dn (Value.int .i64 0)) cur o 0 w hcur (by simp; omega) (fun v hv => by rw [List.mem_replicate] at hv; rw [hv.2]; rfl)
          refine ⟨.tuple #[], { w with heap := w.heap.setIfInBounds b (.cells cur' T (0, 0)) }, B, S, U, ?_, g0 _ b κ cur' hb (fun c hc => by simp [Array.getElem?_setIfInBounds, Ne.symm hc]) (by simp) (by simp [hblt]) (by rw [hsz', hcsz]) hnk hkm rfl rfl rfl (fun i hi => ?_)⟩
          · obtain ⟨dm, rfl⟩ : ∃ dm, dn = dm + 1 := ⟨dn - 1, by omega⟩
            have hclr : (Builtin.clear_ #[t] ty #[.slice (some ⟨b, o, none⟩) (dm + 1) cap]).run P w = .ok (.tuple #[]) { w with heap := w.heap.setIfInBounds b (.cells cur' T (0, 0)) } := by
              simp [Builtin.clear_, run_underlying' ht, Sem.run_bind, run_zeroValue hi hzo, hzc, zeroCells_int, hrun]
            simp only [execOp, resolve, hv, invoke, builtin, Sem.run_bind, Sem.run_pure, Result.andThen_ok, List.map_toArray, List.map_cons, List.map_nil]
            rw [hclr]
            rfl
          · rw [hget, elY i (by omega)]
            simp only [List.length_replicate, Nat.add_zero]
            by_cases hcase : o ≤ i ∧ i < o + dn
            · rw [if_pos hcase, if_pos hcase, List.getElem?_replicate, if_pos (by omega)]
            · rw [if_neg hcase, if_neg hcase]
              obtain ⟨u, hu, hdd⟩ := hel i (by omega) 0 (by decide)
              have hdd : u = .int .i64 (xs.getD i 0) := hdd
              rw [← hdd, ← hu, show i * (kInt .i64).sz + 0 = i from Nat.mul_one i]
end
end Go.Proofs.YtalapplihdmenaaGreat.Q
namespace Go.Proofs.YtalapplihdmenaaGreat.Q
set_option linter.unusedVariables false
set_option linter.unusedSimpArgs false
set_option maxRecDepth 100000
def filR (f : Int) (l : List Int) : List Int := l.filter fun s => decide (isReplica f s)
def allR (f : Int) (l : List Int) : Prop := ∀ s, s ∈ l → isReplica f s
instance (f : Int) (l : List Int) : Decidable (allR f l) := inferInstanceAs (Decidable (∀ s, s ∈ l → _))
def idxN (f : Int) (l : List Int) : Nat := l.findIdx fun s => decide (¬ isReplica f s)
def idxR (f : Int) (l : List Int) : Int := if allR f l then -1 else ((idxN f l : Nat) : Int)
section
variable {f : Int} {l xs ys : List Int} {i j k p q : Nat}
theorem getI {l : List Int} {j : Nat} (hj : j < l.length) : l.getD j 0 = l[j] := by rw [List.getD_eq_getElem?_getD, List.getElem?_eq_getElem hj]; rfl
theorem idxR_no (hb : ∀ j, j < k → isReplica f (l.getD j 0)) (hk : l.length ≤ k) : idxR f l = -1 := if_pos fun s hs => by
  obtain ⟨j, hj, rfl⟩ := List.getElem_of_mem hs
  rw [← getI hj]; exact hb j (by omega)
theorem idxR_at (hb : ∀ j, j < k → isReplica f (l.getD j 0)) (hk : k < l.length) (h : ¬ isReplica f (l.getD k 0)) : idxR f l = ((k : Nat) : Int) := by
  have hn : ¬ allR f l := fun w => h (w _ (getD_mem (z := 0) hk))
  rw [idxR, if_neg hn, idxN, (List.findIdx_eq hk).2 ⟨?_, fun j hj => ?_⟩]
  · rw [getI hk] at h; exact decide_eq_true h
  · have := hb j hj
    rw [getI (by omega)] at this
    exact decide_eq_false (fun w => w this)
theorem idxR_all (h : idxR f l = -1) : filR f l = l := by
  unfold idxR at h
  split at h
  · rename_i w; exact List.filter_eq_self.2 fun s hs => decide_eq_true (w s hs)
  · omega
theorem idxR_is (h : ¬ idxR f l = -1) : idxR f l = ((idxN f l : Nat) : Int) ∧ idxN f l < l.length ∧ l.take (idxN f l) = filR f (l.take (idxN f l + 1)) := by
  unfold idxR at h ⊢
  split at h
  · exact absurd rfl h
  · rename_i w
    rw [if_neg w]
    have hx : ∃ s, s ∈ l ∧ ¬ isReplica f s := Classical.byContradiction fun v => w fun s hs => Classical.byContradiction fun u => v ⟨s, hs, u⟩
    have hlt : idxN f l < l.length := List.findIdx_lt_length_of_exists (by obtain ⟨s, h1, h2⟩ := hx; exact ⟨s, h1, decide_eq_true h2⟩)
    refine ⟨rfl, hlt, ?_⟩
    have h1 : decide (¬ isReplica f (l[idxN f l]'hlt)) = true := List.findIdx_getElem (w := hlt)
    have h1 : ¬ isReplica f (l[idxN f l]'hlt) := by simpa using h1
    rw [tk_succ (z := 0) hlt, filR, List.filter_append, getI hlt, List.filter_cons_of_neg (by simpa using h1), List.filter_nil, List.append_nil]
    refine (List.filter_eq_self.2 fun s hs => ?_).symm
    obtain ⟨m, hm, rfl⟩ := List.getElem_of_mem hs
    have hm2 : m < idxN f l := by rw [List.length_take] at hm; omega
    have := List.not_of_lt_findIdx (p := fun s => decide (¬ isReplica f s)) (xs := l) hm2
    rw [List.getElem_take]
    simpa using this
theorem set_take (hi : i < ys.length) (v : Int) : (ys.set i v).take (i + 1) = ys.take i ++ [v] := by
  rw [tk_succ (z := 0) (by rw [List.length_set]; exact hi), List.take_set_of_le (Nat.le_refl _), List.getD_eq_getElem?_getD, List.getElem?_set_self hi]; rfl
theorem set_get {m : Nat} (v : Int) (h : m ≠ i) : (ys.set i v).getD m 0 = ys.getD m 0 := by rw [List.getD_eq_getElem?_getD, List.getD_eq_getElem?_getD, List.getElem?_set_ne (Ne.symm h)]
theorem del_yes (hij : i < j) (hj : j < xs.length) (hl : ys.length = xs.length) (h : ys.take i = filR f (xs.take j)) (hd : ∀ m, j ≤ m → ys.getD m 0 = xs.getD m 0) (hr : isReplica f (ys.getD j 0)) : (ys.set i (ys.getD j 0)).take (i + 1) = filR f (xs.take (j + 1)) ∧ ∀ m, j + 1 ≤ m → (ys.set i (ys.getD j 0)).getD m 0 = xs.getD m 0 := by
  refine ⟨?_, fun m hm => by rw [set_get _ (by omega)]; exact hd m (by omega)⟩
  have e := hd j (Nat.le_refl _)
  rw [e] at hr ⊢
  rw [set_take (by omega), h, tk_succ (z := 0) hj, filR, filR, List.filter_append, List.filter_cons_of_pos (by simpa using hr), List.filter_nil]
theorem del_no (hj : j < xs.length) (h : ys.take i = filR f (xs.take j)) (hd : ∀ m, j ≤ m → ys.getD m 0 = xs.getD m 0) (hr : ¬ isReplica f (ys.getD j 0)) : ys.take i = filR f (xs.take (j + 1)) ∧ ∀ m, j + 1 ≤ m → ys.getD m 0 = xs.getD m 0 := by
  refine ⟨?_, fun m hm => hd m (by omega)⟩
  have e := hd j (Nat.le_refl _)
  rw [e] at hr
  rw [h, tk_succ (z := 0) hj, filR, filR, List.filter_append, List.filter_cons_of_neg (by simpa using hr), List.filter_nil, List.append_nil]
theorem cut_end {z : List Int} {n : Nat} (hi : i ≤ ys.length) : (ys.take i ++ List.replicate n 0 ++ z).take i = ys.take i := by
  rw [List.append_assoc, List.take_append_of_le_length (by rw [List.length_take]; omega), List.take_of_length_le (by rw [List.length_take]; omega)]
theorem del_end (hj : xs.length ≤ j) (h : ys.take i = filR f (xs.take j)) : ys.take i = filR f xs := by rw [h, List.take_of_length_le hj]
theorem fil_len (f : Int) (l : List Int) : (filR f l).length ≤ l.length := List.length_filter_le _ _
def cptN (xs : List Int) : Nat → List Int
  | 0 => []
  | n + 1 => if 0 < n ∧ xs.getD n 0 = xs.getD (n - 1) 0 then cptN xs n else cptN xs n ++ [xs.getD n 0]
def cptL (xs : List Int) : List Int := cptN xs xs.length
theorem cpt_take : ∀ {n : Nat}, n ≤ xs.length → (∀ m, 1 ≤ m → m < n → ¬ xs.getD m 0 = xs.getD (m - 1) 0) → cptN xs n = xs.take n
  | 0, _, _ => rfl
  | n + 1, hn, h => by
    rw [cptN, if_neg (fun w => h n w.1 (by omega) w.2), cpt_take (by omega) fun m h1 h2 => h m h1 (by omega), tk_succ (z := 0) (by omega)]
theorem cpt_none (hk : xs.length ≤ k) (h : ∀ m, 1 ≤ m → m < k → ¬ xs.getD m 0 = xs.getD (m - 1) 0) : cptL xs = xs := by
  unfold cptL
  rw [cpt_take (Nat.le_refl _) fun m h1 h2 => h m h1 (by omega), List.take_of_length_le (Nat.le_refl _)]
theorem cpt_short (h : ((xs.length : Nat) : Int) < 2) : cptL xs = xs := cpt_none (k := xs.length) (Nat.le_refl _) fun m h1 h2 => by omega
theorem cpt_start (hk1 : 1 ≤ k) (hk : k < xs.length) (h : ∀ m, 1 ≤ m → m < k → ¬ xs.getD m 0 = xs.getD (m - 1) 0) (he : xs.getD k 0 = xs.getD (k - 1) 0) : xs.take k = cptN xs (k + 1) := by
  rw [cptN, if_pos ⟨by omega, he⟩, cpt_take (by omega) h]
theorem cpt_yes (hp : p < k + q) (hq : 1 ≤ q) (hl : ys.length = xs.length) (hk : k + q < xs.length) (h : ys.take p = cptN xs (k + q)) (hd : ∀ m, k + q - 1 ≤ m → ys.getD m 0 = xs.getD m 0) (hne : ys.getD (k + q) 0 ≠ ys.getD (k + (q - 1)) 0) : (ys.set p (ys.getD (k + q) 0)).take (p + 1) = cptN xs (k + (q + 1)) ∧ ∀ m, k + (q + 1) - 1 ≤ m → (ys.set p (ys.getD (k + q) 0)).getD m 0 = xs.getD m 0 := by
  refine ⟨?_, fun m hm => by rw [set_get _ (by omega)]; exact hd m (by omega)⟩
  rw [hd (k + q) (by omega), hd (k + (q - 1)) (by omega)] at hne
  rw [hd (k + q) (by omega), set_take (by omega), h, ← Nat.add_assoc, cptN, if_neg (fun w => hne (by rw [w.2]; congr 1; omega))]
theorem cpt_no (hp : p < k + q) (hq : 1 ≤ q) (hk : k + q < xs.length) (h : ys.take p = cptN xs (k + q)) (hd : ∀ m, k + q - 1 ≤ m → ys.getD m 0 = xs.getD m 0) (hne : ¬ ys.getD (k + q) 0 ≠ ys.getD (k + (q - 1)) 0) : ys.take p = cptN xs (k + (q + 1)) ∧ ∀ m, k + (q + 1) - 1 ≤ m → ys.getD m 0 = xs.getD m 0 := by
  refine ⟨?_, fun m hm => hd m (by omega)⟩
  have hne := Classical.not_not.1 hne
  rw [hd (k + q) (by omega), hd (k + (q - 1)) (by omega)] at hne
  rw [h, ← Nat.add_assoc, cptN, if_pos ⟨by omega, by rw [hne]; congr 1; omega⟩]
theorem cpt_end (hk : xs.length ≤ k + q) (hk2 : k + q ≤ xs.length) (h : ys.take p = cptN xs (k + q)) : ys.take p = cptL xs := by rw [h, show k + q = xs.length by omega]; rfl
end
def cntR (f : Int) (l : List Int) : Nat := ((List.range (3 * f + 1).toNat).filter fun (i : Nat) => decide (((i : Nat) : Int) ∈ l)).length
theorem cpt_mem {xs : List Int} {s : Int} : ∀ {n : Nat}, n ≤ xs.length → (s ∈ cptN xs n ↔ ∃ m, m < n ∧ xs.getD m 0 = s)
  | 0, _ => ⟨(fun h => by cases h), fun ⟨m, h, _⟩ => absurd h (Nat.not_lt_zero _)⟩
  | n + 1, hn => by
    rw [cptN]
    split
    · rename_i h
      rw [cpt_mem (n := n) (by omega)]
      exact ⟨fun ⟨m, h1, h2⟩ => ⟨m, by omega, h2⟩, fun ⟨m, h1, h2⟩ => by
        rcases Nat.lt_or_ge m n with q | q
        · exact ⟨m, q, h2⟩
        · exact ⟨n - 1, by omega, by rw [← h.2, show n = m by omega]; exact h2⟩⟩
    · rw [List.mem_append, List.mem_singleton, cpt_mem (n := n) (by omega)]
      exact ⟨fun w => w.elim (fun ⟨m, h1, h2⟩ => ⟨m, by omega, h2⟩) fun w => ⟨n, by omega, w.symm⟩, fun ⟨m, h1, h2⟩ => by
        rcases Nat.lt_or_ge m n with q | q
        · exact .inl ⟨m, q, h2⟩
        · exact .inr (by rw [← h2, show m = n by omega])⟩
theorem cpt_nodup {xs : List Int} (hs : ∀ i j, i ≤ j → j < xs.length → xs.getD i 0 ≤ xs.getD j 0) : ∀ {n : Nat}, n ≤ xs.length → (cptN xs n).Nodup
  | 0, _ => List.nodup_nil
  | n + 1, hn => by
    have ih := cpt_nodup hs (n := n) (by omega)
    rw [cptN]
    split
    · exact ih
    · rename_i h
      rw [List.nodup_append]
      refine ⟨ih, by simp, fun a ha b hb => ?_⟩
      rw [List.mem_singleton] at hb
      subst hb
      obtain ⟨m, h1, h2⟩ := (cpt_mem (by omega)).1 ha
      intro e
      have hn1 : xs.getD n 0 ≤ xs.getD (n - 1) 0 := by rw [← e, ← h2]; exact hs m (n - 1) (by omega) (by omega)
      have hn2 := hs (n - 1) n (by omega) (by omega)
      exact h ⟨by omega, by omega⟩
theorem sort_le {xs : List Int} : ∀ i j, i ≤ j → j < (sortI xs).length → (sortI xs).getD i 0 ≤ (sortI xs).getD j 0 := fun i j hij hj => by
  rcases Nat.lt_or_ge i j with q | q
  · have h : (sortI xs).Pairwise (fun x y => decide (x ≤ y) = true) := List.pairwise_mergeSort (fun a b c h1 h2 => by simp at h1 h2 ⊢; omega) (fun a b => by simp; omega) xs
    have := List.pairwise_iff_getElem.1 h i j (by omega) hj q
    rw [getI (by omega), getI hj]
    simpa using this
  · rw [show i = j by omega]; exact Int.le_refl _
theorem cnt_is {f : Int} (hf : 0 ≤ f ∧ f ≤ 2) (l : List Int) : (cptL (sortI (filR f l))).length = cntR f l := by
  have h1 : (cptL (sortI (filR f l))).Nodup := cpt_nodup sort_le (Nat.le_refl _)
  have h2 : (((List.range (3 * f + 1).toNat).filter fun (i : Nat) => decide (((i : Nat) : Int) ∈ l)).map Int.ofNat).Nodup := List.pairwise_map.2 ((List.nodup_range.sublist List.filter_sublist).imp fun hab e => hab (Int.ofNat.inj e))
  have hm : ∀ s, s ∈ cptL (sortI (filR f l)) ↔ s ∈ ((List.range (3 * f + 1).toNat).filter fun (i : Nat) => decide (((i : Nat) : Int) ∈ l)).map Int.ofNat := fun s => by
    have e1 : s ∈ cptL (sortI (filR f l)) ↔ s ∈ sortI (filR f l) := by
      unfold cptL
      rw [cpt_mem (Nat.le_refl _)]
      constructor
      · rintro ⟨m, h, rfl⟩; exact getD_mem h
      · intro h
        obtain ⟨m, hm, rfl⟩ := List.getElem_of_mem h
        exact ⟨m, hm, getI hm⟩
    rw [e1, sortI, List.mem_mergeSort, filR, List.mem_filter, List.mem_map]
    constructor
    · rintro ⟨h3, h4⟩
      have h4 : isReplica f s := by simpa using h4
      refine ⟨s.toNat, List.mem_filter.2 ⟨List.mem_range.2 (by have := h4.1; have := h4.2; omega), decide_eq_true ?_⟩, ?_⟩
      · rw [show ((s.toNat : Nat) : Int) = s by have := h4.1; omega]; exact h3
      · show ((s.toNat : Nat) : Int) = s; have := h4.1; omega
    · rintro ⟨i, h3, rfl⟩
      obtain ⟨h4, h5⟩ := List.mem_filter.1 h3
      have h4 := List.mem_range.1 h4
      exact ⟨by simpa using h5, decide_eq_true ⟨Int.natCast_nonneg _, by show ((i : Nat) : Int) < _; omega⟩⟩
  have := ((List.perm_ext_iff_of_nodup h1 h2).2 hm).length_eq
  rw [this, List.length_map]; rfl
end Go.Proofs.YtalapplihdmenaaGreat.Q
namespace Go.Proofs.YtalapplihdmenaaGreat.Q
open Go Go.RowKit
set_option linter.unusedVariables false
set_option linter.unusedSimpArgs false
set_option maxRecDepth 100000
set_option maxHeartbeats 4000000
theorem count_not (f : Int) (u : Int) (rows : List (authn_pair × Bool)) (s : Int) (hf : 0 ≤ f ∧ f ≤ 2) (hu : 0 ≤ u ∧ u ≤ 8) : Holds Tryz.prog 38 ⟨[vI s, pv 0 0], [.box 28 [.ptr 1 0], .box 98 [dI (3 * f + 1), dI u, .mref 2], mpK f_authn_pair kBool rows], vB (decide (¬ isReplica f s)), [.live (.box 28 [.ptr 1 0]), .live (.box 98 [dI (3 * f + 1), dI u, .mref 2]), .live (mpK f_authn_pair kBool rows)]⟩ := by
 refine Holds.of Tryz.func38 rfl (N := 8) Tryz.ntmps38 rfl fun w0 B0 S0 U0 => ?_
 show T _ (mkBase 8 3 w0 S0 U0 B0) ⟨[vI s, pv 0 0], [.live (.box 28 [.ptr 1 0]), .live (.box 98 [dI (3 * f + 1), dI u, .mref 2]), .live (mpK f_authn_pair kBool rows)]⟩ _ _
 refine sR [] ?_
 refine sR [hR 2 rfl rfl (rCa (authn_Replica f u rows s ‹_› ‹_›) Tryz.func39 [1, 2] [(.tmp 4, pv 1 0), (.tmp 5, vI s)] 2 2)] ?_
 refine T.ret ?_
 exact eRt 3 (.one (dB (!(decide (isReplica f s))))) [0, 1, 2] (cB (by exact decide_not)) (ix (ix (ix trivial)))
theorem zero_3 : Zero Tryz.prog 3 [.int .i64 0] := ⟨_, _, iat_3, rfl, rfl⟩
theorem elem_55 : Elem Tryz.prog 55 3 1 8 := ⟨Tryz.underlying55, _, _, iat_3, rfl, rfl, rfl, rfl, by decide⟩
theorem clone_int (tx : Bool) (nx : Bool) (x : List Int) (hx : x.length ≤ 1000000) : Holds Tryz.prog 37 ⟨[slV tx nx (kInt .i64) x], [], ownV 0 (kInt .i64) 0 x.length, [.live (arrK 3 (kInt .i64) x)]⟩ := by
 refine Holds.of Tryz.func37 rfl (N := 8) Tryz.ntmps37 rfl fun w0 B0 S0 U0 => ?_
 show T _ (mkBase 8 0 w0 S0 U0 B0) ⟨[slV tx nx (kInt .i64) x], []⟩ _ _
 cases nx
 ·refine T.nilOr (k := 0) rfl (fun h0 => ?_) ?_
  ·have h0 := List.eq_nil_of_length_eq_zero h0
   subst h0
   show T _ _ ⟨[dv (.slice none 0 0)], []⟩ _ _
   refine sR [] ?_
   refine T.seq ?_
   refine sR [hR 1 rfl rfl (r_bin (u1 := .slice none 0 0) (u2 := .slice none 0 0) (v := .bool true) (b_eqlNilS Tryz.underlying55) (lt_of rfl) ⟨rfl, trivial⟩)] ?_
   refine cT (b := true) rfl ?_
   refine sR [] ?_
   refine T.ret (rT ?_)
   refine eN ⟨[dv (.slice none 0 0), aa, dv (.slice none 0 0), aa, vB true], []⟩ ?_
   refine Ends.turn (s' := ⟨[dv (.slice none 0 0), aa, ownV 0 (kInt .i64) 0 0, aa, vB true], [.live (arrK 3 (kInt .i64) ([] : List Int))]⟩) (fun _ _ hG => Gs.absent 0 2 3 (kInt .i64) rfl rfl hG) ?_
   exact eRt 2 (.one (.own 0 (kInt .i64).sz 0 0)) [0] (congrArg (fun (q1 : Nat) => (ownV 0 (kInt .i64) 0 q1 : AV)) (by rfl)) (ix trivial)
  show T _ _ ⟨[slV tx true (kInt .i64) x], []⟩ _ _
  refine sR [] ?_
  refine T.seq ?_
  refine sR [hR 1 rfl rfl (r_eqNil (s := .d (dsl tx true (kInt .i64) x)) Tryz.underlying55 (.inl rfl) (lt_of rfl) ⟨rfl, trivial⟩)] ?_
  refine cF (b := false) rfl ?_
  refine T.skip (nT ?_)
  refine sR [hR 0 rfl rfl (q_buildSlice 0 3 (kInt .i64) (kInt_ok .i64) ([] : List Int) [] (cs := []) Tryz.underlying55 iat_3 rfl zero_3 rfl rfl rfl (Nat.le_of_ble_eq_true rfl) part_ok (by kernel_rfl) (wk_eq (by kernel_rfl)) (lt_of rfl) trivial),
    hR 2 rfl rfl (q_appendO 0 1 3 8 (kInt .i64) (kInt_ok .i64) ([] : List Int) x x ([] : List Int).length (sy := (.d (dsl tx true (kInt .i64) x))) (rhs := []) elem_55 (by omega) (src_sl tx true (kInt .i64) x) (by simp) (by (simp [maxLen, -List.getD_eq_getElem?_getD] <;> omega)) (by (simp [maxLen, -List.getD_eq_getElem?_getD] <;> omega)) (lt_of rfl) trivial)] ?_
  refine T.ret ?_
  exact eRt 2 (.one (.own 1 (kInt .i64).sz 0 x.length)) [1] rfl (ix trivial)
 refine sR [] ?_
 refine T.seq ?_
 refine sR [hR 1 rfl rfl (r_eqNil (s := .d (dsl tx true (kInt .i64) x)) Tryz.underlying55 (.inl rfl) (lt_of rfl) ⟨rfl, trivial⟩)] ?_
 refine cF (b := false) rfl ?_
 refine T.skip (nT ?_)
 refine sR [hR 0 rfl rfl (q_buildSlice 0 3 (kInt .i64) (kInt_ok .i64) ([] : List Int) [] (cs := []) Tryz.underlying55 iat_3 rfl zero_3 rfl rfl rfl (Nat.le_of_ble_eq_true rfl) part_ok (by kernel_rfl) (wk_eq (by kernel_rfl)) (lt_of rfl) trivial),
   hR 2 rfl rfl (q_appendO 0 1 3 8 (kInt .i64) (kInt_ok .i64) ([] : List Int) x x ([] : List Int).length (sy := (.d (dsl tx true (kInt .i64) x))) (rhs := []) elem_55 (by omega) (src_sl tx true (kInt .i64) x) (by simp) (by (simp [maxLen, -List.getD_eq_getElem?_getD] <;> omega)) (by (simp [maxLen, -List.getD_eq_getElem?_getD] <;> omega)) (lt_of rfl) trivial)] ?_
 refine T.ret ?_
 exact eRt 2 (.one (.own 1 (kInt .i64).sz 0 x.length)) [1] rfl (ix trivial)
section
variable (f : Int) (u : Int) (rows : List (authn_pair × Bool)) (tx : Bool) (nx : Bool) (x : List Int) (k : Nat)
abbrev Zc : List HS := [.live (.box 28 [.ptr 1 0]), .live (.box 98 [dI (3 * f + 1), dI u, .mref 2]), .live (mpK f_authn_pair kBool rows)]
abbrev Zd : AV := vI ((x.length : Nat) : Int)
end
theorem index_int (f : Int) (u : Int) (rows : List (authn_pair × Bool)) (tx : Bool) (nx : Bool) (x : List Int) (hf : 0 ≤ f ∧ f ≤ 2) (hu : 0 ≤ u ∧ u ≤ 8) (hx : x.length ≤ 1000000) : Holds Tryz.prog 60 ⟨[slV tx nx (kInt .i64) x, sv (.clo 38 [0])], [.box 28 [.ptr 1 0], .box 98 [dI (3 * f + 1), dI u, .mref 2], mpK f_authn_pair kBool rows], vI (idxR f x), [.live (.box 28 [.ptr 1 0]), .live (.box 98 [dI (3 * f + 1), dI u, .mref 2]), .live (mpK f_authn_pair kBool rows)]⟩ := by
 refine Holds.of Tryz.func60 rfl (N := 19) Tryz.ntmps60 rfl fun w0 B0 S0 U0 => ?_
 show T _ (mkBase 19 3 w0 S0 U0 B0) ⟨[slV tx nx (kInt .i64) x, sv (.clo 38 [0])], (Zc f u rows)⟩ _ _
 refine sR [] ?_
 refine T.seq ?_
 refine sR [] ?_
 refine T.block ?_
 refine T.loop (ι := Nat) (fun (k : Nat) => ⟨[slV tx nx (kInt .i64) x, sv (.clo 38 [0]), aa, aa, vI 0, aa, aa, (Zd x), vI ((k : Nat) : Int)], (Zc f u rows)⟩) (fun (k : Nat) => (k ≤ x.length) ∧ (∀ j, j < k → isReplica f (x.getD j 0))) (fun (k : Nat) => x.length - k) (0) ⟨(Nat.zero_le _), (fun j hj => absurd hj (Nat.not_lt_zero _))⟩ (fun _ _ hG => Gs.iI [0, 1, 2] (bm 9 403) rfl rfl hG) ?_
 rintro k ⟨hk, hb⟩
 show T _ _ ⟨[slV tx nx (kInt .i64) x, sv (.clo 38 [0]), aa, aa, vI 0, aa, aa, (Zd x), vI ((k : Nat) : Int)], (Zc f u rows)⟩ _ _
 replace hk : k ≤ x.length := hk
 replace hb : ∀ j, j < k → isReplica f (x.getD j 0) := hb
 refine sR [] ?_
 refine T.seq ?_
 by_cases hq1 : ((k : Nat) : Int) < ((x.length : Nat) : Int)
 ·refine cT (dT hq1) ?_
  refine T.skip (nT (T.seq ?_))
  refine T.block ?_
  refine sR [] ?_
  refine sR [hR 3 rfl rfl (q_index tx nx (kInt .i64) x k (k := .i64) (i := ((k : Nat) : Int)) Tryz.underlying55 iat_3 rfl rfl (by omega) (lt_of rfl) trivial),
    hR 5 rfl rfl (r_callC (ls := [0]) (count_not f u rows (x.getD k 0) ‹_› ‹_›) Tryz.func38 rfl (by decide) [0, 1, 2] [] (l := [(.tmp 15, vI (x.getD k 0))]) [] rfl 3 3 rfl rfl rfl rfl rfl rfl rfl rfl rfl ⟨.inl ⟨rfl, rfl⟩, ⟨.inl ⟨rfl, rfl⟩, trivial⟩⟩ rfl (fun b hb => by cases hb) (.inl rfl) (lt_of rfl) trivial)] ?_
  by_cases hq2 : ¬ isReplica f (x.getD k 0)
  ·refine cT (dT hq2) ?_
   refine sR [] ?_
   refine T.ret (rB (rT (rT (rB (rT ?_)))))
   exact eRt 4 (.one (dI ((k : Nat) : Int))) [0, 1, 2] (cI (by exact idxR_at hb (by omega) ‹_›)) (ix (ix (ix trivial)))
  refine cF (dF hq2) ?_
  refine T.skip ?_
  refine nB ?_
  refine nT ?_
  refine xK [hR 0 rfl rfl (r_bin (u1 := .int .i64 ((k : Nat) : Int)) (u2 := .int .i64 1) (v := .int .i64 ((k + 1 : Nat) : Int)) (b_add (by rw [IntKind.wrap_i64]; omega)) (lt_of rfl) ⟨rfl, trivial⟩)] ?_
  refine nL (k + 1) ⟨(show (k + 1) ≤ x.length from (by omega)), (show ∀ j, j < (k + 1) → isReplica f (x.getD j 0) from (all_succ hb (Classical.not_not.1 ‹_›)))⟩ (show (x.length - (k + 1) : Nat) < x.length - k from (by omega)) (fun _ _ hG => Gs.iI [0, 1, 2] (bm 9 403) rfl rfl hG)
 refine cF (dF hq1) ?_
 refine T.exit ?_
 refine xT ?_
 refine xT ?_
 refine xH ?_
 refine nT ?_
 refine sR [] ?_
 refine T.ret ?_
 exact eRt 4 (.one (dI (-1))) [0, 1, 2] (cI (by exact idxR_no hb (by omega))) (ix (ix (ix trivial)))
end Go.Proofs.YtalapplihdmenaaGreat.Q
