import Derived.Test.YtacikihlgpnjhaaM01X
namespace Go.Proofs.Ytacikihlgpnjhaa.Q
set_option linter.unusedVariables false
set_option linter.unusedSimpArgs false
set_option maxRecDepth 100000

/-! ### Blocks that are read -/

structure GtS where
  rest : List UInt8
  e : Int
  rq : List api_Envelope
  rs : List api_Result
def gR1 (x : List UInt8) : List UInt8 := rdR x 0 8 0
def gE1 (x : List UInt8) : Int := rdE x 0 8 0
def gR2 (x : List UInt8) : List UInt8 := rdYR (gR1 x) (gE1 x) ((x.length : Nat) : Int)
def gE2 (x : List UInt8) : Int := rdYE (gR1 x) (gE1 x) ((x.length : Nat) : Int)
def gP (x : List UInt8) : List UInt8 := rdY (gR1 x) (gE1 x) ((x.length : Nat) : Int)
def gN (x : List UInt8) : Nat := rdC (gR2 x) (gE2 x) 4
def startG (x : List UInt8) : GtS := ⟨rdR (gR2 x) (gE2 x) 4 (limE 4 ((gR2 x).take 4)), rdE (gR2 x) (gE2 x) 4 (limE 4 ((gR2 x).take 4)), [], []⟩
def stepG (M : Int) (s : GtS) : GtS :=
  ⟨rdR (rdR (rdYR (rdR s.rest s.e 8 0) (rdE s.rest s.e 8 0) M) (rdYE (rdR s.rest s.e 8 0) (rdE s.rest s.e 8 0) M) 8 0) (rdE (rdYR (rdR s.rest s.e 8 0) (rdE s.rest s.e 8 0) M) (rdYE (rdR s.rest s.e 8 0) (rdE s.rest s.e 8 0) M) 8 0) 8 0,
   rdE (rdR (rdYR (rdR s.rest s.e 8 0) (rdE s.rest s.e 8 0) M) (rdYE (rdR s.rest s.e 8 0) (rdE s.rest s.e 8 0) M) 8 0) (rdE (rdYR (rdR s.rest s.e 8 0) (rdE s.rest s.e 8 0) M) (rdYE (rdR s.rest s.e 8 0) (rdE s.rest s.e 8 0) M) 8 0) 8 0,
   s.rq ++ [⟨rdI s.rest s.e, rdY (rdR s.rest s.e 8 0) (rdE s.rest s.e 8 0) M⟩],
   s.rs ++ [⟨rdI (rdYR (rdR s.rest s.e 8 0) (rdE s.rest s.e 8 0) M) (rdYE (rdR s.rest s.e 8 0) (rdE s.rest s.e 8 0) M), rdI (rdR (rdYR (rdR s.rest s.e 8 0) (rdE s.rest s.e 8 0) M) (rdYE (rdR s.rest s.e 8 0) (rdE s.rest s.e 8 0) M) 8 0) (rdE (rdYR (rdR s.rest s.e 8 0) (rdE s.rest s.e 8 0) M) (rdYE (rdR s.rest s.e 8 0) (rdE s.rest s.e 8 0) M) 8 0)⟩]⟩
def runG (x : List UInt8) : Nat → GtS
  | 0 => startG x
  | k + 1 => stepG ((x.length : Nat) : Int) (runG x k)
def gF (x : List UInt8) : GtS := runG x (gN x)
def gK (x : List UInt8) : api_Block := ⟨rdI x 0, gP x, (gF x).rq, (gF x).rs⟩
def okG (x : List UInt8) : Prop := rdX (gF x).rest (gF x).e = 0 ∧ chkB (gK x) = 0
instance (x : List UInt8) : Decidable (okG x) := inferInstanceAs (Decidable (_ ∧ _))
def getB (x : List UInt8) : api_Block := if okG x then gK x else z_api_Block
def getE (x : List UInt8) : Int := if okG x then 0 else 12
theorem gR2_len (x : List UInt8) : (gR2 x).length ≤ x.length := Nat.le_trans (rdYR_len _ _ _) (rdR_len _ _ _ _)
theorem stepG_len (M : Int) (s : GtS) : (stepG M s).rest.length ≤ s.rest.length := Nat.le_trans (rdR_len _ _ _ _) (Nat.le_trans (rdR_len _ _ _ _) (Nat.le_trans (rdYR_len _ _ _) (rdR_len _ _ _ _)))
theorem runG_len (x : List UInt8) : ∀ k, (runG x k).rest.length ≤ x.length ∧ (runG x k).rq.length = k ∧ (runG x k).rs.length = k
  | 0 => ⟨Nat.le_trans (rdR_len _ _ _ _) (gR2_len x), rfl, rfl⟩
  | k + 1 => by
    obtain ⟨h1, h2, h3⟩ := runG_len x k
    refine ⟨Nat.le_trans (stepG_len _ _) h1, ?_, ?_⟩
    · show ((runG x k).rq ++ [_]).length = _; rw [List.length_append, List.length_singleton, h2]
    · show ((runG x k).rs ++ [_]).length = _; rw [List.length_append, List.length_singleton, h3]
theorem runG_fact (x : List UInt8) (k : Nat) {M : Int} : (rdR (runG x k).rest (runG x k).e 8 0).length ≤ x.length ∧ (rdYR (rdR (runG x k).rest (runG x k).e 8 0) (rdE (runG x k).rest (runG x k).e 8 0) M).length ≤ x.length ∧ (rdY (rdR (runG x k).rest (runG x k).e 8 0) (rdE (runG x k).rest (runG x k).e 8 0) M).length ≤ x.length ∧
    (rdR (rdYR (rdR (runG x k).rest (runG x k).e 8 0) (rdE (runG x k).rest (runG x k).e 8 0) M) (rdYE (rdR (runG x k).rest (runG x k).e 8 0) (rdE (runG x k).rest (runG x k).e 8 0) M) 8 0).length ≤ x.length := by
  have h0 := (runG_len x k).1
  have h1 : (rdR (runG x k).rest (runG x k).e 8 0).length ≤ x.length := Nat.le_trans (rdR_len _ _ _ _) h0
  have h2 := Nat.le_trans (rdYR_len (rdR (runG x k).rest (runG x k).e 8 0) (rdE (runG x k).rest (runG x k).e 8 0) M) h1
  exact ⟨h1, h2, Nat.le_trans (rdY_len _ _ _) h1, Nat.le_trans (rdR_len _ _ _ _) h2⟩
theorem gN_le (x : List UInt8) : gN x ≤ 4 := by have := rdC_le (gR2 x) (gE2 x) 4 (by decide); unfold gN; omega

/-! ### What was put is read -/

theorem leaf_app (e : api_Envelope) (r : api_Result) (q : List UInt8) : leafB e r ++ q = intB e.f_Signer ++ (bytesB e.f_Body ++ (intB r.f_Code ++ (intB r.f_Stage ++ q))) := by simp [leafB, List.append_assoc]
theorem step_leaf {M : Int} {e : api_Envelope} {r : api_Result} {q : List UInt8} {a : List api_Envelope} {b : List api_Result} (h1 : i64R e.f_Signer) (h2 : i64R r.f_Code) (h3 : i64R r.f_Stage) (h4 : e.f_Body.length ≤ 4294967295) (hM : ((e.f_Body.length : Nat) : Int) ≤ M) :
    stepG M ⟨leafB e r ++ q, 0, a, b⟩ = ⟨q, 0, a ++ [e], b ++ [r]⟩ := by
  obtain ⟨a1, a2, a3⟩ := back_intX h1 (bytesB e.f_Body ++ (intB r.f_Code ++ (intB r.f_Stage ++ q)))
  obtain ⟨b1, b2, b3⟩ := back_bytesM (most := M) h4 (intB r.f_Code ++ (intB r.f_Stage ++ q)) hM
  obtain ⟨c1, c2, c3⟩ := back_intX h2 (intB r.f_Stage ++ q)
  obtain ⟨d1, d2, d3⟩ := back_intX h3 q
  rw [leaf_app]
  unfold stepG
  simp only []
  rw [a1, a2, a3, b1, b2, b3, c1, c2, c3, d1, d2, d3]
theorem get_put {b : api_Block} (hf : fewB b) (hr : rangeB b) (hc : chkB b = 0) : getE (putB b) = 0 ∧ getB (putB b) = b := by
  obtain ⟨c1, c2, c3, c4⟩ := chk_all hc
  have hl := leaves_len b
  have hn : (leavesB b).length = b.f_Requests.length := by omega
  have hx : putB b = intB b.f_Height ++ (bytesB b.f_Prev ++ (cntB (((leavesB b).length : Nat) : Int) ++ (leavesB b).flatten)) := by
    rw [putB, if_pos hc, outB, List.take_length]; simp [List.append_assoc]
  generalize hxx : putB b = x at hx
  have hlen : (bytesB b.f_Prev ++ (cntB (((leavesB b).length : Nat) : Int) ++ (leavesB b).flatten)).length ≤ x.length := by rw [hx]; simp
  have hpl : b.f_Prev.length ≤ x.length := by have := hlen; rw [List.length_append, bytes_len] at this; omega
  obtain ⟨a1, a2, a3⟩ := back_intX hr.1 (bytesB b.f_Prev ++ (cntB (((leavesB b).length : Nat) : Int) ++ (leavesB b).flatten))
  have hp3 := hf.2.2
  obtain ⟨b1, b2, b3⟩ := back_bytesM (most := ((x.length : Nat) : Int)) (x := b.f_Prev) (by omega) (cntB (((leavesB b).length : Nat) : Int) ++ (leavesB b).flatten) (by omega)
  obtain ⟨d1, d2, d3⟩ := back_cntM (most := 4) (((leavesB b).length : Nat) : Int) (leavesB b).flatten (by rw [cntN_of (by omega)]; omega)
  have e1 : gR1 x = bytesB b.f_Prev ++ (cntB (((leavesB b).length : Nat) : Int) ++ (leavesB b).flatten) := by unfold gR1; rw [hx]; exact a2
  have e2 : gE1 x = 0 := by unfold gE1; rw [hx]; exact a3
  have e0 : rdI x 0 = b.f_Height := by rw [hx]; exact a1
  have e3 : gP x = b.f_Prev := by unfold gP; rw [e1, e2]; exact b1
  have e4 : gR2 x = cntB (((leavesB b).length : Nat) : Int) ++ (leavesB b).flatten := by unfold gR2; rw [e1, e2]; exact b2
  have e5 : gE2 x = 0 := by unfold gE2; rw [e1, e2]; exact b3
  have e6 : gN x = (leavesB b).length := by unfold gN; rw [e4, e5, d1, cntN_of (by omega)]
  have e7 : startG x = ⟨(leavesB b).flatten, 0, [], []⟩ := by unfold startG; rw [e4, e5, d2, d3]
  have run : ∀ k, k ≤ (leavesB b).length → runG x k = ⟨((leavesB b).drop k).flatten, 0, b.f_Requests.take k, b.f_Results.take k⟩ := by
    intro k
    induction k with
    | zero => intro _; exact e7
    | succ k ih =>
      intro hk
      show stepG _ (runG x k) = _
      have hrest := (runG_len x k).1
      rw [ih (by omega)] at hrest ⊢
      have e : ((leavesB b).drop k).flatten = leafB (b.f_Requests.getD k z_api_Envelope) (b.f_Results.getD k z_api_Result) ++ ((leavesB b).drop (k + 1)).flatten := by
        rw [List.drop_eq_getElem_cons (by omega), List.flatten_cons, ← leaves_get (by omega) (by omega), List.getD_eq_getElem?_getD, List.getElem?_eq_getElem (by omega)]
        rfl
      have hb : (b.f_Requests.getD k z_api_Envelope).f_Body.length ≤ 500 := fewG_get (sz := szE) hf.1 (by decide) k
      obtain ⟨r1, r2⟩ := all_getR (p := fun r => i64R r.f_Code ∧ i64R r.f_Stage) (z := z_api_Result) (k := k) hr.2.2 (by omega)
      have hbl : (b.f_Requests.getD k z_api_Envelope).f_Body.length ≤ x.length := by
        have : (((leavesB b).drop k).flatten).length ≤ x.length := hrest
        rw [e, List.length_append, leafB_len] at this
        omega
      rw [e, step_leaf (all_getR (p := fun e => i64R e.f_Signer) (z := z_api_Envelope) (k := k) hr.2.1 (by omega)) r1 r2 (by omega) (by omega), tk_succ (z := z_api_Envelope) (by omega), tk_succ (z := z_api_Result) (by omega)]
  have hF : gF x = ⟨[], 0, b.f_Requests, b.f_Results⟩ := by
    unfold gF
    rw [e6, run _ (Nat.le_refl _), List.drop_length, List.take_of_length_le (by omega), List.take_of_length_le (by omega)]
    rfl
  have hK : gK x = b := by unfold gK; rw [hF, e0, e3]
  have hok : okG x := ⟨by rw [hF]; rfl, by rw [hK]; exact hc⟩
  exact ⟨if_pos hok, (if_pos hok).trans hK⟩
theorem get_nil : getE [] = 12 ∧ getB [] = z_api_Block := by
  have : ¬ okG [] := by decide
  exact ⟨if_neg this, if_neg this⟩

/-! ### What is read was put -/

theorem step_back {M : Int} {s : GtS} (h : (stepG M s).e = 0) : s.e = 0 ∧ ∃ e r, (stepG M s).rq = s.rq ++ [e] ∧ (stepG M s).rs = s.rs ++ [r] ∧ s.rest = leafB e r ++ (stepG M s).rest := by
  obtain ⟨d1, d2⟩ := read_intX (r := rdR (rdYR (rdR s.rest s.e 8 0) (rdE s.rest s.e 8 0) M) (rdYE (rdR s.rest s.e 8 0) (rdE s.rest s.e 8 0) M) 8 0) h
  obtain ⟨c1, c2⟩ := read_intX d1
  obtain ⟨b1, b2, _⟩ := read_bytes c1
  obtain ⟨a1, a2⟩ := read_intX b1
  refine ⟨a1, _, _, rfl, rfl, ?_⟩
  rw [leaf_app]
  show _ = _ ++ (_ ++ (_ ++ (_ ++ rdR _ _ 8 0)))
  rw [← d2, ← c2, ← b2, ← a2]
theorem put_get {x : List UInt8} (h : okG x) : putB (gK x) = x := by
  obtain ⟨hx, hc⟩ := h
  obtain ⟨x1, x2⟩ := rdX_ok hx
  obtain ⟨c1, c2, c3, c4⟩ := chk_all hc
  have hl := runG_len x (gN x)
  have run : ∀ k, (runG x k).e = 0 → (startG x).e = 0 ∧ (startG x).rest = (List.zipWith leafB (runG x k).rq (runG x k).rs).flatten ++ (runG x k).rest := by
    intro k
    induction k with
    | zero => exact fun h => ⟨h, rfl⟩
    | succ k ih =>
      intro h
      obtain ⟨s1, e, r, s2, s3, s4⟩ := step_back (M := ((x.length : Nat) : Int)) (s := runG x k) h
      obtain ⟨i1, i2⟩ := ih s1
      refine ⟨i1, ?_⟩
      show _ = (List.zipWith leafB (stepG ((x.length : Nat) : Int) (runG x k)).rq (stepG ((x.length : Nat) : Int) (runG x k)).rs).flatten ++ (stepG ((x.length : Nat) : Int) (runG x k)).rest
      have hk := runG_len x k
      rw [s2, s3, List.zipWith_append (by omega), i2]
      simp only [List.zipWith_cons_cons, List.zipWith_nil_left, List.flatten_append, List.flatten_cons, List.flatten_nil, List.append_nil, List.append_assoc]
      rw [← s4]
  obtain ⟨s1, s2⟩ := run (gN x) x1
  obtain ⟨n1, n2, n3⟩ := read_cnt (rest := gR2 x) (e := gE2 x) (most := 4) s1
  obtain ⟨p1, p2, _⟩ := read_bytes (rest := gR1 x) (e := gE1 x) (most := ((x.length : Nat) : Int)) n1
  obtain ⟨_, q2⟩ := read_intX (r := x) (e := 0) p1
  have hlv : leavesB (gK x) = List.zipWith leafB (gF x).rq (gF x).rs := rfl
  have hrest : (startG x).rest = (leavesB (gK x)).flatten := by
    rw [s2, hlv]
    show _ ++ (gF x).rest = _
    rw [x2, List.append_nil]
    rfl
  have hln : (leavesB (gK x)).length = gN x := by
    have := leaves_len (gK x)
    have h1 : (gK x).f_Requests.length = gN x := hl.2.1
    have h2 : (gK x).f_Results.length = gN x := hl.2.2
    omega
  rw [putB, if_pos hc, outB, List.take_length, hln, ← hrest]
  conv => rhs; rw [q2]
  show intB (rdI x 0) ++ bytesB (gP x) ++ cntB (((gN x : Nat)) : Int) ++ (startG x).rest = intB (rdI x 0) ++ gR1 x
  rw [List.append_assoc, List.append_assoc]
  congr 1
  have : gR1 x = bytesB (gP x) ++ gR2 x := p2
  rw [this]
  congr 1
  exact n2.symm
theorem body_le (x : List UInt8) : ∀ k e, e ∈ (runG x k).rq → szE e ≤ x.length
  | 0, e, h => by cases h
  | k + 1, e, h => by
    have h : e ∈ (runG x k).rq ++ [_] := h
    rcases List.mem_append.1 h with h | h
    · exact body_le x k e h
    · rw [List.mem_singleton.1 h]
      exact (runG_fact x k).2.2.1
theorem get_wide {x : List UInt8} (hx : x.length ≤ 10000) : fewW (getB x) := by
  unfold getB
  split
  · have hl := runG_len x (gN x)
    have := gN_le x
    have h1 : (gK x).f_Requests.length = gN x := hl.2.1
    have h2 : (gK x).f_Results.length = gN x := hl.2.2
    have h3 : (gK x).f_Prev.length ≤ x.length := Nat.le_trans (rdY_len _ _ _) (rdR_len _ _ _ _)
    exact ⟨⟨by omega, fun e he => Nat.le_trans (body_le x (gN x) e he) (by omega)⟩, by omega, by omega⟩
  · decide
theorem back10 {b : api_Block} (hf : fewB b) (hr : rangeB b) : (getE (putB b) = 0 ↔ chkB b = 0) ∧ (getE (putB b) = 0 → b = getB (putB b)) := by
  by_cases hc : chkB b = 0
  · obtain ⟨h1, h2⟩ := get_put hf hr hc
    exact ⟨⟨fun _ => hc, fun _ => h1⟩, fun _ => h2.symm⟩
  · have : putB b = [] := if_neg hc
    rw [this]
    have h := get_nil.1
    exact ⟨⟨fun h' => (by rw [h] at h'; cases h'), fun h' => absurd h' hc⟩, fun h' => (by rw [h] at h'; cases h')⟩
theorem forth10 {x : List UInt8} (h : getE x = 0) : putB (getB x) = x := by
  unfold getE at h
  split at h
  · rename_i hk
    rw [show getB x = gK x from if_pos hk]
    exact put_get hk
  · cases h
theorem put_len {b : api_Block} (h : fewW b) : (putB b).length ≤ 11000000 := by
  unfold putB
  split
  · have h1 := out_lenW h (leavesB b).length
    have h2 := (few_leavesW h).1
    omega
  · simp
theorem get_few {x : List UInt8} (hx : x.length ≤ 10000) (h : okG x) : (gK x).f_Requests.length ≤ 4 ∧ (gK x).f_Results.length ≤ 4 ∧ (gK x).f_Prev.length ≤ 10000 := by
  have hl := runG_len x (gN x)
  have := gN_le x
  have h1 : (gK x).f_Requests.length = gN x := hl.2.1
  have h2 : (gK x).f_Results.length = gN x := hl.2.2
  refine ⟨by omega, by omega, Nat.le_trans (rdY_len _ _ _) (Nat.le_trans (rdR_len _ _ _ _) hx)⟩
end Go.Proofs.Ytacikihlgpnjhaa.Q
