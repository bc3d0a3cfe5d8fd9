import Derived.Test.YtacikihlgpnjhaaM09A
namespace Go.Proofs.Ytacikihlgpnjhaa.Q
set_option linter.unusedVariables false
set_option linter.unusedSimpArgs false
set_option maxRecDepth 100000

/-! ### Blocks -/

abbrev zE := z_api_Envelope
abbrev zR := z_api_Result
def intsB (l : List Int) : List UInt8 := l.flatMap intB
theorem ints_succ {l : List Int} {k : Nat} (hk : k < l.length) : intsB (l.take (k + 1)) = intsB (l.take k) ++ intB (l.getD k 0) := by
  rw [tk_succ (z := 0) hk]; simp [intsB]
theorem ints_one {l : List Int} (hk : 0 < l.length) : intsB (l.take 1) = intB (l.getD 0 0) := by rw [ints_succ hk]; simp [intsB]
theorem ints_len (l : List Int) : (intsB l).length = 8 * l.length := by
  induction l with
  | nil => rfl
  | cons a r ih =>
    have : intsB (a :: r) = intB a ++ intsB r := by simp [intsB]
    rw [this, List.length_append, ih, int_len, List.length_cons]
    omega
def leafB (e : api_Envelope) (r : api_Result) : List UInt8 := intB e.f_Signer ++ bytesB e.f_Body ++ intB r.f_Code ++ intB r.f_Stage
theorem leafB_len (e : api_Envelope) (r : api_Result) : (leafB e r).length = 28 + e.f_Body.length := by
  simp only [leafB, List.length_append, int_len, bytes_len]; omega
def chkB (b : api_Block) : Int := if b.f_Height < 1 ∨ b.f_Height > 1099511627776 then 100 else if ¬ b.f_Requests.length = b.f_Results.length ∨ 4 < b.f_Results.length then 102 else 0
def leavesB (b : api_Block) : Lv := List.zipWith leafB b.f_Requests b.f_Results
theorem leaves_len (b : api_Block) : (leavesB b).length = min b.f_Requests.length b.f_Results.length := by simp [leavesB]
theorem leaves_get {b : api_Block} {k : Nat} (h1 : k < b.f_Requests.length) (h2 : k < b.f_Results.length) : (leavesB b).getD k [] = leafB (b.f_Requests.getD k z_api_Envelope) (b.f_Results.getD k z_api_Result) := by
  simp only [leavesB, List.getD_eq_getElem?_getD, List.getElem?_zipWith, List.getElem?_eq_getElem h1, List.getElem?_eq_getElem h2]
  rfl
def szE (e : api_Envelope) : Nat := e.f_Body.length
def fewB (b : api_Block) : Prop := fewG szE 20 500 b.f_Requests ∧ b.f_Results.length ≤ 20 ∧ b.f_Prev.length ≤ 10000000
instance (b : api_Block) : Decidable (fewB b) := inferInstanceAs (Decidable (_ ∧ _ ∧ _))
def smallB (b : api_Block) : Prop := fewB b ∧ b.f_Prev.length ≤ 5000
instance (b : api_Block) : Decidable (smallB b) := inferInstanceAs (Decidable (_ ∧ _))
theorem few_leaves {b : api_Block} (h : fewB b) : fewG szL 40 600 (leavesB b) := by
  obtain ⟨h1, h2, h3⟩ := h
  refine ⟨by rw [leaves_len]; omega, fun x hx => ?_⟩
  obtain ⟨k, hk, rfl⟩ := List.getElem_of_mem hx
  have hl := leaves_len b
  have hg := leaves_get (b := b) (k := k) (by omega) (by omega)
  rw [List.getD_eq_getElem?_getD, List.getElem?_eq_getElem hk] at hg
  simp only [Option.getD_some] at hg
  have hb : (b.f_Requests.getD k z_api_Envelope).f_Body.length ≤ 500 := fewG_get (sz := szE) h1 (by decide) k
  show ((leavesB b)[k]).length ≤ 600
  rw [hg, leafB_len]
  omega
def headB (b : api_Block) : api_Header := ⟨b.f_Height, b.f_Prev, (((leavesB b).length : Nat) : Int), rootB (leavesB b)⟩
def digB (h : api_Header) : List UInt8 := ofB 5 [intB h.f_Height, h.f_Prev, intB h.f_Count, h.f_Root]
def outB (b : api_Block) (k : Nat) : List UInt8 := intB b.f_Height ++ bytesB b.f_Prev ++ cntB (((leavesB b).length : Nat) : Int) ++ ((leavesB b).take k).flatten
def putB (b : api_Block) : List UInt8 := if chkB b = 0 then outB b (leavesB b).length else []
theorem out_succ {b : api_Block} {k : Nat} (hk : k < (leavesB b).length) : outB b (k + 1) = outB b k ++ (leavesB b).getD k [] := by
  unfold outB
  rw [tk_succ (z := []) hk]
  simp
theorem out_len {b : api_Block} (h : fewB b) : ∀ k, (outB b k).length ≤ 10001000 + 600 * k
  | 0 => by
    have := h.2.2
    simp only [outB, List.take_zero, List.flatten_nil, List.length_append, int_len, bytes_len, cnt_len, List.length_nil]
    omega
  | k + 1 => by
    have hr := out_len h k
    rcases Nat.lt_or_ge k (leavesB b).length with hk | hk
    · rw [out_succ hk, List.length_append]
      have : ((leavesB b).getD k []).length ≤ 600 := fewG_get (sz := szL) (few_leaves h) (by decide) k
      omega
    · have : outB b (k + 1) = outB b k := by unfold outB; rw [List.take_of_length_le hk, List.take_of_length_le (by omega)]
      rw [this]
      omega

/-- Wide blocks: of requests that were read. -/
def fewW (b : api_Block) : Prop := fewG szE 20 20000 b.f_Requests ∧ b.f_Results.length ≤ 20 ∧ b.f_Prev.length ≤ 10000000
instance (b : api_Block) : Decidable (fewW b) := inferInstanceAs (Decidable (_ ∧ _ ∧ _))
theorem few_wide {b : api_Block} (h : fewB b) : fewW b := ⟨⟨h.1.1, fun x hx => Nat.le_trans (h.1.2 x hx) (by decide)⟩, h.2⟩
theorem few_leavesW {b : api_Block} (h : fewW b) : fewG szL 40 20100 (leavesB b) := by
  obtain ⟨h1, h2, h3⟩ := h
  refine ⟨by rw [leaves_len]; omega, fun x hx => ?_⟩
  obtain ⟨k, hk, rfl⟩ := List.getElem_of_mem hx
  have hl := leaves_len b
  have hg := leaves_get (b := b) (k := k) (by omega) (by omega)
  rw [List.getD_eq_getElem?_getD, List.getElem?_eq_getElem hk] at hg
  simp only [Option.getD_some] at hg
  have hb : (b.f_Requests.getD k z_api_Envelope).f_Body.length ≤ 20000 := fewG_get (sz := szE) h1 (by decide) k
  show ((leavesB b)[k]).length ≤ 20100
  rw [hg, leafB_len]
  omega
theorem out_lenW {b : api_Block} (h : fewW b) : ∀ k, (outB b k).length ≤ 10001000 + 20100 * k
  | 0 => by
    have := h.2.2
    simp only [outB, List.take_zero, List.flatten_nil, List.length_append, int_len, bytes_len, cnt_len, List.length_nil]
    omega
  | k + 1 => by
    have hr := out_lenW h k
    rcases Nat.lt_or_ge k (leavesB b).length with hk | hk
    · rw [out_succ hk, List.length_append]
      have : ((leavesB b).getD k []).length ≤ 20100 := fewG_get (sz := szL) (few_leavesW h) (by decide) k
      omega
    · have : outB b (k + 1) = outB b k := by unfold outB; rw [List.take_of_length_le hk, List.take_of_length_le (by omega)]
      rw [this]
      omega

theorem min_nat (a b : Nat) : (min ((a : Nat) : Int) ((b : Nat) : Int)).toNat = min a b := by
  rcases Nat.le_total a b with h | h
  · rw [Int.min_eq_left (by omega), Nat.min_eq_left h]; rfl
  · rw [Int.min_eq_right (by omega), Nat.min_eq_right h]; rfl

theorem sz4 (a b c d : List UInt8) : szP [a, b, c, d] = 5 + (4 + a.length) + (4 + b.length) + (4 + c.length) + (4 + d.length) := rfl


/-! ### Rows that are filled -/

def fillL {α : Type} (z : α) (L : List α) (k : Nat) : List α := L.take k ++ List.replicate (L.length - k) z
theorem fill_0 {α : Type} (z : α) (L : List α) : fillL z L 0 = List.replicate L.length z := by simp [fillL]
theorem fill_len {α : Type} (z : α) (L : List α) (k : Nat) : (fillL z L k).length = L.length := by simp [fillL]; omega
theorem fill_set {α : Type} {z : α} {L : List α} {k : Nat} (hk : k < L.length) : (fillL z L k).set k (L.getD k z) = fillL z L (k + 1) := by
  unfold fillL
  rw [tk_succ (z := z) hk, List.append_assoc]
  have h1 : (L.take k).length = k := by rw [List.length_take]; omega
  rw [List.set_append_right _ _ (by omega), h1, Nat.sub_self]
  obtain ⟨m, hm⟩ : ∃ m, L.length - k = m + 1 := ⟨L.length - k - 1, by omega⟩
  rw [hm, show L.length - (k + 1) = m by omega]
  rfl
theorem fill_end {α : Type} {z : α} {L : List α} {k : Nat} (hk : L.length ≤ k) : fillL z L k = L := by
  unfold fillL
  rw [List.take_of_length_le hk, show L.length - k = 0 by omega]
  simp
/-! ### Leaves that are the same -/

def i64R (n : Int) : Prop := -9223372036854775808 ≤ n ∧ n ≤ 9223372036854775807
theorem intB_inj' {a b : Int} (ha : i64R a) (hb : i64R b) (h : intB a = intB b) : a = b := by
  have h1 := (spell_inj (Nat.lt_of_lt_of_le (u64_lt a) (by decide)) (Nat.lt_of_lt_of_le (u64_lt b) (by decide))).1 h
  unfold i64R at ha hb
  unfold u64 at h1
  omega
theorem leafB_inj {e f : api_Envelope} {r s : api_Result} (h1 : i64R e.f_Signer) (h2 : i64R f.f_Signer) (h3 : i64R r.f_Code) (h4 : i64R s.f_Code) (h5 : i64R r.f_Stage) (h6 : i64R s.f_Stage) (h7 : e.f_Body.length ≤ 500) (h8 : f.f_Body.length ≤ 500) (h : leafB e r = leafB f s) : e = f ∧ r = s := by
  simp only [leafB, List.append_assoc] at h
  obtain ⟨a1, a2⟩ := List.append_inj h (by rw [int_len, int_len])
  obtain ⟨b1, b2⟩ := bytesB_app (by omega) (by omega) a2
  obtain ⟨c1, c2⟩ := List.append_inj b2 (by rw [int_len, int_len])
  have d1 := intB_inj' h1 h2 a1
  have d2 := intB_inj' h3 h4 c1
  have d3 := intB_inj' h5 h6 c2
  exact ⟨(api_Envelope_iff _ _).2 ⟨d1, b1⟩, (api_Result_iff _ _).2 ⟨d2, d3⟩⟩
/-- Numbers are as great as the code's are. -/
def rangeB (b : api_Block) : Prop := i64R b.f_Height ∧ (∀ e, e ∈ b.f_Requests → i64R e.f_Signer) ∧ ∀ r, r ∈ b.f_Results → i64R r.f_Code ∧ i64R r.f_Stage
theorem head_few {b : api_Block} (h : fewB b) : (headB b).f_Prev.length ≤ 10000000 ∧ (headB b).f_Root.length ≤ 10000000 ∧ (headB b).f_Count ≤ 9223372036854775807 := by
  have h1 := h.2.2
  have h2 := few_root (few_leaves h)
  have h3 := (few_leaves h).1
  refine ⟨?_, ?_, ?_⟩
  · show b.f_Prev.length ≤ _; omega
  · show (rootB (leavesB b)).length ≤ _; omega
  · show (((leavesB b).length : Nat) : Int) ≤ _; omega
theorem chk_all {b : api_Block} (h : chkB b = 0) : b.f_Requests.length = b.f_Results.length ∧ b.f_Results.length ≤ 4 ∧ 1 ≤ b.f_Height ∧ b.f_Height ≤ 1099511627776 := by
  unfold chkB at h
  split at h
  · exact absurd h (by decide)
  · split at h
    · exact absurd h (by decide)
    · omega
theorem all_getR {α : Type} {p : α → Prop} {l : List α} {z : α} {k : Nat} (h : ∀ x, x ∈ l → p x) (hk : k < l.length) : p (l.getD k z) := h _ (getD_mem hk)
theorem digB_inj {h g : api_Header} (h1 : i64R h.f_Height) (h2 : i64R g.f_Height) (h3 : i64R h.f_Count) (h4 : i64R g.f_Count) (p1 : h.f_Prev.length ≤ 10000000) (p2 : g.f_Prev.length ≤ 10000000) (p3 : h.f_Root.length ≤ 10000000) (p4 : g.f_Root.length ≤ 10000000) (he : digB h = digB g) : h = g := by
  have e := ((ofB_inj (by rw [sz4, int_len, int_len]; omega) (by rw [sz4, int_len, int_len]; omega)).1 he).2
  simp only [List.cons.injEq, and_true] at e
  obtain ⟨e1, e2, e3, e4⟩ := e
  exact (api_Header_iff _ _).2 ⟨intB_inj' h1 h2 e1, e2, intB_inj' h3 h4 e3, e4⟩
theorem apart10 {a b : api_Block} (fa : fewB a) (fb : fewB b) (ra : rangeB a) (rb : rangeB b) (ca : chkB a = 0) (cb : chkB b = 0) : digB (headB a) = digB (headB b) ↔ a = b := by
  constructor
  · intro h
    have la := leaves_len a
    have lb := leaves_len b
    have xa := chk_all ca
    have xb := chk_all cb
    have ka := head_few fa
    have kb := head_few fb
    have e := digB_inj (h := headB a) (g := headB b) ra.1 rb.1 ⟨by show _ ≤ (((leavesB a).length : Nat) : Int); omega, ka.2.2⟩ ⟨by show _ ≤ (((leavesB b).length : Nat) : Int); omega, kb.2.2⟩ ka.1 kb.1 ka.2.1 kb.2.1 h
    have e1 : a.f_Height = b.f_Height := congrArg api_Header.f_Height e
    have e2 : a.f_Prev = b.f_Prev := congrArg api_Header.f_Prev e
    have e3 : (((leavesB a).length : Nat) : Int) = (((leavesB b).length : Nat) : Int) := congrArg api_Header.f_Count e
    have e4 : rootB (leavesB a) = rootB (leavesB b) := congrArg api_Header.f_Root e
    have e5 := root_inj _ _ _ rfl (by omega) (few_leaves fa) (few_leaves fb) e4
    have key : ∀ k, k < a.f_Requests.length → a.f_Requests.getD k z_api_Envelope = b.f_Requests.getD k z_api_Envelope ∧ a.f_Results.getD k z_api_Result = b.f_Results.getD k z_api_Result := fun k hk => by
      have g1 := leaves_get (b := a) (k := k) (by omega) (by omega)
      have g2 := leaves_get (b := b) (k := k) (by omega) (by omega)
      rw [e5, g2] at g1
      obtain ⟨r1, r2⟩ := all_getR (p := fun r => i64R r.f_Code ∧ i64R r.f_Stage) (z := z_api_Result) (k := k) ra.2.2 (by omega)
      obtain ⟨s1, s2⟩ := all_getR (p := fun r => i64R r.f_Code ∧ i64R r.f_Stage) (z := z_api_Result) (k := k) rb.2.2 (by omega)
      have := leafB_inj (all_getR (p := fun e => i64R e.f_Signer) (z := z_api_Envelope) (k := k) rb.2.1 (by omega)) (all_getR (p := fun e => i64R e.f_Signer) (z := z_api_Envelope) (k := k) ra.2.1 (by omega)) s1 r1 s2 r2 (fewG_get (sz := szE) fb.1 (by decide) k) (fewG_get (sz := szE) fa.1 (by decide) k) g1
      exact ⟨this.1.symm, this.2.symm⟩
    exact (api_Block_iff _ _).2 ⟨e1, e2, rows_eq (z := z_api_Envelope) (k := a.f_Requests.length) (by omega) (Nat.le_refl _) fun k hk => (key k hk).1, rows_eq (z := z_api_Result) (k := a.f_Results.length) (by omega) (Nat.le_refl _) fun k hk => (key k (by omega)).2⟩
  · intro h; rw [h]
end Go.Proofs.Ytacikihlgpnjhaa.Q
