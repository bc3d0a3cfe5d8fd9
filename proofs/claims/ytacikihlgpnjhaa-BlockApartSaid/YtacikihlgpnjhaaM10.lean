import Derived.Test.YtacikihlgpnjhaaM09L
namespace Go.Proofs.Ytacikihlgpnjhaa.Q
set_option linter.unusedVariables false
set_option linter.unusedSimpArgs false
set_option maxRecDepth 100000

/-! ### Blocks -/

abbrev zE := z_api_Envelope
abbrev zR := z_api_Result
def intsB (l : List Int) : List UInt8 := l.flatMap intB
theorem ints_succ {l : List Int} {k : Nat} (hk : k < l.length) : intsB (l.take (k + 1)) = intsB (l.take k) ++ intB (l.getD k 0) := by
  rw [tk_succ (z := 0) hk]; simp [intsB]
theorem ints_one {l : List Int} (hk : 0 < l.length) : intsB (l.take 1) = intB (l.getD 0 0) := by rw [ints_succ hk]; simp [intsB]
theorem ints_len (l : List Int) : (intsB l).length = 8 * l.length := by
  induction l with
  | nil => rfl
  | cons a r ih =>
    have : intsB (a :: r) = intB a ++ intsB r := by simp [intsB]
    rw [this, List.length_append, ih, int_len, List.length_cons]
    omega
def leafB (e : api_Envelope) (r : api_Result) : List UInt8 := intB e.f_Signer ++ bytesB e.f_Body ++ intB r.f_Code ++ intB r.f_Stage
theorem leafB_len (e : api_Envelope) (r : api_Result) : (leafB e r).length = 28 + e.f_Body.length := by
  simp only [leafB, List.length_append, int_len, bytes_len]; omega
def chkB (b : api_Block) : Int := if b.f_Height < 1 ∨ b.f_Height > 1099511627776 then 100 else if ¬ b.f_Requests.length = b.f_Results.length ∨ 4 < b.f_Results.length then 102 else 0
def leavesB (b : api_Block) : Lv := List.zipWith leafB b.f_Requests b.f_Results
theorem leaves_len (b : api_Block) : (leavesB b).length = min b.f_Requests.length b.f_Results.length := by simp [leavesB]
theorem leaves_get {b : api_Block} {k : Nat} (h1 : k < b.f_Requests.length) (h2 : k < b.f_Results.length) : (leavesB b).getD k [] = leafB (b.f_Requests.getD k z_api_Envelope) (b.f_Results.getD k z_api_Result) := by
  simp only [leavesB, List.getD_eq_getElem?_getD, List.getElem?_zipWith, List.getElem?_eq_getElem h1, List.getElem?_eq_getElem h2]
  rfl
def szE (e : api_Envelope) : Nat := e.f_Body.length
def fewB (b : api_Block) : Prop := fewG szE 20 500 b.f_Requests ∧ b.f_Results.length ≤ 20 ∧ b.f_Prev.length ≤ 5000
instance (b : api_Block) : Decidable (fewB b) := inferInstanceAs (Decidable (_ ∧ _ ∧ _))
theorem few_leaves {b : api_Block} (h : fewB b) : fewG szL 40 600 (leavesB b) := by
  obtain ⟨h1, h2, h3⟩ := h
  refine ⟨by rw [leaves_len]; omega, fun x hx => ?_⟩
  obtain ⟨k, hk, rfl⟩ := List.getElem_of_mem hx
  have hl := leaves_len b
  have hg := leaves_get (b := b) (k := k) (by omega) (by omega)
  rw [List.getD_eq_getElem?_getD, List.getElem?_eq_getElem hk] at hg
  simp only [Option.getD_some] at hg
  have hb : (b.f_Requests.getD k z_api_Envelope).f_Body.length ≤ 500 := fewG_get (sz := szE) h1 (by decide) k
  show ((leavesB b)[k]).length ≤ 600
  rw [hg, leafB_len]
  omega
def headB (b : api_Block) : api_Header := ⟨b.f_Height, b.f_Prev, (((leavesB b).length : Nat) : Int), rootB (leavesB b)⟩
def digB (h : api_Header) : List UInt8 := ofB 5 [intB h.f_Height, h.f_Prev, intB h.f_Count, h.f_Root]
def provP (b : api_Block) (i : Int) : List Step := if chkB b = 0 then pathB (leavesB b) i else []
def provE (b : api_Block) (i : Int) : Int := if chkB b = 0 then pathE (leavesB b) i else chkB b
def outB (b : api_Block) (k : Nat) : List UInt8 := intB b.f_Height ++ bytesB b.f_Prev ++ cntB (((leavesB b).length : Nat) : Int) ++ ((leavesB b).take k).flatten
def putB (b : api_Block) : List UInt8 := if chkB b = 0 then outB b (leavesB b).length else []
theorem out_succ {b : api_Block} {k : Nat} (hk : k < (leavesB b).length) : outB b (k + 1) = outB b k ++ (leavesB b).getD k [] := by
  unfold outB
  rw [tk_succ (z := []) hk]
  simp
theorem out_len {b : api_Block} (h : fewB b) : ∀ k, (outB b k).length ≤ 6000 + 600 * k
  | 0 => by
    have := h.2.2
    simp only [outB, List.take_zero, List.flatten_nil, List.length_append, int_len, bytes_len, cnt_len, List.length_nil]
    omega
  | k + 1 => by
    have hr := out_len h k
    rcases Nat.lt_or_ge k (leavesB b).length with hk | hk
    · rw [out_succ hk, List.length_append]
      have : ((leavesB b).getD k []).length ≤ 600 := fewG_get (sz := szL) (few_leaves h) (by decide) k
      omega
    · have : outB b (k + 1) = outB b k := by unfold outB; rw [List.take_of_length_le hk, List.take_of_length_le (by omega)]
      rw [this]
      omega

theorem min_nat (a b : Nat) : (min ((a : Nat) : Int) ((b : Nat) : Int)).toNat = min a b := by
  rcases Nat.le_total a b with h | h
  · rw [Int.min_eq_left (by omega), Nat.min_eq_left h]; rfl
  · rw [Int.min_eq_right (by omega), Nat.min_eq_right h]; rfl

theorem sz4 (a b c d : List UInt8) : szP [a, b, c, d] = 5 + (4 + a.length) + (4 + b.length) + (4 + c.length) + (4 + d.length) := rfl

def smallC (c : quaestorlaw10_Claim) : Prop := c.f_E.f_Body.length ≤ 500 ∧ fewG szS 70 5000 c.f_Path
instance (c : quaestorlaw10_Claim) : Decidable (smallC c) := inferInstanceAs (Decidable (_ ∧ _))

/-! ### Rows that are filled -/

def fillL {α : Type} (z : α) (L : List α) (k : Nat) : List α := L.take k ++ List.replicate (L.length - k) z
theorem fill_0 {α : Type} (z : α) (L : List α) : fillL z L 0 = List.replicate L.length z := by simp [fillL]
theorem fill_len {α : Type} (z : α) (L : List α) (k : Nat) : (fillL z L k).length = L.length := by simp [fillL]; omega
theorem fill_set {α : Type} {z : α} {L : List α} {k : Nat} (hk : k < L.length) : (fillL z L k).set k (L.getD k z) = fillL z L (k + 1) := by
  unfold fillL
  rw [tk_succ (z := z) hk, List.append_assoc]
  have h1 : (L.take k).length = k := by rw [List.length_take]; omega
  rw [List.set_append_right _ _ (by omega), h1, Nat.sub_self]
  obtain ⟨m, hm⟩ : ∃ m, L.length - k = m + 1 := ⟨L.length - k - 1, by omega⟩
  rw [hm, show L.length - (k + 1) = m by omega]
  rfl
theorem fill_end {α : Type} {z : α} {L : List α} {k : Nat} (hk : L.length ≤ k) : fillL z L k = L := by
  unfold fillL
  rw [List.take_of_length_le hk, show L.length - k = 0 by omega]
  simp
end Go.Proofs.Ytacikihlgpnjhaa.Q
