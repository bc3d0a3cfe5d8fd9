import Derived.Test.YtacikihlgpnjhaaM10
namespace Go.Proofs.Ytacikihlgpnjhaa.Q
set_option linter.unusedVariables false
set_option linter.unusedSimpArgs false
set_option maxRecDepth 100000

/-! ### Leaves that are the same -/

def i64R (n : Int) : Prop := -9223372036854775808 ≤ n ∧ n ≤ 9223372036854775807
theorem intB_inj' {a b : Int} (ha : i64R a) (hb : i64R b) (h : intB a = intB b) : a = b := by
  have h1 := (spell_inj (Nat.lt_of_lt_of_le (u64_lt a) (by decide)) (Nat.lt_of_lt_of_le (u64_lt b) (by decide))).1 h
  unfold i64R at ha hb
  unfold u64 at h1
  omega
theorem leafB_inj {e f : api_Envelope} {r s : api_Result} (h1 : i64R e.f_Signer) (h2 : i64R f.f_Signer) (h3 : i64R r.f_Code) (h4 : i64R s.f_Code) (h5 : i64R r.f_Stage) (h6 : i64R s.f_Stage) (h7 : e.f_Body.length ≤ 500) (h8 : f.f_Body.length ≤ 500) (h : leafB e r = leafB f s) : e = f ∧ r = s := by
  simp only [leafB, List.append_assoc] at h
  obtain ⟨a1, a2⟩ := List.append_inj h (by rw [int_len, int_len])
  obtain ⟨b1, b2⟩ := bytesB_app (by omega) (by omega) a2
  obtain ⟨c1, c2⟩ := List.append_inj b2 (by rw [int_len, int_len])
  have d1 := intB_inj' h1 h2 a1
  have d2 := intB_inj' h3 h4 c1
  have d3 := intB_inj' h5 h6 c2
  exact ⟨(api_Envelope_iff _ _).2 ⟨d1, b1⟩, (api_Result_iff _ _).2 ⟨d2, d3⟩⟩
/-- Numbers are as great as the code's are. -/
def rangeB (b : api_Block) : Prop := i64R b.f_Height ∧ (∀ e, e ∈ b.f_Requests → i64R e.f_Signer) ∧ ∀ r, r ∈ b.f_Results → i64R r.f_Code ∧ i64R r.f_Stage
theorem head_few {b : api_Block} (h : fewB b) : (headB b).f_Prev.length ≤ 10000000 ∧ (headB b).f_Root.length ≤ 10000000 ∧ (headB b).f_Count ≤ 9223372036854775807 := by
  have h1 := h.2.2
  have h2 := few_root (few_leaves h)
  have h3 := (few_leaves h).1
  refine ⟨?_, ?_, ?_⟩
  · show b.f_Prev.length ≤ _; omega
  · show (rootB (leavesB b)).length ≤ _; omega
  · show (((leavesB b).length : Nat) : Int) ≤ _; omega
theorem chk_all {b : api_Block} (h : chkB b = 0) : b.f_Requests.length = b.f_Results.length ∧ b.f_Results.length ≤ 4 ∧ 1 ≤ b.f_Height ∧ b.f_Height ≤ 1099511627776 := by
  unfold chkB at h
  split at h
  · exact absurd h (by decide)
  · split at h
    · exact absurd h (by decide)
    · omega
theorem prov_ok {b : api_Block} {i : Int} (hf : fewB b) (h : provE b i = 0) : chkB b = 0 ∧ 0 ≤ i ∧ i < ((b.f_Requests.length : Nat) : Int) ∧ i < ((b.f_Results.length : Nat) : Int) ∧
    checkM (headB b).f_Root (leafB (b.f_Requests.getD i.toNat z_api_Envelope) (b.f_Results.getD i.toNat z_api_Result)) i (headB b).f_Count (provP b i) = 0 ∧ fewG szS 70 30000 (provP b i) ∧ (b.f_Requests.getD i.toNat z_api_Envelope).f_Body.length ≤ 500 := by
  have hc : chkB b = 0 := by
    apply Classical.byContradiction
    intro hn
    rw [provE, if_neg hn] at h
    exact hn h
  rw [provE, if_pos hc] at h
  have hl := leaves_len b
  have ho : okI (leavesB b) i := by
    apply Classical.byContradiction
    intro hn
    rw [pathE, if_neg hn] at h
    exact absurd h (by decide)
  obtain ⟨o1, o2⟩ := ho
  have hp := proves_ok (l := leavesB b) (j := i.toNat) (few_leaves hf).1 (by omega)
  rw [leaves_get (by omega) (by omega), show ((i.toNat : Nat) : Int) = i by omega] at hp
  refine ⟨hc, o1, by omega, by omega, ?_, ?_, fewG_get (sz := szE) hf.1 (by decide) _⟩
  · rw [provP, if_pos hc]; exact hp
  · rw [provP, if_pos hc]; exact few_path (few_leaves hf) i
theorem all_getR {α : Type} {p : α → Prop} {l : List α} {z : α} {k : Nat} (h : ∀ x, x ∈ l → p x) (hk : k < l.length) : p (l.getD k z) := h _ (getD_mem hk)
theorem sound10 {b : api_Block} {i : Int} {e : api_Envelope} {r : api_Result} {p : List Step} (hf : fewB b) (hr : rangeB b) (he : i64R e.f_Signer) (hc : i64R r.f_Code) (hs : i64R r.f_Stage) (hb : e.f_Body.length ≤ 500) (hp : fewG szS 70 5000 p)
    (h : checkM (headB b).f_Root (leafB e r) i (headB b).f_Count p = 0) : 0 ≤ i ∧ i < ((b.f_Requests.length : Nat) : Int) ∧ i < ((b.f_Results.length : Nat) : Int) ∧ b.f_Requests.getD i.toNat z_api_Envelope = e ∧ b.f_Results.getD i.toNat z_api_Result = r := by
  have hl := leaves_len b
  obtain ⟨a1, a2, a3, _, _⟩ := sound_ok (few_leaves hf) (show (leafB e r).length ≤ 600 by rw [leafB_len]; omega) hp h
  rw [leaves_get (by omega) (by omega)] at a3
  obtain ⟨r1, r2⟩ := all_getR (p := fun r => i64R r.f_Code ∧ i64R r.f_Stage) (z := z_api_Result) (k := i.toNat) hr.2.2 (by omega)
  obtain ⟨b1, b2⟩ := leafB_inj (all_getR (p := fun e => i64R e.f_Signer) (z := z_api_Envelope) (k := i.toNat) hr.2.1 (by omega)) he r1 hc r2 hs (fewG_get (sz := szE) hf.1 (by decide) _) hb a3
  exact ⟨a1, by omega, by omega, b1, b2⟩
theorem digB_inj {h g : api_Header} (h1 : i64R h.f_Height) (h2 : i64R g.f_Height) (h3 : i64R h.f_Count) (h4 : i64R g.f_Count) (p1 : h.f_Prev.length ≤ 10000000) (p2 : g.f_Prev.length ≤ 10000000) (p3 : h.f_Root.length ≤ 10000000) (p4 : g.f_Root.length ≤ 10000000) (he : digB h = digB g) : h = g := by
  have e := ((ofB_inj (by rw [sz4, int_len, int_len]; omega) (by rw [sz4, int_len, int_len]; omega)).1 he).2
  simp only [List.cons.injEq, and_true] at e
  obtain ⟨e1, e2, e3, e4⟩ := e
  exact (api_Header_iff _ _).2 ⟨intB_inj' h1 h2 e1, e2, intB_inj' h3 h4 e3, e4⟩
theorem apart10 {a b : api_Block} (fa : fewB a) (fb : fewB b) (ra : rangeB a) (rb : rangeB b) (ca : chkB a = 0) (cb : chkB b = 0) : digB (headB a) = digB (headB b) ↔ a = b := by
  constructor
  · intro h
    have la := leaves_len a
    have lb := leaves_len b
    have xa := chk_all ca
    have xb := chk_all cb
    have ka := head_few fa
    have kb := head_few fb
    have e := digB_inj (h := headB a) (g := headB b) ra.1 rb.1 ⟨by show _ ≤ (((leavesB a).length : Nat) : Int); omega, ka.2.2⟩ ⟨by show _ ≤ (((leavesB b).length : Nat) : Int); omega, kb.2.2⟩ ka.1 kb.1 ka.2.1 kb.2.1 h
    have e1 : a.f_Height = b.f_Height := congrArg api_Header.f_Height e
    have e2 : a.f_Prev = b.f_Prev := congrArg api_Header.f_Prev e
    have e3 : (((leavesB a).length : Nat) : Int) = (((leavesB b).length : Nat) : Int) := congrArg api_Header.f_Count e
    have e4 : rootB (leavesB a) = rootB (leavesB b) := congrArg api_Header.f_Root e
    have e5 := root_inj _ _ _ rfl (by omega) (few_leaves fa) (few_leaves fb) e4
    have key : ∀ k, k < a.f_Requests.length → a.f_Requests.getD k z_api_Envelope = b.f_Requests.getD k z_api_Envelope ∧ a.f_Results.getD k z_api_Result = b.f_Results.getD k z_api_Result := fun k hk => by
      have g1 := leaves_get (b := a) (k := k) (by omega) (by omega)
      have g2 := leaves_get (b := b) (k := k) (by omega) (by omega)
      rw [e5, g2] at g1
      obtain ⟨r1, r2⟩ := all_getR (p := fun r => i64R r.f_Code ∧ i64R r.f_Stage) (z := z_api_Result) (k := k) ra.2.2 (by omega)
      obtain ⟨s1, s2⟩ := all_getR (p := fun r => i64R r.f_Code ∧ i64R r.f_Stage) (z := z_api_Result) (k := k) rb.2.2 (by omega)
      have := leafB_inj (all_getR (p := fun e => i64R e.f_Signer) (z := z_api_Envelope) (k := k) rb.2.1 (by omega)) (all_getR (p := fun e => i64R e.f_Signer) (z := z_api_Envelope) (k := k) ra.2.1 (by omega)) s1 r1 s2 r2 (fewG_get (sz := szE) fb.1 (by decide) k) (fewG_get (sz := szE) fa.1 (by decide) k) g1
      exact ⟨this.1.symm, this.2.symm⟩
    exact (api_Block_iff _ _).2 ⟨e1, e2, rows_eq (z := z_api_Envelope) (k := a.f_Requests.length) (by omega) (Nat.le_refl _) fun k hk => (key k hk).1, rows_eq (z := z_api_Result) (k := a.f_Results.length) (by omega) (Nat.le_refl _) fun k hk => (key k (by omega)).2⟩
  · intro h; rw [h]
end Go.Proofs.Ytacikihlgpnjhaa.Q
