import Derived.Test.YtacikihlgpnjhaaM09L
import Derived.Test.YtacikihlgpnjhaaM10A
namespace Go.Proofs.Ytacikihlgpnjhaa.Q
set_option linter.unusedVariables false
set_option linter.unusedSimpArgs false
set_option maxRecDepth 100000

def provP (b : api_Block) (i : Int) : List Step := if chkB b = 0 then pathB (leavesB b) i else []
def provE (b : api_Block) (i : Int) : Int := if chkB b = 0 then pathE (leavesB b) i else chkB b
def smallC (c : quaestorlaw10_Claim) : Prop := c.f_E.f_Body.length ≤ 500 ∧ fewG szS 70 5000 c.f_Path
instance (c : quaestorlaw10_Claim) : Decidable (smallC c) := inferInstanceAs (Decidable (_ ∧ _))
theorem prov_ok {b : api_Block} {i : Int} (hf : fewB b) (h : provE b i = 0) : chkB b = 0 ∧ 0 ≤ i ∧ i < ((b.f_Requests.length : Nat) : Int) ∧ i < ((b.f_Results.length : Nat) : Int) ∧
    checkM (headB b).f_Root (leafB (b.f_Requests.getD i.toNat z_api_Envelope) (b.f_Results.getD i.toNat z_api_Result)) i (headB b).f_Count (provP b i) = 0 ∧ fewG szS 70 30000 (provP b i) ∧ (b.f_Requests.getD i.toNat z_api_Envelope).f_Body.length ≤ 500 := by
  have hc : chkB b = 0 := by
    apply Classical.byContradiction
    intro hn
    rw [provE, if_neg hn] at h
    exact hn h
  rw [provE, if_pos hc] at h
  have hl := leaves_len b
  have ho : okI (leavesB b) i := by
    apply Classical.byContradiction
    intro hn
    rw [pathE, if_neg hn] at h
    exact absurd h (by decide)
  obtain ⟨o1, o2⟩ := ho
  have hp := proves_ok (l := leavesB b) (j := i.toNat) (few_leaves hf).1 (by omega)
  rw [leaves_get (by omega) (by omega), show ((i.toNat : Nat) : Int) = i by omega] at hp
  refine ⟨hc, o1, by omega, by omega, ?_, ?_, fewG_get (sz := szE) hf.1 (by decide) _⟩
  · rw [provP, if_pos hc]; exact hp
  · rw [provP, if_pos hc]; exact few_path (few_leaves hf) i
theorem sound10 {b : api_Block} {i : Int} {e : api_Envelope} {r : api_Result} {p : List Step} (hf : fewB b) (hr : rangeB b) (he : i64R e.f_Signer) (hc : i64R r.f_Code) (hs : i64R r.f_Stage) (hb : e.f_Body.length ≤ 500) (hp : fewG szS 70 5000 p)
    (h : checkM (headB b).f_Root (leafB e r) i (headB b).f_Count p = 0) : 0 ≤ i ∧ i < ((b.f_Requests.length : Nat) : Int) ∧ i < ((b.f_Results.length : Nat) : Int) ∧ b.f_Requests.getD i.toNat z_api_Envelope = e ∧ b.f_Results.getD i.toNat z_api_Result = r := by
  have hl := leaves_len b
  obtain ⟨a1, a2, a3, _, _⟩ := sound_ok (few_leaves hf) (show (leafB e r).length ≤ 600 by rw [leafB_len]; omega) hp h
  rw [leaves_get (by omega) (by omega)] at a3
  obtain ⟨r1, r2⟩ := all_getR (p := fun r => i64R r.f_Code ∧ i64R r.f_Stage) (z := z_api_Result) (k := i.toNat) hr.2.2 (by omega)
  obtain ⟨b1, b2⟩ := leafB_inj (all_getR (p := fun e => i64R e.f_Signer) (z := z_api_Envelope) (k := i.toNat) hr.2.1 (by omega)) he r1 hc r2 hs (fewG_get (sz := szE) hf.1 (by decide) _) hb a3
  exact ⟨a1, by omega, by omega, b1, b2⟩
end Go.Proofs.Ytacikihlgpnjhaa.Q
