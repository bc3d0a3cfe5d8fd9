import Derived.Test.YtdclfhahcfefeaaC11n9
namespace Go.Proofs.Ytdclfhahcfefeaa.Q
set_option linter.unusedVariables false
set_option linter.unusedSimpArgs false
set_option maxRecDepth 100000

/-! ### Two chains -/

abbrev d0 : List UInt8 := ofB 6 ([] : List (List UInt8))
inductive Chn : List api_Block → Prop
  | nil : Chn []
  | snoc {L : List api_Block} {b : api_Block} : Chn L → chkB b = 0 → b.f_Prev = atB d0 L L.length → fewB b → rangeB b → Chn (L ++ [b])
theorem chn_inj {L : List api_Block} (hL : Chn L) : ∀ {M : List api_Block}, Chn M → atB d0 L L.length = atB d0 M M.length → L = M := by
  have zero : ∀ {L : List api_Block} {b : api_Block}, fewB b → atB d0 (L ++ [b]) (L ++ [b]).length = d0 → False := fun {L b} hf h => by
    rw [at_snoc] at h
    have hk := head_few hf
    have := (ofB_inj (s := 5) (t := 6) (m := []) (by rw [sz4, int_len, int_len]; omega) (by decide)).1 h
    exact absurd this.1 (by decide)
  induction hL with
  | nil =>
    intro M hM h
    cases hM with
    | nil => rfl
    | snoc h1 h2 h3 h4 h5 => exact (zero h4 h.symm).elim
  | snoc h1 h2 h3 h4 h5 ih =>
    intro M hM h
    cases hM with
    | nil => exact (zero h4 h).elim
    | snoc g1 g2 g3 g4 g5 =>
      rw [at_snoc, at_snoc] at h
      have e := (apart10 h4 g4 h5 g5 h2 g2).1 h
      subst e
      rw [ih g1 (h3.symm.trans g3)]

def xC (b : api_Block) : Act' := ⟨false, true, 0, b⟩
def runC (l : List api_Block) : Nat → LSt
  | 0 => sNew
  | k + 1 => app1 (runC l k) (actS (runC l k) (xC (l.getD k z_api_Block)))
def okC (l : List api_Block) (k : Nat) : Prop := okS k (runC l k) ∧ (runC l k).h = 0 ∧ (runC l k).d = d0 ∧ Chn (runC l k).L
theorem app_facts {h : Int} {d : List UInt8} {L : List api_Block} {b : api_Block} (he : rappE h d L b = 0) : chkB b = 0 ∧ b.f_Prev = atB d L L.length := by
  unfold rappE appE at he
  split at he
  · rename_i hk0
    split at he
    · split at he
      · rename_i hp
        rw [hd_links] at hp
        exact ⟨hk0, hp⟩
      · cases he
    · cases he
  · rename_i hk0
    exact absurd he hk0
theorem okC_run {l : List api_Block} (hr : ∀ j, rangeB (l.getD j z_api_Block)) : ∀ {k : Nat}, k ≤ 60 → (∀ j, j < k → smallB (l.getD j z_api_Block)) → okC l k
  | 0, _, _ => ⟨okS_new, rfl, rfl, Chn.nil⟩
  | k + 1, hk, hs => by
    obtain ⟨h1, h2, h3, h4⟩ := okC_run (l := l) hr (k := k) (by omega) (fun j hj => hs j (by omega))
    have hb : fewB (actS (runC l k) (xC (l.getD k z_api_Block))) := actS_few (x := xC (l.getD k z_api_Block)) h1 (by omega) (hs k (by omega)).1
    refine ⟨okS_app h1 (by omega) hb, h2, h3, ?_⟩
    by_cases he : rappE (runC l k).h (runC l k).d (runC l k).L (actS (runC l k) (xC (l.getD k z_api_Block))) = 0
    · show Chn (app1 _ _).L
      rw [app1_yes he]
      obtain ⟨c1, c2⟩ := app_facts he
      rw [h3] at c2
      have hh := (chk_all c1).2.2
      exact Chn.snoc h4 c1 c2 hb ⟨⟨by omega, by omega⟩, (hr k).2⟩
    · show Chn (app1 _ _).L
      rw [app1_no he]
      exact h4
theorem okC_fact {l : List api_Block} {k : Nat} (h : okC l k) (hk : k ≤ 60) : (0 ≤ (runC l k).h ∧ (runC l k).h ≤ 1099511627776) ∧ (runC l k).L.length ≤ 90 ∧ fewLB (runC l k).L ∧ (atB (runC l k).d (runC l k).L (runC l k).L.length).length ≤ 10000000 :=
  okS_fact h.1 (by omega)
def alikeL (L M : List api_Block) (k : Nat) : Bool := decide (L.length = M.length ∧ ∀ j, j < k → L.getD j z_api_Block = M.getD j z_api_Block)
theorem alike_0 {L M : List api_Block} {a b : Int} (h : a = ((L.length : Nat) : Int)) (g : b = ((M.length : Nat) : Int)) : alikeL L M 0 = decide (a = b) := by
  unfold alikeL
  rw [decide_eq_decide]
  exact ⟨fun q => by have := q.1; omega, fun q => ⟨by omega, fun j hj => absurd hj (Nat.not_lt_zero _)⟩⟩
theorem alike_t {L M : List api_Block} {k : Nat} {p : Prop} [Decidable p] (h : alikeL L M k = true) (hp : p ↔ L.getD k z_api_Block = M.getD k z_api_Block) : alikeL L M (k + 1) = decide p := by
  have h := of_decide_eq_true h
  unfold alikeL
  rw [decide_eq_decide]
  exact ⟨fun q => hp.2 (q.2 k (by omega)), fun q => ⟨h.1, all_succ h.2 (hp.1 q)⟩⟩
theorem alike_f {L M : List api_Block} {k : Nat} (h : alikeL L M k = false) : alikeL L M (k + 1) = false := by
  have h := of_decide_eq_false h
  exact decide_eq_false fun q => h ⟨q.1, fun j hj => q.2 j (by omega)⟩
theorem blk_at {s : LSt} {k : Nat} (h0 : s.h = 0) (hk : k < s.L.length) : blkB s.h (linksB s.L) ((k + 1 : Nat) : Int) = s.L.getD k z_api_Block ∧ blkE s.h (linksB s.L).length ((k + 1 : Nat) : Int) = 0 := by
  have hi : inL s.h s.L.length ((k + 1 : Nat) : Int) := ⟨by omega, by omega⟩
  refine ⟨?_, ?_⟩
  · rw [blk_links, rblk, if_pos hi, h0, show (((k + 1 : Nat) : Int) - 0 - 1).toNat = k by omega]
  · rw [links_len]; exact if_pos hi
theorem chain_end {l m : List api_Block} {k j n : Nat} (ha : okC l k) (hb : okC m j) (hn : (runC l k).L.length ≤ n ∨ (runC m j).L.length ≤ n) :
    decide (hdL (runC l k).d (linksB (runC l k).L) = hdL (runC m j).d (linksB (runC m j).L)) = alikeL (runC l k).L (runC m j).L n := by
  unfold alikeL
  rw [decide_eq_decide, hd_links, hd_links, ha.2.2.1, hb.2.2.1]
  constructor
  · intro h
    have := chn_inj ha.2.2.2 hb.2.2.2 h
    rw [this]
    exact ⟨rfl, fun _ _ => rfl⟩
  · intro h
    have := rows_eq (z := z_api_Block) (k := n) h.1 (by have := h.1; omega) h.2
    rw [this]

/-! ### Of what is handed in -/

theorem big_of {n : Nat} (h : n ≤ maxLen) : n ≤ 9223372036854775807 := by simp only [maxLen] at h; omega
theorem blk_lens {b : api_Block} (h : ok_api_Block b) : (b.f_Requests.length ≤ 9223372036854775807 ∧ b.f_Results.length ≤ 9223372036854775807) ∧ rangeB b :=
  ⟨⟨big_of h.2.2.1.1, big_of h.2.2.2.1⟩, ⟨wf_i64 h.1, fun e he => wf_i64 (h.2.2.1.2 e he).1, fun r hr => ⟨wf_i64 (h.2.2.2.2 r hr).1, wf_i64 (h.2.2.2.2 r hr).2⟩⟩⟩
theorem z_blk : (z_api_Block.f_Requests.length ≤ 9223372036854775807 ∧ z_api_Block.f_Results.length ≤ 9223372036854775807) ∧ rangeB z_api_Block :=
  ⟨⟨by decide, by decide⟩, ⟨⟨by decide, by decide⟩, fun e he => (by cases he), fun r hr => (by cases hr)⟩⟩
theorem blks_lens {l : List api_Block} (h : ∀ x, x ∈ l → ok_api_Block x) (j : Nat) : ((l.getD j z_api_Block).f_Requests.length ≤ 9223372036854775807 ∧ (l.getD j z_api_Block).f_Results.length ≤ 9223372036854775807) ∧ rangeB (l.getD j z_api_Block) :=
  all_getD (p := fun (b : api_Block) => (b.f_Requests.length ≤ 9223372036854775807 ∧ b.f_Results.length ≤ 9223372036854775807) ∧ rangeB b) (fun x hx => blk_lens (h x hx)) z_blk j
theorem acts_lens {l : List Act'} (h : ∀ x, x ∈ l → ok_quaestorlaw11_Act x) (j : Nat) : (l.getD j z_quaestorlaw11_Act).f_Block.f_Requests.length ≤ 9223372036854775807 ∧ (l.getD j z_quaestorlaw11_Act).f_Block.f_Results.length ≤ 9223372036854775807 :=
  all_getD (p := fun (x : Act') => x.f_Block.f_Requests.length ≤ 9223372036854775807 ∧ x.f_Block.f_Results.length ≤ 9223372036854775807) (fun x hx => (blk_lens (h x hx).2.2.2).1) z_blk.1 j
end Go.Proofs.Ytdclfhahcfefeaa.Q
