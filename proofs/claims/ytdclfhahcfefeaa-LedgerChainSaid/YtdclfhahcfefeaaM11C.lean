import Derived.Test.YtdclfhahcfefeaaC11n15
namespace Go.Proofs.Ytdclfhahcfefeaa.Q
set_option linter.unusedVariables false
set_option linter.unusedSimpArgs false
set_option maxRecDepth 100000

/-! ### Blocks that are forgotten -/

def cutS (s : LSt) (x : Int) : LSt := ⟨rcutH s.h s.L x, rcutD s.h s.d s.L x, rcutL s.h s.L x⟩
def app1 (s : LSt) (b : api_Block) : LSt := ⟨s.h, s.d, rappL s.h s.d s.L b⟩
theorem okS_cut {k : Nat} {s : LSt} {x : Int} (hs : okS k s) (hk : k ≤ 90) : okS (k + 1) (cutS s x) := by
  have h := okS_step (x := ⟨true, false, x, z_api_Block⟩) hs hk (show fewB z_api_Block by decide)
  obtain ⟨_, _, _, e1, e2, e3⟩ := st_cut (h := s.h) (d := s.d) (L := s.L) (x := ⟨true, false, x, z_api_Block⟩) rfl
  have e : stepS s ⟨true, false, x, z_api_Block⟩ = cutS s x := by unfold stepS cutS; rw [e1, e2, e3]
  rw [← e]; exact h
theorem okS_app {k : Nat} {s : LSt} {b : api_Block} (hs : okS k s) (hk : k ≤ 90) (hb : fewB b) : okS (k + 1) (app1 s b) := by
  have h := okS_step (x := ⟨false, false, 0, b⟩) hs hk hb
  obtain ⟨e1, e2, _, e3⟩ := st_app (h := s.h) (d := s.d) (L := s.L) (x := ⟨false, false, 0, b⟩) (b := b) rfl rfl
  have e : stepS s ⟨false, false, 0, b⟩ = app1 s b := by unfold stepS app1; rw [e1, e2, e3]
  rw [← e]; exact h
def rel2 (a c : LSt) : Prop := a.h + ((a.L.length : Nat) : Int) = c.h + ((c.L.length : Nat) : Int) ∧ atB a.d a.L a.L.length = atB c.d c.L c.L.length
theorem at_drop {d : List UInt8} {L : List api_Block} {n : Nat} (hn : n ≤ L.length) : atB (atB d L n) (L.drop n) (L.drop n).length = atB d L L.length := by
  rw [List.length_drop]
  unfold atB
  by_cases h1 : L.length - n = 0
  · have : n = L.length := by omega
    rw [if_pos h1, this]
  · rw [if_neg h1, if_neg (by omega)]
    rw [List.getD_eq_getElem?_getD, List.getD_eq_getElem?_getD, List.getElem?_drop, show n + (L.length - n - 1) = L.length - 1 by omega]
theorem rel_cut (s : LSt) (x : Int) : rel2 s (cutS s x) := by
  by_cases hr : x < s.h ∨ x > s.h + ((s.L.length : Nat) : Int)
  · obtain ⟨_, r1, r2, r3⟩ := rcut_no (h := s.h) (d := s.d) (L := s.L) hr
    unfold cutS rel2
    simp only []
    rw [r1, r2, r3]
    exact ⟨rfl, rfl⟩
  · obtain ⟨_, r1, r2, r3⟩ := rcut_yes (h := s.h) (d := s.d) (L := s.L) hr
    unfold cutS rel2
    simp only []
    rw [r1, r2, r3]
    exact ⟨by rw [List.length_drop]; omega, (at_drop (by omega)).symm⟩
theorem rel_err {a c : LSt} {b : api_Block} (h : rel2 a c) : rappE a.h a.d a.L b = rappE c.h c.d c.L b := by
  unfold rappE appE
  rw [links_len, links_len, hd_links, hd_links, h.1, h.2]
theorem app1_yes {s : LSt} {b : api_Block} (h : rappE s.h s.d s.L b = 0) : app1 s b = ⟨s.h, s.d, s.L ++ [b]⟩ := by unfold app1 rappL; rw [if_pos h]
theorem app1_no {s : LSt} {b : api_Block} (h : ¬ rappE s.h s.d s.L b = 0) : app1 s b = s := by unfold app1 rappL; rw [if_neg h]
theorem at_snoc (d : List UInt8) (L : List api_Block) (b : api_Block) : atB d (L ++ [b]) (L ++ [b]).length = digB (headB b) := by
  unfold atB
  rw [if_neg (by simp), List.length_append, List.length_singleton, Nat.add_sub_cancel, List.getD_eq_getElem?_getD, List.getElem?_append_right (Nat.le_refl _), Nat.sub_self]
  rfl
theorem rel_app {a c : LSt} {b : api_Block} (h : rel2 a c) : rel2 (app1 a b) (app1 c b) := by
  by_cases he : rappE a.h a.d a.L b = 0
  · rw [app1_yes he, app1_yes ((rel_err h).symm.trans he)]
    refine ⟨?_, ?_⟩
    · show a.h + (((a.L ++ [b]).length : Nat) : Int) = c.h + (((c.L ++ [b]).length : Nat) : Int)
      have := h.1
      rw [List.length_append, List.length_append, List.length_singleton]
      omega
    · show atB a.d (a.L ++ [b]) (a.L ++ [b]).length = atB c.d (c.L ++ [b]) (c.L ++ [b]).length
      rw [at_snoc, at_snoc]
  · rw [app1_no he, app1_no (fun e => he ((rel_err h).trans e))]
    exact h
def actS (s : LSt) (x : Act') : api_Block := actB s.h s.d s.L x
def run2 (s t : LSt) (m : List Act') : Nat → LSt × LSt
  | 0 => (s, t)
  | k + 1 => (app1 (run2 s t m k).1 (actS (run2 s t m k).1 (m.getD k z_quaestorlaw11_Act)), app1 (run2 s t m k).2 (actS (run2 s t m k).1 (m.getD k z_quaestorlaw11_Act)))
theorem actS_few {k : Nat} {s : LSt} {x : Act'} (hs : okS k s) (hk : k ≤ 90) (hx : fewB x.f_Block) : fewB (actS s x) := by
  unfold actS actB
  split
  · exact act_few hx (okS_fact hs hk).2.2.2
  · exact hx
theorem run2_ok {s t : LSt} {j : Nat} {m : List Act'} (hs : okS j s) (ht : okS (j + 1) t) (hr : rel2 s t) (hf : fewA m) : ∀ k, k + j + 1 ≤ 90 → okS (k + j) (run2 s t m k).1 ∧ okS (k + j + 1) (run2 s t m k).2 ∧ rel2 (run2 s t m k).1 (run2 s t m k).2
  | 0, _ => by rw [Nat.zero_add]; exact ⟨hs, ht, hr⟩
  | k + 1, hk => by
    obtain ⟨h1, h2, h3⟩ := run2_ok hs ht hr hf k (by omega)
    have hb := actS_few h1 (by omega) (fewA_get hf k).1
    rw [show k + 1 + j = k + j + 1 by omega]
    exact ⟨okS_app h1 (by omega) hb, okS_app h2 (by omega) hb, rel_app h3⟩
theorem run2_base (s t : LSt) (m : List Act') : ∀ k, (run2 s t m k).2.h = t.h
  | 0 => rfl
  | k + 1 => run2_base s t m k
theorem rel_head {a c : LSt} (h : rel2 a c) : hdL a.d (linksB a.L) = hdL c.d (linksB c.L) := by rw [hd_links, hd_links]; exact h.2
/-- What the second loop leans on. -/
theorem two_fact {l m : List Act'} {x : Int} (hf : fewA l) (hg : fewA m) {k j : Nat} (hk : k ≤ 30) (hj : j ≤ 30) :
    let a := (run2 (runS sNew l k) (cutS (runS sNew l k) x) m j).1
    let c := (run2 (runS sNew l k) (cutS (runS sNew l k) x) m j).2
    ((0 ≤ a.h ∧ a.h ≤ 1099511627776) ∧ a.L.length ≤ 90 ∧ fewLB a.L ∧ (atB a.d a.L a.L.length).length ≤ 10000000) ∧ ((0 ≤ c.h ∧ c.h ≤ 1099511627776) ∧ c.L.length ≤ 90 ∧ fewLB c.L ∧ (atB c.d c.L c.L.length).length ≤ 10000000) ∧ rel2 a c := by
  have h0 := okS_run okS_new hf k (by omega)
  obtain ⟨h1, h2, h3⟩ := run2_ok h0 (okS_cut h0 (by omega)) (rel_cut _ x) hg j (by omega)
  exact ⟨okS_fact h1 (by omega), okS_fact h2 (by omega), h3⟩
theorem lk_app {s : LSt} {b : api_Block} : appL s.h s.d (linksB s.L) b = linksB (app1 s b).L := app_links s.h s.d s.L b
theorem cutE_links (h : Int) (L : List api_Block) (x : Int) : cutE h (linksB L).length x = cutE h L.length x := by rw [links_len]
theorem cut_base {h : Int} {L : List api_Block} {x : Int} (he : cutE h (linksB L).length x = 0) : rcutH h L x = x := by
  rw [links_len] at he
  exact if_pos he
end Go.Proofs.Ytdclfhahcfefeaa.Q
