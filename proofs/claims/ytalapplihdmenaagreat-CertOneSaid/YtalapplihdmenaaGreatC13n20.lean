import Derived.Test.YtalapplihdmenaaGreatC13n19
namespace Go.Proofs.YtalapplihdmenaaGreat.Q
open Go Go.RowKit
set_option linter.unusedVariables false
set_option linter.unusedSimpArgs false
set_option maxRecDepth 100000
set_option maxHeartbeats 4000000
section
variable (b : List UInt8)
end
end Go.Proofs.YtalapplihdmenaaGreat.Q
namespace Go.Proofs.YtalapplihdmenaaGreat.Q
set_option linter.unusedVariables false
set_option linter.unusedSimpArgs false
set_option maxRecDepth 100000
def firstN (h : Nat → Int) : Nat → Int
  | 0 => 0
  | n + 1 => if firstN h n ≠ 0 then firstN h n else h n
theorem first_0 {h : Nat → Int} : ∀ {n : Nat}, (∀ j, j < n → h j = 0) → firstN h n = 0
  | 0, _ => rfl
  | n + 1, q => by
    have := first_0 (h := h) (n := n) fun j hj => q j (by omega)
    rw [firstN, this]
    simp only [ne_eq, not_true, if_false]
    exact q n (by omega)
theorem first_at {h : Nat → Int} {k : Nat} (q : ∀ j, j < k → h j = 0) (hk : h k ≠ 0) : ∀ {n : Nat}, k < n → firstN h n = h k
  | 0, hn => absurd hn (Nat.not_lt_zero _)
  | n + 1, hn => by
    by_cases e : k = n
    · subst e
      rw [firstN, first_0 q]
      simp
    · have := first_at q hk (n := n) (by omega)
      rw [firstN, this, if_pos hk]
section
variable (C : aE → Int) (f : Int)
def opE (e : aE) (k : Int) : Int := if C e ≠ 0 then C e else if decE e.f_Body ≠ 0 then 120 else if (decV e.f_Body).f_Kind ≠ k then 120 else 0
def opV (e : aE) (k : Int) : aM := if opE C e k = 0 then decV e.f_Body else zM
def rqE (e : aE) : Int := if opE C e 1 ≠ 0 then opE C e 1 else if (decV e.f_Body).f_Client ≠ e.f_Signer then 120 else if isReplica f e.f_Signer then 120 else 0
def rqV (e : aE) : api_Request := if rqE C f e = 0 then ⟨(decV e.f_Body).f_Client, (decV e.f_Body).f_Stamp, (decV e.f_Body).f_Data⟩ else z_api_Request
def rqN (l : List aE) (j : Nat) : Int := rqE C f (l.getD j zE)
def btE (l : List aE) : Int := if ((l.length : Nat) : Int) > 4 then 11 else firstN (rqN C f l) l.length
def bchB (l : List aE) : List UInt8 := ofB 8 (l.map envB)
def ppE (e : aE) : Int := if opE C e 2 ≠ 0 then opE C e 2 else if e.f_Signer ≠ primaryA f (decV e.f_Body).f_View then 133 else if (decV e.f_Body).f_Digest ≠ bchB (decV e.f_Body).f_Batch then 132 else btE C f (decV e.f_Body).f_Batch
def ppV (e : aE) : aM := if ppE C f e = 0 then decV e.f_Body else zM
def vtE (e : aE) (k : Int) : Int := if opE C e k ≠ 0 then opE C e k else if k ≠ 3 ∧ k ≠ 4 ∧ k ≠ 5 then 120 else if ¬ isReplica f e.f_Signer then 30 else 0
def vtV (e : aE) (k : Int) : aM := if vtE C f e k = 0 then decV e.f_Body else zM
end
section
variable {C : aE → Int} {f : Int} {e : aE} {k : Int}
theorem op_of {x : Int} (h : opE C e k = x) (hx : x ≠ 0) : opV C e k = zM ∧ opE C e k = x := ⟨if_neg (by rw [h]; exact hx), h⟩
theorem op_c (h : C e ≠ 0) : opV C e k = zM ∧ opE C e k = C e := op_of (if_pos h) h
theorem op_d (h : ¬ C e ≠ 0) (h1 : decE e.f_Body ≠ 0) : opV C e k = zM ∧ opE C e k = 120 := op_of ((if_neg h).trans (if_pos h1)) (by decide)
theorem op_k (h : ¬ C e ≠ 0) (h1 : ¬ decE e.f_Body ≠ 0) (h2 : (decV e.f_Body).f_Kind ≠ k) : opV C e k = zM ∧ opE C e k = 120 := op_of ((if_neg h).trans ((if_neg h1).trans (if_pos h2))) (by decide)
theorem op_ok (h : ¬ C e ≠ 0) (h1 : ¬ decE e.f_Body ≠ 0) (h2 : ¬ (decV e.f_Body).f_Kind ≠ k) : opV C e k = decV e.f_Body ∧ opE C e k = 0 := by
  have : opE C e k = 0 := (if_neg h).trans ((if_neg h1).trans (if_neg h2))
  exact ⟨if_pos this, this⟩
end
section
variable {C : aE → Int} {f : Int} {e : aE} {k : Int}
theorem rq_of {x : Int} (h : rqE C f e = x) (hx : x ≠ 0) : rqV C f e = z_api_Request ∧ rqE C f e = x := ⟨if_neg (by rw [h]; exact hx), h⟩
theorem rq_o (h : opE C e 1 ≠ 0) : rqV C f e = z_api_Request ∧ rqE C f e = opE C e 1 := rq_of (if_pos h) h
theorem rq_c (h : ¬ opE C e 1 ≠ 0) (h1 : (decV e.f_Body).f_Client ≠ e.f_Signer) : rqV C f e = z_api_Request ∧ rqE C f e = 120 := rq_of ((if_neg h).trans (if_pos h1)) (by decide)
theorem rq_r (h : ¬ opE C e 1 ≠ 0) (h1 : isReplica f e.f_Signer) : rqV C f e = z_api_Request ∧ rqE C f e = 120 := by
  by_cases q : (decV e.f_Body).f_Client ≠ e.f_Signer
  · exact rq_c h q
  · exact rq_of ((if_neg h).trans ((if_neg q).trans (if_pos h1))) (by decide)
theorem rq_ok (h : ¬ opE C e 1 ≠ 0) (h1 : ¬ (decV e.f_Body).f_Client ≠ e.f_Signer) (h2 : ¬ isReplica f e.f_Signer) : rqV C f e = ⟨(decV e.f_Body).f_Client, (decV e.f_Body).f_Stamp, (decV e.f_Body).f_Data⟩ ∧ rqE C f e = 0 := by
  have : rqE C f e = 0 := (if_neg h).trans ((if_neg h1).trans (if_neg h2))
  exact ⟨if_pos this, this⟩
theorem op_val (h : ¬ opE C e k ≠ 0) : opV C e k = decV e.f_Body := if_pos (Classical.not_not.1 h)
theorem bt_long {l : List aE} (h : ((l.length : Nat) : Int) > 4) : btE C f l = 11 := if_pos h
theorem bt_at {l : List aE} {j : Nat} (h : ¬ ((l.length : Nat) : Int) > 4) (hb : ∀ i, i < j → rqN C f l i = 0) (hj : rqE C f (l.getD j zE) ≠ 0) (hl : j < l.length) : btE C f l = rqE C f (l.getD j zE) := (if_neg h).trans (first_at hb hj hl)
theorem bt_0 {l : List aE} {j : Nat} (h : ¬ ((l.length : Nat) : Int) > 4) (hb : ∀ i, i < j → rqN C f l i = 0) (hl : l.length ≤ j) : btE C f l = 0 := (if_neg h).trans (first_0 fun i hi => hb i (by omega))
theorem pp_of {x : Int} (h : ppE C f e = x) (hx : x ≠ 0) : ppV C f e = zM ∧ ppE C f e = x := ⟨if_neg (by rw [h]; exact hx), h⟩
theorem pp_o (h : opE C e 2 ≠ 0) : ppV C f e = zM ∧ ppE C f e = opE C e 2 := pp_of (if_pos h) h
theorem pp_p (h : ¬ opE C e 2 ≠ 0) (h1 : e.f_Signer ≠ primaryA f (decV e.f_Body).f_View) : ppV C f e = zM ∧ ppE C f e = 133 := pp_of ((if_neg h).trans (if_pos h1)) (by decide)
theorem pp_d (h : ¬ opE C e 2 ≠ 0) (h1 : ¬ e.f_Signer ≠ primaryA f (decV e.f_Body).f_View) (h2 : (decV e.f_Body).f_Digest ≠ bchB (decV e.f_Body).f_Batch) : ppV C f e = zM ∧ ppE C f e = 132 := pp_of ((if_neg h).trans ((if_neg h1).trans (if_pos h2))) (by decide)
theorem pp_b (h : ¬ opE C e 2 ≠ 0) (h1 : ¬ e.f_Signer ≠ primaryA f (decV e.f_Body).f_View) (h2 : ¬ (decV e.f_Body).f_Digest ≠ bchB (decV e.f_Body).f_Batch) (h3 : btE C f (decV e.f_Body).f_Batch ≠ 0) : ppV C f e = zM ∧ ppE C f e = btE C f (decV e.f_Body).f_Batch := pp_of ((if_neg h).trans ((if_neg h1).trans (if_neg h2))) h3
theorem pp_ok (h : ¬ opE C e 2 ≠ 0) (h1 : ¬ e.f_Signer ≠ primaryA f (decV e.f_Body).f_View) (h2 : ¬ (decV e.f_Body).f_Digest ≠ bchB (decV e.f_Body).f_Batch) (h3 : ¬ btE C f (decV e.f_Body).f_Batch ≠ 0) : ppV C f e = decV e.f_Body ∧ ppE C f e = 0 := by
  have : ppE C f e = 0 := (if_neg h).trans ((if_neg h1).trans ((if_neg h2).trans (Classical.not_not.1 h3)))
  exact ⟨if_pos this, this⟩
theorem vt_of {x : Int} (h : vtE C f e k = x) (hx : x ≠ 0) : vtV C f e k = zM ∧ vtE C f e k = x := ⟨if_neg (by rw [h]; exact hx), h⟩
theorem vt_o (h : opE C e k ≠ 0) : vtV C f e k = zM ∧ vtE C f e k = opE C e k := vt_of (if_pos h) h
theorem vt_k (h : ¬ opE C e k ≠ 0) (h1 : k ≠ 3) (h2 : k ≠ 4) (h3 : k ≠ 5) : vtV C f e k = zM ∧ vtE C f e k = 120 := vt_of ((if_neg h).trans (if_pos ⟨h1, h2, h3⟩)) (by decide)
theorem vt_s (h : ¬ opE C e k ≠ 0) (h1 : ¬ (k ≠ 3 ∧ k ≠ 4 ∧ k ≠ 5)) (h2 : ¬ isReplica f e.f_Signer) : vtV C f e k = zM ∧ vtE C f e k = 30 := vt_of ((if_neg h).trans ((if_neg h1).trans (if_pos h2))) (by decide)
theorem vt_ok (h : ¬ opE C e k ≠ 0) (h1 : ¬ (k ≠ 3 ∧ k ≠ 4 ∧ k ≠ 5)) (h2 : isReplica f e.f_Signer) : vtV C f e k = decV e.f_Body ∧ vtE C f e k = 0 := by
  have : vtE C f e k = 0 := (if_neg h).trans ((if_neg h1).trans (if_neg (fun q => q h2)))
  exact ⟨if_pos this, this⟩
end
def twiceL (l : List aE) (j : Nat) : Prop := ∃ i, i < j ∧ (l.getD i zE).f_Signer = (l.getD j zE).f_Signer
instance (l : List aE) (j : Nat) : Decidable (twiceL l j) := inferInstanceAs (Decidable (∃ i, i < j ∧ _))
def seenT (l : List aE) (k : Nat) : List (Int × Bool) := (l.take k).foldl (fun t e => mput t e.f_Signer true) []
def votN (g : aE → Int) (l : List aE) (j : Nat) : Int := if g (l.getD j zE) ≠ 0 then g (l.getD j zE) else if twiceL l j then 33 else 0
def tlyE (g : aE → Int) (l : List aE) (need : Int) : Int := if firstN (votN g l) l.length ≠ 0 then firstN (votN g l) l.length else if ((l.length : Nat) : Int) < need then 32 else 0
def musE (p : aM) (kind pre : Int) (m : aM) (s : Int) : Int := if m.f_View ≠ p.f_View then 130 else if m.f_Seq ≠ p.f_Seq then 131 else if m.f_Digest ≠ p.f_Digest then 132 else if kind = 3 ∧ s = pre then 133 else 0
def gC (C : aE → Int) (f : Int) (p : aM) (kind pre : Int) (e : aE) : Int := if vtE C f e kind ≠ 0 then vtE C f e kind else musE p kind pre (decV e.f_Body) e.f_Signer
def ceE (C : aE → Int) (f : Int) (c : aC) (kind need : Int) : Int := if ppE C f c.f_Pre ≠ 0 then ppE C f c.f_Pre else tlyE (gC C f (decV c.f_Pre.f_Body) kind c.f_Pre.f_Signer) c.f_Votes need
def ceV (C : aE → Int) (f : Int) (c : aC) (kind need : Int) : aM := if ceE C f c kind need = 0 then decV c.f_Pre.f_Body else zM
section
variable {g : aE → Int} {x : List aE} {k : Nat} {need : Int}
theorem vot_1 (h : g (x.getD k zE) ≠ 0) : votN g x k = g (x.getD k zE) := if_pos h
theorem vot_2 (h : ¬ g (x.getD k zE) ≠ 0) (h2 : twiceL x k) : votN g x k = 33 := (if_neg h).trans (if_pos h2)
theorem vot_3 (h : ¬ g (x.getD k zE) ≠ 0) (h2 : ¬ twiceL x k) : votN g x k = 0 := (if_neg h).trans (if_neg h2)
theorem tly_at {E : Int} (need : Int) (hb : ∀ i, i < k → votN g x i = 0) (h : votN g x k = E) (hE : E ≠ 0) (hk : k < x.length) : tlyE g x need = E := by
  have e := first_at hb (by rw [h]; exact hE) hk
  unfold tlyE
  rw [e, h, if_pos hE]
theorem tly_0 (need : Int) (hb : ∀ i, i < k → votN g x i = 0) (hk : x.length ≤ k) : tlyE g x need = if ((x.length : Nat) : Int) < need then 32 else 0 := by
  have e : firstN (votN g x) x.length = 0 := first_0 fun i hi => hb i (by omega)
  unfold tlyE
  rw [e, if_neg (by simp)]
end
section
variable {C : aE → Int} {f : Int} {e : aE} {p : aM} {kind pre : Int}
theorem vt_val (h : ¬ vtE C f e kind ≠ 0) : vtV C f e kind = decV e.f_Body := if_pos (Classical.not_not.1 h)
theorem gC_1 (h : vtE C f e kind ≠ 0) : gC C f p kind pre e = vtE C f e kind := if_pos h
theorem gC_2 (h : ¬ vtE C f e kind ≠ 0) : gC C f p kind pre e = musE p kind pre (vtV C f e kind) e.f_Signer := by rw [vt_val h]; exact if_neg h
end
section
variable {C : aE → Int} {f : Int} {c : aC} {kind need : Int}
theorem ce_of {x : Int} (h : ceE C f c kind need = x) (hx : x ≠ 0) : ceV C f c kind need = zM ∧ ceE C f c kind need = x := ⟨if_neg (by rw [h]; exact hx), h⟩
theorem ce_p (h : ppE C f c.f_Pre ≠ 0) : ceV C f c kind need = zM ∧ ceE C f c kind need = ppE C f c.f_Pre := ce_of (if_pos h) h
theorem pp_val {e : aE} (h : ¬ ppE C f e ≠ 0) : ppV C f e = decV e.f_Body := if_pos (Classical.not_not.1 h)
theorem ce_is (h : ¬ ppE C f c.f_Pre ≠ 0) : ceE C f c kind need = tlyE (gC C f (ppV C f c.f_Pre) kind c.f_Pre.f_Signer) c.f_Votes need := by rw [pp_val h]; exact if_neg h
theorem ce_t (h : ¬ ppE C f c.f_Pre ≠ 0) (h1 : tlyE (gC C f (ppV C f c.f_Pre) kind c.f_Pre.f_Signer) c.f_Votes need ≠ 0) : ceV C f c kind need = zM ∧ ceE C f c kind need = tlyE (gC C f (ppV C f c.f_Pre) kind c.f_Pre.f_Signer) c.f_Votes need := ce_of (ce_is h) h1
theorem ce_ok (h : ¬ ppE C f c.f_Pre ≠ 0) (h1 : ¬ tlyE (gC C f (ppV C f c.f_Pre) kind c.f_Pre.f_Signer) c.f_Votes need ≠ 0) : ceV C f c kind need = ppV C f c.f_Pre ∧ ceE C f c kind need = 0 := by
  have : ceE C f c kind need = 0 := (ce_is h).trans (Classical.not_not.1 h1)
  exact ⟨by rw [pp_val h]; exact if_pos this, this⟩
end
section
variable {C : aE → Int} {f seq : Int} {d : List UInt8} {x : List aE} {k : Nat}
end
section
variable {C : aE → Int} {f seq : Int} {x : List aE}
end
def okEnv (e : aE) : Prop := i64R e.f_Signer ∧ e.f_Body.length ≤ 16777216
def okEs (l : List aE) : Prop := l.length ≤ 31 ∧ ∀ e, e ∈ l → okEnv e
theorem runL_ok (M : Int) (r : List UInt8) (e : Int) : ∀ k, ∀ x, x ∈ (runL M r e k).l → i64R x.f_Signer ∧ x.f_Body.length ≤ r.length
  | 0 => fun x hx => by cases hx
  | k + 1 => fun x hx => by
    have hl := (runL_len M r e k).1
    have hx : x ∈ (runL M r e k).l ++ [evV M (runL M r e k).rest (runL M r e k).e] := hx
    rw [List.mem_append, List.mem_singleton] at hx
    rcases hx with h | h
    · exact runL_ok M r e k x h
    · subst h
      exact ⟨rdI_range _ _, Nat.le_trans (rdY_len _ _ _) (Nat.le_trans (rdR_len _ _ _ _) hl)⟩
def okEn (n : Nat) (l : List aE) : Prop := l.length ≤ 15 ∧ ∀ e, e ∈ l → i64R e.f_Signer ∧ e.f_Body.length ≤ n
theorem finL_ok {M : Int} {r : List UInt8} {e : Int} {n : Nat} (h : r.length ≤ n) : okEn n (finL M r e).l := ⟨(finL_len M r e).2, fun x hx => by have := runL_ok M r e _ x hx; exact ⟨this.1, by omega⟩⟩
theorem stepM_bat {M N : Int} {n : Nat} {s : RdM} (h : okEn n s.m.f_Batch) (hl : s.rest.length ≤ n) (j : Nat) : okEn n (stepM M N s j).m.f_Batch := by
  rcases (by omega : j = 0 ∨ j = 1 ∨ j = 2 ∨ j = 3 ∨ j = 4 ∨ j = 5 ∨ j = 6 ∨ j = 7 ∨ j = 8 ∨ 9 ≤ j) with q | q | q | q | q | q | q | q | q | q
  case inr.inr.inr.inr.inr.inr.inl => subst q; exact finL_ok hl
  case inr.inr.inr.inr.inr.inr.inr.inr.inr => obtain ⟨i, rfl⟩ : ∃ i, j = i + 9 := ⟨j - 9, by omega⟩; exact h
  all_goals (subst q; exact h)
theorem runM_bat (M N : Int) (r : List UInt8) (e k : Int) : ∀ j, okEn r.length (runM M N r e k j).m.f_Batch
  | 0 => ⟨Nat.zero_le _, fun x hx => by cases hx⟩
  | j + 1 => by
    rw [runM]
    split
    · exact stepM_bat (runM_bat M N r e k j) (runM_len _ _ _ _ _ _) j
    · exact runM_bat M N r e k j
theorem decV_bat (b : List UInt8) : okEs (decV b).f_Batch := by
  unfold decV decW
  split
  · rename_i h
    have hl := h.1
    have hr := rdR_len b 0 8 0
    obtain ⟨h1, h2⟩ := runM_bat ((b.length : Nat) : Int) 16777216 (rdR b 0 8 0) (rdE b 0 8 0) (rdI b 0) 9
    exact ⟨Nat.le_trans h1 (by decide), fun e he => ⟨(h2 e he).1, by have := (h2 e he).2; omega⟩⟩
  · exact ⟨Nat.zero_le _, fun x hx => by cases hx⟩
theorem envs_le {l : List aE} {n : Nat} (h : ∀ e, e ∈ l → e.f_Body.length ≤ n) : (envsB l).length ≤ l.length * (12 + n) := by
  induction l with
  | nil => simp [envsB]
  | cons e r ih =>
    have h1 := ih fun x hx => h x (List.mem_cons_of_mem _ hx)
    have h2 := h e (List.mem_cons_self ..)
    rw [show envsB (e :: r) = envB e ++ envsB r from rfl, List.length_append, env_len, List.length_cons, Nat.succ_mul]
    omega
theorem okEs_le {l : List aE} (h : okEs l) : (envsB l).length ≤ 520094068 := by
  have h1 := envs_le fun e he => (h.2 e he).2
  have h2 := Nat.mul_le_mul_right (12 + 16777216) h.1
  omega
theorem okEs_get {l : List aE} (h : okEs l) {k : Nat} (hk : k < l.length) : okEnv (l.getD k zE) := h.2 _ (getD_mem hk)
theorem szP_env (l : List aE) : ∀ n, (l.map envB).foldl (fun n p => n + (4 + p.length)) n = n + 4 * l.length + (envsB l).length := by
  induction l with
  | nil => intro n; simp [envsB]
  | cons e r ih =>
    intro n
    rw [List.map_cons, List.foldl_cons, ih, show envsB (e :: r) = envB e ++ envsB r from rfl, List.length_append, List.length_cons]
    omega
theorem szP_envs (l : List aE) : szP (l.map envB) = 5 + 4 * l.length + (envsB l).length := szP_env l 5
theorem map_get {l : List aE} {k : Nat} (hk : k < l.length) : (l.map envB).getD k [] = envB (l.getD k zE) := by
  rw [List.getD_eq_getElem?_getD, List.getD_eq_getElem?_getD, List.getElem?_map, List.getElem?_eq_getElem hk]; rfl
theorem mget_put {l : List (Int × Bool)} {k k' : Int} {v z : Bool} : mget (mput l k v) k' z = if k = k' then v else mget l k' z := by
  induction l with
  | nil => simp only [mput, mget]
  | cons e r ih =>
    simp only [mput]
    by_cases h : e.1 = k
    · subst h
      simp only [if_pos, mget]
      split <;> rfl
    · simp only [if_neg h, mget, ih]
      by_cases h2 : e.1 = k'
      · subst h2
        rw [if_pos rfl, if_pos rfl, if_neg (fun q => h q.symm)]
      · rw [if_neg h2, if_neg h2]
theorem seen_succ {l : List aE} {k : Nat} (hk : k < l.length) : seenT l (k + 1) = mput (seenT l k) (l.getD k zE).f_Signer true := by
  unfold seenT
  rw [tk_succ (z := zE) hk, List.foldl_append]
  rfl
theorem seen_get {l : List aE} {s : Int} : ∀ {k : Nat}, k ≤ l.length → (mget (seenT l k) s false = true ↔ ∃ i, i < k ∧ (l.getD i zE).f_Signer = s)
  | 0, _ => ⟨(fun h => by cases h), fun ⟨i, h, _⟩ => absurd h (Nat.not_lt_zero _)⟩
  | k + 1, hk => by
    rw [seen_succ (by omega), mget_put]
    split
    · rename_i h; exact ⟨fun _ => ⟨k, by omega, h⟩, fun _ => rfl⟩
    · rename_i h
      rw [seen_get (k := k) (by omega)]
      exact ⟨fun ⟨i, h1, h2⟩ => ⟨i, by omega, h2⟩, fun ⟨i, h1, h2⟩ => ⟨i, by rcases Nat.lt_or_ge i k with q | q; exact q; exact absurd (by rw [← h2, show i = k by omega]) h, h2⟩⟩
theorem seen_twice {l : List aE} {k : Nat} (hk : k ≤ l.length) : mget (seenT l k) (l.getD k zE).f_Signer false = true ↔ twiceL l k := seen_get hk
end Go.Proofs.YtalapplihdmenaaGreat.Q
