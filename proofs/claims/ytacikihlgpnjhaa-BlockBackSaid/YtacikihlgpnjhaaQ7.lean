import Derived.Test.YtacikihlgpnjhaaQ6
namespace Go.Proofs.Ytacikihlgpnjhaa.Q
open Go Go.RowKit
set_option linter.unusedVariables false
set_option linter.unusedSimpArgs false

/-! ### Calls -/

def noTag : DV → Prop
  | .any => True
  | .val _ => True
  | .sl tag _ _ _ el => tag = false ∧ ∀ i j, noTag (el i j)
def noTagS : SV → Prop
  | .d x => noTag x
  | .ep tag _ el => tag = false ∧ ∀ j, noTag (el j)
  | .cl tag _ _ _ el => tag = false ∧ ∀ i j, noTag (el i j)
  | _ => True
def allP {α : Type} (p : α → Prop) : List α → Prop
  | [] => True
  | a :: l => p a ∧ allP p l
def noTagT : TV → Prop
  | .one s => noTagS s
  | .agg l => allP noTagS l
def noTagA : AV → Prop
  | .tv t => noTagT t
  | .tup l => allP noTagT l
def noTagO : HObj → Prop
  | .box _ cs => allP noTagS cs
  | .arr _ _ _ el => ∀ i j, noTag (el i j)
  | .mp es => allP (fun e => allP noTag e.2) es
def noTagH : HS → Prop
  | .live o => noTagO o
  | _ => True

section
variable {B : Bk} {S U U' : Nat → Prop} {w : World}
theorem noTag_dOk : ∀ {x : DV} {v : Value}, noTag x → dOk S U w x v → dOk S U' w x v
  | .any, _, _, _ => trivial
  | .val _, _, _, h => h
  | .sl tag nn sz n el, v, ht, h => by
    obtain ⟨rfl, ht⟩ := ht
    obtain ⟨a, cap, hv, h1, h2, h3, h4⟩ := h
    refine ⟨a, cap, hv, h1, h2, h3, fun i hi => ?_⟩
    obtain ⟨ad, ha, hs, hb, hc⟩ := h4 i hi
    refine ⟨ad, ha, hs, hb, fun j hj => ?_⟩
    obtain ⟨u, hu, hd⟩ := hc j hj
    exact ⟨u, hu, noTag_dOk (ht i j) hd⟩
theorem noTag_svOk : ∀ {x : SV} {v : Value}, noTagS x → svOk B S U w x v → svOk B S U' w x v
  | .d x, _, ht, h => noTag_dOk (x := x) ht h
  | .ptr .., _, _, h => h
  | .own .., _, _, h => h
  | .mref .., _, _, h => h
  | .cl tag nn sz n el, _, ht, h => ⟨noTag_dOk (x := .sl tag nn sz n el) ht h.1, h.2⟩
  | .ep tag n el, v, ht, h => by
    obtain ⟨rfl, ht⟩ := ht
    obtain ⟨ad, h1, h2, h3, h4⟩ := h
    refine ⟨ad, h1, h2, h3, fun j hj => ?_⟩
    obtain ⟨u, hu, hd⟩ := h4 j hj
    exact ⟨u, hu, noTag_dOk (ht j) hd⟩
theorem all2_allP {α β : Type} {p : α → Prop} {R R' : α → β → Prop} (h : ∀ a b, p a → R a b → R' a b) : ∀ {l : List α} {k : List β}, allP p l → all2 R l k → all2 R' l k
  | [], [], _, _ => trivial
  | _ :: _, _ :: _, hp, hr => ⟨h _ _ hp.1 hr.1, all2_allP h hp.2 hr.2⟩
  | [], _ :: _, _, hr => hr.elim
  | _ :: _, [], _, hr => hr.elim
theorem noTag_tvOk : ∀ {x : TV} {v : Value}, noTagT x → tvOk B S U w x v → tvOk B S U' w x v
  | .one s, _, ht, h => noTag_svOk (x := s) ht h
  | .agg l, _, ht, h => by
    obtain ⟨cs, h1, h2⟩ := h
    exact ⟨cs, h1, all2_allP (p := noTagS) (fun a b hp hr => noTag_svOk hp hr) ht h2⟩
theorem noTag_avOk : ∀ {x : AV} {v : Value}, noTagA x → avOk B S U w x v → avOk B S U' w x v
  | .tv t, _, ht, h => noTag_tvOk (x := t) ht h
  | .tup l, _, ht, h => by
    obtain ⟨cs, h1, h2⟩ := h
    exact ⟨cs, h1, all2_allP (p := noTagT) (fun a b hp hr => noTag_tvOk hp hr) ht h2⟩
theorem noTag_obOk {l : Nat} : ∀ {o : HObj}, noTagO o → obOk B S U w l o → obOk B S U' w l o
  | .box T cs, ht, h => by
    obtain ⟨b, κ, cur, h1, h2, h3⟩ := h
    exact ⟨b, κ, cur, h1, h2, all2_allP (p := noTagS) (fun a b hp hr => noTag_svOk hp hr) ht h3⟩
  | .arr T sz n el, ht, h => by
    rcases h with h | ⟨b, κ, cur, h1, h2, h3, h4, h5, h6⟩
    · exact .inl h
    · exact .inr ⟨b, κ, cur, h1, h2, h3, h4, h5, fun i hi j hj => by obtain ⟨u, hu, hd⟩ := h6 i hi j hj; exact ⟨u, hu, noTag_dOk (ht i j) hd⟩⟩
  | .mp es, ht, h => by
    obtain ⟨b, κ, ents, clock, h1, h2, h3⟩ := h
    exact ⟨b, κ, ents, clock, h1, h2, all2_allP (p := fun (e : Value × List DV) => allP noTag e.2) (fun a b hp hr => ⟨hr.1, hr.2.1, all2_allP (p := noTag) (fun a b hp hr => noTag_dOk hp hr) hp hr.2.2⟩) ht h3⟩
end

/-- An object's slice lent for the call. -/
def borS (rh : List (Nat × HS)) (bor : List Nat) : SV → SV → Prop
  | .own l sz off n, .d (.sl tag nn sz' n' el') => tag = true ∧ (nn = true → 0 < n) ∧ sz' = sz ∧ n' = n ∧ l ∈ bor ∧ ∃ T n0 el, (l, HS.live (.arr T sz n0 el)) ∈ rh ∧ off + n ≤ n0 ∧ ∀ i j, el' i j = el (off + i) j
  | _, _ => False
/-- What says less of a cell: nil is a slice of nothing; what is known not to be nil, or of no room, is a slice. -/
def weakS : SV → SV → Prop
  | .d (.val v), .d (.sl tag nn sz n el) => v = .slice none 0 0 ∧ nn = false ∧ n = 0
  | .d (.sl tag nn sz n el), .d (.sl tag' nn' sz' n' el') => tag = tag' ∧ (nn' = true → nn = true) ∧ sz = sz' ∧ n = n' ∧ el = el'
  | .cl tag nn sz n el, .d (.sl tag' nn' sz' n' el') => tag = tag' ∧ (nn' = true → nn = true) ∧ sz = sz' ∧ n = n' ∧ el = el'
  | _, _ => False
theorem weakS_ok {B B' : Bk} {S U : Nat → Prop} {w : World} : ∀ {x y : SV} {v : Value}, weakS x y → svOk B S U w x v → svOk B' S U w y v
  | .d (.val u), .d (.sl tag nn sz n el), v, ⟨h1, h2, h3⟩, hv => by
    have hv : v = u := hv
    subst hv h1 h2 h3
    exact ⟨none, 0, rfl, Nat.le_refl _, fun _ => rfl, (fun h => by cases h), fun i hi => absurd hi (Nat.not_lt_zero _)⟩
  | .d (.sl tag nn sz n el), .d (.sl tag' nn' sz' n' el'), v, ⟨h1, h2, h3, h4, h5⟩, hv => by
    subst h1 h3 h4 h5
    obtain ⟨a, cap, e1, e2, e3, e4, e5⟩ := hv
    exact ⟨a, cap, e1, e2, e3, fun h => e4 (h2 h), e5⟩
  | .cl tag nn sz n el, .d (.sl tag' nn' sz' n' el'), v, ⟨h1, h2, h3, h4, h5⟩, hv => by
    subst h1 h3 h4 h5
    obtain ⟨⟨a, cap, e1, e2, e3, e4, e5⟩, _⟩ := hv
    exact ⟨a, cap, e1, e2, e3, fun h => e4 (h2 h), e5⟩
def wkS (x y : SV) : Prop := x = y ∨ weakS x y
theorem all2_wk {B : Bk} {S U : Nat → Prop} {w : World} : ∀ {x y : List SV} {vs : List Value}, all2 wkS x y → all2 (svOk B S U w) x vs → all2 (svOk B S U w) y vs
  | [], [], [], _, _ => trivial
  | x :: xs, y :: ys, v :: vs, h, h' => ⟨h.1.elim (fun e => e ▸ h'.1) fun e => weakS_ok e h'.1, all2_wk h.2 h'.2⟩
  | [], [], _ :: _, _, h => h.elim
  | _ :: _, _ :: _, [], _, h => h.elim
  | [], _ :: _, _, h, _ => h.elim
  | _ :: _, [], _, h, _ => h.elim
theorem wk_refl : ∀ (x : List SV), all2 wkS x x
  | [] => trivial
  | _ :: l => ⟨.inl rfl, wk_refl l⟩
def argS (r : Nat → Nat) (k : Nat) (rh : List (Nat × HS)) (bor : List Nat) (x y : SV) : Prop := (x = renS r y ∧ idsS k y = true) ∨ borS rh bor x y ∨ weakS x y
def argT (r : Nat → Nat) (k : Nat) (rh : List (Nat × HS)) (bor : List Nat) : TV → TV → Prop
  | .one x, .one y => argS r k rh bor x y
  | .agg l, .agg l' => all2 (argS r k rh bor) l l'
  | _, _ => False
def argA (r : Nat → Nat) (k : Nat) (rh : List (Nat × HS)) (bor : List Nat) : Operand × AV → AV → Prop
  | (_, .tv x), .tv y => argT r k rh bor x y
  | _, _ => False

def reqIn (r : Nat → Nat) : Nat → List HObj → List (Nat × HS)
  | _, [] => []
  | i, o :: l => (r i, .live (renO r o)) :: reqIn r (i + 1) l
def reqNew (r : Nat → Nat) : Nat → Nat → List (Nat × HS)
  | _, 0 => []
  | i, n + 1 => (r i, .free) :: reqNew r (i + 1) n
def outW (r : Nat → Nat) : Nat → List HS → List (Nat × HS)
  | _, [] => []
  | i, x :: l => (r i, renH r x) :: outW r (i + 1) l

theorem satH_append {h : List HS} : ∀ {l k : List (Nat × HS)}, satH (l ++ k) h ↔ satH l h ∧ satH k h
  | [], k => by simp [satH]
  | p :: l, k => by simp only [List.cons_append, satH, satH_append (l := l), and_assoc]
theorem satH_mem {h : List HS} : ∀ {l : List (Nat × HS)}, satH l h → ∀ p, p ∈ l → hget h p.1 = p.2
  | [], _, p, hp => by cases hp
  | q :: l, hs, p, hp => by
    cases hp with
    | head => exact hs.1
    | tail _ hp => exact satH_mem hs.2 p hp
theorem reqIn_get {r : Nat → Nat} {h : List HS} : ∀ {l : List HObj} {i : Nat}, satH (reqIn r i l) h → ∀ j o, l[j]? = some o → hget h (r (i + j)) = .live (renO r o)
  | [], _, _, _, _, hj => by simp at hj
  | x :: l, i, hs, 0, o, hj => by
    simp only [List.getElem?_cons_zero, Option.some.injEq] at hj
    subst hj
    exact hs.1
  | x :: l, i, hs, j + 1, o, hj => by
    have := reqIn_get hs.2 j o (by simpa using hj)
    rw [show i + (j + 1) = i + 1 + j from by omega]
    exact this
theorem reqNew_get {r : Nat → Nat} {h : List HS} : ∀ {n i : Nat}, satH (reqNew r i n) h → ∀ j, j < n → hget h (r (i + j)) = .free
  | 0, _, _, _, hj => absurd hj (Nat.not_lt_zero _)
  | n + 1, i, hs, 0, _ => hs.1
  | n + 1, i, hs, j + 1, hj => by
    have := reqNew_get hs.2 j (by omega)
    rw [show i + (j + 1) = i + 1 + j from by omega]
    exact this
theorem outW_keys {r : Nat → Nat} : ∀ {l : List HS} {i x : Nat}, x ∈ keysH (outW r i l) → ∃ j, j < l.length ∧ r (i + j) = x
  | [], _, _, h => by cases h
  | y :: l, i, x, h => by
    simp only [outW, keysH, List.map_cons, List.mem_cons] at h
    rcases h with rfl | h
    · exact ⟨0, by simp, rfl⟩
    · obtain ⟨j, hj, e⟩ := outW_keys h
      exact ⟨j + 1, by simpa using hj, by rw [← e, show i + (j + 1) = i + 1 + j from by omega]⟩
theorem outW_get {r : Nat → Nat} : ∀ {l : List HS} {i : Nat} (h : List HS), (∀ a b, a < l.length → b < l.length → r (i + a) = r (i + b) → a = b) → ∀ j, j < l.length → hget (hsets h (outW r i l)) (r (i + j)) = renH r (hget l j)
  | [], _, _, _, _, hj => absurd hj (Nat.not_lt_zero _)
  | y :: l, i, h, hinj, 0, _ => by
    simp only [outW, hsets]
    rw [hget_hsets_not]
    · simp [hget_hset, hget]
    · intro hm
      obtain ⟨j, hj, e⟩ := outW_keys hm
      have := hinj (j + 1) 0 (by simpa using hj) (by simp) (by rw [← e, show i + (j + 1) = i + 1 + j from by omega])
      omega
  | y :: l, i, h, hinj, j + 1, hj => by
    simp only [outW, hsets]
    have := outW_get (l := l) (i := i + 1) (hset h (r i) (renH r y)) (fun a b ha hb e => by
      have := hinj (a + 1) (b + 1) (by simpa using ha) (by simpa using hb) (by rw [show i + (a + 1) = i + 1 + a from by omega, show i + (b + 1) = i + 1 + b from by omega]; exact e)
      omega) j (by simpa using hj)
    rw [show i + (j + 1) = i + 1 + j from by omega]
    exact this

theorem hget_liveL : ∀ {l : List HObj} {i : Nat} {o : HObj}, hget (liveL l) i = .live o ↔ l[i]? = some o
  | [], i, o => by simp [liveL, hget]
  | x :: l, 0, o => by simp [liveL, hget]
  | x :: l, i + 1, o => by
    have := hget_liveL (l := l) (i := i) (o := o)
    simpa [liveL, hget] using this
theorem hget_liveL_free : ∀ {l : List HObj} {i : Nat}, hget (liveL l) i = .free → l.length ≤ i
  | [], i, _ => Nat.zero_le _
  | x :: l, 0, h => by simp [liveL, hget] at h
  | x :: l, i + 1, h => by have := hget_liveL_free (l := l) (i := i) (by simpa [liveL, hget] using h); simp only [List.length_cons]; omega
theorem hget_ge : ∀ {l : List HS} {i : Nat}, l.length ≤ i → hget l i = .free
  | [], _, _ => rfl
  | _ :: _, 0, h => absurd h (by simp)
  | _ :: l, i + 1, h => hget_ge (l := l) (by simpa using h)

def nodupB : List Nat → Bool
  | [] => true
  | x :: l => (l.all fun y => !Nat.beq x y) && nodupB l
theorem nodupB_spec : ∀ {l : List Nat}, nodupB l = true → ∀ i j, i < l.length → j < l.length → l.getD i 0 = l.getD j 0 → i = j
  | [], _, i, _, hi, _, _ => absurd hi (Nat.not_lt_zero _)
  | x :: l, h, i, j, hi, hj, e => by
    simp only [nodupB, Bool.and_eq_true, List.all_eq_true, Bool.not_eq_true'] at h
    have key : ∀ k, k < l.length → x ≠ l.getD k 0 := fun k hk e' => by
      have h1 := h.1 (l.getD k 0) (by simp [hk])
      rw [← e'] at h1
      simp at h1
    match i, j with
    | 0, 0 => rfl
    | 0, j + 1 => exact absurd (by simpa using e) (key j (by simpa using hj))
    | i + 1, 0 => exact absurd (by simpa using e.symm) (key i (by simpa using hi))
    | i + 1, j + 1 => rw [nodupB_spec h.2 i j (by simpa using hi) (by simpa using hj) (by simpa using e)]

def noFree : List HS → Bool
  | [] => true
  | .free :: _ => false
  | _ :: l => noFree l
theorem noFree_spec : ∀ {l : List HS}, noFree l = true → ∀ i, i < l.length → hget l i ≠ .free
  | [], _, i, hi => absurd hi (Nat.not_lt_zero _)
  | .free :: _, h, _, _ => by simp [noFree] at h
  | .dead :: l, h, 0, _ => by simp [hget]
  | .live _ :: l, h, 0, _ => by simp [hget]
  | .dead :: l, h, i + 1, hi => noFree_spec (l := l) h i (by simpa using hi)
  | .live _ :: l, h, i + 1, hi => noFree_spec (l := l) h i (by simpa using hi)

variable {P : Program} {bs : Base}

/-- What a function value comes to when it is called: a Go function. -/
def Target' (P : Program) (u : Value) (vs : List Value) (f : Nat) (ws : List Value) : Prop := ∀ (w : World) (ty : TypeId), (do let d ← Deferred.ofValue u vs.toArray; invoke d.target d.args : Sem Next).run P w = .ok (.enter f ws.toArray) w

theorem call_core {f : Nat} {c : Ct} (hf : Holds P f c) (rl bor : List Nat) {l : List (Operand × AV)} {rhB : List (Nat × HS)} {k m : Nat} (hk : c.hin.length = k) (hm : c.hout.length = m) (hkm : k ≤ m) (hrl : rl.length = m) (hnd : nodupB rl = true) (hnf : noFree c.hout = true)
    (hids : c.hin.all (idsO k) = true) (hio : c.hout.all (idsH m) = true) (hir : idsA m c.res = true)
    (hargs : all2 (argA (fun i => rl.getD i 0) k rhB bor) l c.args) (hbd : (bor.all fun b => rl.all fun x => !Nat.beq b x) = true) (hbl : ∀ b, b ∈ bor → ∃ o, (b, HS.live o) ∈ rhB)
    (hnt : bor = [] ∨ (noTagA c.res ∧ allP noTagH c.hout))
    {B : Bk} {S U : Nat → Prop} {s : St} {a : Act} {w : World} (g : G bs B S U s a w) (hs : satH (reqIn (fun i => rl.getD i 0) 0 c.hin ++ (reqNew (fun i => rl.getD i 0) k (m - k) ++ rhB)) s.h) (vs : List Value) (hvs : vs = l.map fun p => a.eval p.1) (he : evs B S U a w l) :
    Calls P f vs.toArray w fun e w' => ∃ v B' S' U', e = .returned v ∧ G bs B' S' U' ⟨s.t, hsets s.h (outW (fun i => rl.getD i 0) 0 c.hout)⟩ a w' ∧ avOk B' S' U' w' (renA (fun i => rl.getD i 0) c.res) v := by
  generalize hr : (fun i => rl.getD i 0) = r at *
  have hinj : ∀ i j, i < m → j < m → r i = r j → i = j := fun i j hi hj e => nodupB_spec hnd i j (by omega) (by omega) (by rw [← hr] at e; exact e)
  rw [satH_append, satH_append] at hs
  obtain ⟨hs1, hs2, hs3⟩ := hs
  have hin : ∀ i o, c.hin[i]? = some o → hget s.h (r i) = .live (renO r o) := fun i o h => by have := reqIn_get hs1 i o h; simpa using this
  have hnew : ∀ i, k ≤ i → i < m → hget s.h (r i) = .free := fun i h1 h2 => by
    have := reqNew_get hs2 (i - k) (by omega)
    rwa [show k + (i - k) = i from by omega] at this
  have hbor : ∀ b, b ∈ bor → ∃ o, hget s.h b = .live o := fun b hb => by
    obtain ⟨o, ho⟩ := hbl b hb
    exact ⟨o, satH_mem hs3 _ ho⟩
  have hbne : ∀ b, b ∈ bor → ∀ i, i < m → b ≠ r i := fun b hb i hi e => by
    simp only [List.all_eq_true, Bool.not_eq_true'] at hbd
    have := hbd b hb (rl.getD i 0) (by simp [show i < rl.length by omega])
    rw [e, ← hr] at this
    simp at this
  -- the callee's view
  let Bc : Bk := fun l => if l < k then B (r l) else none
  have hBc : ∀ i, i < k → Bc i = B (r i) := fun i hi => if_pos hi
  let Ub : Nat → Prop := fun b => ∃ x κ, x ∈ bor ∧ B x = some (some (b, κ))
  let Uc : Nat → Prop := fun b => U b ∨ Ub b
  have hUU : ∀ b, U b → Uc b := fun _ h => .inl h
  have hinlt : ∀ {i o}, c.hin[i]? = some o → i < k := fun h => by rw [← hk]; exact (List.getElem?_eq_some_iff.1 h).1
  have hCs : ∀ b, Cs k Bc b → ∃ i o κ, i < k ∧ c.hin[i]? = some o ∧ B (r i) = some (some (b, κ)) := by
    rintro b ⟨i, κ, hi, hb⟩
    rw [hBc i hi] at hb
    have : i < c.hin.length := by omega
    exact ⟨i, c.hin[i], κ, hi, List.getElem?_eq_getElem this, hb⟩
  have hCsC : ∀ b, Cs k Bc b → (bs.C b ∨ bs.w0.heap.size ≤ b) := fun b h => by
    obtain ⟨i, o, κ, hi, ho, hb⟩ := hCs b h
    exact g.cf _ _ (b, κ) (hin i o ho) hb
  have hCsU : ∀ b, Cs k Bc b → ¬ U b := fun b h => by
    obtain ⟨i, o, κ, hi, ho, hb⟩ := hCs b h
    exact g.sp _ _ (b, κ) (hin i o ho) hb
  have hCsUb : ∀ b, Cs k Bc b → ¬ Ub b := fun b h => by
    rintro ⟨x, κ', hx, hbx⟩
    obtain ⟨i, o, κ, hi, ho, hb⟩ := hCs b h
    obtain ⟨o', ho'⟩ := hbor x hx
    exact g.nj x (r i) o' _ ho' (hin i o ho) (hbne x hx i (by omega)) (b, κ') (b, κ) hbx hb rfl
  have hUblt : ∀ b, Ub b → b < w.heap.size := by
    rintro b ⟨x, κ, hx, hbx⟩
    obtain ⟨o', ho'⟩ := hbor x hx
    exact obOk_lt (g.ob x o' ho') hbx
  have hPr : Pres (fun b => S b ∨ U b) w w := Pres.refl _ _
  have mU : ∀ x v, svOk B S U w x v → svOk B S Uc w x v := svOk_mono (fun _ _ h => h) (fun _ h => h) hUU hPr
  have harg : ∀ x y v, argS r k rhB bor x y → svOk B S U w x v → svOk Bc S Uc w y v := by
    intro x y v h hv
    rcases h with ⟨rfl, hy⟩ | h | h
    · exact (ren_svOk (fun i hi => hBc i hi) hy).2 (mU _ _ hv)
    rotate_left
    · exact weakS_ok h (mU _ _ hv)
    · match x, y, h with
      | .own lx sz off n, .d (.sl tag nn sz' n' el'), ⟨h1, h2, h3, h4, h5, T0, n0, el, h6, h7, h8⟩ =>
        subst h1
        subst h3
        subst h4
        have hob := g.ob lx _ (satH_mem hs3 _ h6)
        rcases hv with ⟨_, _, hn0, hv⟩ | ⟨b, κ, o, cap, hb, hv, hcap, hle, ho⟩
        · subst hn0
          exact ⟨none, 0, hv, Nat.le_refl _, fun _ => rfl, fun h => absurd (h2 h) (Nat.lt_irrefl 0), fun i hi => absurd hi (Nat.not_lt_zero _)⟩
        · refine ⟨some ⟨b, o, none⟩, cap, hv, hle, by simp, by simp, fun i hi => ⟨⟨b, o, none⟩, rfl, rfl, ?_, fun j hj => ?_⟩⟩
          · exact Or.inr ⟨lx, κ, h5, hb⟩
          · rcases hob with ⟨hob, _⟩ | ⟨b', κ', cur, hb', hcur, hsz, hnk, hkm', hel⟩
            · rw [hb] at hob; cases hob
            · rw [hb] at hb'
              cases hb'
              obtain ⟨u, hu, hd⟩ := hel (off + i) (by omega) j hj
              refine ⟨u, cell_of_block hcur ?_, ?_⟩
              · rw [ho (.inl (by omega)), ← Nat.add_assoc, ← Nat.add_mul]
                exact hu
              · rw [h8]
                exact dOk_mono (fun _ h => h) hUU hPr _ _ hd
  have hargT : ∀ x y v, argT r k rhB bor x y → tvOk B S U w x v → tvOk Bc S Uc w y v := by
    intro x y v h hv
    match x, y, h with
    | .one x, .one y, h => exact harg x y v h hv
    | .agg la, .agg lb, h =>
      obtain ⟨cs, h1, h2⟩ := hv
      refine ⟨cs, h1, ?_⟩
      have : ∀ (la lb : List SV) (cs : List Value), all2 (argS r k rhB bor) la lb → all2 (svOk B S U w) la cs → all2 (svOk Bc S Uc w) lb cs := by
        intro la
        induction la with
        | nil =>
          intro lb cs h1 h2
          match lb, cs, h1, h2 with
          | [], [], _, _ => exact trivial
        | cons x la ih =>
          intro lb cs h1 h2
          match lb, cs, h1, h2 with
          | y :: lb, c :: cs, h1, h2 => exact ⟨harg x y c h1.1 h2.1, ih lb cs h1.2 h2.2⟩
      exact this la lb cs h h2
  have hall : all2 (avOk Bc S Uc w) c.args vs := by
    subst hvs
    have : ∀ (l : List (Operand × AV)) (as : List AV), all2 (argA r k rhB bor) l as → evs B S U a w l → all2 (avOk Bc S Uc w) as (l.map fun p => a.eval p.1) := by
      intro l
      induction l with
      | nil =>
        intro as h1 h2
        match as, h1 with
        | [], _ => exact trivial
      | cons x l ih =>
        intro as h1 h2
        match as, h1 with
        | y :: as, h1 =>
          refine ⟨?_, ih as h1.2 h2.2⟩
          match x, y, h1.1, h2.1 with
          | (_, .tv x), .tv y, h, hv => exact hargT x y _ h hv
    exact this l c.args hargs he
  have hvl : vs.length = c.args.length := (all2_len hall).symm
  have hGc : G (mkBase vs.length c.hin.length w S Uc Bc) Bc S Uc ⟨c.args, liveL c.hin⟩ ⟨vs.toArray, []⟩ w := by
    rw [hk]
    refine { df := rfl, sz := by simp [mkBase], tm := fun i => ?_, ob := fun i o e => ?_, nj := fun i i' o o' e e' hne p p' hp hp' => ?_, sp := fun i o p e hp => ?_, cf := fun i o p e hp => ?_, fr := fun i e => ?_, su := fun b hb => .inl (g.su b hb), ub := fun b hb => hb.elim (g.ub b) (hUblt b), s0 := fun _ h => h, u0 := fun _ h => h, sn := fun _ h => .inl h, un := fun _ h => .inl h, ps := fun _ _ _ => rfl, hs := Nat.le_refl _, os := rfl, tp := rfl, op := rfl, bl := fun _ _ h => h, bk := fun i hi => ?_ }
    · by_cases hi : i < c.args.length
      · have hgt : ∀ (as : List AV) (i : Nat), i < as.length → as[i]? = some (tget as i) := by
          intro as
          induction as with
          | nil => intro i h; exact absurd h (Nat.not_lt_zero _)
          | cons y as ih =>
            intro i h
            cases i with
            | zero => rfl
            | succ i => simpa [tget] using ih i (by simpa using h)
        obtain ⟨v, hv, hok⟩ := all2_get hall (hgt c.args i hi)
        have : vs.toArray.getD i undef = v := by simp [Array.getD_eq_getD_getElem?, hv]
        rw [this]
        exact hok
      · rw [tget_ge c.args i (by omega)]
        exact trivial
    · have e' := hget_liveL.1 e
      have hids' : idsO k o = true := by
        rw [List.all_eq_true] at hids
        exact hids o (List.mem_of_getElem? e')
      rw [ren_obOk (fun i hi => hBc i hi) (hinlt e') hids']
      exact obOk_mono (fun _ _ h => h) (fun _ h => h) hUU hPr (fun _ _ => rfl) (g.ob _ _ (hin i o e'))
    · have h1 := hget_liveL.1 e
      have h2 := hget_liveL.1 e'
      rw [hBc _ (hinlt h1)] at hp
      rw [hBc _ (hinlt h2)] at hp'
      exact g.nj _ _ _ _ (hin i o h1) (hin i' o' h2) (fun h => hne (hinj i i' (by have := hinlt h1; omega) (by have := hinlt h2; omega) h)) p p' hp hp'
    · have h1 := hget_liveL.1 e
      exact fun h => h.elim (hCsU p.1 ⟨i, p.2, hinlt h1, hp⟩) (hCsUb p.1 ⟨i, p.2, hinlt h1, hp⟩)
    · have h1 := hget_liveL.1 e
      exact .inl ⟨i, p.2, hinlt h1, hp⟩
    · have := hget_liveL_free e
      show (if i < k then B (r i) else none) = none
      rw [if_neg (by omega)]
    · show (if i < k then B (r i) else none) = none
      exact if_neg (Nat.not_lt.2 hi)
  refine (hf w Bc S Uc vs hvl hGc).mono ?_
  rintro e w' ⟨v, B', S', U', rfl, g'⟩
  rw [hk] at g'
  -- back in the caller
  let fnd : Nat → Option Nat := fun x => (List.range m).find? fun i => decide (k ≤ i) && (r i == x)
  let B2 : Bk := fun x => match fnd x with | some i => B' i | none => B x
  have hfs : ∀ i, k ≤ i → i < m → fnd (r i) = some i := fun i h1 h2 => by
    show (List.range m).find? _ = some i
    rw [List.find?_eq_some_iff_append]
    refine ⟨by simp [h1], List.range i, (List.range' (i + 1) (m - i - 1)), ?_, fun j hj => ?_⟩
    · rw [List.range_eq_range', List.range_eq_range']
      have : m = i + ((m - i - 1) + 1) := by omega
      conv => lhs; rw [this]
      rw [← List.range'_append_1, List.range'_succ]
      simp
    · rw [List.mem_range] at hj
      have : r j ≠ r i := fun e => by have := hinj j i (by omega) h2 e; omega
      simp [this]
  have hfn : ∀ x, (∀ i, k ≤ i → i < m → r i ≠ x) → fnd x = none := fun x h => by
    show (List.range m).find? _ = none
    rw [List.find?_eq_none]
    intro i hi
    rw [List.mem_range] at hi
    by_cases h1 : k ≤ i
    · have := h i h1 hi
      simp [this]
    · simp [h1]
  have hB2n : ∀ i, k ≤ i → i < m → B2 (r i) = B' i := fun i h1 h2 => by show (match fnd (r i) with | some i => B' i | none => B (r i)) = B' i; rw [hfs i h1 h2]
  have hB2o : ∀ x, (∀ i, k ≤ i → i < m → r i ≠ x) → B2 x = B x := fun x h => by show (match fnd x with | some i => B' i | none => B x) = B x; rw [hfn x h]
  have hBin : ∀ i, i < k → ∃ p, B (r i) = some p := fun i hi => by
    have : i < c.hin.length := by omega
    exact obOk_some (g.ob _ _ (hin i c.hin[i] (List.getElem?_eq_getElem this)))
  have hB2 : ∀ i, i < m → B' i = B2 (r i) := fun i hi => by
    by_cases h : i < k
    · obtain ⟨p, hp⟩ := hBin i h
      rw [hB2o (r i) (fun j h1 h2 e => by have := hinj j i h2 hi e; omega), hp]
      exact g'.bl i p (by show Bc i = some p; rw [hBc i h]; exact hp)
    · rw [hB2n i (by omega) hi]
  let U2 : Nat → Prop := fun b => U b ∨ (U' b ∧ ¬ Uc b)
  have hfresh : ∀ b, w.heap.size ≤ b → ¬ Uc b := fun b h1 h2 => by
    have : b < w.heap.size := h2.elim (g.ub b) (hUblt b)
    omega
  have hCsUc : ∀ b, Cs k Bc b → ¬ Uc b := fun b h h' => h'.elim (hCsU b h) (hCsUb b h)
  have hS2 : ∀ b, S' b → U2 b := fun b hb => by
    rcases g'.sn b hb with h | h | h
    · exact .inl (g.su b h)
    · exact .inr ⟨g'.su b hb, hCsUc b h⟩
    · exact .inr ⟨g'.su b hb, hfresh b h⟩
  have toBs : ∀ b, (Cs k Bc b ∨ w.heap.size ≤ b) → (bs.C b ∨ bs.w0.heap.size ≤ b) := fun b h => by
    rcases h with h | h
    · exact hCsC b h
    · have := g.hs
      exact .inr (by omega)
  have hU2u : ∀ b, U' b → bor = [] → U2 b := fun b hb hn => by
    by_cases h : U b
    · exact .inl h
    · refine .inr ⟨hb, fun h' => h'.elim h ?_⟩
      rintro ⟨x, κ, hx, _⟩
      rw [hn] at hx
      cases hx
  have mo : ∀ i o, i < m → hget c.hout i = .live o → obOk B' S' U' w' i o → obOk B2 S' U2 w' (r i) (renO r o) := fun i o hi ho h => by
    have hmem : HS.live o ∈ c.hout := by
      have : ∀ (l : List HS) (i : Nat), hget l i = .live o → HS.live o ∈ l := by
        intro l
        induction l with
        | nil => intro i h; simp [hget] at h
        | cons x l ih =>
          intro i h
          cases i with
          | zero => simp only [hget] at h; rw [h]; exact List.mem_cons_self ..
          | succ i => exact List.mem_cons_of_mem _ (ih i h)
      exact this c.hout i ho
    have hidm : idsO m o = true := by
      rw [List.all_eq_true] at hio
      exact hio _ hmem
    have h1 : obOk B' S' U2 w' i o := by
      rcases hnt with hn | ⟨_, hn⟩
      · exact obOk_mono (fun _ _ h => h) (fun _ h => h) (fun b hb => hU2u b hb hn) (Pres.refl _ _) (fun _ _ => rfl) h
      · have : ∀ (l : List HS), allP noTagH l → HS.live o ∈ l → noTagO o := by
          intro l
          induction l with
          | nil => intro _ h; cases h
          | cons x l ih =>
            intro h1 h2
            cases h2 with
            | head => exact h1.1
            | tail _ h2 => exact ih h1.2 h2
        exact noTag_obOk (this c.hout hn hmem) h
    exact (ren_obOk hB2 hi hidm).1 h1
  have hav : avOk B2 S' U2 w' (renA r c.res) v := by
    have h0 : avOk B' S' U' w' c.res v := g'.tm 0
    have h1 : avOk B' S' U2 w' c.res v := by
      rcases hnt with hn | ⟨hn, _⟩
      · exact avOk_mono (fun _ _ h => h) (fun _ h => h) (fun b hb => hU2u b hb hn) (Pres.refl _ _) _ _ h0
      · exact noTag_avOk hn h0
    exact (ren_avOk hB2 hir).1 h1
  have hgout : ∀ i, i < m → hget (hsets s.h (outW r 0 c.hout)) (r i) = renH r (hget c.hout i) := fun i hi => by
    have := outW_get (r := r) (l := c.hout) (i := 0) s.h (fun a b ha hb e => hinj a b (by omega) (by omega) (by simpa using e)) i (by omega)
    simpa using this
  have hlv : ∀ i x, i < m → renH r (hget c.hout i) = .live x → ∃ o, hget c.hout i = .live o ∧ x = renO r o := fun i x hi h => by
    cases ho : hget c.hout i with
    | live o => rw [ho] at h; cases h; exact ⟨o, rfl, rfl⟩
    | free => rw [ho] at h; cases h
    | dead => rw [ho] at h; cases h
  have hblock : ∀ i o p, i < m → hget c.hout i = .live o → B2 (r i) = some (some p) → B' i = some (some p) ∧ (Cs k Bc p.1 ∨ w.heap.size ≤ p.1) := fun i o p hi ho hp => by
    rw [← hB2 i hi] at hp
    exact ⟨hp, g'.cf i o p ho hp⟩
  refine ⟨v, B2, S', U2, rfl, ?_, hav⟩
  refine g.upd (fun x => ∃ i, i < m ∧ r i = x) _ (fun x hx => ?_) (fun x p hp => ?_) (fun x hx => hB2o x fun i h1 h2 e => hx ⟨i, h2, e⟩) (fun b hb => g'.s0 b hb) (fun b hb => .inl hb) hS2 (fun b hb => ?_) (fun b hb => ?_) (fun b hb => ?_) ?_ ?_ (fun b hb hne => ?_) ?_ ?_ g'.hs g'.os g'.tp g'.op
  · refine hget_hsets_not x _ _ fun hm => ?_
    obtain ⟨j, hj, e⟩ := outW_keys hm
    exact hx ⟨j, by omega, by simpa using e⟩
  · rw [hB2o x fun i h1 h2 e => ?_]
    · exact hp
    · subst e
      rw [g.fr _ (hnew i h1 h2)] at hp
      cases hp
  · rcases hb with h | h
    · have := g.ub b h
      have := g'.hs
      exact Nat.lt_of_lt_of_le (g.ub b h) g'.hs
    · exact g'.ub b h.1
  · rcases g'.sn b hb with h | h
    · exact .inl h
    · exact .inr (toBs b h)
  · rcases hb with h | ⟨h, hn⟩
    · exact .inl h
    · rcases g'.un b h with h | h
      · exact absurd h hn
      · exact .inr (toBs b h)
  · rintro x o ⟨i, hi, rfl⟩ hx
    rw [hgout i hi] at hx
    obtain ⟨o', ho', rfl⟩ := hlv i o hi hx
    refine ⟨mo i o' hi ho' (g'.ob i o' ho'), fun p hp => ?_⟩
    obtain ⟨hp', hcf⟩ := hblock i o' p hi ho' hp
    refine ⟨?_, toBs _ hcf, fun y oy q hy hoy hq e => ?_⟩
    · rintro (h | ⟨h, _⟩)
      · rcases hcf with h' | h'
        · exact hCsU _ h' h
        · have := g.ub _ h; omega
      · exact g'.sp i o' p ho' hp' h
    · rcases hcf with h' | h'
      · obtain ⟨j, oj, κ, hj, hoj, hbj⟩ := hCs _ h'
        exact g.nj y (r j) oy _ hoy (hin j oj hoj) (fun e' => hy ⟨j, by omega, e'.symm⟩) q (p.1, κ) hq hbj e
      · have := obOk_lt (g.ob y oy hoy) hq
        omega
  · rintro x x' o o' p p' ⟨i, hi, rfl⟩ ⟨i', hi', rfl⟩ hx hx' hne hp hp'
    rw [hgout i hi] at hx
    rw [hgout i' hi'] at hx'
    obtain ⟨o1, ho1, rfl⟩ := hlv i o hi hx
    obtain ⟨o2, ho2, rfl⟩ := hlv i' o' hi' hx'
    exact g'.nj i i' o1 o2 ho1 ho2 (fun e => hne (by rw [e])) p p' (hblock i o1 p hi ho1 hp).1 (hblock i' o2 p' hi' ho2 hp').1
  · refine g'.ps b hb fun h => ?_
    obtain ⟨i, o, κ, hi, ho, hbi⟩ := hCs b h
    exact hne (r i) _ (b, κ) ⟨i, by omega, rfl⟩ (hin i o ho) hbi rfl
  · rintro x ⟨i, hi, rfl⟩ hx
    rw [hgout i hi] at hx
    exfalso
    have := noFree_spec hnf i (by omega)
    cases ho : hget c.hout i with
    | free => exact this ho
    | live o => rw [ho] at hx; cases hx
    | dead => rw [ho] at hx; cases hx
  · rintro x o q hx hxo hq (h | ⟨h, hn⟩)
    · exact g.sp x o q hxo hq h
    · rcases g'.un _ h with h' | h' | h'
      · exact hn h'
      · obtain ⟨j, oj, κ, hj, hoj, hbj⟩ := hCs _ h'
        exact g.nj x (r j) o _ hxo (hin j oj hoj) (fun e' => hx ⟨j, by omega, e'.symm⟩) q (q.1, κ) hq hbj rfl
      · have hlt := obOk_lt (g.ob x o hxo) hq
        have h'' : w.heap.size ≤ q.1 := h'
        omega
end Go.Proofs.Ytacikihlgpnjhaa.Q
