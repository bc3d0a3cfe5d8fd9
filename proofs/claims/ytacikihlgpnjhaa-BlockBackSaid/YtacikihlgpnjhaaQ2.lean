import Derived.Test.YtacikihlgpnjhaaQ1
namespace Go.Proofs.Ytacikihlgpnjhaa.Q
open Go Go.RowKit
set_option linter.unusedVariables false
set_option linter.unusedSimpArgs false

/-- An object's name: not used yet, let go, or in use. -/
inductive HS where
  | free
  | dead
  | live (o : HObj)

structure St where
  t : List AV
  h : List HS

def tget : List AV → Nat → AV
  | [], _ => .any
  | x :: _, 0 => x
  | _ :: r, k + 1 => tget r k
def hget : List HS → Nat → HS
  | [], _ => .free
  | x :: _, 0 => x
  | _ :: r, k + 1 => hget r k
def tset : List AV → Nat → AV → List AV
  | [], 0, v => [v]
  | [], k + 1, v => .any :: tset [] k v
  | _ :: r, 0, v => v :: r
  | x :: r, k + 1, v => x :: tset r k v
def hset : List HS → Nat → HS → List HS
  | [], 0, v => [v]
  | [], k + 1, v => .free :: hset [] k v
  | _ :: r, 0, v => v :: r
  | x :: r, k + 1, v => x :: hset r k v

theorem tget_tset (v : AV) : ∀ (t : List AV) (k j : Nat), tget (tset t k v) j = if j = k then v else tget t j
  | [], 0, 0 => by simp [tset, tget]
  | [], 0, j + 1 => by simp [tset, tget]
  | [], k + 1, 0 => by simp [tset, tget]
  | [], k + 1, j + 1 => by simp [tset, tget, tget_tset v [] k j]
  | _ :: _, 0, 0 => by simp [tset, tget]
  | _ :: _, 0, j + 1 => by simp [tset, tget]
  | _ :: _, k + 1, 0 => by simp [tset, tget]
  | _ :: r, k + 1, j + 1 => by simp [tset, tget, tget_tset v r k j]

theorem hget_hset (v : HS) : ∀ (t : List HS) (k j : Nat), hget (hset t k v) j = if j = k then v else hget t j
  | [], 0, 0 => by simp [hset, hget]
  | [], 0, j + 1 => by simp [hset, hget]
  | [], k + 1, 0 => by simp [hset, hget]
  | [], k + 1, j + 1 => by simp [hset, hget, hget_hset v [] k j]
  | _ :: _, 0, 0 => by simp [hset, hget]
  | _ :: _, 0, j + 1 => by simp [hset, hget]
  | _ :: _, k + 1, 0 => by simp [hset, hget]
  | _ :: r, k + 1, j + 1 => by simp [hset, hget, hget_hset v r k j]

/-- What the call began with: the frame's size, the world, the blocks that the call may use up, those that data may lie in (to keep; to read). -/
structure Base where
  N : Nat
  k : Nat
  w0 : World
  C : Nat → Prop
  S0 : Nat → Prop
  U0 : Nat → Prop
  B0 : Bk

structure G (bs : Base) (B : Bk) (S U : Nat → Prop) (s : St) (a : Act) (w : World) : Prop where
  df : a.defers = []
  sz : a.tmps.size = bs.N
  tm : ∀ k, avOk B S U w (tget s.t k) (a.tmps.getD k undef)
  ob : ∀ l o, hget s.h l = .live o → obOk B S U w l o
  nj : ∀ l l' o o', hget s.h l = .live o → hget s.h l' = .live o' → l ≠ l' → ∀ p p', B l = some (some p) → B l' = some (some p') → p.1 ≠ p'.1
  sp : ∀ l o p, hget s.h l = .live o → B l = some (some p) → ¬ U p.1
  cf : ∀ l o p, hget s.h l = .live o → B l = some (some p) → (bs.C p.1 ∨ bs.w0.heap.size ≤ p.1)
  fr : ∀ l, hget s.h l = .free → B l = none
  su : ∀ b, S b → U b
  ub : ∀ b, U b → b < w.heap.size
  s0 : ∀ b, bs.S0 b → S b
  u0 : ∀ b, bs.U0 b → U b
  sn : ∀ b, S b → (bs.S0 b ∨ bs.C b ∨ bs.w0.heap.size ≤ b)
  un : ∀ b, U b → (bs.U0 b ∨ bs.C b ∨ bs.w0.heap.size ≤ b)
  ps : ∀ b, b < bs.w0.heap.size → ¬ bs.C b → w.heap[b]? = bs.w0.heap[b]?
  hs : bs.w0.heap.size ≤ w.heap.size
  os : w.os = bs.w0.os
  tp : w.tape = bs.w0.tape
  op : w.output = bs.w0.output
  bl : ∀ l p, bs.B0 l = some p → B l = some p
  bk : ∀ l, bs.k ≤ l → bs.B0 l = none

def Gs (bs : Base) (s : St) (a : Act) (w : World) : Prop := ∃ B S U, G bs B S U s a w

theorem Gs.congr {bs : Base} {s s' : St} {a : Act} {w : World} (ht : ∀ k, tget s'.t k = tget s.t k) (hh : ∀ l, hget s'.h l = hget s.h l) (h : Gs bs s a w) : Gs bs s' a w := by
  obtain ⟨B, S, U, g⟩ := h
  exact ⟨B, S, U, { g with
    tm := fun k => by rw [ht]; exact g.tm k
    ob := fun l o e => g.ob l o (by rw [← hh]; exact e)
    nj := fun l l' o o' e e' => g.nj l l' o o' (by rw [← hh]; exact e) (by rw [← hh]; exact e')
    sp := fun l o p e => g.sp l o p (by rw [← hh]; exact e)
    cf := fun l o p e => g.cf l o p (by rw [← hh]; exact e)
    fr := fun l e => g.fr l (by rw [← hh]; exact e) }⟩

/-- A temporary forgotten, an object let go. -/
theorem Gs.weak {bs : Base} {s s' : St} {a : Act} {w : World} (ht : ∀ k, tget s'.t k = .any ∨ tget s'.t k = tget s.t k) (hh : ∀ l, hget s'.h l = .dead ∨ hget s'.h l = hget s.h l) (h : Gs bs s a w) : Gs bs s' a w := by
  obtain ⟨B, S, U, g⟩ := h
  have hl : ∀ l o, hget s'.h l = .live o → hget s.h l = .live o := fun l o e => by
    rcases hh l with h | h
    · rw [h] at e; cases e
    · rw [← h]; exact e
  exact ⟨B, S, U, { g with
    tm := fun k => by
      rcases ht k with h | h
      · rw [h]; exact trivial
      · rw [h]; exact g.tm k
    ob := fun l o e => g.ob l o (hl l o e)
    nj := fun l l' o o' e e' => g.nj l l' o o' (hl l o e) (hl l' o' e')
    sp := fun l o p e => g.sp l o p (hl l o e)
    cf := fun l o p e => g.cf l o p (hl l o e)
    fr := fun l e => by
      rcases hh l with h | h
      · rw [h] at e; cases e
      · exact g.fr l (by rw [← h]; exact e) }⟩

theorem Pres.refl (U : Nat → Prop) (w : World) : Pres U w w := fun _ _ => rfl

/-- A world of the same memory. -/
theorem G.same {bs : Base} {B : Bk} {S U : Nat → Prop} {s : St} {a : Act} {w w' : World} (g : G bs B S U s a w) (hh : w'.heap = w.heap) (ho : w'.os = w.os) (ht : w'.tape = w.tape) (hp : w'.output = w.output) : G bs B S U s a w' := by
  have hP : Pres (fun b => S b ∨ U b) w w' := fun b _ => by rw [hh]
  have m : ∀ x v, avOk B S U w x v → avOk B S U w' x v := avOk_mono (fun _ _ h => h) (fun _ h => h) (fun _ h => h) hP
  have md : ∀ x v, dOk S U w x v → dOk S U w' x v := dOk_mono (fun _ h => h) (fun _ h => h) hP
  have ms : ∀ x v, svOk B S U w x v → svOk B S U w' x v := svOk_mono (fun _ _ h => h) (fun _ h => h) (fun _ h => h) hP
  refine { g with tm := fun k => m _ _ (g.tm k), ob := fun l o e => ?_, ub := fun b hb => by rw [hh]; exact g.ub b hb, ps := fun b h1 h2 => by rw [hh]; exact g.ps b h1 h2, hs := by rw [hh]; exact g.hs, os := ho.trans g.os, tp := ht.trans g.tp, op := hp.trans g.op }
  have h := g.ob l o e
  cases o with
  | box T cs =>
    obtain ⟨b, κ, cur, h1, h2, h3⟩ := h
    exact ⟨b, κ, cur, h1, by rw [hh]; exact h2, all2_mono ms h3⟩
  | arr T sz n el =>
    rcases h with h | ⟨b, κ, cur, h1, h2, h3, h4, h5, h6⟩
    · exact .inl h
    · exact .inr ⟨b, κ, cur, h1, by rw [hh]; exact h2, h3, h4, h5, fun i hi j hj => by obtain ⟨u, hu, hd⟩ := h6 i hi j hj; exact ⟨u, hu, md _ _ hd⟩⟩
  | mp es =>
    obtain ⟨b, κ, ents, clock, h1, h2, h3⟩ := h
    exact ⟨b, κ, ents, clock, h1, by rw [hh]; exact h2, all2_mono (fun _ _ x => ⟨x.1, x.2.1, all2_mono md x.2.2⟩) h3⟩

theorem Gs.drawn {bs : Base} {s : St} {a : Act} {w : World} (h : Gs bs s a w) : Gs bs s a { w with drawn := w.drawn + 1 } := by
  obtain ⟨B, S, U, g⟩ := h
  exact ⟨B, S, U, g.same rfl rfl rfl rfl⟩

/-- The temporary's new value. -/
theorem G.put {bs : Base} {B : Bk} {S U : Nat → Prop} {s : St} {a : Act} {w : World} {d : Nat} {av : AV} {v : Value} (g : G bs B S U s a w) (hd : d < bs.N) (hv : avOk B S U w av v) : G bs B S U { s with t := tset s.t d av } (a.put (some d) v) w := by
  refine { g with sz := ?_, tm := fun k => ?_, df := g.df }
  · simp [Act.put, g.sz]
  · rw [tget_tset]
    by_cases h : k = d
    · subst h
      have : k < a.tmps.size := by rw [g.sz]; exact hd
      simp [Act.put, this, hv]
    · simp only [if_neg h, Act.put]
      have : (a.tmps.setIfInBounds d v).getD k undef = a.tmps.getD k undef := by
        simp [Array.getD_eq_getD_getElem?, Array.getElem?_setIfInBounds_ne (Ne.symm h)]
      rw [this]
      exact g.tm k

/-- What an operation asks of temporaries and objects, and what it writes. -/
structure OS where
  rt : List (Nat × AV)
  rh : List (Nat × HS)
  wt : List (Nat × AV)
  wh : List (Nat × HS)

def satT : List (Nat × AV) → List AV → Prop
  | [], _ => True
  | p :: r, t => tget t p.1 = p.2 ∧ satT r t
def satH : List (Nat × HS) → List HS → Prop
  | [], _ => True
  | p :: r, t => hget t p.1 = p.2 ∧ satH r t
def tsets : List AV → List (Nat × AV) → List AV
  | t, [] => t
  | t, p :: r => tsets (tset t p.1 p.2) r
def hsets : List HS → List (Nat × HS) → List HS
  | t, [] => t
  | t, p :: r => hsets (hset t p.1 p.2) r
def OS.sat (x : OS) (s : St) : Prop := satT x.rt s.t ∧ satH x.rh s.h
def OS.app (x : OS) (s : St) : St := ⟨tsets s.t x.wt, hsets s.h x.wh⟩

def ORule (P : Program) (bs : Base) (o : Oper) (x : OS) : Prop :=
  ∀ (Q : Exit → Act → World → Prop) (K : Act → World → Prop) (s : St) (a : Act) (w : World), Gs bs s a w → x.sat s → (∀ a' w', Gs bs (x.app s) a' w' → K a' w') → o.wp P a w K Q

def OStep (P : Program) (ops : Array Oper) (bs : Base) (i : Nat) (x : OS) : Prop :=
  ∀ (Q : Exit → Act → World → Prop) (K : Act → World → Prop) (s : St) (a : Act) (w : World), Gs bs s a w → x.sat s → (∀ a' w', Gs bs (x.app s) a' w' → K a' w') → wpOp P ops Q i K a w

theorem OStep.of {P : Program} {ops : Array Oper} {bs : Base} {i : Nat} {x : OS} {o : Oper} (ho : ops[i]? = some o) (hg : o.guard = none) (h : ORule P bs o x) : OStep P ops bs i x := by
  intro Q K s a w hG hs hK
  simp only [wpOp, ho, Region.wanted, hg, if_true]
  exact .inl (h Q K s a w hG hs hK)

theorem yielded_of {ops : Array Oper} {j : Nat} {o' : Oper} {d : Nat} {a : Act} {b : Bool} (ho : ops[j]? = some o') (hd : o'.dst = some d) (hlt : d < a.tmps.size) (h : a.tmps.getD d undef = .bool b) : yielded ops a.tmps j = some b := by
  have : a.tmps[d]? = some (.bool b) := by
    rw [Array.getD_eq_getD_getElem?] at h
    rw [Array.getElem?_eq_getElem hlt] at h ⊢
    exact congrArg some h
  simp [yielded, ho, hd, this]

/-- A guarded operation that is carried out. -/
theorem OStep.yes {P : Program} {ops : Array Oper} {bs : Base} {i : Nat} {rt : List (Nat × AV)} {rh : List (Nat × HS)} {wt : List (Nat × AV)} {wh : List (Nat × HS)} {o o' : Oper} {j d : Nat} {want b : Bool} (ho : ops[i]? = some o) (hg : o.guard = some (j, want)) (hj : ops[j]? = some o') (hd : o'.dst = some d) (hN : d < bs.N) (hb : b = want) (h : ORule P bs o ⟨rt, rh, wt, wh⟩) : OStep P ops bs i ⟨(d, dv (.bool b)) :: rt, rh, wt, wh⟩ := by
  intro Q K s a w hG hs hK
  have hy : yielded ops a.tmps j = some want := by
    obtain ⟨B, S, U, g⟩ := hG
    have := g.tm d
    rw [hs.1.1] at this
    exact hb ▸ yielded_of hj hd (by rw [g.sz]; exact hN) this
  simp only [wpOp, ho, Region.wanted, hg, hy, beq_self_eq_true, if_true]
  exact .inl (h Q K s a w hG ⟨hs.1.2, hs.2⟩ hK)

/-- A guarded operation that is passed over. -/
theorem OStep.no {P : Program} {ops : Array Oper} {bs : Base} {i : Nat} {o o' : Oper} {j d e : Nat} {want b : Bool} (ho : ops[i]? = some o) (hg : o.guard = some (j, want)) (hj : ops[j]? = some o') (hd : o'.dst = some d) (hN : d < bs.N) (hb : b = !want) (he : o.dst = some e) (hN' : e < bs.N) : OStep P ops bs i ⟨[(d, dv (.bool b))], [], [(e, dv undef)], []⟩ := by
  intro Q K s a w hG hs hK
  have hy : yielded ops a.tmps j = some b := by
    obtain ⟨B, S, U, g⟩ := hG
    have := g.tm d
    rw [hs.1.1] at this
    exact yielded_of hj hd (by rw [g.sz]; exact hN) this
  have hne : (some b == some want) = false := by subst hb; cases want <;> rfl
  simp only [wpOp, ho, Region.wanted, hg, hy, hne, Bool.false_eq_true, if_false]
  obtain ⟨B, S, U, g⟩ := hG
  refine hK _ _ ⟨B, S, U, ?_⟩
  rw [he]
  exact g.put (av := dv undef) hN' rfl

theorem yielded_undef {ops : Array Oper} {j : Nat} {o' : Oper} {d : Nat} {a : Act} (ho : ops[j]? = some o') (hd : o'.dst = some d) (h : a.tmps.getD d undef = undef) : yielded ops a.tmps j = none := by
  unfold yielded
  rw [ho]
  simp only [Option.bind_some, hd]
  rw [Array.getD_eq_getD_getElem?] at h
  cases hx : a.tmps[d]? with
  | none => rfl
  | some v =>
    rw [hx] at h
    simp only [Option.getD_some] at h
    subst h
    rfl

/-- An operation that is passed over, because the one that it hangs on was passed over. -/
theorem OStep.noU {P : Program} {ops : Array Oper} {bs : Base} {i : Nat} {o o' : Oper} {j d e : Nat} {want : Bool} (ho : ops[i]? = some o) (hg : o.guard = some (j, want)) (hj : ops[j]? = some o') (hd : o'.dst = some d) (he : o.dst = some e) (hN' : e < bs.N) : OStep P ops bs i ⟨[(d, dv undef)], [], [(e, dv undef)], []⟩ := by
  intro Q K s a w hG hs hK
  obtain ⟨B, S, U, g⟩ := hG
  have hy : yielded ops a.tmps j = none := by
    have := g.tm d
    rw [hs.1.1] at this
    exact yielded_undef hj hd this
  have hne : ((none : Option Bool) == some want) = false := rfl
  simp only [wpOp, ho, Region.wanted, hg, hy, hne, Bool.false_eq_true, if_false]
  refine hK _ _ ⟨B, S, U, ?_⟩
  rw [he]
  exact g.put (av := dv undef) hN' rfl

theorem OStep.noU' {P : Program} {ops : Array Oper} {bs : Base} {i : Nat} {o o' : Oper} {j d : Nat} {want : Bool} (ho : ops[i]? = some o) (hg : o.guard = some (j, want)) (hj : ops[j]? = some o') (hd : o'.dst = some d) (he : o.dst = none) : OStep P ops bs i ⟨[(d, dv undef)], [], [], []⟩ := by
  intro Q K s a w hG hs hK
  have hy : yielded ops a.tmps j = none := by
    obtain ⟨B, S, U, g⟩ := hG
    have := g.tm d
    rw [hs.1.1] at this
    exact yielded_undef hj hd this
  have hne : ((none : Option Bool) == some want) = false := rfl
  simp only [wpOp, ho, Region.wanted, hg, hy, hne, Bool.false_eq_true, if_false]
  rw [he]
  exact hK _ _ hG

/-- The same, of an operation without a temporary of its own. -/
theorem OStep.no' {P : Program} {ops : Array Oper} {bs : Base} {i : Nat} {o o' : Oper} {j d : Nat} {want b : Bool} (ho : ops[i]? = some o) (hg : o.guard = some (j, want)) (hj : ops[j]? = some o') (hd : o'.dst = some d) (hN : d < bs.N) (hb : b = !want) (he : o.dst = none) : OStep P ops bs i ⟨[(d, dv (.bool b))], [], [], []⟩ := by
  intro Q K s a w hG hs hK
  have hy : yielded ops a.tmps j = some b := by
    obtain ⟨B, S, U, g⟩ := hG
    have := g.tm d
    rw [hs.1.1] at this
    exact yielded_of hj hd (by rw [g.sz]; exact hN) this
  have hne : (some b == some want) = false := by subst hb; cases want <;> rfl
  simp only [wpOp, ho, Region.wanted, hg, hy, hne, Bool.false_eq_true, if_false]
  rw [he]
  exact hK _ _ hG

def OSteps (P : Program) (ops : Array Oper) (bs : Base) : Nat → List OS → Prop
  | i, [] => ops.size = i
  | i, x :: r => OStep P ops bs i x ∧ OSteps P ops bs (i + 1) r

def seqSat : St → List OS → Prop
  | _, [] => True
  | s, x :: r => x.sat s ∧ seqSat (x.app s) r

def appAll : St → List OS → St
  | s, [] => s
  | s, x :: r => appAll (x.app s) r

theorem OSteps.size {P : Program} {ops : Array Oper} {bs : Base} : ∀ {l : List OS} {i : Nat}, OSteps P ops bs i l → ops.size = i + l.length
  | [], _, h => h
  | _ :: r, i, h => by have := OSteps.size h.2; simp only [List.length_cons]; omega

theorem ops_seq {P : Program} {ops : Array Oper} {bs : Base} {Q : Exit → Act → World → Prop} : ∀ (l : List OS) (i : Nat) (s : St) (a : Act) (w : World), OSteps P ops bs i l → seqSat s l → Gs bs s a w → (∀ a' w', Gs bs (appAll s l) a' w' → Q .normal a' w') → wpOps P ops Q (List.range' i l.length) a w
  | [], _, _, a, w, _, _, hG, hQ => hQ a w hG
  | x :: r, i, s, a, w, h, hs, hG, hQ => by
    simp only [List.length_cons, List.range'_succ, wpOps_cons]
    exact h.1 Q _ s a w hG hs.1 fun a' w' hG' => ops_seq r (i + 1) (x.app s) a' w' h.2 hs.2 hG' hQ

/-- A piece of code, from an abstract state on. -/
def T (P : Program) (bs : Base) (s : St) (c : Code) (Q : Exit → Act → World → Prop) : Prop := ∀ a w, Gs bs s a w → c.wp P Q a w

def maskT : List Bool → List AV → List AV
  | true :: m, x :: r => x :: maskT m r
  | false :: m, _ :: r => .any :: maskT m r
  | _, _ => []
def maskH : List Bool → List HS → List HS
  | false :: m, .live _ :: r => .dead :: maskH m r
  | false :: m, x :: r => x :: maskH m r
  | true :: m, x :: r => x :: maskH m r
  | [], r => r
  | _ :: _, [] => []

theorem maskT_spec : ∀ (m : List Bool) (l : List AV) (k : Nat), tget (maskT m l) k = .any ∨ tget (maskT m l) k = tget l k
  | true :: m, x :: r, 0 => .inr rfl
  | true :: m, x :: r, k + 1 => maskT_spec m r k
  | false :: m, x :: r, 0 => .inl rfl
  | false :: m, x :: r, k + 1 => maskT_spec m r k
  | [], _, _ => .inl (by simp [maskT, tget])
  | true :: _, [], _ => .inl (by simp [maskT, tget])
  | false :: _, [], _ => .inl (by simp [maskT, tget])

theorem maskH_spec : ∀ (m : List Bool) (l : List HS) (k : Nat), hget (maskH m l) k = .dead ∨ hget (maskH m l) k = hget l k
  | true :: m, x :: r, 0 => .inr rfl
  | true :: m, x :: r, k + 1 => maskH_spec m r k
  | false :: m, .live _ :: r, 0 => .inl rfl
  | false :: m, .live _ :: r, k + 1 => maskH_spec m r k
  | false :: m, .free :: r, 0 => .inr rfl
  | false :: m, .free :: r, k + 1 => maskH_spec m r k
  | false :: m, .dead :: r, 0 => .inr rfl
  | false :: m, .dead :: r, k + 1 => maskH_spec m r k
  | [], _, _ => .inr rfl
  | true :: _, [], _ => .inr rfl
  | false :: _, [], _ => .inr rfl

theorem Gs.mask {bs : Base} {s : St} {a : Act} {w : World} (m n : List Bool) (h : Gs bs s a w) : Gs bs ⟨maskT m s.t, maskH n s.h⟩ a w :=
  h.weak (maskT_spec m s.t) (maskH_spec n s.h)

theorem T.region {P : Program} {bs : Base} {s s1 : St} {id : Nat} {ops : Array Oper} {Q : Exit → Act → World → Prop} (l : List OS) (m n : List Bool) (h : OSteps P ops bs 0 l) (hs : seqSat s l)
    (h1 : (⟨maskT m (appAll s l).t, maskH n (appAll s l).h⟩ : St) = s1) (hQ : ∀ a w, Gs bs s1 a w → Q .normal a w) : T P bs s (.region id ops false) Q := by
  intro a w hG
  refine wp_region ?_
  have hsz := h.size
  rw [Nat.zero_add] at hsz
  rw [List.range_eq_range', hsz]
  exact ops_seq l 0 s a w h hs hG fun a' w' hG' => hQ a' w' (h1 ▸ hG'.mask m n)

/-! ### A region that draws its order -/

def keysT (l : List (Nat × AV)) : List Nat := l.map (·.1)
def keysH (l : List (Nat × HS)) : List Nat := l.map (·.1)
def meets (a b : List Nat) : Bool := a.any fun x => b.any fun y => x == y
/-- May the two not change places? -/
def OS.clash (x y : OS) : Bool :=
  meets (keysT x.wt) (keysT y.rt) || meets (keysT x.wt) (keysT y.wt) || meets (keysT x.rt) (keysT y.wt) ||
  meets (keysH x.wh) (keysH y.rh) || meets (keysH x.wh) (keysH y.wh) || meets (keysH x.rh) (keysH y.wh)

theorem meets_false {a b : List Nat} (h : meets a b = false) {x : Nat} (hx : x ∈ a) : x ∉ b := by
  intro hy
  have : meets a b = true := by
    simp only [meets, List.any_eq_true]
    exact ⟨x, hx, x, hy, by simp⟩
  rw [h] at this
  cases this

theorem tget_tsets_not (k : Nat) : ∀ (l : List (Nat × AV)) (t : List AV), k ∉ keysT l → tget (tsets t l) k = tget t k
  | [], _, _ => rfl
  | p :: r, t, h => by
    simp only [keysT, List.map_cons, List.mem_cons, not_or] at h
    rw [tsets, tget_tsets_not k r _ h.2, tget_tset, if_neg h.1]
theorem hget_hsets_not (k : Nat) : ∀ (l : List (Nat × HS)) (t : List HS), k ∉ keysH l → hget (hsets t l) k = hget t k
  | [], _, _ => rfl
  | p :: r, t, h => by
    simp only [keysH, List.map_cons, List.mem_cons, not_or] at h
    rw [hsets, hget_hsets_not k r _ h.2, hget_hset, if_neg h.1]
theorem tget_tsets_eq (k : Nat) : ∀ (l : List (Nat × AV)) (t t' : List AV), (tget t k = tget t' k ∨ k ∈ keysT l) → tget (tsets t l) k = tget (tsets t' l) k
  | [], _, _, h => by rcases h with h | h; exact h; cases h
  | p :: r, t, t', h => by
    refine tget_tsets_eq k r _ _ ?_
    by_cases hk : k = p.1
    · left; rw [tget_tset, tget_tset, if_pos hk, if_pos hk]
    · rcases h with h | h
      · left; rw [tget_tset, tget_tset, if_neg hk, if_neg hk]; exact h
      · simp only [keysT, List.map_cons, List.mem_cons] at h
        exact .inr (h.resolve_left hk)
theorem hget_hsets_eq (k : Nat) : ∀ (l : List (Nat × HS)) (t t' : List HS), (hget t k = hget t' k ∨ k ∈ keysH l) → hget (hsets t l) k = hget (hsets t' l) k
  | [], _, _, h => by rcases h with h | h; exact h; cases h
  | p :: r, t, t', h => by
    refine hget_hsets_eq k r _ _ ?_
    by_cases hk : k = p.1
    · left; rw [hget_hset, hget_hset, if_pos hk, if_pos hk]
    · rcases h with h | h
      · left; rw [hget_hset, hget_hset, if_neg hk, if_neg hk]; exact h
      · simp only [keysH, List.map_cons, List.mem_cons] at h
        exact .inr (h.resolve_left hk)

theorem satT_of {t t' : List AV} : ∀ {l : List (Nat × AV)}, (∀ k, k ∈ keysT l → tget t' k = tget t k) → satT l t → satT l t'
  | [], _, _ => trivial
  | p :: r, h, hs => ⟨(h p.1 (by simp [keysT])).trans hs.1, satT_of (fun k hk => h k (by simp only [keysT, List.map_cons, List.mem_cons]; exact .inr hk)) hs.2⟩
theorem satH_of {t t' : List HS} : ∀ {l : List (Nat × HS)}, (∀ k, k ∈ keysH l → hget t' k = hget t k) → satH l t → satH l t'
  | [], _, _ => trivial
  | p :: r, h, hs => ⟨(h p.1 (by simp [keysH])).trans hs.1, satH_of (fun k hk => h k (by simp only [keysH, List.map_cons, List.mem_cons]; exact .inr hk)) hs.2⟩

def nth (l : List OS) (i : Nat) : OS := l.getD i ⟨[], [], [], []⟩

/-- The state after those of the first n operations that are listed, in the text's order. -/
def stOf (s : St) (l : List OS) (D : Nat → Bool) : Nat → St
  | 0 => s
  | n + 1 => if D n then (nth l n).app (stOf s l D n) else stOf s l D n

def eqSt (s s' : St) : Prop := (∀ k, tget s'.t k = tget s.t k) ∧ (∀ k, hget s'.h k = hget s.h k)
theorem eqSt.refl (s : St) : eqSt s s := ⟨fun _ => rfl, fun _ => rfl⟩
theorem eqSt.trans {a b c : St} (h : eqSt a b) (k : eqSt b c) : eqSt a c := ⟨fun i => (k.1 i).trans (h.1 i), fun i => (k.2 i).trans (h.2 i)⟩
theorem eqSt.symm {a b : St} (h : eqSt a b) : eqSt b a := ⟨fun i => (h.1 i).symm, fun i => (h.2 i).symm⟩
theorem eqSt.app {a b : St} (h : eqSt a b) (x : OS) : eqSt (x.app a) (x.app b) :=
  ⟨fun k => tget_tsets_eq k x.wt _ _ (.inl (h.1 k)), fun k => hget_hsets_eq k x.wh _ _ (.inl (h.2 k))⟩

theorem clash_false {x y : OS} (h : x.clash y = false) : meets (keysT x.wt) (keysT y.rt) = false ∧ meets (keysT x.wt) (keysT y.wt) = false ∧ meets (keysT x.rt) (keysT y.wt) = false ∧
    meets (keysH x.wh) (keysH y.rh) = false ∧ meets (keysH x.wh) (keysH y.wh) = false ∧ meets (keysH x.rh) (keysH y.wh) = false := by
  simp only [OS.clash, Bool.or_eq_false_iff] at h
  exact ⟨h.1.1.1.1.1, h.1.1.1.1.2, h.1.1.1.2, h.1.1.2, h.1.2, h.2⟩

theorem meets_comm (a b : List Nat) : meets a b = meets b a := by
  rw [Bool.eq_iff_iff]
  simp only [meets, List.any_eq_true, beq_iff_eq]
  constructor
  · rintro ⟨x, hx, y, hy, rfl⟩; exact ⟨x, hy, x, hx, rfl⟩
  · rintro ⟨x, hx, y, hy, rfl⟩; exact ⟨x, hy, x, hx, rfl⟩

/-- Two that do not clash change places. -/
theorem app_comm {x y : OS} (h : x.clash y = false) (s : St) : eqSt (x.app (y.app s)) (y.app (x.app s)) := by
  obtain ⟨_, h2, _, _, h5, _⟩ := clash_false h
  constructor
  · intro k
    show tget (tsets (tsets s.t x.wt) y.wt) k = tget (tsets (tsets s.t y.wt) x.wt) k
    by_cases hx : k ∈ keysT x.wt
    · rw [tget_tsets_not k y.wt _ (meets_false h2 hx)]
      exact tget_tsets_eq k x.wt _ _ (.inr hx)
    · rw [tget_tsets_not k x.wt _ hx]
      exact tget_tsets_eq k y.wt _ _ (.inl (tget_tsets_not k x.wt _ hx))
  · intro k
    show hget (hsets (hsets s.h x.wh) y.wh) k = hget (hsets (hsets s.h y.wh) x.wh) k
    by_cases hx : k ∈ keysH x.wh
    · rw [hget_hsets_not k y.wh _ (meets_false h5 hx)]
      exact hget_hsets_eq k x.wh _ _ (.inr hx)
    · rw [hget_hsets_not k x.wh _ hx]
      exact hget_hsets_eq k y.wh _ _ (.inl (hget_hsets_not k x.wh _ hx))

theorem sat_app {x y : OS} (h : x.clash y = false) (s : St) : x.sat (y.app s) ↔ x.sat s := by
  obtain ⟨_, _, h3, _, _, h6⟩ := clash_false h
  have e1 : ∀ k, k ∈ keysT x.rt → tget (y.app s).t k = tget s.t k := fun k hk => tget_tsets_not k y.wt _ (meets_false h3 hk)
  have e2 : ∀ k, k ∈ keysH x.rh → hget (y.app s).h k = hget s.h k := fun k hk => hget_hsets_not k y.wh _ (meets_false h6 hk)
  exact ⟨fun h => ⟨satT_of (fun k hk => (e1 k hk).symm) h.1, satH_of (fun k hk => (e2 k hk).symm) h.2⟩, fun h => ⟨satT_of e1 h.1, satH_of e2 h.2⟩⟩

theorem sat_eq {x : OS} {s s' : St} (h : eqSt s s') (hs : x.sat s) : x.sat s' := ⟨satT_of (fun k _ => h.1 k) hs.1, satH_of (fun k _ => h.2 k) hs.2⟩

section
variable {s : St} {l : List OS}

/-- One more listed behind: what does not clash with the later listed ones may as well come last. -/
theorem stOf_last {D : Nat → Bool} {i : Nat} (hi : D i = false) : ∀ n, i < n → (∀ j, i < j → j < n → D j = true → (OS.clash (nth l i) (nth l j)) = false) →
    eqSt (stOf s l (fun k => D k || k == i) n) ((nth l i).app (stOf s l D n))
  | 0, h, _ => absurd h (Nat.not_lt_zero _)
  | n + 1, h, hc => by
    by_cases e : i = n
    · subst e
      have same : ∀ m, m ≤ i → stOf s l (fun k => D k || k == i) m = stOf s l D m := by
        intro m
        induction m with
        | zero => intro _; rfl
        | succ m ih =>
          intro hm
          have hne : (m == i) = false := by simp; omega
          simp only [stOf, hne, Bool.or_false, ih (by omega)]
      simp only [stOf, hi, beq_self_eq_true, Bool.or_true, if_true, same i (Nat.le_refl _), Bool.false_eq_true, if_false]
      exact eqSt.refl _
    · have hlt : i < n := by omega
      have ih := stOf_last hi n hlt fun j h1 h2 => hc j h1 (by omega)
      have hne : (n == i) = false := by simp; omega
      by_cases hD : D n = true
      · simp only [stOf, hD, hne, Bool.or_false, if_true]
        exact (ih.app _).trans (app_comm (hc n hlt (Nat.lt_succ_self n) hD) _).symm
      · have hD' : D n = false := by cases h : D n; rfl; exact absurd h hD
        simp only [stOf, hD', hne, Bool.or_false, Bool.false_eq_true, if_false]
        exact ih

/-- What holds after all earlier ones holds after those of them that it hangs on, and after later ones that do not clash. -/
theorem sat_of_text {D : Nat → Bool} {i : Nat} (hDi : D i = false) (n : Nat) (hn : i < n) (hsat : (nth l i).sat (stOf s l (fun _ => true) i)) (hc : ∀ j, j < n → j ≠ i → (OS.clash (nth l i) (nth l j)) = true → (j < i ∧ D j = true) ∨ (i < j ∧ D j = false)) :
    (nth l i).sat (stOf s l D n) := by
  have low : ∀ m, m ≤ i → (∀ k, k ∈ keysT (nth l i).rt → tget (stOf s l D m).t k = tget (stOf s l (fun _ => true) m).t k) ∧ (∀ k, k ∈ keysH (nth l i).rh → hget (stOf s l D m).h k = hget (stOf s l (fun _ => true) m).h k) := by
    intro m
    induction m with
    | zero => intro _; exact ⟨fun _ _ => rfl, fun _ _ => rfl⟩
    | succ m ih =>
      intro hm
      obtain ⟨ih1, ih2⟩ := ih (by omega)
      by_cases hD : D m = true
      · simp only [stOf, hD, if_true]
        exact ⟨fun k hk => tget_tsets_eq k _ _ _ (.inl (ih1 k hk)), fun k hk => hget_hsets_eq k _ _ _ (.inl (ih2 k hk))⟩
      · have hD' : D m = false := by cases h : D m; rfl; exact absurd h hD
        have hcl : (OS.clash (nth l i) (nth l m)) = false := by
          cases h : (OS.clash (nth l i) (nth l m)) with
          | false => rfl
          | true => rcases hc m (by omega) (by omega) h with h | h
                    · exact absurd h.2 hD
                    · omega
        obtain ⟨_, _, h3, _, _, h6⟩ := clash_false hcl
        simp only [stOf, hD', Bool.false_eq_true, if_false, if_true]
        exact ⟨fun k hk => (ih1 k hk).trans (tget_tsets_not k _ _ (meets_false h3 hk)).symm, fun k hk => (ih2 k hk).trans (hget_hsets_not k _ _ (meets_false h6 hk)).symm⟩
  have base : (nth l i).sat (stOf s l D i) := ⟨satT_of (low i (Nat.le_refl _)).1 hsat.1, satH_of (low i (Nat.le_refl _)).2 hsat.2⟩
  have up : ∀ m, i ≤ m → m ≤ n → (nth l i).sat (stOf s l D m) := by
    intro m
    induction m with
    | zero =>
      intro h1 _
      have : i = 0 := by omega
      subst this; exact base
    | succ m ih =>
      intro h1 h2
      by_cases e : i = m + 1
      · rw [← e]; exact base
      · have hm : i ≤ m := by omega
        have ihm := ih hm (by omega)
        by_cases hD : D m = true
        · have hne : m ≠ i := by rintro rfl; rw [hDi] at hD; cases hD
          have hcl : (OS.clash (nth l i) (nth l m)) = false := by
            cases h : (OS.clash (nth l i) (nth l m)) with
            | false => rfl
            | true =>
              rcases hc m (by omega) hne h with h | h
              · omega
              · rw [h.2] at hD; cases hD
          simp only [stOf, hD, if_true]
          exact (sat_app hcl _).2 ihm
        · have hD' : D m = false := by cases h : D m; rfl; exact absurd h hD
          simp only [stOf, hD', Bool.false_eq_true, if_false]
          exact ihm
  exact up n (by omega) (Nat.le_refl _)
end

theorem stOf_congr {s : St} {l : List OS} {D D' : Nat → Bool} : ∀ n, (∀ k, k < n → D k = D' k) → stOf s l D n = stOf s l D' n
  | 0, _ => rfl
  | n + 1, h => by simp only [stOf, h n (Nat.lt_succ_self n), stOf_congr n fun k hk => h k (by omega)]

theorem stOf_all (s : St) (l : List OS) : ∀ n, n ≤ l.length → stOf s l (fun _ => true) n = appAll s (l.take n)
  | 0, _ => by simp [stOf, appAll]
  | n + 1, h => by
    have app_snoc : ∀ (k : List OS) (s : St) (x : OS), appAll s (k ++ [x]) = x.app (appAll s k) := by
      intro k
      induction k with
      | nil => intro s x; rfl
      | cons y k ih => intro s x; exact ih _ _
    have hx : l.take (n + 1) = l.take n ++ [nth l n] := by
      rw [List.take_succ_eq_append_getElem (by omega)]
      simp [nth, List.getD, List.getElem?_eq_getElem (show n < l.length by omega)]
    rw [hx, app_snoc, ← stOf_all s l n (by omega)]
    simp [stOf]

/-- Operations that an operation must follow, listed by whoever calls, held against the edges. -/
def ancOk (ops : Array Oper) (anc : List (List Nat)) : Bool :=
  (List.range ops.size).all fun j => (anc.getD j []).all fun x => Nat.blt x j && ((ops[j]?).map fun o => o.after.toList.any fun e => Region.binds .any e && (Nat.beq e.on x || (Nat.blt e.on j && (anc.getD e.on []).any (Nat.beq x)))).getD false
def backOk (ops : Array Oper) : Bool :=
  (List.range ops.size).all fun j => ((ops[j]?).map fun o => o.after.toList.all fun e => !Region.binds .any e || Nat.blt e.on j).getD false
def clashOk (l : List OS) (anc : List (List Nat)) : Bool :=
  (List.range l.length).all fun j => (List.range j).all fun i => !(OS.clash (nth l i) (nth l j)) || (anc.getD j []).any (Nat.beq i)

theorem anc_spec {ops : Array Oper} {anc : List (List Nat)} (h : ancOk ops anc = true) {D : Nat → Prop} (hD : ∀ j o, ops[j]? = some o → D j → ∀ e ∈ o.after, Region.binds .any e = true → D e.on) :
    ∀ j, j < ops.size → D j → ∀ x, x ∈ anc.getD j [] → D x := by
  intro j
  induction j using Nat.strongRecOn with
  | _ j ih =>
    intro hj hDj x hx
    simp only [ancOk, List.all_eq_true, List.mem_range] at h
    have h1 := h j hj x hx
    simp only [Bool.and_eq_true, Nat.blt_eq] at h1
    obtain ⟨h1, h2⟩ := h1
    have ho : ops[j]? = some ops[j] := Array.getElem?_eq_getElem hj
    rw [ho] at h2
    simp only [Option.map_some, Option.getD_some, List.any_eq_true, Bool.and_eq_true, Bool.or_eq_true, Nat.blt_eq] at h2
    obtain ⟨e, he, hb, h3⟩ := h2
    have hDe := hD j _ ho hDj e (by simpa using he) hb
    rcases h3 with h3 | ⟨h3, y, hy, hxy⟩
    · rw [← Nat.eq_of_beq_eq_true h3]; exact hDe
    · have := Nat.eq_of_beq_eq_true hxy
      subst this
      exact ih e.on h3 (by omega) hDe x hy

def unlisted (listed : Array Bool) : Nat → Nat
  | 0 => 0
  | n + 1 => (if listed.getD n true = false then 1 else 0) + unlisted listed n

theorem unlisted_set {listed : Array Bool} {i : Nat} (hi : listed.getD i true = false) : ∀ n, i < n → unlisted (listed.setIfInBounds i true) n + 1 = unlisted listed n := by
  have same : ∀ m, m ≤ i → unlisted (listed.setIfInBounds i true) m = unlisted listed m := by
    intro m
    induction m with
    | zero => intro _; rfl
    | succ m ih => intro hm; simp only [unlisted, ih (by omega), getD_set_ne true (show i ≠ m by omega)]
  intro n
  induction n with
  | zero => intro h; omega
  | succ n ih =>
    intro h
    by_cases e : i = n
    · subst e
      have h1 : (listed.setIfInBounds i true).getD i true = true := by
        by_cases hs : i < listed.size <;> simp [hs]
      simp only [unlisted, same i (Nat.le_refl _), h1, hi, Bool.true_eq_false, if_false, if_true]
      omega
    · simp only [unlisted, getD_set_ne true e]
      have := ih (by omega)
      omega

theorem unlisted_zero {listed : Array Bool} : ∀ n, unlisted listed n = 0 → ∀ k, k < n → listed.getD k true = true
  | 0, _, _, h => absurd h (Nat.not_lt_zero _)
  | n + 1, h0, k, hk => by
    simp only [unlisted] at h0
    have h1 : listed.getD n true = true := by
      cases h : listed.getD n true with
      | true => rfl
      | false => rw [h] at h0; simp at h0
    by_cases e : k = n
    · subst e; exact h1
    · exact unlisted_zero n (by omega) k (by omega)

theorem OSteps.get {P : Program} {ops : Array Oper} {bs : Base} : ∀ {l : List OS} {i : Nat}, OSteps P ops bs i l → ∀ k, k < l.length → OStep P ops bs (i + k) (nth l k)
  | [], _, _, k, hk => absurd hk (Nat.not_lt_zero _)
  | x :: r, i, h, 0, _ => h.1
  | x :: r, i, h, k + 1, hk => by
    have := OSteps.get h.2 k (by simpa using hk)
    rw [show i + (k + 1) = i + 1 + k from by omega]
    exact this

theorem seqSat.get : ∀ {l : List OS} {s : St}, seqSat s l → ∀ k, k < l.length → (nth l k).sat (appAll s (l.take k))
  | [], _, _, k, hk => absurd hk (Nat.not_lt_zero _)
  | x :: r, s, h, 0, _ => h.1
  | x :: r, s, h, k + 1, hk => seqSat.get h.2 k (by simpa using hk)

theorem ops_any {P : Program} {ops : Array Oper} {bs : Base} {Q : Exit → Act → World → Prop} {s : St} (l : List OS) (anc : List (List Nat)) (hst : OSteps P ops bs 0 l) (hs : seqSat s l) (hanc : ancOk ops anc = true) (hback : backOk ops = true) (hcl : clashOk l anc = true)
    (hQ : ∀ a' w', Gs bs (appAll s l) a' w' → Q .normal a' w') :
    ∀ (fuel : Nat) (listed : Array Bool) (a : Act) (w : World), listed.size = ops.size → unlisted listed ops.size ≤ fuel →
      (∀ j o, ops[j]? = some o → listed.getD j false = true → ∀ e ∈ o.after, Region.binds .any e = true → listed.getD e.on false = true) →
      Gs bs (stOf s l (fun k => listed.getD k false) ops.size) a w → wpAny P .any ops Q fuel listed a w := by
  have hsz : ops.size = l.length := by have := hst.size; omega
  have done : ∀ (listed : Array Bool) (a : Act) (w : World), (∀ k, k < ops.size → listed.getD k true = true) → listed.size = ops.size → Gs bs (stOf s l (fun k => listed.getD k false) ops.size) a w → Q .normal a w := by
    intro listed a w hall hls hG
    refine hQ a w ?_
    have : stOf s l (fun k => listed.getD k false) ops.size = appAll s l := by
      rw [stOf_congr (D' := fun _ => true) ops.size (fun k hk => ?_), stOf_all s l _ (by omega), hsz, List.take_length]
      have h1 := hall k hk
      have hk' : k < listed.size := by omega
      simpa [Array.getD_eq_getD_getElem?, Array.getElem?_eq_getElem hk'] using h1
    rw [← this]
    exact hG
  have ready_nil : ∀ (listed : Array Bool), listed.size = ops.size → Region.ready .any ops listed = [] → ∀ k, k < ops.size → listed.getD k true = true := by
    intro listed hls hr k
    induction k using Nat.strongRecOn with
    | _ k ih =>
      intro hk
      cases hd : listed.getD k true with
      | true => rfl
      | false =>
        exfalso
        have hmem : k ∈ Region.ready .any ops listed := by
          rw [mem_ready]
          refine ⟨hd, ops[k], Array.getElem?_eq_getElem hk, fun e he hb => ?_⟩
          simp only [backOk, List.all_eq_true, List.mem_range] at hback
          have h1 := hback k hk
          rw [Array.getElem?_eq_getElem hk] at h1
          simp only [Option.map_some, Option.getD_some, List.all_eq_true, Bool.or_eq_true, Bool.not_eq_true', Nat.blt_eq] at h1
          have h2 := (h1 e (by simpa using he)).resolve_left (by simp [hb])
          have h3 := ih e.on h2 (by omega)
          have hk' : e.on < listed.size := by omega
          simpa [Array.getD_eq_getD_getElem?, Array.getElem?_eq_getElem hk'] using h3
        rw [hr] at hmem
        cases hmem
  intro fuel
  induction fuel with
  | zero =>
    intro listed a w hls hu hclosed hG
    have hall := unlisted_zero ops.size (by omega : unlisted listed ops.size = 0)
    refine ⟨?_, done listed a w hall hls hG⟩
    refine List.eq_nil_iff_forall_not_mem.2 fun k hk => ?_
    rw [mem_ready] at hk
    obtain ⟨h0, o, ho, _⟩ := hk
    have := hall k (Array.getElem?_eq_some_iff.1 ho).1
    rw [this] at h0
    cases h0
  | succ fuel ih =>
    intro listed a w hls hu hclosed hG
    refine ⟨fun hr => done listed a w (ready_nil listed hls hr) hls hG, fun i hi => ?_⟩
    rw [mem_ready] at hi
    obtain ⟨h0, o, ho, hafter⟩ := hi
    have hin : i < ops.size := (Array.getElem?_eq_some_iff.1 ho).1
    have hDi : listed.getD i false = false := by
      have hk' : i < listed.size := by omega
      simpa [Array.getD_eq_getD_getElem?, Array.getElem?_eq_getElem hk'] using h0
    have hstep := hst.get i (by omega)
    rw [Nat.zero_add] at hstep
    -- the clashes
    have hanc_in : ∀ j, j < ops.size → listed.getD j false = true → ∀ x, x ∈ anc.getD j [] → listed.getD x false = true :=
      anc_spec (D := fun j => listed.getD j false = true) hanc hclosed
    have hanc_i : ∀ x, x ∈ anc.getD i [] → listed.getD x false = true := by
      have := anc_spec (D := fun j => listed.getD j false = true ∨ j = i) hanc (fun j o' ho' hj e he hb => by
        rcases hj with hj | hj
        · exact .inl (hclosed j o' ho' hj e he hb)
        · subst hj
          rw [ho] at ho'
          cases ho'
          exact .inl (hafter e he hb)) i hin (.inr rfl)
      intro x hx
      rcases this x hx with h | h
      · exact h
      · exfalso
        subst h
        simp only [ancOk, List.all_eq_true, List.mem_range] at hanc
        have := hanc x hin x hx
        simp only [Bool.and_eq_true, Nat.blt_eq] at this
        omega
    have hclash : ∀ j, j < ops.size → j ≠ i → (OS.clash (nth l i) (nth l j)) = true → (j < i ∧ listed.getD j false = true) ∨ (i < j ∧ listed.getD j false = false) := by
      intro j hj hne hc
      simp only [clashOk, List.all_eq_true, List.mem_range, Bool.or_eq_true, Bool.not_eq_true', List.any_eq_true] at hcl
      rcases Nat.lt_or_gt_of_ne hne with h | h
      · left
        refine ⟨h, ?_⟩
        have hc' : (OS.clash (nth l j) (nth l i)) = true := by
          rw [← hc]
          simp only [OS.clash]
          rw [meets_comm (keysT (nth l j).wt) (keysT (nth l i).rt), meets_comm (keysT (nth l j).wt) (keysT (nth l i).wt), meets_comm (keysT (nth l j).rt) (keysT (nth l i).wt), meets_comm (keysH (nth l j).wh) (keysH (nth l i).rh), meets_comm (keysH (nth l j).wh) (keysH (nth l i).wh), meets_comm (keysH (nth l j).rh) (keysH (nth l i).wh)]
          generalize meets (keysT (nth l i).rt) (keysT (nth l j).wt) = a1
          generalize meets (keysT (nth l i).wt) (keysT (nth l j).wt) = a2
          generalize meets (keysT (nth l i).wt) (keysT (nth l j).rt) = a3
          generalize meets (keysH (nth l i).rh) (keysH (nth l j).wh) = a4
          generalize meets (keysH (nth l i).wh) (keysH (nth l j).wh) = a5
          generalize meets (keysH (nth l i).wh) (keysH (nth l j).rh) = a6
          revert a1 a2 a3 a4 a5 a6
          decide
        obtain ⟨x, hx, hb⟩ := (hcl i (by omega) j h).resolve_left (by rw [hc']; simp)
        rw [Nat.eq_of_beq_eq_true hb]
        exact hanc_i x hx
      · right
        refine ⟨h, ?_⟩
        cases hd : listed.getD j false with
        | false => rfl
        | true =>
          obtain ⟨x, hx, hb⟩ := (hcl j (by omega) i h).resolve_left (by rw [hc]; simp)
          have := hanc_in j hj hd x hx
          rw [← Nat.eq_of_beq_eq_true hb, hDi] at this
          cases this
    have hsat : (nth l i).sat (stOf s l (fun k => listed.getD k false) ops.size) := by
      refine sat_of_text hDi ops.size hin ?_ hclash
      rw [stOf_all s l i (by omega)]
      exact hs.get i (by omega)
    refine hstep Q _ _ a w hG hsat fun a' w' hG' => ?_
    refine ih _ a' w' (by simp [hls]) ?_ ?_ ?_
    · have := unlisted_set h0 ops.size hin
      omega
    · intro j o' ho' hj e he hb
      by_cases e' : j = i
      · subst e'
        rw [ho] at ho'
        cases ho'
        exact getD_set_true (hafter e he hb)
      · rw [getD_set_ne false (Ne.symm e')] at hj
        exact getD_set_true (hclosed j o' ho' hj e he hb)
    · have he := stOf_last (s := s) (l := l) (D := fun k => listed.getD k false) hDi ops.size hin fun j h1 h2 h3 => by
        cases hc : (OS.clash (nth l i) (nth l j)) with
        | false => rfl
        | true =>
          rcases hclash j h2 (by omega) hc with h | h
          · omega
          · rw [h.2] at h3; cases h3
      have hcg : stOf s l (fun k => (listed.setIfInBounds i true).getD k false) ops.size = stOf s l (fun k => listed.getD k false || k == i) ops.size := by
        refine stOf_congr ops.size fun k hk => ?_
        by_cases e : k = i
        · subst e
          have hk' : k < listed.size := by omega
          simp [hk']
        · have : (k == i) = false := by simp [e]
          rw [getD_set_ne false (Ne.symm e), this, Bool.or_false]
      rw [hcg]
      exact hG'.congr (fun k => (he.1 k).symm) (fun k => (he.2 k).symm)

theorem T.draws {P : Program} {bs : Base} {s s1 : St} {id : Nat} {ops : Array Oper} {Q : Exit → Act → World → Prop} (hm : P.follows .mixedOrders = true) (l : List OS) (anc : List (List Nat)) (m n : List Bool) (h : OSteps P ops bs 0 l) (hs : seqSat s l)
    (hanc : ancOk ops anc = true) (hback : backOk ops = true) (hcl : clashOk l anc = true)
    (h1 : (⟨maskT m (appAll s l).t, maskH n (appAll s l).h⟩ : St) = s1) (hQ : ∀ a w, Gs bs s1 a w → Q .normal a w) : T P bs s (.region id ops true) Q := by
  intro a w hG
  refine wp_region_any hm ?_
  refine ops_any l anc h hs hanc hback hcl (fun a' w' hG' => hQ a' w' (h1 ▸ hG'.mask m n)) ops.size _ a _ (by simp) ?_ ?_ ?_
  · have : ∀ n, unlisted (Array.replicate ops.size false) n ≤ n := by
      intro n
      induction n with
      | zero => exact Nat.le_refl _
      | succ n ih =>
        simp only [unlisted]
        split <;> omega
    exact this _
  · intro j o ho hj
    have hj' : j < ops.size := (Array.getElem?_eq_some_iff.1 ho).1
    simp [hj'] at hj
  · rw [stOf_congr (D' := fun _ => false) ops.size (fun k hk => by simp [hk])]
    have : ∀ n, stOf s l (fun _ => false) n = s := by
      intro n
      induction n with
      | zero => rfl
      | succ n ih => simpa [stOf] using ih
    rw [this]
    exact hG.drawn
end Go.Proofs.Ytacikihlgpnjhaa.Q
