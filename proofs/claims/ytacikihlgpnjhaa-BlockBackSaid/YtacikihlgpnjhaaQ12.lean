import Derived.Test.YtacikihlgpnjhaaQ11
namespace Go.Proofs.Ytacikihlgpnjhaa.Q
open Go Go.RowKit
set_option linter.unusedVariables false
set_option linter.unusedSimpArgs false

variable {P : Program} {bs : Base}

/-! ### The walk's joints -/

abbrev Ends (bs : Base) (s : St) (e : Exit) (Q : Exit → Act → World → Prop) : Prop := ∀ a w, Gs bs s a w → Q e a w

theorem nT {s : St} {y : Code} {Q Q' : Exit → Act → World → Prop} (h : T P bs s y Q) : Ends bs s .normal (Exit.then (y.wp P Q) Q') := h
theorem nB {s : St} {i : Nat} {Q : Exit → Act → World → Prop} (h : Ends bs s .normal Q) : Ends bs s .normal (Exit.inBlock i Q) := h
theorem xT {s : St} {i : Nat} {K : Act → World → Prop} {Q : Exit → Act → World → Prop} (h : Ends bs s (.exit i) Q) : Ends bs s (.exit i) (Exit.then K Q) := h
theorem xH {s : St} {i : Nat} {Q : Exit → Act → World → Prop} (h : Ends bs s .normal Q) : Ends bs s (.exit i) (Exit.inBlock i Q) := fun a w hG => by
  show (if i = i then Q .normal a w else Q (.exit i) a w)
  rw [if_pos rfl]; exact h a w hG
theorem xM {s : St} {i j : Nat} {Q : Exit → Act → World → Prop} (hne : Nat.beq i j = false) (h : Ends bs s (.exit i) Q) : Ends bs s (.exit i) (Exit.inBlock j Q) := fun a w hG => by
  show (if i = j then Q .normal a w else Q (.exit i) a w)
  have : i ≠ j := fun e => by rw [e] at hne; simp at hne
  rw [if_neg this]; exact h a w hG
theorem rT {s : St} {K : Act → World → Prop} {Q : Exit → Act → World → Prop} (h : Ends bs s .ret Q) : Ends bs s .ret (Exit.then K Q) := h
theorem rB {s : St} {i : Nat} {Q : Exit → Act → World → Prop} (h : Ends bs s .ret Q) : Ends bs s .ret (Exit.inBlock i Q) := h

/-- The end of a round. -/
theorem nL {ι : Type} {st : ι → St} {pre : ι → Prop} {μ : ι → Nat} {x : ι} {s : St} {Q : Exit → Act → World → Prop} (x' : ι) (hp : pre x') (hμ : μ x' < μ x) (h : ∀ a w, Gs bs s a w → Gs bs (st x') a w) :
    Ends bs s .normal (Exit.then (fun a w => ∃ x', pre x' ∧ μ x' < μ x ∧ Gs bs (st x') a w) Q) := fun a w hG => ⟨x', hp, hμ, h a w hG⟩

def intoT (r : Nat → Nat) (m : Nat) : List AV → List AV → Prop
  | [], _ => True
  | x :: l, t => (x = .any ∨ (idsA m x = true ∧ renA r x = tget t 0)) ∧ intoT r m l (t.drop 1)
def intoH (r : Nat → Nat) (m : Nat) (h : List HS) : Nat → List HS → Prop
  | _, [] => True
  | i, .live o :: l => (idsO m o = true ∧ hget h (r i) = .live (renO r o)) ∧ intoH r m h (i + 1) l
  | i, .dead :: l => intoH r m h (i + 1) l
  | _, .free :: _ => False
def fixB (k : Nat) (r : Nat → Nat) : Bool := (List.range k).all fun i => Nat.beq (r i) i

theorem intoT_get {r : Nat → Nat} {m : Nat} : ∀ {l t : List AV}, intoT r m l t → ∀ i, tget l i = .any ∨ (idsA m (tget l i) = true ∧ renA r (tget l i) = tget t i)
  | [], _, _, _ => .inl rfl
  | x :: l, t, h, 0 => h.1
  | x :: l, t, h, i + 1 => by
    have := intoT_get h.2 i
    have e : tget (t.drop 1) i = tget t (i + 1) := by cases t <;> rfl
    rw [e] at this
    exact this
theorem intoH_get {r : Nat → Nat} {m : Nat} {h : List HS} : ∀ {l : List HS} {i : Nat}, intoH r m h i l → ∀ k, (k < l.length → hget l k ≠ .free) ∧ ∀ o, hget l k = .live o → idsO m o = true ∧ hget h (r (i + k)) = .live (renO r o)
  | [], _, _, k => ⟨fun h => absurd h (Nat.not_lt_zero _), fun o e => by cases e⟩
  | .live o :: l, i, h, 0 => by
    constructor
    · intro _ e; cases e
    · intro o' e; cases e; exact h.1
  | .dead :: l, i, h, 0 => by
    constructor
    · intro _ e; cases e
    · intro o' e; cases e
  | .live o :: l, i, h, k + 1 => by
    have := intoH_get h.2 k
    rw [show i + (k + 1) = i + 1 + k from by omega]
    exact ⟨fun hk => this.1 (by simpa using hk), this.2⟩
  | .dead :: l, i, h, k + 1 => by
    have := intoH_get (l := l) (i := i + 1) h k
    rw [show i + (k + 1) = i + 1 + k from by omega]
    exact ⟨fun hk => this.1 (by simpa using hk), this.2⟩
  | .free :: _, _, h, _ => h.elim

/-- A state that is another one, its objects numbered anew. -/
theorem Gs.into {N k : Nat} {w0 : World} {S0 U0 : Nat → Prop} {B0 : Bk} {s s' : St} {a : Act} {w : World} (rl : List Nat) (hrl : s'.h.length = rl.length) (hk : Nat.ble k rl.length = true) (hfix : fixB k (fun i => rl.getD i 0) = true) (hnd : nodupB rl = true)
    (ht : intoT (fun i => rl.getD i 0) rl.length s'.t s.t) (hh : intoH (fun i => rl.getD i 0) rl.length s.h 0 s'.h) (hG : Gs (mkBase N k w0 S0 U0 B0) s a w) : Gs (mkBase N k w0 S0 U0 B0) s' a w := by
  refine hG.ren (fun i => rl.getD i 0) (by rw [hrl]; exact Nat.le_of_ble_eq_true hk) (fun l hl => ?_) (fun l l' h1 h2 e => nodupB_spec hnd l l' (by omega) (by omega) e) (fun l hl => (intoH_get hh l).1 hl) (fun l hl => hget_ge hl) (fun i => ?_) (fun l o e => ?_)
  · simp only [fixB, List.all_eq_true, List.mem_range] at hfix
    exact Nat.eq_of_beq_eq_true (hfix l hl)
  · rw [hrl]; exact intoT_get ht i
  · rw [hrl]
    have := (intoH_get hh l).2 o e
    rwa [Nat.zero_add] at this

/-! ### Regions, one equation each -/

def nthO : List Oper → Nat → Option Oper
  | [], _ => none
  | o :: _, 0 => some o
  | _ :: l, i + 1 => nthO l i
theorem nthO_eq : ∀ (l : List Oper) (i : Nat), nthO l i = l[i]?
  | [], _ => rfl
  | _ :: _, 0 => rfl
  | _ :: l, i + 1 => nthO_eq l i
theorem nthO_get {ops : Array Oper} {i : Nat} {o : Oper} (h : nthO ops.toList i = some o) : ops[i]? = some o := by
  rw [nthO_eq] at h
  simpa using h

theorem oS {ops : Array Oper} {i : Nat} {x : OS} {o : Oper} (ho : nthO ops.toList i = some o) (hg : o.guard = none) (h : ORule P bs o x) : OStep P ops bs i x := .of (nthO_get ho) hg h
theorem oY {ops : Array Oper} {i : Nat} {rt : List (Nat × AV)} {rh : List (Nat × HS)} {wt : List (Nat × AV)} {wh : List (Nat × HS)} {o o' : Oper} {j d : Nat} {want b : Bool} (ho : nthO ops.toList i = some o) (hg : o.guard = some (j, want)) (hj : nthO ops.toList j = some o') (hd : o'.dst = some d) (hN : d < bs.N) (hb : b = want) (h : ORule P bs o ⟨rt, rh, wt, wh⟩) : OStep P ops bs i ⟨(d, dv (.bool b)) :: rt, rh, wt, wh⟩ := .yes (nthO_get ho) hg (nthO_get hj) hd hN hb h
theorem oN {ops : Array Oper} {i : Nat} {o o' : Oper} {j d e : Nat} {want b : Bool} (ho : nthO ops.toList i = some o) (hg : o.guard = some (j, want)) (hj : nthO ops.toList j = some o') (hd : o'.dst = some d) (hN : d < bs.N) (hb : b = !want) (he : o.dst = some e) (hN' : e < bs.N) : OStep P ops bs i ⟨[(d, dv (.bool b))], [], [(e, dv undef)], []⟩ := .no (nthO_get ho) hg (nthO_get hj) hd hN hb he hN'
theorem oN' {ops : Array Oper} {i : Nat} {o o' : Oper} {j d : Nat} {want b : Bool} (ho : nthO ops.toList i = some o) (hg : o.guard = some (j, want)) (hj : nthO ops.toList j = some o') (hd : o'.dst = some d) (hN : d < bs.N) (hb : b = !want) (he : o.dst = none) : OStep P ops bs i ⟨[(d, dv (.bool b))], [], [], []⟩ := .no' (nthO_get ho) hg (nthO_get hj) hd hN hb he
theorem oNU {ops : Array Oper} {i : Nat} {o o' : Oper} {j d e : Nat} {want : Bool} (ho : nthO ops.toList i = some o) (hg : o.guard = some (j, want)) (hj : nthO ops.toList j = some o') (hd : o'.dst = some d) (he : o.dst = some e) (hN' : e < bs.N) : OStep P ops bs i ⟨[(d, dv undef)], [], [(e, dv undef)], []⟩ := .noU (nthO_get ho) hg (nthO_get hj) hd he hN'
theorem oNU' {ops : Array Oper} {i : Nat} {o o' : Oper} {j d : Nat} {want : Bool} (ho : nthO ops.toList i = some o) (hg : o.guard = some (j, want)) (hj : nthO ops.toList j = some o') (hd : o'.dst = some d) (he : o.dst = none) : OStep P ops bs i ⟨[(d, dv undef)], [], [], []⟩ := .noU' (nthO_get ho) hg (nthO_get hj) hd he

theorem oC {ops : Array Oper} {i : Nat} {x : OS} {l : List OS} (h : OStep P ops bs i x) (r : OSteps P ops bs (i + 1) l) : OSteps P ops bs i (x :: l) := ⟨h, r⟩
theorem oZ {ops : Array Oper} {i : Nat} (h : ops.size = i) : OSteps P ops bs i [] := h

def readT : List (Nat × AV) → List AV → List AV
  | [], _ => []
  | p :: r, t => tget t p.1 :: readT r t
def readH : List (Nat × HS) → List HS → List HS
  | [], _ => []
  | p :: r, t => hget t p.1 :: readH r t
def reads : St → List OS → List (List AV × List HS)
  | _, [] => []
  | s, x :: r => (readT x.rt s.t, readH x.rh s.h) :: reads (x.app s) r
def wants : List OS → List (List AV × List HS)
  | [] => []
  | x :: r => (x.rt.map (·.2), x.rh.map (·.2)) :: wants r
theorem satT_read : ∀ {l : List (Nat × AV)} {t : List AV}, readT l t = l.map (·.2) → satT l t
  | [], _, _ => trivial
  | p :: r, t, h => by
    simp only [readT, List.map_cons, List.cons.injEq] at h
    exact ⟨h.1, satT_read h.2⟩
theorem satH_read : ∀ {l : List (Nat × HS)} {t : List HS}, readH l t = l.map (·.2) → satH l t
  | [], _, _ => trivial
  | p :: r, t, h => by
    simp only [readH, List.map_cons, List.cons.injEq] at h
    exact ⟨h.1, satH_read h.2⟩
theorem seqSat_reads : ∀ {l : List OS} {s : St}, reads s l = wants l → seqSat s l
  | [], _, _ => trivial
  | x :: r, s, h => by
    simp only [reads, wants, List.cons.injEq, Prod.mk.injEq] at h
    exact ⟨⟨satT_read h.1.1, satH_read h.1.2⟩, seqSat_reads h.2⟩

theorem tR {s s1 : St} {id : Nat} {ops : Array Oper} {Q : Exit → Act → World → Prop} {l : List OS} (m n : List Bool) (h : OSteps P ops bs 0 l) (hs : reads s l = wants l)
    (h1 : (⟨maskT m (appAll s l).t, maskH n (appAll s l).h⟩ : St) = s1) (hQ : Ends bs s1 .normal Q) : T P bs s (.region id ops false) Q := T.region l m n h (seqSat_reads hs) h1 hQ
theorem tD {s s1 : St} {id : Nat} {ops : Array Oper} {Q : Exit → Act → World → Prop} {l : List OS} (hm : P.follows .mixedOrders = true) (anc : List (List Nat)) (m n : List Bool) (h : OSteps P ops bs 0 l) (hs : reads s l = wants l) (hanc : ancOk ops anc = true) (hback : backOk ops = true) (hcl : clashOk l anc = true)
    (h1 : (⟨maskT m (appAll s l).t, maskH n (appAll s l).h⟩ : St) = s1) (hQ : Ends bs s1 .normal Q) : T P bs s (.region id ops true) Q := T.draws hm l anc m n h (seqSat_reads hs) hanc hback hcl h1 hQ

theorem lt_of {a b : Nat} (h : Nat.ble (a + 1) b = true) : a < b := Nat.le_of_ble_eq_true h

/-- The end of a function, its objects numbered as the contract does. -/
theorem tE {fn : Func} {c : Ct} {N k : Nat} {w0 : World} {S0 U0 : Nat → Prop} {B0 : Bk} {s : St} {e : Exit} (he : e = .ret ∨ e = .normal) (rvs : List RV) (hr : all2 (rvOk P s) rvs fn.results.toList) (rl : List Nat) (hres : renA (fun i => rl.getD i 0) c.res = resAV rvs) (hids : idsA rl.length c.res = true)
    (hrl : c.hout.length = rl.length) (hk : Nat.ble k rl.length = true) (hfix : fixB k (fun i => rl.getD i 0) = true) (hnd : nodupB rl = true) (hh : intoH (fun i => rl.getD i 0) rl.length s.h 0 c.hout) :
    Ends (mkBase N k w0 S0 U0 B0) s e (bodyPost P fn (PostG k w0 S0 U0 B0 c)) := by
  intro a w hG
  have h1 := ret_rule (P := P) (c := ⟨[], [], resAV rvs, s.h⟩) rvs hr rfl (fun _ => .inr rfl) e he a w hG
  have key : ∀ e' w', PostG k w0 S0 U0 B0 ⟨[], [], resAV rvs, s.h⟩ e' w' → PostG k w0 S0 U0 B0 c e' w' := by
    rintro e' w' ⟨v, B', S', U', rfl, g⟩
    have hgs : Gs (mkBase 1 k w0 S0 U0 B0) ⟨[resAV rvs], s.h⟩ ⟨#[v], []⟩ w' := ⟨B', S', U', g⟩
    obtain ⟨B2, S2, U2, g2⟩ := Gs.into (s := ⟨[resAV rvs], s.h⟩) (s' := ⟨[c.res], c.hout⟩) rl hrl hk hfix hnd ⟨.inr ⟨hids, hres⟩, trivial⟩ hh hgs
    exact ⟨v, B2, S2, U2, rfl, g2⟩
  rcases he with rfl | rfl
  · obtain ⟨hd, v, hr, hp⟩ := h1
    exact ⟨hd, v, hr, key _ _ hp⟩
  · obtain ⟨hd, v, hr, hp⟩ := h1
    exact ⟨hd, v, hr, key _ _ hp⟩

/-! ### Numbers -/

theorem wrap_in {x : Int} (h : -9223372036854775808 ≤ x ∧ x ≤ 9223372036854775807) : IntKind.i64.wrap x = x := by rw [IntKind.wrap_i64]; omega

theorem dvs_eq (n : Nat) (el : Nat → DV) : dvs n el = (List.range n).map fun j => SV.d (el j) := rfl
end Go.Proofs.Ytacikihlgpnjhaa.Q
