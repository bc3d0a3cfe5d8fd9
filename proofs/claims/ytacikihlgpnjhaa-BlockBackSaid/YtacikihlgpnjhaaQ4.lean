import Derived.Test.YtacikihlgpnjhaaQ3
namespace Go.Proofs.Ytacikihlgpnjhaa.Q
open Go Go.RowKit
set_option linter.unusedVariables false
set_option linter.unusedSimpArgs false

theorem obOk_mono {B B' : Bk} {S U S' U' : Nat → Prop} {w w' : World} (hB : ∀ l p, B l = some p → B' l = some p) (hS : ∀ b, S b → S' b) (hU : ∀ b, U b → U' b) (hp : Pres (fun b => S b ∨ U b) w w') {l : Nat} {o : HObj}
    (hb : ∀ p, B l = some (some p) → w'.heap[p.1]? = w.heap[p.1]?) (h : obOk B S U w l o) : obOk B' S' U' w' l o := by
  cases o with
  | box T cs =>
    obtain ⟨b, κ, cur, h1, h2, h3⟩ := h
    exact ⟨b, κ, cur, hB _ _ h1, (hb _ h1).trans h2, all2_mono (svOk_mono hB hS hU hp) h3⟩
  | arr T sz n el =>
    rcases h with ⟨h, h'⟩ | ⟨b, κ, cur, h1, h2, h3, h4, h5, h6⟩
    · exact .inl ⟨hB _ _ h, h'⟩
    · exact .inr ⟨b, κ, cur, hB _ _ h1, (hb _ h1).trans h2, h3, h4, h5, fun i hi j hj => by obtain ⟨u, hu, hd⟩ := h6 i hi j hj; exact ⟨u, hu, dOk_mono hS hU hp _ _ hd⟩⟩
  | mp es =>
    obtain ⟨b, κ, ents, clock, h1, h2, h3⟩ := h
    exact ⟨b, κ, ents, clock, hB _ _ h1, (hb _ h1).trans h2, all2_mono (fun _ _ x => ⟨x.1, x.2.1, all2_mono (dOk_mono hS hU hp) x.2.2⟩) h3⟩

/-- An object has a place. -/
theorem obOk_some {B : Bk} {S U : Nat → Prop} {w : World} {l : Nat} {o : HObj} (h : obOk B S U w l o) : ∃ p, B l = some p := by
  cases o with
  | box T cs => obtain ⟨b, κ, cur, h1, _⟩ := h; exact ⟨_, h1⟩
  | arr T sz n el =>
    rcases h with ⟨h, _⟩ | ⟨b, κ, cur, h1, _⟩
    · exact ⟨_, h⟩
    · exact ⟨_, h1⟩
  | mp es => obtain ⟨b, κ, ents, clock, h1, _⟩ := h; exact ⟨_, h1⟩

theorem obOk_lt {B : Bk} {S U : Nat → Prop} {w : World} {l : Nat} {o : HObj} (h : obOk B S U w l o) {p : Nat × Nat} (hp : B l = some (some p)) : p.1 < w.heap.size := by
  have key : ∀ b κ x, B l = some (some (b, κ)) → w.heap[b]? = some x → p.1 < w.heap.size := by
    intro b κ x h1 h2
    rw [hp] at h1
    cases h1
    exact (Array.getElem?_eq_some_iff.1 h2).1
  cases o with
  | box T cs => obtain ⟨b, κ, cur, h1, h2, _⟩ := h; exact key _ _ _ h1 h2
  | arr T sz n el =>
    rcases h with ⟨h, _⟩ | ⟨b, κ, cur, h1, h2, _⟩
    · rw [hp] at h; cases h
    · exact key _ _ _ h1 h2
  | mp es => obtain ⟨b, κ, ents, clock, h1, h2, _⟩ := h; exact key _ _ _ h1 h2

/-- Some objects turned, made or let go; all others as they were. -/
theorem G.upd {bs : Base} {B B' : Bk} {S U S' U' : Nat → Prop} {s : St} {a : Act} {w w' : World} (g : G bs B S U s a w) (ch : Nat → Prop) (h' : List HS)
    (hsame : ∀ k, ¬ ch k → hget h' k = hget s.h k)
    (hB : ∀ l p, B l = some p → B' l = some p) (hBn : ∀ k, ¬ ch k → B' k = B k)
    (hS : ∀ b, S b → S' b) (hU : ∀ b, U b → U' b) (hSU : ∀ b, S' b → U' b) (hUb : ∀ b, U' b → b < w'.heap.size)
    (hSn : ∀ b, S' b → (S b ∨ bs.C b ∨ bs.w0.heap.size ≤ b)) (hUn : ∀ b, U' b → (U b ∨ bs.C b ∨ bs.w0.heap.size ≤ b))
    (hlive : ∀ k o, ch k → hget h' k = .live o → obOk B' S' U' w' k o ∧ ∀ p, B' k = some (some p) → ¬ U' p.1 ∧ (bs.C p.1 ∨ bs.w0.heap.size ≤ p.1) ∧ ∀ k' o' q, ¬ ch k' → hget s.h k' = .live o' → B k' = some (some q) → q.1 ≠ p.1)
    (hdis : ∀ k k' o o' p p', ch k → ch k' → hget h' k = .live o → hget h' k' = .live o' → k ≠ k' → B' k = some (some p) → B' k' = some (some p') → p.1 ≠ p'.1)
    (hblk : ∀ b, b < w.heap.size → (∀ k o p, ch k → hget s.h k = .live o → B k = some (some p) → b ≠ p.1) → w'.heap[b]? = w.heap[b]?)
    (hfree : ∀ k, ch k → hget h' k = .free → B' k = none)
    (hoth : ∀ k o q, ¬ ch k → hget s.h k = .live o → B k = some (some q) → ¬ U' q.1)
    (hsz : w.heap.size ≤ w'.heap.size) (hos : w'.os = w.os) (htp : w'.tape = w.tape) (hop : w'.output = w.output) : G bs B' S' U' ⟨s.t, h'⟩ a w' := by
  have hP : Pres (fun b => S b ∨ U b) w w' := by
    intro b hb
    have hub : U b := hb.elim (g.su b) id
    refine hblk b (g.ub b hub) fun k o p _ hk hp e => ?_
    subst e
    exact g.sp k o p hk hp hub
  refine { df := g.df, sz := g.sz, tm := fun k => avOk_mono hB hS hU hP _ _ (g.tm k), ob := fun l o e => ?_, nj := fun l l' o o' e e' hne p p' hp hp' => ?_, sp := fun l o p e hp => ?_, cf := fun l o p e hp => ?_, fr := fun l e => ?_, su := hSU, ub := hUb, s0 := fun b hb => hS b (g.s0 b hb), u0 := fun b hb => hU b (g.u0 b hb), sn := fun b hb => ?_, un := fun b hb => ?_, ps := fun b h1 h2 => ?_, hs := Nat.le_trans g.hs hsz, os := hos.trans g.os, tp := htp.trans g.tp, op := hop.trans g.op, bl := fun l p e => hB l p (g.bl l p e), bk := g.bk }
  · by_cases hc : ch l
    · exact (hlive l o hc e).1
    · rw [hsame l hc] at e
      refine obOk_mono hB hS hU hP (fun p hp => ?_) (g.ob l o e)
      refine hblk p.1 (obOk_lt (g.ob l o e) hp) fun k o' q hk ho hq => ?_
      exact fun e' => (g.nj l k o o' e ho (fun h => hc (h ▸ hk)) p q hp hq) e'
  · by_cases hc : ch l
    · by_cases hc' : ch l'
      · exact hdis l l' o o' p p' hc hc' e e' hne hp hp'
      · rw [hsame l' hc'] at e'
        rw [hBn l' hc'] at hp'
        exact fun h => ((hlive l o hc e).2 p hp).2.2 l' o' p' hc' e' hp' h.symm
    · rw [hsame l hc] at e
      rw [hBn l hc] at hp
      by_cases hc' : ch l'
      · exact ((hlive l' o' hc' e').2 p' hp').2.2 l o p hc e hp
      · rw [hsame l' hc'] at e'
        rw [hBn l' hc'] at hp'
        exact g.nj l l' o o' e e' hne p p' hp hp'
  · by_cases hc : ch l
    · exact ((hlive l o hc e).2 p hp).1
    · rw [hsame l hc] at e
      rw [hBn l hc] at hp
      exact hoth l o p hc e hp
  · by_cases hc : ch l
    · exact ((hlive l o hc e).2 p hp).2.1
    · rw [hsame l hc] at e
      rw [hBn l hc] at hp
      exact g.cf l o p e hp
  · by_cases hc : ch l
    · exact hfree l hc e
    · rw [hsame l hc] at e
      rw [hBn l hc]
      exact g.fr l e
  · rcases hSn b hb with h | h
    · exact g.sn b h
    · exact .inr h
  · rcases hUn b hb with h | h
    · exact g.un b h
    · exact .inr h
  · rw [hblk b (Nat.lt_of_lt_of_le h1 g.hs) fun k o p _ hk hp e => ?_]
    · exact g.ps b h1 h2
    · subst e
      rcases g.cf k o p hk hp with h | h
      · exact h2 h
      · omega

def bset (B : Bk) (l : Nat) (p : Option (Nat × Nat)) : Bk := fun k => if k = l then some p else B k

/-- A new block, its object. -/
theorem G.alloc {bs : Base} {B : Bk} {S U : Nat → Prop} {s : St} {a : Act} {w : World} (g : G bs B S U s a w) {l : Nat} (hl : hget s.h l = .free) (o : Obj) (x : HObj) (κ : Nat)
    (hx : obOk (bset B l (some (w.heap.size, κ))) S U (w.alloc o) l x) : G bs (bset B l (some (w.heap.size, κ))) S U ⟨s.t, hset s.h l (.live x)⟩ a (w.alloc o) := by
  have hBl := g.fr l hl
  refine g.upd (fun k => k = l) _ (fun k hk => by rw [hget_hset, if_neg hk]) (fun k p hp => ?_) (fun k hk => by simp [bset, hk]) (fun _ h => h) (fun _ h => h) g.su (fun b hb => by have := g.ub b hb; simp; omega) (fun _ h => .inl h) (fun _ h => .inl h)
    (fun k y hk hy => ?_) (fun k k' _ _ _ _ h h' _ _ hne => absurd (h.trans h'.symm) hne) (fun b hb _ => Below.heap_alloc w o b hb) (fun k hk h => ?_) (fun k y q _ hk hq => g.sp k y q hk hq) (by simp) rfl rfl rfl
  · unfold bset
    split
    · rename_i h; subst h; rw [hBl] at hp; cases hp
    · exact hp
  · subst hk
    rw [hget_hset, if_pos rfl] at hy
    cases hy
    refine ⟨hx, fun p hp => ?_⟩
    simp only [bset, if_true, Option.some.injEq] at hp
    subst hp
    refine ⟨fun h => ?_, .inr g.hs, fun k' o' q hk' ho hq => ?_⟩
    · have := g.ub _ h; simp at this
    · have := obOk_lt (g.ob k' o' ho) hq
      simp only
      omega
  · subst hk; rw [hget_hset, if_pos rfl] at h; cases h

theorem svOk_alloc {B : Bk} {S U : Nat → Prop} {w : World} {l : Nat} {p : Option (Nat × Nat)} {o : Obj} (hl : B l = none) (hub : ∀ b, S b ∨ U b → b < w.heap.size) : ∀ x v, svOk B S U w x v → svOk (bset B l p) S U (w.alloc o) x v :=
  svOk_mono (fun k q hq => by
    unfold bset
    split
    · rename_i h; subst h; rw [hl] at hq; cases hq
    · exact hq) (fun _ h => h) (fun _ h => h) fun b hb => Below.heap_alloc w o b (hub b hb)

variable {P : Program} {bs : Base}

/-- A struct's or a value's cells. -/
def tvCells : TV → List SV
  | .one s => [s]
  | .agg l => l

def cellV : Value → Bool
  | .agg _ => false
  | .tuple _ => false
  | _ => true
/-- What takes one cell. -/
def cellS : SV → Bool
  | .d .any => false
  | .d (.val v) => cellV v
  | _ => true

theorem cellS_spec {B : Bk} {S U : Nat → Prop} {w : World} : ∀ {s : SV} {v : Value}, cellS s = true → svOk B S U w s v → cellV v = true
  | .d (.val u), v, h, hv => by have : v = u := hv; rw [this]; exact h
  | .d (.sl ..), v, _, hv => by obtain ⟨a, cap, h, _⟩ := hv; rw [h]; rfl
  | .ptr .., v, _, hv => by obtain ⟨b, κ, _, h⟩ := hv; rw [h]; rfl
  | .own .., v, _, hv => by
    rcases hv with ⟨_, _, _, h⟩ | ⟨b, κ, o, cap, _, h, _⟩ <;> rw [h] <;> rfl
  | .ep .., v, _, hv => by obtain ⟨ad, h, _⟩ := hv; rw [h]; rfl
  | .mref .., v, _, hv => by obtain ⟨b, κ, _, h⟩ := hv; rw [h]; rfl
  | .cl .., v, _, hv => by obtain ⟨_, a, h⟩ := hv; rw [h]; rfl

theorem cells_of_cellV {v : Value} (h : cellV v = true) : v.cells = #[v] := by
  cases v <;> first | rfl | cases h

/-- The cells of a value. -/
theorem tv_cells {B : Bk} {S U : Nat → Prop} {w : World} {t : TV} {v : Value} (h : tvOk B S U w t v) (h1 : ∀ s, t = .one s → cellS s = true) : all2 (svOk B S U w) (tvCells t) v.cells.toList := by
  cases t with
  | one s =>
    have : v.cells = #[v] := cells_of_cellV (cellS_spec (h1 s rfl) h)
    rw [this]
    exact ⟨h, trivial⟩
  | agg l =>
    obtain ⟨cs, rfl, hc⟩ := h
    exact hc

def oneOk : TV → Bool
  | .one s => cellS s
  | .agg l => l.all cellS

theorem r_box {d l : Nat} {x : Operand} {t : TV} {T ty : TypeId} {pos : String} {af : Array Edge} {gd : Option (Nat × Bool)} (ht : oneOk t = true) (hN : d < bs.N) (hc : cOk [(x, .tv t)]) : ORule P bs ⟨some d, .box T x, ty, pos, af, gd⟩ ⟨rtOf [(x, .tv t)], [(l, .free)], [(d, pv l 0)], [(l, .live (.box T (tvCells t)))]⟩ :=
  .heap rfl hN hc fun B S U s a w g hh he => by
    have hv := tv_cells he.1 (fun s e => by subst e; exact ht)
    have hl := hh.1
    refine ⟨.pointer (some ⟨w.heap.size, 0, none⟩), w.alloc (.cells (a.eval x).cells T), bset B l (some (w.heap.size, 0)), S, U, ?_, g.alloc hl _ _ 0 ⟨w.heap.size, 0, (a.eval x).cells, by simp [bset], heap_alloc_new w _, ?_⟩, w.heap.size, 0, by simp [bset], rfl⟩
    · simp [execOp, Instr.box, newVar, newRow, newObj, Sem.run]
    · exact all2_mono (svOk_alloc (g.fr l hl) fun b hb => hb.elim (fun h => g.ub b (g.su b h)) (g.ub b)) hv

theorem run_zeroValue {t : TypeId} {w : World} {i : TypeInfo} {z : Value} (h : P.info? t = some i) (hz : i.zero = some z) : (zeroValue t).run P w = .ok z w := by
  simp [zeroValue, typeInfo, h, hz]

/-- The zero value's cells. -/
def Zero (P : Program) (T : TypeId) (zs : List Value) : Prop := ∃ i z, P.info? T = some i ∧ i.zero = some z ∧ z.cells.toList = zs

theorem r_alloc {d l : Nat} {zs : List Value} {T ty : TypeId} {pos : String} {af : Array Edge} {gd : Option (Nat × Bool)} (hz : Zero P T zs) (hN : d < bs.N) : ORule P bs ⟨some d, .alloc T, ty, pos, af, gd⟩ ⟨[], [(l, .free)], [(d, pv l 0)], [(l, .live (.box T (zs.map fun v => .d (.val v))))]⟩ :=
  .heap (l := []) rfl hN trivial fun B S U s a w g hh he => by
    obtain ⟨i, z, h1, h2, h3⟩ := hz
    have hl := hh.1
    refine ⟨.pointer (some ⟨w.heap.size, 0, none⟩), w.alloc (.cells z.cells T), bset B l (some (w.heap.size, 0)), S, U, ?_, g.alloc hl _ _ 0 ⟨w.heap.size, 0, z.cells, by simp [bset], heap_alloc_new w _, ?_⟩, w.heap.size, 0, by simp [bset], rfl⟩
    · simp [execOp, Instr.alloc, zeroValue, typeInfo, h1, h2, newVar, newRow, newObj, Sem.run]
    · rw [h3, all2_map]
      refine all2_of_get rfl fun i a b hi hj => ?_
      rw [hi] at hj
      cases hj
      exact rfl

/-! ### A struct out of parts -/

def putAt (cs : List SV) : Nat → List SV → List SV
  | _, [] => cs
  | k, x :: r => putAt (cs.set k x) (k + 1) r

/-- Parts laid over cells: the place of each, its cells. -/
def fillS : List SV → List (Nat × List SV) → List SV
  | cs, [] => cs
  | cs, p :: r => fillS (putAt cs p.1 p.2) r

theorem putAt_len : ∀ (l : List SV) (cs : List SV) (k : Nat), (putAt cs k l).length = cs.length
  | [], _, _ => rfl
  | x :: r, cs, k => by rw [putAt, putAt_len r]; simp

theorem foldl_put {B : Bk} {S U : Nat → Prop} {w : World} : ∀ (l : List SV) (vs : List Value) (cs : List SV) (cur : Array Value) (off k : Nat), all2 (svOk B S U w) l vs → all2 (svOk B S U w) cs cur.toList →
    all2 (svOk B S U w) (putAt cs (off + k) l) ((vs.zipIdx k).foldl (fun (cs : Array Value) (p : Value × Nat) => cs.setIfInBounds (off + p.2) p.1) cur).toList
  | [], [], cs, cur, off, k, _, h => h
  | x :: r, v :: vs, cs, cur, off, k, h, hc => by
    simp only [putAt, List.zipIdx_cons, List.foldl_cons]
    have := foldl_put r vs (cs.set (off + k) x) (cur.setIfInBounds (off + k) v) off (k + 1) h.2 (by simpa using all2_set h.1 (off + k) hc)
    rw [Nat.add_assoc]
    exact this
  | [], _ :: _, _, _, _, _, h, _ => h.elim
  | _ :: _, [], _, _, _, _, h, _ => h.elim

theorem foldl_put_size (off : Nat) : ∀ (vs : List (Value × Nat)) (cur : Array Value), (vs.foldl (fun (cs : Array Value) (p : Value × Nat) => cs.setIfInBounds (off + p.2) p.1) cur).size = cur.size
  | [], _ => rfl
  | p :: r, cur => by rw [List.foldl_cons, foldl_put_size off r]; simp

/-- The parts of a literal: the field, the operand, what it stands for, where it goes. -/
structure Part where
  i : Nat
  x : Operand
  t : TV
  off : Nat

def partsOps (l : List Part) : List (Operand × AV) := l.map fun p => (p.x, .tv p.t)
def partsFill (l : List Part) : List (Nat × List SV) := l.map fun p => (p.off, tvCells p.t)
def partsOk (place : Nat → Option (Nat × Nat)) (n : Nat) (l : List Part) : Prop := ∀ p, p ∈ l → oneOk p.t = true ∧ place p.i = some (p.off, (tvCells p.t).length) ∧ p.off + (tvCells p.t).length ≤ n

theorem fill_ok {B : Bk} {S U : Nat → Prop} {a : Act} {w : World} (place : Nat → Option (Nat × Nat)) : ∀ (l : List Part) (cs : List SV) (cur : Array Value), evs B S U a w (partsOps l) → partsOk place cur.size l → all2 (svOk B S U w) cs cur.toList →
    ∃ out : Array Value, Instr.fill place cur (l.map fun p => (p.i, a.eval p.x)) = some out ∧ all2 (svOk B S U w) (fillS cs (partsFill l)) out.toList
  | [], cs, cur, _, _, hc => ⟨cur, rfl, hc⟩
  | p :: r, cs, cur, he, hp, hc => by
    obtain ⟨h1, h2, h3⟩ := hp p (by simp)
    have hcell := tv_cells (v := a.eval p.x) he.1 (fun s e => by rw [e] at h1; exact h1)
    have hlen := all2_len hcell
    have hsz : (a.eval p.x).cells.size = (tvCells p.t).length := by rw [hlen]; simp
    simp only [List.map_cons, Instr.fill, h2, partsFill, fillS]
    rw [if_neg (by simp only [hsz, ne_eq, not_true_eq_false, decide_false, Bool.false_or, decide_eq_true_eq]; omega)]
    have hz : (a.eval p.x).cells.zipIdx.foldl (fun (cs : Array Value) (q : Value × Nat) => cs.setIfInBounds (p.off + q.2) q.1) cur = ((a.eval p.x).cells.toList.zipIdx 0).foldl (fun (cs : Array Value) (q : Value × Nat) => cs.setIfInBounds (p.off + q.2) q.1) cur := by
      rw [← Array.foldl_toList]; simp
    have hput := foldl_put (tvCells p.t) (a.eval p.x).cells.toList cs cur p.off 0 hcell hc
    rw [Nat.add_zero] at hput
    obtain ⟨out, ho, hok⟩ := fill_ok place r (putAt cs p.off (tvCells p.t)) _ he.2 (fun q hq => by
      obtain ⟨a1, a2, a3⟩ := hp q (List.mem_cons_of_mem _ hq)
      refine ⟨a1, a2, ?_⟩
      rw [foldl_put_size]
      exact a3) hput
    refine ⟨out, ?_, hok⟩
    rw [hz]
    exact ho

/-- Where a struct's fields lie. -/
def Places (P : Program) (T : TypeId) (pl : List (Nat × Nat)) : Prop := ∃ fs, P.underlying T = some (.struct fs) ∧ all2 (fun (f : Field) (p : Nat × Nat) => f.offset = p.1 ∧ ∃ i, P.info? f.type = some i ∧ i.size = p.2) fs.toList pl

theorem run_places {T : TypeId} {w : World} : ∀ (fs : List Field) (pl : List (Nat × Nat)), all2 (fun (f : Field) (p : Nat × Nat) => f.offset = p.1 ∧ ∃ i, P.info? f.type = some i ∧ i.size = p.2) fs pl →
    (fs.mapM fun f => (do pure (f.offset, ← sizeOf f.type) : Sem (Nat × Nat))).run P w = .ok pl w
  | [], [], _ => by simp
  | f :: fs, p :: pl, h => by
    obtain ⟨⟨h1, i, h2, h3⟩, h4⟩ := h
    simp only [List.mapM_cons, Sem.run_bind, run_sizeOf h2, Result.andThen_ok, Sem.run_pure, run_places (T := T) fs pl h4, h1, h3]
  | [], _ :: _, h => h.elim
  | _ :: _, [], h => h.elim

theorem r_build {d : Nat} {zs : List Value} {pl : List (Nat × Nat)} {ps : List Part} {cs : List SV} {xs : Array (Nat × Operand)} {T ty : TypeId} {pos : String} {af : Array Edge} {gd : Option (Nat × Bool)} (hz : Zero P T zs) (hp : Places P T pl) (hx : xs = (ps.map fun p => (p.i, p.x)).toArray)
    (hok : partsOk (fun i => pl[i]?) zs.length ps) (hcs : fillS (zs.map fun v => .d (.val v)) (partsFill ps) = cs) (hN : d < bs.N) (hc : cOk (partsOps ps)) : ORule P bs ⟨some d, .build T xs, ty, pos, af, gd⟩ ⟨rtOf (partsOps ps), [], [(d, .tv (.agg cs))], []⟩ :=
  .val rfl hN hc fun B S U s a w g _ he => by
    obtain ⟨i, z, h1, h2, h3⟩ := hz
    obtain ⟨fs, h4, h5⟩ := hp
    have hzs : all2 (svOk B S U w) (zs.map fun v => .d (.val v)) z.cells.toList := by
      rw [h3, all2_map]
      refine all2_of_get rfl fun i a b hi hj => ?_
      rw [hi] at hj
      cases hj
      exact rfl
    obtain ⟨out, ho, hall⟩ := fill_ok (fun i => pl[i]?) ps _ z.cells he (by rw [show z.cells.size = zs.length from by rw [← h3]; simp]; exact hok) hzs
    refine ⟨.agg out, ?_, out.toList, by simp, by rw [← hcs]; exact hall⟩
    have hrp := run_places (P := P) (T := T) (w := w) fs.toList pl h5
    have hmap : (fs.mapM fun f => (do pure (f.offset, ← sizeOf f.type) : Sem (Nat × Nat))) = (do pure (List.toArray (← fs.toList.mapM fun f => (do pure (f.offset, ← sizeOf f.type) : Sem (Nat × Nat)))) : Sem (Array (Nat × Nat))) := by
      have := Array.mapM_eq_mapM_toList (f := fun f : Field => (do pure (f.offset, ← sizeOf f.type) : Sem (Nat × Nat))) (xs := fs)
      rw [this]
      rfl
    subst hx
    have hps : (((ps.map fun p => (p.i, p.x)).toArray.map fun (q : Nat × Operand) => (q.1, a.eval q.2)).toList : List (Nat × Value)) = ps.map fun p => (p.i, a.eval p.x) := by simp
    have ho' : Instr.fill (fun k => pl.toArray[k]?) z.cells (ps.map fun p => (p.i, a.eval p.x)) = some out := by simpa using ho
    simp only [execOp, Instr.build, run_zeroValue h1 h2, Sem.run_bind, Sem.run_pure, Result.andThen_ok, run_underlying' h4, hmap, hrp, hps, ho']

/-! ### A store into a box -/

theorem run_storeCells {b : Nat} {T : TypeId} : ∀ (vs : List Value) (cur : Array Value) (off k : Nat) (w : World), w.heap[b]? = some (.cells cur T (0, 0)) → off + k + vs.length ≤ cur.size → (∀ v, v ∈ vs → cellV v = true) →
    ∃ cur', (storeCells ⟨b, off, none⟩ vs k).run P w = .ok () { w with heap := w.heap.setIfInBounds b (.cells cur' T (0, 0)) } ∧ cur'.size = cur.size ∧ ∀ j, cur'[j]? = if off + k ≤ j ∧ j < off + k + vs.length then vs[j - (off + k)]? else cur[j]?
  | [], cur, off, k, w, hw, _, _ => by
    refine ⟨cur, ?_, rfl, fun j => by rw [if_neg (by simp)]⟩
    have hlt : b < w.heap.size := (Array.getElem?_eq_some_iff.1 hw).1
    have : w.heap.setIfInBounds b (.cells cur T (0, 0)) = w.heap := by
      apply Array.ext_getElem?
      intro i
      rw [Array.getElem?_setIfInBounds]
      split
      · rename_i h; subst h; simp [hw]
      · rfl
    simp [storeCells, this]
  | v :: vs, cur, off, k, w, hw, hsz, hcv => by
    have hlt : b < w.heap.size := (Array.getElem?_eq_some_iff.1 hw).1
    simp only [List.length_cons] at hsz
    have hcell : w.cell? ⟨b, off + k, none⟩ = some (cur[off + k]'(by omega)) := cell_of_block hw (Array.getElem?_eq_getElem (by omega))
    have hfz : w.frozen? ⟨b, off + k, none⟩ = false := by simp [World.frozen?, hw]
    have hset : w.setCell ⟨b, off + k, none⟩ v = { w with heap := w.heap.setIfInBounds b (.cells (cur.setIfInBounds (off + k) v) T (0, 0)) } := by
      unfold World.setCell
      congr 1
      apply Array.ext_getElem?
      intro i
      rw [Array.getElem?_modify, Array.getElem?_setIfInBounds]
      by_cases h : b = i
      · subst h
        have hwb : w.heap[b] = .cells cur T (0, 0) := by simpa [Array.getElem?_eq_getElem hlt] using hw
        simp [hlt, hwb]
      · simp [h]
    obtain ⟨cur', h1, h2, h3⟩ := run_storeCells (b := b) (T := T) vs (cur.setIfInBounds (off + k) v) off (k + 1) { w with heap := w.heap.setIfInBounds b (.cells (cur.setIfInBounds (off + k) v) T (0, 0)) } (by simp [hlt]) (by simp; omega) fun x hx => hcv x (by simp [hx])
    refine ⟨cur', ?_, by rw [h2]; simp, fun j => ?_⟩
    · have hv := hcv v (by simp)
      have hst : (store ⟨b, off + k, none⟩ v).run P w = .ok () { w with heap := w.heap.setIfInBounds b (.cells (cur.setIfInBounds (off + k) v) T (0, 0)) } := by
        rw [← hset]
        cases v <;> first | (simp [store, Sem.run, hcell, hfz]; done) | cases hv
      simp only [storeCells, Sem.run_bind, add_eq, hst, Result.andThen_ok, h1]
      simp
    · rw [h3 j]
      by_cases h : j = off + k
      · subst h
        rw [if_neg (by omega), if_pos (by simp)]
        simp [show off + k < cur.size by omega]
      · by_cases h' : off + (k + 1) ≤ j ∧ j < off + (k + 1) + vs.length
        · rw [if_pos h', if_pos (by simp only [List.length_cons]; omega)]
          rw [show j - (off + k) = (j - (off + (k + 1))) + 1 from by omega, List.getElem?_cons_succ]
        · rw [if_neg h', if_neg (by simp only [List.length_cons]; omega)]
          rw [Array.getElem?_setIfInBounds, if_neg (by omega)]

theorem all2_putAt {R : SV → Value → Prop} : ∀ (l : List SV) (vs : List Value) (cs : List SV) (cur : List Value) (k : Nat), all2 R l vs → all2 R cs cur → k + l.length ≤ cs.length → ∀ cur' : List Value, cur'.length = cur.length → (∀ j, cur'[j]? = if k ≤ j ∧ j < k + vs.length then vs[j - k]? else cur[j]?) → all2 R (putAt cs k l) cur'
  | [], [], cs, cur, k, _, hc, _, cur', hl, h => by
    have : cur' = cur := List.ext_getElem? fun j => by rw [h j, if_neg (by simp)]
    rw [this]; exact hc
  | x :: r, v :: vs, cs, cur, k, h, hc, hk, cur', hl, hj => by
    refine all2_putAt r vs (cs.set k x) (cur.set k v) (k + 1) h.2 (all2_set h.1 k hc) (by simp only [List.length_cons, List.length_set] at *; omega) cur' (by simp [hl]) fun j => ?_
    rw [hj j]
    have hcl := all2_len hc
    simp only [List.length_cons] at *
    by_cases e : j = k
    · subst e
      rw [if_pos (by omega), if_neg (by omega)]
      simp [List.getElem?_set, show j < cur.length by omega]
    · by_cases h' : k + 1 ≤ j ∧ j < k + 1 + vs.length
      · rw [if_pos (by omega), if_pos h', show j - k = (j - (k + 1)) + 1 from by omega, List.getElem?_cons_succ]
      · rw [if_neg (by omega), if_neg h', List.getElem?_set, if_neg (by omega)]
  | [], _ :: _, _, _, _, h, _, _, _, _, _ => h.elim
  | _ :: _, [], _, _, _, h, _, _, _, _, _ => h.elim

/-- How many cells a variable of a type takes. -/
def Cells (P : Program) (t : TypeId) (n : Nat) : Prop := ∃ i, P.info? t = some i ∧ i.size = n

theorem all2_mem {α β : Type} {R : α → β → Prop} {p : α → Bool} {q : β → Prop} (h : ∀ a b, p a = true → R a b → q b) : ∀ {l : List α} {k : List β}, all2 R l k → l.all p = true → ∀ b, b ∈ k → q b
  | [], [], _, _, b, hb => by cases hb
  | a :: as, c :: cs, hr, hp, b, hb => by
    simp only [List.all_cons, Bool.and_eq_true] at hp
    cases hb with
    | head => exact h _ _ hp.1 hr.1
    | tail _ hb => exact all2_mem h hr.2 hp.2 b hb
  | [], _ :: _, hr, _, _, _ => hr.elim
  | _ :: _, [], hr, _, _, _ => hr.elim

theorem r_store {l off n : Nat} {x y : Operand} {T : Nat} {cs cs' : List SV} {tv : TV} {t ty : TypeId} {pos : String} {af : Array Edge} {gd : Option (Nat × Bool)} (hn : Cells P t n) (hl : (tvCells tv).length = n) (hoff : off + n ≤ cs.length) (hok : (tvCells tv).all cellS = true) (hcs : putAt cs off (tvCells tv) = cs') (hc : cOk [(x, pv l off), (y, .tv tv)]) :
    ORule P bs ⟨none, .store t x y, ty, pos, af, gd⟩ ⟨rtOf [(x, pv l off), (y, .tv tv)], [(l, .live (.box T cs))], [], [(l, .live (.box T cs'))]⟩ :=
  .unit rfl hc fun B S U s a w g hh he => by
    obtain ⟨b, κ, hb, h1⟩ := he.1
    obtain ⟨b', κ', cur, hb', hcur, hall⟩ := g.ob l _ hh.1
    rw [hb] at hb'
    cases hb'
    have hone : ∀ s, tv = .one s → cellS s = true := fun s e => by subst e; simpa [tvCells] using hok
    have hv := tv_cells he.2.1 hone
    have hvl := all2_len hv
    have hcl := all2_len hall
    have hcv : ∀ v, v ∈ (a.eval y).cells.toList → cellV v = true := all2_mem (p := cellS) (q := fun v => cellV v = true) (fun _ _ h h' => cellS_spec h h') hv hok
    obtain ⟨cur', hr, hsz, hget⟩ := run_storeCells (P := P) (b := b) (T := T) (a.eval y).cells.toList cur off 0 w hcur (by rw [← hvl, hl]; simp at hcl; omega) hcv
    obtain ⟨i, hi, hin⟩ := hn
    have hblt : b < w.heap.size := (Array.getElem?_eq_some_iff.1 hcur).1
    refine ⟨{ w with heap := w.heap.setIfInBounds b (.cells cur' T (0, 0)) }, B, S, U, ?_, ?_⟩
    · simp only [execOp, h1, Instr.storeAt, Instr.sureAddr, storeVar, Sem.run_bind, Sem.run_pure, Result.andThen_ok, run_sizeOf hi]
      have : (a.eval y).cells.size = i.size := by rw [hin, ← hl, hvl]; simp
      rw [if_neg (by simp [this])]
      simp only [Sem.run_bind, Sem.run_pure, Result.andThen_ok, hr]
    · have hP : Pres (fun b => S b ∨ U b) w { w with heap := w.heap.setIfInBounds b (.cells cur' T (0, 0)) } := fun c hc' => by
        have hU : U c := hc'.elim (g.su c) id
        have : c ≠ b := fun e => g.sp l _ (b, κ) hh.1 hb (e ▸ hU)
        simp [Array.getElem?_setIfInBounds, Ne.symm this]
      refine g.upd (fun k => k = l) _ (fun k hk => by simp [hsets, hget_hset, hk]) (fun _ _ h => h) (fun _ _ => rfl) (fun _ h => h) (fun _ h => h) g.su (fun b hb => by simpa using g.ub b hb) (fun _ h => .inl h) (fun _ h => .inl h)
        (fun k y hk hy => ?_) (fun k k' _ _ _ _ h h' _ _ hne => absurd (h.trans h'.symm) hne) (fun c hc hne => ?_) (fun k hk h => ?_) (fun k y q _ hk hq => g.sp k y q hk hq) (by simp) rfl rfl rfl
      · subst hk
        simp only [hsets, hget_hset, if_true] at hy
        cases hy
        refine ⟨⟨b, κ, cur', hb, by simp [hblt], ?_⟩, fun p hp => ⟨g.sp k _ p hh.1 hp, g.cf k _ p hh.1 hp, fun k' o' q hk' ho hq => g.nj k' k o' _ ho hh.1 hk' q p hq hp⟩⟩
        have hm := svOk_mono (B := B) (B' := B) (S := S) (S' := S) (U := U) (U' := U) (fun _ _ h => h) (fun _ h => h) (fun _ h => h) hP
        rw [← hcs]
        refine all2_putAt (tvCells tv) (a.eval y).cells.toList cs cur.toList off (all2_mono hm hv) (all2_mono hm hall) (by omega) cur'.toList (by simp [hsz]) fun j => ?_
        have := hget j
        simpa using this
      · have : c ≠ b := hne l _ (b, κ) rfl hh.1 hb
        simp [Array.getElem?_setIfInBounds, Ne.symm this]
      · subst hk; simp [hsets, hget_hset] at h
end Go.Proofs.Ytacikihlgpnjhaa.Q
