import Derived.Test.YtioenfjcbikbcaaQa
import Derived.Laws.AppendOwn
import Derived.Lib.ConvBytes
import Derived.Laws.BytesArg
import Derived.Laws.MakeOwn
namespace Go.Proofs.Ytioenfjcbikbcaa.Q
open Go Go.RowKit
set_option linter.unusedVariables false
set_option linter.unusedSimpArgs false

variable {P : Program} {bs : Base}

theorem eval_const (a : Act) (v : Value) : a.eval (.const v) = v := rfl
theorem eval_func (a : Act) (f : Nat) : a.eval (.func f) = .func (.func f) #[] #[] := rfl

/-- A call of a Go function that is named. -/
theorem r_call {f : Nat} {c : Ct} (hf : Holds P f c) {fn : Func} {code : Code} (hfn : P.funcs[f]? = some fn) (hbd' : fn.body = some code) (hname : (fn.name == "runtime.NumGoroutine") = false) (rl bor : List Nat) {l : List (Operand × AV)} (rhB : List (Nat × HS)) {xs : Array Operand} (hxs : xs = (l.map (·.1)).toArray) {d : Nat} {ts : Array TypeId} {ty : TypeId} {pos : String} {af : Array Edge} {gd : Option (Nat × Bool)}
    (k m : Nat) (hk : c.hin.length = k) (hm : c.hout.length = m) (hkm : Nat.ble k m = true) (hrl : rl.length = m) (hnd : nodupB rl = true) (hnf : noFree c.hout = true)
    (hids : c.hin.all (idsO k) = true) (hio : c.hout.all (idsH m) = true) (hir : idsA m c.res = true)
    (hargs : all2 (argA (fun i => rl.getD i 0) k rhB bor) l c.args) (hbd : (bor.all fun b => rl.all fun x => !Nat.beq b x) = true) (hbl : ∀ b, b ∈ bor → ∃ o, (b, HS.live o) ∈ rhB)
    (hnt : bor = [] ∨ (noTagA c.res ∧ allP noTagH c.hout)) (hN : d < bs.N) (hc : cOk l) :
    ORule P bs ⟨some d, .call { callee := .value (.func f), args := xs, argTypes := ts }, ty, pos, af, gd⟩
      ⟨rtOf l, reqIn (fun i => rl.getD i 0) 0 c.hin ++ (reqNew (fun i => rl.getD i 0) k (m - k) ++ rhB), [(d, renA (fun i => rl.getD i 0) c.res)], outW (fun i => rl.getD i 0) 0 c.hout⟩ := by
  intro Q K s a w hG hs hK
  obtain ⟨B, S, U, g⟩ := hG
  have he := evals g hs.1 hc
  have hcall := call_core hf rl bor hk hm (Nat.le_of_ble_eq_true hkm) hrl hnd hnf hids hio hir hargs hbd hbl hnt g hs.2 (l.map fun p => a.eval p.1) rfl he
  unfold Oper.wp
  have hrun : (execOp a.eval ⟨some d, .call { callee := .value (.func f), args := xs, argTypes := ts }, ty, pos, af, gd⟩).run P w = .ok (.enter f (l.map fun p => a.eval p.1).toArray) w := by
    subst hxs
    have hname' : fn.name ≠ "runtime.NumGoroutine" := by simpa using hname
    simp [execOp, resolve, eval_func, Deferred.ofValue, invoke, callFunc, hfn, hbd', hname', List.map_map, Function.comp_def]
  rw [hrun, Oper.upon_enter]
  refine hcall.mono ?_
  rintro e w' ⟨v, B', S', U', rfl, g', hv⟩
  exact hK _ _ ⟨B', S', U', g'.put hN hv⟩

/-- A call of a function value, a Go function and what it has captured. -/
theorem r_callV {f : Nat} {fs cs : Array Value} {y : Operand} {c : Ct} (hf : Holds P f c) {fn : Func} {code : Code} (hfn : P.funcs[f]? = some fn) (hbd' : fn.body = some code) (hname : (fn.name == "runtime.NumGoroutine") = false) (rl bor : List Nat) {l : List (Operand × AV)} (rhB : List (Nat × HS)) {xs : Array Operand} (hxs : xs = (l.map (·.1)).toArray) {d : Nat} {ts : Array TypeId} {ty : TypeId} {pos : String} {af : Array Edge} {gd : Option (Nat × Bool)} {more fst : List AV}
    (k m : Nat) (hk : c.hin.length = k) (hm : c.hout.length = m) (hkm : Nat.ble k m = true) (hrl : rl.length = m) (hnd : nodupB rl = true) (hnf : noFree c.hout = true)
    (hids : c.hin.all (idsO k) = true) (hio : c.hout.all (idsH m) = true) (hir : idsA m c.res = true) (hfst : fst = fs.toList.map dv) (hmore : more = cs.toList.map dv) 
    (hargs : all2 (argA (fun i => rl.getD i 0) k rhB bor) ((fs.toList.map fun v => (Operand.const v, dv v)) ++ (l ++ cs.toList.map fun v => (Operand.const v, dv v))) c.args) (hbd : (bor.all fun b => rl.all fun x => !Nat.beq b x) = true) (hbl : ∀ b, b ∈ bor → ∃ o, (b, HS.live o) ∈ rhB)
    (hnt : bor = [] ∨ (noTagA c.res ∧ allP noTagH c.hout)) (hN : d < bs.N) (hc : cOk ((y, dv (.func (.func f) fs cs)) :: l)) :
    ORule P bs ⟨some d, .call { callee := .value y, args := xs, argTypes := ts }, ty, pos, af, gd⟩
      ⟨rtOf ((y, dv (.func (.func f) fs cs)) :: l), reqIn (fun i => rl.getD i 0) 0 c.hin ++ (reqNew (fun i => rl.getD i 0) k (m - k) ++ rhB), [(d, renA (fun i => rl.getD i 0) c.res)], outW (fun i => rl.getD i 0) 0 c.hout⟩ := by
  intro Q K s a w hG hs hK
  obtain ⟨B, S, U, g⟩ := hG
  have he := evals g hs.1 hc
  have hy : a.eval y = .func (.func f) fs cs := he.1
  have ev : ∀ (vs : List Value), evs B S U a w (vs.map fun v => (Operand.const v, dv v)) := by
    intro vs
    induction vs with
    | nil => exact trivial
    | cons v vs ih => exact ⟨(rfl : v = v), ih⟩
  have eva : ∀ (l k : List (Operand × AV)), evs B S U a w l → evs B S U a w k → evs B S U a w (l ++ k) := by
    intro l
    induction l with
    | nil => intro k _ h; exact h
    | cons p l ih => intro k h h'; exact ⟨h.1, ih k h.2 h'⟩
  have he2 := eva _ _ (ev fs.toList) (eva _ _ he.2 (ev cs.toList))
  have hcall := call_core hf rl bor hk hm (Nat.le_of_ble_eq_true hkm) hrl hnd hnf hids hio hir hargs hbd hbl hnt g hs.2 _ rfl he2
  unfold Oper.wp
  have hrun : (execOp a.eval ⟨some d, .call { callee := .value y, args := xs, argTypes := ts }, ty, pos, af, gd⟩).run P w = .ok (.enter f (((fs.toList.map fun v => (Operand.const v, dv v)) ++ (l ++ cs.toList.map fun v => (Operand.const v, dv v))).map fun p => a.eval p.1).toArray) w := by
    subst hxs
    have hname' : fn.name ≠ "runtime.NumGoroutine" := by simpa using hname
    simp [execOp, resolve, hy, eval_const, Deferred.ofValue, invoke, callFunc, hfn, hbd', hname', List.map_map, Function.comp_def]
  rw [hrun, Oper.upon_enter]
  refine hcall.mono ?_
  rintro e w' ⟨v, B', S', U', rfl, g', hv⟩
  exact hK _ _ ⟨B', S', U', g'.put hN hv⟩

/-! ### Code -/

theorem T.seq {s : St} {x y : Code} {Q : Exit → Act → World → Prop} (h : T P bs s x (Exit.then (y.wp P Q) Q)) : T P bs s (.seq x y) Q := fun a w hG => wp_seq (h a w hG)
theorem T.skip {s : St} {Q : Exit → Act → World → Prop} (h : ∀ a w, Gs bs s a w → Q .normal a w) : T P bs s .skip Q := fun a w hG => wp_skip (h a w hG)
theorem T.label {s : St} {l : Nat} {Q : Exit → Act → World → Prop} (h : ∀ a w, Gs bs s a w → Q .normal a w) : T P bs s (.label l) Q := fun a w hG => wp_label (h a w hG)
theorem T.ret {s : St} {Q : Exit → Act → World → Prop} (h : ∀ a w, Gs bs s a w → Q .ret a w) : T P bs s .ret Q := fun a w hG => wp_ret (h a w hG)
theorem T.exit {s : St} {i : Nat} {Q : Exit → Act → World → Prop} (h : ∀ a w, Gs bs s a w → Q (.exit i) a w) : T P bs s (.exit i) Q := fun a w hG => wp_exit (h a w hG)
theorem T.block {s : St} {i : Nat} {c : Code} {Q : Exit → Act → World → Prop} (h : T P bs s c (Exit.inBlock i Q)) : T P bs s (.block i c) Q := fun a w hG => wp_block (h a w hG)

/-- What an operand holds. -/
def opAV (s : St) : Operand → AV
  | .tmp t => tget s.t t
  | .const v => dv v
  | _ => .any

theorem opAV_spec {s : St} {a : Act} {w : World} {x : Operand} {v : Value} (hG : Gs bs s a w) (h : opAV s x = dv v) : a.eval x = v := by
  obtain ⟨B, S, U, g⟩ := hG
  cases x with
  | tmp t => have := g.tm t; rw [show tget s.t t = dv v from h] at this; exact this
  | const u => simp only [opAV] at h; cases h; rfl
  | global g => cases h
  | func f => cases h

theorem T.cond {s : St} {c : Operand} {x y : Code} {b : Bool} {Q : Exit → Act → World → Prop} (hb : opAV s c = dv (.bool b)) (ht : b = true → T P bs s x Q) (hf : b = false → T P bs s y Q) : T P bs s (.cond c x y) Q :=
  fun a w hG => wp_cond_split (opAV_spec hG hb) (fun h => ht h a w hG) fun h => hf h a w hG
theorem T.condT {s : St} {c : Operand} {x y : Code} {b : Bool} {Q : Exit → Act → World → Prop} (hb : opAV s c = dv (.bool b)) (h : b = true) (ht : T P bs s x Q) : T P bs s (.cond c x y) Q := T.cond hb (fun _ => ht) fun h' => by rw [h] at h'; cases h'
theorem T.condF {s : St} {c : Operand} {x y : Code} {b : Bool} {Q : Exit → Act → World → Prop} (hb : opAV s c = dv (.bool b)) (h : b = false) (hf : T P bs s y Q) : T P bs s (.cond c x y) Q := T.cond hb (fun h' => by rw [h] at h'; cases h') fun _ => hf

theorem T.scope {s : St} {c : Code} {Q : Exit → Act → World → Prop} (h : ∀ a w, Gs bs s a w → (Code.scope c).wp P Q a w) : T P bs s (.scope c) Q := h

/-- A loop: its invariant, a measure. -/
theorem T.loop {s : St} {c : Code} {Q : Exit → Act → World → Prop} {ι : Type} (st : ι → St) (pre : ι → Prop) (μ : ι → Nat) (x0 : ι) (h0 : pre x0) (hs : ∀ a w, Gs bs s a w → Gs bs (st x0) a w)
    (round : ∀ x, pre x → T P bs (st x) c (Exit.then (fun a w => ∃ x', pre x' ∧ μ x' < μ x ∧ Gs bs (st x') a w) Q)) : T P bs s (.loop c) Q := by
  intro a w hG
  have key : ∀ n x a w, μ x = n → pre x → Gs bs (st x) a w → ∀ (b : Frame) (k : List Item) (cs : List Frame),
      ∃ e a' w', Q e a' w' ∧ Arrives P (lone (b.at a (.code c :: .inLoop c :: k)) cs w) b k cs e a' w' := by
    intro n
    induction n using Nat.strongRecOn with
    | _ n ih =>
      intro x a w hn hx hG b k cs
      obtain ⟨e, a₁, w₁, hq, harr⟩ := round x hx a w hG b (.inLoop c :: k) cs
      cases e with
      | normal =>
        obtain ⟨x', hx', hlt, hG'⟩ := hq
        obtain ⟨e₂, a₂, w₂, hq₂, harr₂⟩ := ih (μ x') (hn ▸ hlt) x' a₁ w₁ rfl hx' hG' b k cs
        exact ⟨e₂, a₂, w₂, hq₂, .of_steps (Steps.trans harr (.one step_inLoop)) harr₂⟩
      | exit id => exact ⟨_, a₁, w₁, hq, .pass (x := .inLoop c) rfl (fun _ _ => .inl (by simp)) harr⟩
      | goto l => exact ⟨_, a₁, w₁, hq, .pass (x := .inLoop c) rfl (fun _ _ => .inl (by simp)) harr⟩
      | ret => exact ⟨_, a₁, w₁, hq, .pass (x := .inLoop c) rfl (fun _ _ => .inl (by simp)) harr⟩
      | panic ch => exact ⟨_, a₁, w₁, hq, .pass (x := .inLoop c) rfl (fun _ _ => .inl (by simp)) harr⟩
      | outgrown => exact ⟨_, a₁, w₁, hq, .pass (x := .inLoop c) rfl (fun _ _ => .inl (by simp)) harr⟩
  intro b k cs
  obtain ⟨e, a', w', hq, harr⟩ := key _ x0 a w rfl h0 (hs a w hG) b k cs
  exact ⟨e, a', w', hq, .of_steps (.one step_loop) harr⟩
end Go.Proofs.Ytioenfjcbikbcaa.Q

namespace Go.Proofs.Ytioenfjcbikbcaa.Q
open Go Go.RowKit
set_option linter.unusedVariables false
set_option linter.unusedSimpArgs false

/-! ### Kinds of data -/

structure Kd (α : Type) where
  sz : Nat
  cell : α → Nat → DV
  z : α

def elOf {α : Type} (K : Kd α) (xs : List α) : Nat → Nat → DV := fun i j => K.cell (xs.getD i K.z) j
def dsl {α : Type} (tag nn : Bool) (K : Kd α) (xs : List α) : DV := .sl tag nn K.sz xs.length (elOf K xs)
abbrev slV {α : Type} (tag nn : Bool) (K : Kd α) (xs : List α) : AV := sv (.d (dsl tag nn K xs))
def arrK {α : Type} (T : Nat) (K : Kd α) (xs : List α) : HObj := .arr T K.sz xs.length (elOf K xs)

theorem elOf_cut {α : Type} (K : Kd α) (xs : List α) (l h : Nat) (hh : h ≤ xs.length) (i j : Nat) (hi : i < h - l) : elOf K ((xs.take h).drop l) i j = elOf K xs (l + i) j := by
  unfold elOf
  congr 1
  simp only [List.getD_eq_getElem?_getD, List.getElem?_drop]
  rw [List.getElem?_take, if_pos (by omega)]

theorem elOf_app {α : Type} (K : Kd α) (xs ys : List α) (i j : Nat) : elOf K (xs ++ ys) i j = if i < xs.length then elOf K xs i j else elOf K ys (i - xs.length) j := by
  unfold elOf
  split
  · congr 1
    simp only [List.getD_eq_getElem?_getD, List.getElem?_append]
    rw [if_pos (by assumption)]
  · congr 1
    simp only [List.getD_eq_getElem?_getD, List.getElem?_append]
    rw [if_neg (by assumption)]

/-! ### Cutting -/

def oOps : Option (Operand × Int) → List (Operand × AV)
  | none => []
  | some (x, n) => [(x, dv (.int .i64 n))]

theorem evs_append {B : Bk} {S U : Nat → Prop} {a : Act} {w : World} : ∀ {l k : List (Operand × AV)}, evs B S U a w (l ++ k) ↔ evs B S U a w l ∧ evs B S U a w k
  | [], k => by simp [evs]
  | p :: l, k => by simp only [List.cons_append, evs, evs_append (l := l), and_assoc]

theorem oOps_eval {B : Bk} {S U : Nat → Prop} {a : Act} {w : World} {x : Option (Operand × Int)} (h : evs B S U a w (oOps x)) : (x.map (·.1)).map a.eval = x.map fun p => Value.int .i64 p.2 := by
  cases x with
  | none => rfl
  | some p => have h1 : a.eval p.1 = .int .i64 p.2 := h.1; simp [h1]

variable {P : Program} {bs : Base}

theorem run_sliceBound {n : Int} {y : Nat} {c : BoundsCode} {w : World} (h0 : 0 ≤ n) (h1 : n ≤ y) : (Instr.sliceBound (.int .i64 n) y c).run P w = .ok n.toNat w := by
  simp [Instr.sliceBound, asIntOf, h0, h1]

/-- The three bounds of a cut. -/
def boundsOk (len cap : Nat) (lo hi mx : Option (Operand × Int)) (l h m : Nat) : Prop :=
  (match mx with | none => m = cap | some p => p.2 = m ∧ m ≤ cap ∧ hi.isSome = true) ∧ (match hi with | none => h = len | some p => p.2 = h ∧ h ≤ m) ∧ (match lo with | none => l = 0 | some p => p.2 = l ∧ l ≤ h)

theorem run_sliceBound' {k y : Nat} {c : BoundsCode} {w : World} (h : k ≤ y) : (Instr.sliceBound (.int .i64 (k : Int)) y c).run P w = .ok k w := by
  rw [run_sliceBound (by omega) (by omega)]
  simp

theorem run_sliceBounds {sl : Bool} {len cap l h m : Nat} {lo hi mx : Option (Operand × Int)} {w : World} (hb : boundsOk len cap lo hi mx l h m) :
    (Instr.sliceBounds sl len cap (lo.map fun p => Value.int .i64 p.2) (hi.map fun p => Value.int .i64 p.2) (mx.map fun p => Value.int .i64 p.2)).run P w = .ok (l, h, m) w := by
  obtain ⟨h1, h2, h3⟩ := hb
  cases mx with
  | none =>
    simp only at h1
    subst h1
    cases hi with
    | none =>
      simp only at h2
      subst h2
      cases lo with
      | none => simp only at h3; subst h3; simp [Instr.sliceBounds]
      | some p => obtain ⟨x, n⟩ := p; obtain ⟨e3, h3⟩ := h3; simp only at e3; subst e3; simp [Instr.sliceBounds, run_sliceBound' h3]
    | some p =>
      obtain ⟨x, n⟩ := p; obtain ⟨e, h2⟩ := h2; simp only at e; subst e
      cases lo with
      | none => simp only at h3; subst h3; simp [Instr.sliceBounds, run_sliceBound' h2]
      | some p => obtain ⟨x, n⟩ := p; obtain ⟨e3, h3⟩ := h3; simp only at e3; subst e3; simp [Instr.sliceBounds, run_sliceBound' h2, run_sliceBound' h3]
  | some q =>
    obtain ⟨y, k⟩ := q; obtain ⟨e1, h1, h4⟩ := h1; simp only at e1; subst e1
    cases hi with
    | none => cases h4
    | some p =>
      obtain ⟨x, n⟩ := p; obtain ⟨e, h2⟩ := h2; simp only at e; subst e
      cases lo with
      | none => simp only at h3; subst h3; simp [Instr.sliceBounds, run_sliceBound' h1, run_sliceBound' h2]
      | some p => obtain ⟨x, n⟩ := p; obtain ⟨e3, h3⟩ := h3; simp only at e3; subst e3; simp [Instr.sliceBounds, run_sliceBound' h1, run_sliceBound' h2, run_sliceBound' h3]

theorem run_sliceAt {t e : TypeId} {inf : TypeInfo} (ht : P.underlying t = some (.slice e)) (hi : P.info? e = some inf) {a : Option Addr} {len cap l h m : Nat} {lo hi' mx : Option (Operand × Int)} {w : World} (hb : boundsOk len cap lo hi' mx l h m) :
    (Instr.sliceAt t (.slice a len cap) (lo.map fun p => Value.int .i64 p.2) (hi'.map fun p => Value.int .i64 p.2) (mx.map fun p => Value.int .i64 p.2)).run P w = .ok (.slice (if m = l then a else a.map (·.add (l * inf.size))) (h - l) (m - l)) w := by
  simp only [Instr.sliceAt, Instr.slice, Sem.run_bind, run_underlying' ht, Result.andThen_ok, run_sliceBounds hb, run_sizeOf hi, Sem.run_pure]

/-- A cut of a shared slice; behind it the capacity may be anything. -/
theorem r_sliceS {d sz n l h : Nat} {tag nn : Bool} {el el' : Nat → Nat → DV} {x : Operand} {lo hi : Option (Operand × Int)} {lo' hi' : Option Operand} {t e ty : TypeId} {pos : String} {af : Array Edge} {gd : Option (Nat × Bool)} {inf : TypeInfo} (ht : P.underlying t = some (.slice e)) (hinf : P.info? e = some inf) (hsz : inf.size = sz)
    (hlo' : lo' = lo.map (·.1)) (hhi' : hi' = hi.map (·.1)) (hl : match lo with | none => l = 0 | some p => p.2 = l) (hh : match hi with | none => h = n | some p => p.2 = h) (hlh : l ≤ h) (hhn : h ≤ n) (hel : ∀ i j, i < h - l → el' i j = el (l + i) j) {n' : Nat} (hn' : h - l = n') (hN : d < bs.N) (hc : cOk ((x, sv (.d (.sl tag nn sz n el))) :: (oOps lo ++ oOps hi))) :
    ORule P bs ⟨some d, .slice t x lo' hi' none, ty, pos, af, gd⟩ ⟨rtOf ((x, sv (.d (.sl tag nn sz n el))) :: (oOps lo ++ oOps hi)), [], [(d, sv (.d (.sl tag nn sz n' el')))], []⟩ :=
  .val rfl hN hc fun B S U s a w g _ he => by
    obtain ⟨ao, cap, hv, h1, h2, h3, h4⟩ := he.1
    obtain ⟨he1, he2⟩ := evs_append.1 he.2
    subst hsz
    have hb : boundsOk n cap lo hi none l h cap := by
      refine ⟨rfl, ?_, ?_⟩
      · cases hi with
        | none => exact hh
        | some p => exact ⟨hh, by omega⟩
      · cases lo with
        | none => exact hl
        | some p => exact ⟨hl, hlh⟩
    refine ⟨.slice (if cap = l then ao else ao.map (·.add (l * inf.size))) (h - l) (cap - l), ?_, _, cap - l, by rw [hn'], by omega, ?_, ?_, ?_⟩
    · subst hlo'
      subst hhi'
      have hmx := run_sliceAt (P := P) (mx := none) ht hinf (a := ao) (w := w) hb
      simp only [execOp, hv, oOps_eval he1, oOps_eval he2, Sem.run_bind, Option.map_none] at hmx ⊢
      rw [hmx]
      rfl
    · intro hnone
      split at hnone
      · have := h2 hnone; omega
      · cases ao with
        | none => have := h2 rfl; omega
        | some ad => cases hnone
    · intro hnn hnone
      split at hnone
      · exact h3 hnn hnone
      · cases ao with
        | none => exact h3 hnn rfl
        | some ad => cases hnone
    · intro i hi
      obtain ⟨ad, ha, hs, hb', hcell⟩ := h4 (l + i) (by omega)
      refine ⟨⟨ad.block, ad.off + l * inf.size, none⟩, ?_, rfl, hb', fun j hj => ?_⟩
      · rw [if_neg (by omega), ha]
        simp [add_eq' hs]
      · obtain ⟨u, hu, hd⟩ := hcell j hj
        rw [hel i j (by omega)]
        exact ⟨u, by rw [← hu, Nat.add_mul]; simp only [Nat.add_assoc], hd⟩

/-- 's[:len(s):len(s)]': no room behind it. -/
theorem r_clip {d sz n : Nat} {tag nn : Bool} {el : Nat → Nat → DV} {x y z : Operand} {p q : Int} {t e ty : TypeId} {pos : String} {af : Array Edge} {gd : Option (Nat × Bool)} {inf : TypeInfo} (ht : P.underlying t = some (.slice e)) (hinf : P.info? e = some inf) (hsz : inf.size = sz)
    (hp : p = n) (hq : q = n) (hN : d < bs.N) (hc : cOk [(x, sv (.d (.sl tag nn sz n el))), (y, dv (.int .i64 p)), (z, dv (.int .i64 q))]) :
    ORule P bs ⟨some d, .slice t x none (some y) (some z), ty, pos, af, gd⟩ ⟨rtOf [(x, sv (.d (.sl tag nn sz n el))), (y, dv (.int .i64 p)), (z, dv (.int .i64 q))], [], [(d, sv (.cl tag nn sz n el))], []⟩ :=
  .val rfl hN hc fun B S U s a w g _ he => by
    obtain ⟨ao, cap, hv, h1, h2, h3, h4⟩ := he.1
    have hy : a.eval y = .int .i64 p := he.2.1
    have hz : a.eval z = .int .i64 q := he.2.2.1
    subst hsz
    have hb : boundsOk n cap none (some (y, p)) (some (z, q)) 0 n n := ⟨⟨hq, h1, rfl⟩, ⟨hp, Nat.le_refl _⟩, rfl⟩
    have hmx := run_sliceAt (P := P) ht hinf (a := ao) (w := w) hb
    simp only [Option.map_none, Option.map_some] at hmx
    have hadd : ∀ ad : Addr, ad.add 0 = ad := fun ad => by simp [Addr.add]
    have hval : (if n = 0 then ao else ao.map (·.add (0 * inf.size))) = ao := by
      split
      · rfl
      · cases ao <;> simp [hadd]
    rw [hval] at hmx
    refine ⟨.slice ao n n, ?_, ⟨ao, n, rfl, Nat.le_refl _, fun h => ?_, h3, h4⟩, ao, rfl⟩
    · simp only [execOp, hv, hy, hz, Option.map_none, Option.map_some, Sem.run_bind, hmx]
      rfl
    · have := h2 h; omega

/-- A cut of an object's slice. -/
theorem r_sliceO {d lo0 sz off n l h : Nat} {x : Operand} {lo hi : Option (Operand × Int)} {lo' hi' : Option Operand} {t e ty : TypeId} {pos : String} {af : Array Edge} {gd : Option (Nat × Bool)} {inf : TypeInfo} (ht : P.underlying t = some (.slice e)) (hinf : P.info? e = some inf) (hsz : inf.size = sz)
    (hlo' : lo' = lo.map (·.1)) (hhi' : hi' = hi.map (·.1)) (hl : match lo with | none => l = 0 | some p => p.2 = l) (hh : match hi with | none => h = n | some p => p.2 = h) (hlh : l ≤ h) (hhn : h ≤ n) {n' off' : Nat} (hn' : h - l = n') (hoff : off + l = off') (hN : d < bs.N) (hc : cOk ((x, sv (.own lo0 sz off n)) :: (oOps lo ++ oOps hi))) :
    ORule P bs ⟨some d, .slice t x lo' hi' none, ty, pos, af, gd⟩ ⟨rtOf ((x, sv (.own lo0 sz off n)) :: (oOps lo ++ oOps hi)), [], [(d, sv (.own lo0 sz off' n'))], []⟩ :=
  .val rfl hN hc fun B S U s a w g _ he => by
    obtain ⟨he1, he2⟩ := evs_append.1 he.2
    subst hsz
    subst hlo'
    subst hhi'
    have bnd : ∀ cap, n ≤ cap → boundsOk n cap lo hi none l h cap := fun cap hcap => by
      refine ⟨rfl, ?_, ?_⟩
      · cases hi with
        | none => exact hh
        | some p => exact ⟨hh, by omega⟩
      · cases lo with
        | none => exact hl
        | some p => exact ⟨hl, hlh⟩
    rcases he.1 with ⟨hb, h0, hn0, hv⟩ | ⟨b, κ, o, cap, hb, hv, hcap, hle, ho⟩
    · have hmx := run_sliceAt (P := P) (mx := none) ht hinf (a := none) (w := w) (bnd 0 (by omega))
      rw [hn0] at hmx
      refine ⟨.slice none 0 0, ?_, .inl ⟨hb, by omega, by omega, rfl⟩⟩
      simp only [execOp, hv, oOps_eval he1, oOps_eval he2, Sem.run_bind, Option.map_none] at hmx ⊢
      rw [hmx]
      simp [show l = 0 by omega, show h = 0 by omega]
    · have hmx := run_sliceAt (P := P) (mx := none) ht hinf (a := some ⟨b, o, none⟩) (w := w) (bnd cap hle)
      refine ⟨.slice (if cap = l then some ⟨b, o, none⟩ else some ⟨b, o + l * inf.size, none⟩) (h - l) (cap - l), ?_, .inr ⟨b, κ, if cap = l then o else o + l * inf.size, cap - l, hb, ?_, by omega, by omega, fun h' => ?_⟩⟩
      · simp only [execOp, hv, oOps_eval he1, oOps_eval he2, Sem.run_bind, Option.map_none, Option.map_some, add_eq] at hmx ⊢
        rw [hmx]
        rfl
      · split <;> simp [hn']
      · split
        · have : off = 0 ∧ l = 0 := by omega
          rw [ho (by omega), ← hoff, this.1, this.2]
        · rw [ho (by omega), ← hoff, Nat.add_mul]

/-! ### Append -/

def cellD : DV → Bool
  | .any => false
  | .val v => cellV v
  | .sl .. => true

theorem oneCell_of {v : Value} (h : cellV v = true) : v.oneCell' = true := by cases v <;> first | rfl | cases h

theorem cellD_spec {S U : Nat → Prop} {w : World} {x : DV} {v : Value} (h : cellD x = true) (hv : dOk S U w x v) : v.oneCell' = true := oneCell_of (cellS_spec (B := fun _ => none) (s := .d x) (by cases x <;> first | exact h | rfl) hv)

/-- Cells that make up n elements. -/
def rowOk (S U : Nat → Prop) (w : World) (sz n : Nat) (el : Nat → Nat → DV) (cs : List Value) : Prop := cs.length = n * sz ∧ ∀ i, i < n → ∀ j, j < sz → ∃ u, cs[i * sz + j]? = some u ∧ dOk S U w (el i j) u

/-- What is appended: a shared slice, an object's slice that is only read, nothing. -/
def srcLike (rh : List (Nat × HS)) (sz m : Nat) (el : Nat → Nat → DV) : SV → Prop
  | .d (.sl _ _ sz' m' el') => sz' = sz ∧ m' = m ∧ ∀ i j, i < m → el' i j = el i j
  | .cl _ _ sz' m' el' => sz' = sz ∧ m' = m ∧ ∀ i j, i < m → el' i j = el i j
  | .own l sz' off m' => sz' = sz ∧ m' = m ∧ ∃ T n0 el', (l, HS.live (.arr T sz n0 el')) ∈ rh ∧ off + m ≤ n0 ∧ ∀ i j, i < m → el i j = el' (off + i) j
  | .d (.val v) => v = .slice none 0 0 ∧ m = 0
  | _ => False

theorem idx_split {n sz k : Nat} (h : k < n * sz) : k / sz < n ∧ k % sz < sz ∧ k / sz * sz + k % sz = k := by
  have hsz : 0 < sz := by
    rcases Nat.eq_zero_or_pos sz with h0 | h0
    · subst h0; simp at h
    · exact h0
  exact ⟨(Nat.div_lt_iff_lt_mul hsz).2 h, Nat.mod_lt _ hsz, by rw [Nat.mul_comm]; exact Nat.div_add_mod k sz⟩

theorem mk_row {S U : Nat → Prop} {w : World} {sz n : Nat} {el : Nat → Nat → DV} (f : Nat → Option Value) (h : ∀ i, i < n → ∀ j, j < sz → ∃ u, f (i * sz + j) = some u ∧ dOk S U w (el i j) u) :
    ∃ cs : List Value, rowOk S U w sz n el cs ∧ ∀ k u, cs[k]? = some u → f k = some u := by
  have key : ∀ k, k < n * sz → ∃ u, f k = some u := fun k hk => by
    obtain ⟨h1, h2, h3⟩ := idx_split hk
    obtain ⟨u, hu, _⟩ := h _ h1 _ h2
    exact ⟨u, by rw [← h3]; exact hu⟩
  have hex : ∀ m, m ≤ n * sz → ∃ cs : List Value, cs.length = m ∧ ∀ k, k < m → cs[k]? = f k := by
    intro m
    induction m with
    | zero => intro _; exact ⟨[], rfl, fun k hk => absurd hk (Nat.not_lt_zero _)⟩
    | succ m ih =>
      intro hm
      obtain ⟨cs, h1, h2⟩ := ih (by omega)
      obtain ⟨u, hu⟩ := key m (by omega)
      refine ⟨cs ++ [u], by simp [h1], fun k hk => ?_⟩
      by_cases e : k = m
      · subst e
        rw [List.getElem?_append_right (by omega), h1, Nat.sub_self, hu]
        rfl
      · rw [List.getElem?_append_left (by omega)]
        exact h2 k (by omega)
  obtain ⟨cs, h1, h2⟩ := hex (n * sz) (Nat.le_refl _)
  refine ⟨cs, ⟨h1, fun i hi j hj => ?_⟩, fun k u hk => ?_⟩
  · obtain ⟨u, hu, hd⟩ := h i hi j hj
    have : i * sz + j < n * sz := by
      calc i * sz + j < i * sz + sz := by omega
        _ = (i + 1) * sz := by rw [Nat.add_mul, Nat.one_mul]
        _ ≤ n * sz := Nat.mul_le_mul_right _ hi
    exact ⟨u, (h2 _ this).trans hu, hd⟩
  · have : k < cs.length := (List.getElem?_eq_some_iff.1 hk).1
    rw [← h2 k (by omega)]
    exact hk

theorem row_cell {S U : Nat → Prop} {w : World} {sz n : Nat} {el : Nat → Nat → DV} {cs : List Value} (h : rowOk S U w sz n el cs) (hc : ∀ i j, i < n → j < sz → cellD (el i j) = true) : ∀ u, u ∈ cs → u.oneCell' = true := by
  intro u hu
  obtain ⟨k, hk, e⟩ := List.getElem_of_mem hu
  have hk' : k < n * sz := by rw [← h.1]; exact hk
  obtain ⟨h1, h2, h3⟩ := idx_split hk'
  obtain ⟨v, hv, hd⟩ := h.2 _ h1 _ h2
  rw [h3, List.getElem?_eq_getElem hk] at hv
  cases hv
  rw [← e]
  exact cellD_spec (hc _ _ h1 h2) hd

theorem src_cells {B : Bk} {S U : Nat → Prop} {s : St} {a : Act} {w : World} (g : G bs B S U s a w) {rh : List (Nat × HS)} (hh : satH rh s.h) {sz m : Nat} {el : Nat → Nat → DV} {y : SV} {v : Value} (hy : srcLike rh sz m el y) (hv : svOk B S U w y v) :
    ∃ ao c cs, v = .slice ao m c ∧ rowOk S U w sz m el cs ∧ (ao = none → m = 0 ∧ c = 0) ∧ ∀ ad, ao = some ad → ∀ k u, cs[k]? = some u → w.cell? (ad.add k) = some u := by
  have shared : ∀ (tag nn : Bool) (el' : Nat → Nat → DV), (∀ i j, i < m → el' i j = el i j) → dOk S U w (.sl tag nn sz m el') v →
      ∃ ao c cs, v = .slice ao m c ∧ rowOk S U w sz m el cs ∧ (ao = none → m = 0 ∧ c = 0) ∧ ∀ ad, ao = some ad → ∀ k u, cs[k]? = some u → w.cell? (ad.add k) = some u := by
    intro tag nn el' hel hd
    obtain ⟨ao, cap, hv, h1, h2, h3, h4⟩ := hd
    cases ao with
    | none =>
      have : cap = 0 := h2 rfl
      have hm : m = 0 := by omega
      subst hm
      exact ⟨none, cap, [], hv, ⟨by simp, fun i hi => absurd hi (Nat.not_lt_zero _)⟩, fun _ => ⟨rfl, this⟩, fun ad h => by cases h⟩
    | some ad =>
      obtain ⟨cs, hr, hg⟩ := mk_row (S := S) (U := U) (w := w) (sz := sz) (n := m) (el := el) (fun k => w.cell? (ad.add k)) fun i hi j hj => by
        obtain ⟨ad', ha, hs, hb, hc⟩ := h4 i hi
        cases ha
        obtain ⟨u, hu, hd⟩ := hc j hj
        exact ⟨u, by simp only [add_eq' hs]; exact hu, by rw [← hel i j hi]; exact hd⟩
      refine ⟨some ad, cap, cs, hv, hr, (fun h => by cases h), fun ad' h k u hk => ?_⟩
      cases h
      exact hg k u hk
  match y, hy with
  | .d (.sl tag nn sz' m' el'), ⟨h1, h2, h3⟩ => subst h1; subst h2; exact shared tag nn el' h3 hv
  | .cl tag nn sz' m' el', ⟨h1, h2, h3⟩ => subst h1; subst h2; exact shared tag nn el' h3 hv.1
  | .d (.val u), ⟨h1, h2⟩ =>
    have hv' : v = u := hv
    subst h1
    subst h2
    subst hv'
    exact ⟨none, 0, [], rfl, ⟨by simp, fun i hi => absurd hi (Nat.not_lt_zero _)⟩, fun _ => ⟨rfl, rfl⟩, fun ad h => by cases h⟩
  | .own l sz' off m', ⟨h1, h2, T, n0, el', h3, h4, h5⟩ =>
    subst h1
    subst h2
    have hob := g.ob l _ (satH_mem hh _ h3)
    rcases hv with ⟨_, _, hn0, hv⟩ | ⟨b, κ, o, cap, hb, hv, hcap, hle, ho⟩
    · subst hn0
      exact ⟨none, 0, [], hv, ⟨by simp, fun i hi => absurd hi (Nat.not_lt_zero _)⟩, fun _ => ⟨rfl, rfl⟩, fun ad h => by cases h⟩
    · rcases hob with ⟨hob, _⟩ | ⟨b', κ', cur, hb', hcur, hsz, hnk, hkm', hel⟩
      · rw [hb] at hob; cases hob
      · rw [hb] at hb'
        cases hb'
        obtain ⟨cs, hr, hg⟩ := mk_row (S := S) (U := U) (w := w) (sz := sz') (n := m') (el := el) (fun k => cur[off * sz' + k]?) fun i hi j hj => by
          obtain ⟨u, hu, hd⟩ := hel (off + i) (by omega) j hj
          exact ⟨u, by rw [← Nat.add_assoc, ← Nat.add_mul]; exact hu, by rw [h5 i j hi]; exact hd⟩
        refine ⟨some ⟨b, o, none⟩, cap, cs, hv, hr, (fun h => by cases h), fun ad h k u hk => ?_⟩
        cases h
        have hkl : k < m' * sz' := by rw [← hr.1]; exact (List.getElem?_eq_some_iff.1 hk).1
        have : 0 < m' := by
          rcases Nat.eq_zero_or_pos m' with h0 | h0
          · subst h0; simp at hkl
          · exact h0
        rw [add_eq, ho (by omega)]
        exact cell_of_block hcur (hg k u hk)

/-- What is known of an element's type. -/
def Elem (P : Program) (t e sz bytes : Nat) : Prop := P.underlying t = some (.slice e) ∧ ∃ i z, P.info? e = some i ∧ i.zero = some z ∧ i.size = sz ∧ i.bytes = bytes ∧ z.cells.size = sz ∧ 0 < sz

theorem row_new (w : World) (e sz : Nat) (z : Value) (hz : z.cells.size = sz) (olds news : List Value) (n m C : Nat) (hlo : olds.length = n * sz) (hln : news.length = m * sz) (hC : n + m ≤ C) (hCm : C ≤ maxLen) (row : Option Nat) :
    (w.drew.alloc (.cells (olds.toArray ++ news.toArray ++ Builtin.zeroCells z.cells (C - (n + m))) e)).ownsRow 0 e sz (.slice (some ⟨w.heap.size, 0, none⟩) (n + m) C) (n + m) (olds ++ news) ∧
      w.grownBy (w.drew.alloc (.cells (olds.toArray ++ news.toArray ++ Builtin.zeroCells z.cells (C - (n + m))) e)) row := by
  have hlen : (olds ++ news).length = (n + m) * sz := by rw [List.length_append, hlo, hln, Nat.add_mul]
  refine ⟨⟨hlen, .inr ⟨w.heap.size, C, _, rfl, Nat.zero_le _, heap_alloc_new w.drew _, hC, hCm, ?_, ?_⟩⟩, rfl, rfl, rfl, by simp, fun k hk _ => Below.heap_alloc w.drew _ k hk⟩
  · simp only [Array.size_append, List.size_toArray, size_zeroCells, hz, hlo, hln, ← Nat.add_mul]
    rw [show n + m + (C - (n + m)) = C from by omega]
  · simp only [Array.toList_append, List.append_assoc]
    rw [← List.append_assoc, ← hlen]
    exact List.take_left

theorem run_append_any {t ty e sz bytes : Nat} (hE : Elem P t e sz bytes) {w : World} {v : Value} {n : Nat} {xs : List Value} (hown : w.ownsRow 0 e sz v n xs) {ao : Option Addr} {m c : Nat} {news : List Value} (hl : news.length = m * sz) (hnone : ao = none → m = 0 ∧ c = 0)
    (hn : ∀ ad, ao = some ad → ∀ k u, news[k]? = some u → w.cell? (ad.add k) = some u) (h1 : ∀ u, u ∈ news → u.oneCell' = true) (h63 : n + m ≤ maxLen) (hb : (n + m) * bytes ≤ 140737488355328) :
    ∃ v' w', (Builtin.append_ #[t, t] ty #[v, .slice ao m c]).run P w = .ok v' w' ∧ w'.ownsRow 0 e sz v' (n + m) (xs ++ news) ∧ w.grownBy w' v.ownBlock ∧ ∀ k, v'.ownBlock = some k → (v.ownBlock = some k ∨ w.heap.size ≤ k) := by
  obtain ⟨ht, i, z, hi, hz, hs, hby, hzs, hpos⟩ := hE
  cases ao with
  | some ad =>
    have hnews := hn ad rfl
    rcases hown.2 with ⟨rfl, rfl⟩ | ⟨g, cap, cur, rfl, hbg, hg, hnc, hcm, hcs, htake⟩
    · have hx : xs = [] := List.eq_nil_of_length_eq_zero (by simpa using hown.1)
      subst hx
      by_cases hm : m = 0
      · subst hm
        have hnil : news = [] := List.eq_nil_of_length_eq_zero (by simpa using hl)
        subst hnil
        refine ⟨.slice none 0 0, w, ?_, World.ownsRow_nil w 0 e sz, ⟨rfl, rfl, rfl, Nat.le_refl _, fun _ _ _ => rfl⟩, fun k hk => by cases hk⟩
        simp [Builtin.append_, run_underlying ht, sizeOf, typeInfo, hi, Builtin.lenOf, Builtin.firstCells, loadCells, loadCellsFrom]
      · have hr := run_append_nil (P := P) w t ty e i z ht hi hz ad m c news (by rw [hs]; exact hl) hnews (by omega) (by simp only [maxLen] at h63; omega) (by rw [hby]; simp only [Nat.zero_add] at hb; omega)
        have hC := grownCap_ge w m 0 e
        have hCm := grownCap_le_maxLen w m 0 e (by omega)
        obtain ⟨r1, r2⟩ := row_new w e sz z hzs [] news 0 m (grownCap w m 0 e) (by simp) hl (by omega) hCm (Value.ownBlock (.slice none 0 0))
        simp only [Nat.zero_add, List.nil_append, Array.empty_append] at r1 r2 ⊢
        exact ⟨_, _, hr, r1, r2, fun k hk => by simp only [Value.ownBlock, Option.some.injEq] at hk; exact .inr (by omega)⟩
    · by_cases hroom : n + m ≤ cap
      · have hfit : n * i.size + news.length ≤ cur.size := by rw [hl, hs, hcs, ← Nat.add_mul]; exact Nat.mul_le_mul_right _ hroom
        have hr := run_append_room (P := P) w t ty e i ht hi g n cap cur hg ad m c news (by rw [hs]; exact hl) hnews h1 hroom hfit
        rw [hs] at hr
        refine ⟨_, _, hr, ⟨by rw [List.length_append, hown.1, hl, Nat.add_mul], .inr ⟨g, cap, _, rfl, hbg, setRow_heap w g cur _ e _ hg, hroom, hcm, ?_, ?_⟩⟩, ⟨rfl, rfl, rfl, by simp, fun k _ hk => setRow_other w g k _ (fun e => hk (by simp [Value.ownBlock, e]))⟩, fun k hk => .inl hk⟩
        · simp only [List.size_toArray, List.length_append, List.length_take, List.length_drop, Array.length_toList]
          rw [hs] at hfit
          omega
        · rw [htake, show (n + m) * sz = (xs ++ news).length by rw [List.length_append, hown.1, hl, Nat.add_mul]]
          exact List.take_left
      · have holds : ∀ j u, xs[j]? = some u → w.cell? ((⟨g, 0, none⟩ : Addr).add j) = some u := hown.cells (g := g) rfl
        have hr := run_append_grow (P := P) w t ty e i z ht hi hz ⟨g, 0, none⟩ n cap xs (by rw [hs]; exact hown.1) holds ad m c news (by rw [hs]; exact hl) hnews (by omega) (by simp only [maxLen] at h63; omega) (growslice_fits (by omega) (by rw [hby]; exact hb))
        have hC := grownCap_ge w (n + m) cap e
        have hCm := grownCap_le_maxLen w (n + m) cap e h63
        obtain ⟨r1, r2⟩ := row_new w e sz z hzs xs news n m (grownCap w (n + m) cap e) hown.1 hl hC hCm (Value.ownBlock (.slice (some ⟨g, 0, none⟩) n cap))
        exact ⟨_, _, hr, r1, r2, fun k hk => by simp only [Value.ownBlock, Option.some.injEq] at hk; exact .inr (by omega)⟩
  | none =>
    obtain ⟨rfl, rfl⟩ := hnone rfl
    have hnil : news = [] := List.eq_nil_of_length_eq_zero (by simpa using hl)
    subst hnil
    refine ⟨v, w, ?_, by simpa using hown, ⟨rfl, rfl, rfl, Nat.le_refl _, fun _ _ _ => rfl⟩, fun k hk => .inl hk⟩
    rcases hown.2 with ⟨rfl, rfl⟩ | ⟨g, cap, cur, rfl, hbg, hg, hnc, _⟩
    · simp [Builtin.append_, run_underlying ht, sizeOf, typeInfo, hi, Builtin.lenOf, Builtin.firstCells]
    · simp [Builtin.append_, run_underlying ht, sizeOf, typeInfo, hi, Builtin.lenOf, Builtin.firstCells, hnc, storeCells]

/-- Where an owned row lies. -/
def rowBk : Value → Option (Nat × Nat)
  | .slice (some a) _ c => some (a.block, c)
  | _ => none

theorem rowOk_app {S U : Nat → Prop} {w : World} {sz n m : Nat} {el el2 el' : Nat → Nat → DV} {cs ds : List Value} (h1 : rowOk S U w sz n el cs) (h2 : rowOk S U w sz m el2 ds) (hel : ∀ i j, i < n + m → el' i j = if i < n then el i j else el2 (i - n) j) : rowOk S U w sz (n + m) el' (cs ++ ds) := by
  refine ⟨by rw [List.length_append, h1.1, h2.1, Nat.add_mul], fun i hi j hj => ?_⟩
  rw [hel i j hi]
  split
  · rename_i hlt
    obtain ⟨u, hu, hd⟩ := h1.2 i hlt j hj
    refine ⟨u, ?_, hd⟩
    rw [List.getElem?_append_left (List.getElem?_eq_some_iff.1 hu).1]
    exact hu
  · rename_i hge
    obtain ⟨u, hu, hd⟩ := h2.2 (i - n) (by omega) j hj
    refine ⟨u, ?_, hd⟩
    have : i * sz = n * sz + (i - n) * sz := by rw [← Nat.add_mul]; congr 1; omega
    rw [List.getElem?_append_right (by rw [h1.1]; omega), h1.1, this, show n * sz + (i - n) * sz + j - n * sz = (i - n) * sz + j by omega]
    exact hu

/-- The object of an owned row that a grown world has. -/
theorem G.row {B : Bk} {S U : Nat → Prop} {s : St} {a : Act} {w w' : World} (g : G bs B S U s a w) (old : List Nat) (l2 : Nat) (hl2 : hget s.h l2 = .free) (hold : ∀ l, l ∈ old → ∃ o, hget s.h l = .live o) {v' : Value} {e sz N : Nat} {cells : List Value} {el : Nat → Nat → DV} {row : Option Nat}
    (hown : w'.ownsRow 0 e sz v' N cells) (hgr : w.grownBy w' row) (hrow : ∀ b, row = some b → ∃ l κ, l ∈ old ∧ B l = some (some (b, κ))) (hnew : ∀ k, v'.ownBlock = some k → (row = some k ∨ w.heap.size ≤ k)) (hcells : rowOk S U w sz N el cells) :
    G bs (bset B l2 (rowBk v')) S U ⟨s.t, hsets s.h ((old.map fun l => (l, HS.dead)) ++ [(l2, .live (.arr e sz N el))])⟩ a w' ∧ svOk (bset B l2 (rowBk v')) S U w' (.own l2 sz 0 N) v' := by
  have hBl := g.fr l2 hl2
  have hne : ∀ l, l ∈ old → l ≠ l2 := fun l hl e => by
    obtain ⟨o, ho⟩ := hold l hl
    rw [e, hl2] at ho
    cases ho
  have happ : ∀ (p q : List (Nat × HS)) (h : List HS), hsets h (p ++ q) = hsets (hsets h p) q := by
    intro p
    induction p with
    | nil => intro q h; rfl
    | cons x p ih => intro q h; exact ih q _
  have hdead : ∀ (old : List Nat) (h : List HS) (k : Nat), hget (hsets h (old.map fun l => (l, HS.dead))) k = if k ∈ old then .dead else hget h k := by
    intro old
    induction old with
    | nil => intro h k; simp [hsets]
    | cons x old ih =>
      intro h k
      simp only [List.map_cons, hsets, ih]
      by_cases h1 : k ∈ old
      · simp [h1]
      · by_cases h2 : k = x
        · subst h2; simp [h1, hget_hset]
        · simp [h1, h2, hget_hset]
  have hget' : ∀ k, hget (hsets s.h ((old.map fun l => (l, HS.dead)) ++ [(l2, .live (.arr e sz N el))])) k = if k = l2 then .live (.arr e sz N el) else if k ∈ old then .dead else hget s.h k := fun k => by
    rw [happ]
    simp only [hsets]
    rw [hget_hset, hdead]
  have hP : Pres (fun b => S b ∨ U b) w w' := fun b hb => by
    have hU : U b := hb.elim (g.su b) id
    refine hgr.block b (g.ub b hU) fun h => ?_
    obtain ⟨l, κ, hl, hbl⟩ := hrow b h.symm
    obtain ⟨o, ho⟩ := hold l hl
    exact g.sp l o (b, κ) ho hbl hU
  have hCf : ∀ k, v'.ownBlock = some k → (bs.C k ∨ bs.w0.heap.size ≤ k) ∧ ¬ U k ∧ ∀ k' o' q, ¬ (k' = l2 ∨ k' ∈ old) → hget s.h k' = .live o' → B k' = some (some q) → q.1 ≠ k := fun k hk => by
    rcases hnew k hk with h | h
    · obtain ⟨l, κ, hl, hbl⟩ := hrow k h
      obtain ⟨o, ho⟩ := hold l hl
      exact ⟨g.cf l o (k, κ) ho hbl, g.sp l o (k, κ) ho hbl, fun k' o' q hk' ho' hq => g.nj k' l o' o ho' ho (fun e => hk' (.inr (e ▸ hl))) q (k, κ) hq hbl⟩
    · refine ⟨.inr (Nat.le_trans g.hs h), fun hU => ?_, fun k' o' q _ ho' hq e => ?_⟩
      · have := g.ub k hU; omega
      · have := obOk_lt (g.ob k' o' ho') hq; omega
  have hsv : svOk (bset B l2 (rowBk v')) S U w' (.own l2 sz 0 N) v' := by
    rcases hown.2 with ⟨rfl, rfl⟩ | ⟨b, cap, cur, rfl, _, hb, hnc, hcm, hcs, htake⟩
    · exact .inl ⟨by simp [bset, rowBk], rfl, rfl, rfl⟩
    · exact .inr ⟨b, cap, 0, cap, by simp [bset, rowBk], rfl, by omega, hnc, fun _ => by simp⟩
  refine ⟨?_, hsv⟩
  refine g.upd (fun k => k = l2 ∨ k ∈ old) _ (fun k hk => ?_) (fun k p hp => ?_) (fun k hk => ?_) (fun _ h => h) (fun _ h => h) g.su (fun b hb => Nat.lt_of_lt_of_le (g.ub b hb) hgr.size) (fun _ h => .inl h) (fun _ h => .inl h) ?_ ?_ (fun b hb hne' => ?_) ?_ (fun k o q _ hk hq => g.sp k o q hk hq) hgr.size hgr.os hgr.tape hgr.output (fun _ h hn => absurd h hn)
  · rw [hget', if_neg (fun e => hk (.inl e)), if_neg (fun e => hk (.inr e))]
  · unfold bset
    split
    · rename_i h; subst h; rw [hBl] at hp; cases hp
    · exact hp
  · unfold bset
    rw [if_neg (fun e => hk (.inl e))]
  · intro k o hk ho
    rw [hget'] at ho
    split at ho
    · rename_i hkl
      subst hkl
      cases ho
      constructor
      · rcases hown.2 with ⟨rfl, rfl⟩ | ⟨b, cap, cur, rfl, _, hb, hnc, hcm, hcs, htake⟩
        · exact .inl ⟨by simp [bset, rowBk], rfl⟩
        · refine .inr ⟨b, cap, cur, by simp [bset, rowBk], hb, hcs, hnc, hcm, fun i hi j hj => ?_⟩
          obtain ⟨u, hu, hd⟩ := hcells.2 i hi j hj
          refine ⟨u, ?_, dOk_mono (fun _ h => h) (fun _ h => h) hP _ _ hd⟩
          rw [← htake, List.getElem?_take] at hu
          split at hu
          · simpa using hu
          · cases hu
      · intro p hp
        have hbk : v'.ownBlock = some p.1 := by
          simp only [bset, if_true, Option.some.injEq] at hp
          rcases hown.2 with ⟨rfl, rfl⟩ | ⟨b, cap, cur, rfl, _⟩
          · cases hp
          · simp only [rowBk, Option.some.injEq] at hp
            subst hp
            rfl
        obtain ⟨h1, h2, h3⟩ := hCf p.1 hbk
        exact ⟨h2, h1, h3⟩
    · split at ho
      · cases ho
      · rcases hk with h | h <;> contradiction
  · intro k k' o o' p p' hk hk' ho ho' hne' hp hp'
    rw [hget'] at ho ho'
    exfalso
    have key : ∀ k o, (k = l2 ∨ k ∈ old) → (if k = l2 then HS.live (.arr e sz N el) else if k ∈ old then .dead else hget s.h k) = .live o → k = l2 := fun k o hk ho => by
      split at ho
      · assumption
      · split at ho
        · cases ho
        · rcases hk with h | h <;> contradiction
    exact hne' ((key k o hk ho).trans (key k' o' hk' ho').symm)
  · refine hgr.block b hb fun h => ?_
    obtain ⟨l, κ, hl, hbl⟩ := hrow b h.symm
    obtain ⟨o, ho⟩ := hold l hl
    exact hne' l o (b, κ) (.inr hl) ho hbl rfl
  · intro k hk h
    rw [hget'] at h
    split at h
    · cases h
    · split at h
      · cases h
      · rcases hk with h' | h' <;> contradiction

theorem own_row {B : Bk} {S U : Nat → Prop} {s : St} {a : Act} {w : World} (g : G bs B S U s a w) {l T sz n0 n : Nat} {el : Nat → Nat → DV} (hl : hget s.h l = .live (.arr T sz n0 el)) (hn : n ≤ n0) {v : Value} (hv : svOk B S U w (.own l sz 0 n) v) :
    ∃ cs, w.ownsRow 0 T sz v n cs ∧ rowOk S U w sz n el cs ∧ ∀ b, v.ownBlock = some b → ∃ κ, B l = some (some (b, κ)) := by
  have hob := g.ob l _ hl
  rcases hv with ⟨hb, _, hn0, hv⟩ | ⟨b, κ, o, cap, hb, hv, hcap, hle, ho⟩
  · subst hn0
    subst hv
    exact ⟨[], World.ownsRow_nil w 0 T sz, ⟨by simp, fun i hi => absurd hi (Nat.not_lt_zero _)⟩, fun b h => by cases h⟩
  · rcases hob with ⟨hob, _⟩ | ⟨b', κ', cur, hb', hcur, hsz, hnk, hkm, hel⟩
    · rw [hb] at hob; cases hob
    · rw [hb] at hb'
      cases hb'
      have ho' : o = 0 := by rw [ho (.inr rfl)]; simp
      subst ho'
      have hcap' : cap = κ := by omega
      subst hcap'
      have hlen : n * sz ≤ cur.size := by rw [hsz]; exact Nat.mul_le_mul_right _ hle
      refine ⟨cur.toList.take (n * sz), ⟨by simp; omega, .inr ⟨b, cap, cur, hv, Nat.zero_le _, hcur, hle, hkm, hsz, rfl⟩⟩, ⟨by simp; omega, fun i hi j hj => ?_⟩, fun b' h => ?_⟩
      · obtain ⟨u, hu, hd⟩ := hel i (by omega) j hj
        refine ⟨u, ?_, hd⟩
        have : i * sz + j < n * sz := by
          calc i * sz + j < i * sz + sz := by omega
            _ = (i + 1) * sz := by rw [Nat.add_mul, Nat.one_mul]
            _ ≤ n * sz := Nat.mul_le_mul_right _ hi
        rw [List.getElem?_take, if_pos this]
        simpa using hu
      · rw [hv] at h
        simp only [Value.ownBlock, Option.some.injEq] at h
        exact ⟨cap, by rw [← h]; exact hb⟩

theorem run_appendOp {d : Nat} {x y : Operand} {t ty : TypeId} {pos : String} {af : Array Edge} {gd : Option (Nat × Bool)} {a : Act} {w w' : World} {v : Value} (h : (Builtin.append_ #[t, t] ty #[a.eval x, a.eval y]).run P w = .ok v w') :
    (execOp a.eval ⟨some d, .call { callee := .builtin .append, args := #[x, y], argTypes := #[t, t] }, ty, pos, af, gd⟩).run P w = .ok (.value v) w' := by
  simp only [execOp, resolve, invoke, builtin, Sem.run_bind, Sem.run_pure, Result.andThen_ok, List.map_toArray, List.map_cons, List.map_nil, h]

/-- Append to a slice of an object's own. -/
theorem r_appendO {d l l2 e sz bytes n n0 m : Nat} {el el2 el' : Nat → Nat → DV} {x y : Operand} {ys : SV} {rhs : List (Nat × HS)} {t ty : TypeId} {pos : String} {af : Array Edge} {gd : Option (Nat × Bool)} (hE : Elem P t e sz bytes) (hn : n ≤ n0) (hy : srcLike rhs sz m el2 ys) (hcell : ∀ i j, i < m → j < sz → cellD (el2 i j) = true)
    (h63 : n + m ≤ maxLen) (hb : (n + m) * bytes ≤ 140737488355328) (hel : ∀ i j, i < n + m → el' i j = if i < n then el i j else el2 (i - n) j) {N : Nat} (hNm : n + m = N) (hN : d < bs.N) (hc : cOk [(x, sv (.own l sz 0 n)), (y, sv ys)]) :
    ORule P bs ⟨some d, .call { callee := .builtin .append, args := #[x, y], argTypes := #[t, t] }, ty, pos, af, gd⟩
      ⟨rtOf [(x, sv (.own l sz 0 n)), (y, sv ys)], (l, .live (.arr e sz n0 el)) :: (l2, .free) :: rhs, [(d, sv (.own l2 sz 0 N))], [(l, .dead), (l2, .live (.arr e sz N el'))]⟩ :=
  .heap rfl hN hc fun B S U s a w g hh he => by
    obtain ⟨cs, ho, hr, hblk⟩ := own_row g hh.1 hn he.1
    obtain ⟨ao, c, ds, hv, hr2, hnone, hcell2⟩ := src_cells g hh.2.2 hy he.2.1
    obtain ⟨v', w', hrun, ho', hgr, hnew⟩ := run_append_any (P := P) (ty := ty) hE ho hr2.1 hnone hcell2 (row_cell hr2 hcell) h63 hb
    subst hNm
    obtain ⟨g', hs⟩ := g.row [l] l2 hh.2.1 (fun k hk => by simp only [List.mem_singleton] at hk; subst hk; exact ⟨_, hh.1⟩) ho' hgr (fun b hb => by obtain ⟨κ, h⟩ := hblk b hb; exact ⟨l, κ, by simp, h⟩) hnew (rowOk_app hr hr2 hel)
    refine ⟨v', w', _, S, U, run_appendOp ?_, g', hs⟩
    rw [show a.eval y = .slice ao m c from hv]
    exact hrun

/-- Append to nil. -/
theorem r_appendN {d l2 e sz bytes m : Nat} {el2 : Nat → Nat → DV} {x y : Operand} {ys : SV} {rhs : List (Nat × HS)} {t ty : TypeId} {pos : String} {af : Array Edge} {gd : Option (Nat × Bool)} (hE : Elem P t e sz bytes) (hy : srcLike rhs sz m el2 ys) (hcell : ∀ i j, i < m → j < sz → cellD (el2 i j) = true)
    (h63 : m ≤ maxLen) (hb : m * bytes ≤ 140737488355328) (hN : d < bs.N) (hc : cOk [(x, dv (.slice none 0 0)), (y, sv ys)]) :
    ORule P bs ⟨some d, .call { callee := .builtin .append, args := #[x, y], argTypes := #[t, t] }, ty, pos, af, gd⟩
      ⟨rtOf [(x, dv (.slice none 0 0)), (y, sv ys)], (l2, .free) :: rhs, [(d, sv (.own l2 sz 0 m))], [(l2, .live (.arr e sz m el2))]⟩ :=
  .heap rfl hN hc fun B S U s a w g hh he => by
    have hx : a.eval x = .slice none 0 0 := he.1
    obtain ⟨ao, c, ds, hv, hr2, hnone, hcell2⟩ := src_cells g hh.2 hy he.2.1
    obtain ⟨v', w', hrun, ho', hgr, hnew⟩ := run_append_any (P := P) (ty := ty) hE (World.ownsRow_nil w 0 e sz) hr2.1 hnone hcell2 (row_cell hr2 hcell) (by omega) (by simpa using hb)
    simp only [Nat.zero_add, List.nil_append] at ho'
    obtain ⟨g', hs⟩ := g.row [] l2 hh.1 (fun k hk => by cases hk) ho' hgr (fun b hb => by cases hb) (fun k hk => by rcases hnew k hk with h | h; cases h; exact .inr h) hr2
    refine ⟨v', w', _, S, U, run_appendOp ?_, g', hs⟩
    rw [hx, show a.eval y = .slice ao m c from hv]
    exact hrun

/-- Append of something to a shared slice without room. -/
theorem r_appendC {d l2 e sz bytes n m : Nat} {tag nn : Bool} {el el2 el' : Nat → Nat → DV} {x y : Operand} {ys : SV} {rhs : List (Nat × HS)} {t ty : TypeId} {pos : String} {af : Array Edge} {gd : Option (Nat × Bool)} (hE : Elem P t e sz bytes) (hm : 0 < m) (hy : srcLike rhs sz m el2 ys)
    (h63 : n + m ≤ maxLen) (hb : (n + m) * bytes ≤ 140737488355328) (hel : ∀ i j, i < n + m → el' i j = if i < n then el i j else el2 (i - n) j) {N : Nat} (hNm : n + m = N) (hN : d < bs.N) (hc : cOk [(x, sv (.cl tag nn sz n el)), (y, sv ys)]) :
    ORule P bs ⟨some d, .call { callee := .builtin .append, args := #[x, y], argTypes := #[t, t] }, ty, pos, af, gd⟩
      ⟨rtOf [(x, sv (.cl tag nn sz n el)), (y, sv ys)], (l2, .free) :: rhs, [(d, sv (.own l2 sz 0 N))], [(l2, .live (.arr e sz N el'))]⟩ :=
  .heap rfl hN hc fun B S U s a w g hh he => by
    have hx : svOk B S U w (.cl tag nn sz n el) (a.eval x) := he.1
    obtain ⟨hxd, ax, hxv⟩ := hx
    obtain ⟨ao', c', cs, hv', hr, hnone', hcell'⟩ := src_cells g (rh := []) trivial (y := .d (.sl tag nn sz n el)) ⟨rfl, rfl, fun _ _ _ => rfl⟩ hxd
    rw [hxv] at hv'
    simp only [Value.slice.injEq] at hv'
    obtain ⟨rfl, _, rfl⟩ := hv'
    obtain ⟨ao, c, ds, hv, hr2, hnone, hcell2⟩ := src_cells g hh.2 hy he.2.1
    obtain ⟨ht, i, z, hi, hz, hs, hby, hzs, hpos⟩ := hE
    have hyv : a.eval y = .slice ao m c := hv
    obtain ⟨ad, rfl⟩ : ∃ ad, ao = some ad := by
      cases ao with
      | some ad => exact ⟨ad, rfl⟩
      | none => have := (hnone rfl).1; omega
    subst hNm
    cases ax with
    | none =>
      have hn0 : n = 0 := (hnone' rfl).1
      subst hn0
      have hr' := run_append_nil (P := P) w t ty e i z ht hi hz ad m c ds (by rw [hs]; exact hr2.1) (hcell2 ad rfl) hm (by simp only [maxLen] at h63; omega) (by rw [hby]; simp only [Nat.zero_add] at hb; omega)
      have hC := grownCap_ge w m 0 e
      have hCm := grownCap_le_maxLen w m 0 e (by omega)
      obtain ⟨r1, r2⟩ := row_new w e sz z hzs [] ds 0 m (grownCap w m 0 e) (by simp) hr2.1 (by omega) hCm none
      have hcs : cs = [] := List.eq_nil_of_length_eq_zero (by simpa using hr.1)
      subst hcs
      have happ := rowOk_app hr hr2 hel
      simp only [Nat.zero_add, List.nil_append, Array.empty_append] at r1 r2 happ ⊢
      obtain ⟨g', hs'⟩ := g.row [] l2 hh.1 (fun k hk => by cases hk) r1 r2 (fun b hb => by cases hb) (fun k hk => by simp only [Value.ownBlock, Option.some.injEq] at hk; exact .inr (by omega)) happ
      refine ⟨_, _, _, S, U, run_appendOp ?_, g', hs'⟩
      rw [hxv, hyv]
      exact hr'
    | some ax =>
      have hr' := run_append_grow (P := P) w t ty e i z ht hi hz ax n n cs (by rw [hs]; exact hr.1) (hcell' ax rfl) ad m c ds (by rw [hs]; exact hr2.1) (hcell2 ad rfl) (by omega) (by simp only [maxLen] at h63; omega) (growslice_fits (by omega) (by rw [hby]; exact hb))
      have hC := grownCap_ge w (n + m) n e
      have hCm := grownCap_le_maxLen w (n + m) n e h63
      obtain ⟨r1, r2⟩ := row_new w e sz z hzs cs ds n m (grownCap w (n + m) n e) hr.1 hr2.1 hC hCm none
      obtain ⟨g', hs'⟩ := g.row [] l2 hh.1 (fun k hk => by cases hk) r1 r2 (fun b hb => by cases hb) (fun k hk => by simp only [Value.ownBlock, Option.some.injEq] at hk; exact .inr (by omega)) (rowOk_app hr hr2 hel)
      refine ⟨_, _, _, S, U, run_appendOp ?_, g', hs'⟩
      rw [hxv, hyv]
      exact hr'
end Go.Proofs.Ytioenfjcbikbcaa.Q

namespace Go.Proofs.Ytioenfjcbikbcaa.Q
open Go Go.RowKit
set_option linter.unusedVariables false
set_option linter.unusedSimpArgs false

variable {P : Program} {bs : Base}

/-! ### Binary operations on values -/

theorem eqGuard_plain {op : BinOp} {t : TypeId} {x y : Operand} {a b : Value} {w : World} (h : (∀ c, a ≠ .agg c) ∨ (∀ c, b ≠ .agg c)) (h' : a ≠ .nilIface ∨ b ≠ .nilIface) : (eqGuard op t x y a b).run P w = .ok () w := by
  unfold eqGuard
  split
  · cases a <;> cases b <;> first | rfl | (simp at h; done) | (simp at h'; done)
  · cases a <;> cases b <;> first | rfl | (simp at h; done) | (simp at h'; done)
  · rfl

theorem equal_of {t : TypeId} {a b : Value} {r : Bool} {w : World} (h : ∀ n, (Op.equalIn (n + 1) t a b).run P w = .ok r w) : (Op.equal t a b).run P w = .ok r w := h 9999
theorem eql_of {t : TypeId} {a b : Value} {r : Bool} {w : World} (h : ∀ n, (Op.equalIn (n + 1) t a b).run P w = .ok r w) : (do pure (.bool (← Op.equal t a b)) : Sem Value).run P w = .ok (.bool r) w := by
  simp only [Sem.run_bind, equal_of h, Result.andThen_ok, Sem.run_pure]
theorem neq_of {t : TypeId} {a b : Value} {r : Bool} {w : World} (h : ∀ n, (Op.equalIn (n + 1) t a b).run P w = .ok r w) : (do pure (.bool (!(← Op.equal t a b))) : Sem Value).run P w = .ok (.bool (!r)) w := by
  simp only [Sem.run_bind, equal_of h, Result.andThen_ok, Sem.run_pure]
theorem eqIn_slice {t e : TypeId} {ao bo : Option Addr} {n m c d k : Nat} {w : World} (ht : P.underlying t = some (.slice e)) (h : bo = none) : (Op.equalIn (k + 1) t (.slice ao n c) (.slice bo m d)).run P w = .ok ao.isNone w := by
  subst h
  simp only [Op.equalIn, Sem.run_bind, run_underlying' ht, Result.andThen_ok]
  cases ao <;> rfl
theorem eqIn_ptr {t e : TypeId} {ao bo : Option Addr} {k : Nat} {w : World} (ht : P.underlying t = some (.pointer e)) (h : bo = none) : (Op.equalIn (k + 1) t (.pointer ao) (.pointer bo)).run P w = .ok ao.isNone w := by
  subst h
  simp only [Op.equalIn, Sem.run_bind, run_underlying' ht, Result.andThen_ok]
  cases ao <;> rfl
theorem eqIn_bool {t : TypeId} {a b : Bool} {k : Nat} {w : World} (ht : P.underlying t = some .bool) : (Op.equalIn (k + 1) t (.bool a) (.bool b)).run P w = .ok (a == b) w := by
  simp only [Op.equalIn, Sem.run_bind, run_underlying' ht, Result.andThen_ok]
  rfl

theorem bin_of {op : BinOp} {t : TypeId} {a b v : Value} (h : (∀ c, a ≠ .agg c) ∨ (∀ c, b ≠ .agg c)) (h' : a ≠ .nilIface ∨ b ≠ .nilIface) (hr : ∀ w, (binOp op t a b).run P w = .ok v w) : BinR P op t a b v := fun w x y => by
  simp only [Sem.run_bind, eqGuard_plain h h', Result.andThen_ok, hr]

theorem b_add {k : IntKind} {t : TypeId} {a b c : Int} (h : k.wrap (a + b) = c) : BinR P .add t (.int k a) (.int k b) (.int k c) := bin_of (.inl fun _ => by simp) (.inl (by simp)) fun w => by simp [binOp, Op.intArith, h]
theorem b_sub {k : IntKind} {t : TypeId} {a b c : Int} (h : k.wrap (a - b) = c) : BinR P .sub t (.int k a) (.int k b) (.int k c) := bin_of (.inl fun _ => by simp) (.inl (by simp)) fun w => by simp [binOp, Op.intArith, h]
theorem b_mul {k : IntKind} {t : TypeId} {a b c : Int} (h : k.wrap (a * b) = c) : BinR P .mul t (.int k a) (.int k b) (.int k c) := bin_of (.inl fun _ => by simp) (.inl (by simp)) fun w => by simp [binOp, Op.intArith, h]
theorem b_quo {k : IntKind} {t : TypeId} {a b c : Int} (h0 : b ≠ 0) (h : k.wrap (a.tdiv b) = c) : BinR P .quo t (.int k a) (.int k b) (.int k c) := bin_of (.inl fun _ => by simp) (.inl (by simp)) fun w => by simp [binOp, Op.intDiv, h, h0]
theorem b_rem {k : IntKind} {t : TypeId} {a b c : Int} (h0 : b ≠ 0) (h : a.tmod b = c) : BinR P .rem t (.int k a) (.int k b) (.int k c) := bin_of (.inl fun _ => by simp) (.inl (by simp)) fun w => by simp [binOp, Op.intDiv, h, h0]
theorem b_shl {k k' : IntKind} {t : TypeId} {a b c : Int} {n : Nat} (hb : b = n) (hn : n ≤ k.bits) (h : k.wrap (a * 2 ^ n) = c) : BinR P .shl t (.int k a) (.int k' b) (.int k c) := bin_of (.inl fun _ => by simp) (.inl (by simp)) fun w => by
  subst hb
  simp [binOp, Op.shift, h, show ¬ ((n : Int) < 0) by omega, Nat.min_eq_left hn]
theorem b_shr {k k' : IntKind} {t : TypeId} {a b c : Int} {n : Nat} (hb : b = n) (hn : n ≤ k.bits) (h : a.fdiv (2 ^ n) = c) : BinR P .shr t (.int k a) (.int k' b) (.int k c) := bin_of (.inl fun _ => by simp) (.inl (by simp)) fun w => by
  subst hb
  simp [binOp, Op.shift, h, show ¬ ((n : Int) < 0) by omega, Nat.min_eq_left hn]
theorem b_lss {k : IntKind} {t : TypeId} {a b : Int} : BinR P .lss t (.int k a) (.int k b) (.bool (decide (a < b))) := bin_of (.inl fun _ => by simp) (.inl (by simp)) fun w => by simp [binOp, Op.intCmp]
theorem b_leq {k : IntKind} {t : TypeId} {a b : Int} : BinR P .leq t (.int k a) (.int k b) (.bool (decide (a ≤ b))) := bin_of (.inl fun _ => by simp) (.inl (by simp)) fun w => by simp [binOp, Op.intCmp]
theorem b_gtr {k : IntKind} {t : TypeId} {a b : Int} : BinR P .gtr t (.int k a) (.int k b) (.bool (decide (a > b))) := bin_of (.inl fun _ => by simp) (.inl (by simp)) fun w => by simp [binOp, Op.intCmp]
theorem b_geq {k : IntKind} {t : TypeId} {a b : Int} : BinR P .geq t (.int k a) (.int k b) (.bool (decide (a ≥ b))) := bin_of (.inl fun _ => by simp) (.inl (by simp)) fun w => by simp [binOp, Op.intCmp]
theorem b_eql {k : IntKind} {t : TypeId} {a b : Int} : BinR P .eql t (.int k a) (.int k b) (.bool (decide (a = b))) := bin_of (.inl fun _ => by simp) (.inl (by simp)) fun w => by
  have : (a == b) = decide (a = b) := by by_cases h : a = b <;> simp [h]
  simp [binOp, Op.intCmp, this]
theorem b_neq {k : IntKind} {t : TypeId} {a b : Int} : BinR P .neq t (.int k a) (.int k b) (.bool (decide (a ≠ b))) := bin_of (.inl fun _ => by simp) (.inl (by simp)) fun w => by
  have : (a != b) = decide (a ≠ b) := by by_cases h : a = b <;> simp [h]
  simp [binOp, Op.intCmp, this]

/-- A string as a list of bytes. -/
def strV (l : List UInt8) : Value := .string ⟨l.toArray⟩
theorem strV_list (l : List UInt8) : (⟨l.toArray⟩ : ByteArray).toList = l := by simp
theorem strV_eta (s : ByteArray) : Value.string s = strV s.data.toList := rfl
theorem b_eqlS {t : TypeId} {a b : List UInt8} : BinR P .eql t (strV a) (strV b) (.bool (decide (a = b))) := bin_of (.inl fun _ => by simp [strV]) (.inl (by simp [strV])) fun w => by
  have : (a == b) = decide (a = b) := by by_cases h : a = b <;> simp [h]
  simp [strV, binOp, Op.stringOp, this]
theorem b_neqS {t : TypeId} {a b : List UInt8} : BinR P .neq t (strV a) (strV b) (.bool (decide (a ≠ b))) := bin_of (.inl fun _ => by simp [strV]) (.inl (by simp [strV])) fun w => by
  have : (a == b) = decide (a = b) := by by_cases h : a = b <;> simp [h]
  simp [strV, binOp, Op.stringOp, this]
theorem b_eqlB {t : TypeId} {a b : Bool} (ht : P.underlying t = some .bool) : BinR P .eql t (.bool a) (.bool b) (.bool (decide (a = b))) := bin_of (.inl fun _ => by simp) (.inl (by simp)) fun w => by
  have : (a == b) = decide (a = b) := by cases a <;> cases b <;> rfl
  rw [← this]
  exact eql_of fun n => eqIn_bool ht
theorem b_neqB {t : TypeId} {a b : Bool} (ht : P.underlying t = some .bool) : BinR P .neq t (.bool a) (.bool b) (.bool (decide (a ≠ b))) := bin_of (.inl fun _ => by simp) (.inl (by simp)) fun w => by
  have : (!(a == b)) = decide (a ≠ b) := by cases a <;> cases b <;> rfl
  rw [← this]
  exact neq_of fun n => eqIn_bool ht

theorem b_eqlNilS {t e : TypeId} (ht : P.underlying t = some (.slice e)) : BinR P .eql t (.slice none 0 0) (.slice none 0 0) (.bool true) := bin_of (.inl fun _ => by simp) (.inl (by simp)) fun w => by
  exact eql_of fun n => eqIn_slice ht rfl
theorem b_neqNilS {t e : TypeId} (ht : P.underlying t = some (.slice e)) : BinR P .neq t (.slice none 0 0) (.slice none 0 0) (.bool false) := bin_of (.inl fun _ => by simp) (.inl (by simp)) fun w => by
  exact neq_of fun n => eqIn_slice ht rfl
theorem b_eqlNilP {t e : TypeId} (ht : P.underlying t = some (.pointer e)) : BinR P .eql t (.pointer none) (.pointer none) (.bool true) := bin_of (.inl fun _ => by simp) (.inl (by simp)) fun w => by
  exact eql_of fun n => eqIn_ptr ht rfl
theorem b_neqNilP {t e : TypeId} (ht : P.underlying t = some (.pointer e)) : BinR P .neq t (.pointer none) (.pointer none) (.bool false) := bin_of (.inl fun _ => by simp) (.inl (by simp)) fun w => by
  exact neq_of fun n => eqIn_ptr ht rfl

theorem u_not {b : Bool} : UnR P .not (.bool b) (.bool (!b)) := fun w => by simp [Op.unary]
theorem u_neg {k : IntKind} {a c : Int} (h : k.wrap (0 - a) = c) : UnR P .neg (.int k a) (.int k c) := fun w => by simp only [Op.unary, Op.intArith, h]; rfl

theorem c_int {s d : TypeId} {ds : TypeDesc} {k k' : IntKind} {a c : Int} (hs : P.underlying s = some ds) (hd : P.underlying d = some (.int k)) (h : k.wrap a = c) : ConvR P s d (.int k' a) (.int k c) := fun w => by
  simp only [convert, Sem.run_bind, run_underlying' hs, run_underlying' hd, Result.andThen_ok]
  cases ds <;> simp [Conv.intToInt, h]
theorem c_str {s d : TypeId} {l : List UInt8} (hs : P.underlying s = some .string) (hd : P.underlying d = some .string) : ConvR P s d (strV l) (strV l) := fun w => by
  simp only [convert, Sem.run_bind, run_underlying' hs, run_underlying' hd, Result.andThen_ok, strV]
  rfl

/-! ### Nil or not -/

/-- Slices that are not nil. -/
def someSl : SV → Prop
  | .d (.sl _ nn _ n _) => nn = true ∨ 0 < n
  | .cl _ nn _ n _ => nn = true ∨ 0 < n
  | .own _ _ _ n => 0 < n
  | _ => False

theorem someSl_spec {B : Bk} {S U : Nat → Prop} {w : World} : ∀ {s : SV} {v : Value}, someSl s → svOk B S U w s v → ∃ a n c, v = .slice (some a) n c := by
  have key : ∀ {tag nn : Bool} {sz n : Nat} {el : Nat → Nat → DV} {v : Value}, (nn = true ∨ 0 < n) → dOk S U w (.sl tag nn sz n el) v → ∃ a n c, v = .slice (some a) n c := by
    intro tag nn sz n el v h hv
    obtain ⟨ao, cap, hv, h1, h2, h3, h4⟩ := hv
    cases ao with
    | some a => exact ⟨a, n, cap, hv⟩
    | none =>
      rcases h with h | h
      · exact absurd rfl (h3 h)
      · have := h2 rfl; omega
  intro s v h hv
  match s, h with
  | .d (.sl tag nn sz n el), h => exact key h hv
  | .cl tag nn sz n el, h => exact key h hv.1
  | .own l sz off n, h =>
    have h : 0 < n := h
    rcases hv with ⟨_, _, h0, _⟩ | ⟨b, κ, o, cap, _, hv, _⟩
    · omega
    · exact ⟨_, _, _, hv⟩

theorem r_eqNil {d : Nat} {x y : Operand} {s : SV} {t e yt ty : TypeId} {pos : String} {af : Array Edge} {gd : Option (Nat × Bool)} (ht : P.underlying t = some (.slice e)) (hs : someSl s) (hN : d < bs.N) (hc : cOk [(x, sv s), (y, dv (.slice none 0 0))]) : ORule P bs ⟨some d, .binOp .eql t x y yt, ty, pos, af, gd⟩ ⟨rtOf [(x, sv s), (y, dv (.slice none 0 0))], [], [(d, dv (.bool false))], []⟩ :=
  .val rfl hN hc fun B S U s' a w g _ he => by
    obtain ⟨ad, n, c, hv⟩ := someSl_spec hs he.1
    have hy : a.eval y = .slice none 0 0 := he.2.1
    refine ⟨.bool false, ?_, rfl⟩
    have hb : (binOp .eql t (.slice (some ad) n c) (.slice none 0 0)).run P w = .ok (.bool false) w := eql_of (r := false) fun n => eqIn_slice ht rfl
    have hg : (eqGuard .eql t x y (.slice (some ad) n c) (.slice none 0 0)).run P w = .ok () w := eqGuard_plain (.inl fun _ => by simp) (.inl (by simp))
    simp only [execOp, hv, hy, Sem.run_bind, hg, Result.andThen_ok, hb]
    rfl
theorem r_neNil {d : Nat} {x y : Operand} {s : SV} {t e yt ty : TypeId} {pos : String} {af : Array Edge} {gd : Option (Nat × Bool)} (ht : P.underlying t = some (.slice e)) (hs : someSl s) (hN : d < bs.N) (hc : cOk [(x, sv s), (y, dv (.slice none 0 0))]) : ORule P bs ⟨some d, .binOp .neq t x y yt, ty, pos, af, gd⟩ ⟨rtOf [(x, sv s), (y, dv (.slice none 0 0))], [], [(d, dv (.bool true))], []⟩ :=
  .val rfl hN hc fun B S U s' a w g _ he => by
    obtain ⟨ad, n, c, hv⟩ := someSl_spec hs he.1
    have hy : a.eval y = .slice none 0 0 := he.2.1
    refine ⟨.bool true, ?_, rfl⟩
    have hb : (binOp .neq t (.slice (some ad) n c) (.slice none 0 0)).run P w = .ok (.bool true) w := neq_of (r := false) fun n => eqIn_slice ht rfl
    have hg : (eqGuard .neq t x y (.slice (some ad) n c) (.slice none 0 0)).run P w = .ok () w := eqGuard_plain (.inl fun _ => by simp) (.inl (by simp))
    simp only [execOp, hv, hy, Sem.run_bind, hg, Result.andThen_ok, hb]
    rfl

theorem r_eqNilP {d : Nat} {x y : Operand} {av : AV} {t e yt ty : TypeId} {pos : String} {af : Array Edge} {gd : Option (Nat × Bool)} (ht : P.underlying t = some (.pointer e)) (hp : isPtr av = true) (hN : d < bs.N) (hc : cOk [(x, av), (y, dv (.pointer none))]) : ORule P bs ⟨some d, .binOp .eql t x y yt, ty, pos, af, gd⟩ ⟨rtOf [(x, av), (y, dv (.pointer none))], [], [(d, dv (.bool false))], []⟩ :=
  .val rfl hN hc fun B S U s' a w g _ he => by
    obtain ⟨ad, hv⟩ := isPtr_spec hp he.1
    have hy : a.eval y = .pointer none := he.2.1
    refine ⟨.bool false, ?_, rfl⟩
    have hb : (binOp .eql t (.pointer (some ad)) (.pointer none)).run P w = .ok (.bool false) w := eql_of (r := false) fun n => eqIn_ptr ht rfl
    have hg : (eqGuard .eql t x y (.pointer (some ad)) (.pointer none)).run P w = .ok () w := eqGuard_plain (.inl fun _ => by simp) (.inl (by simp))
    simp only [execOp, hv, hy, Sem.run_bind, hg, Result.andThen_ok, hb]
    rfl
theorem r_neNilP {d : Nat} {x y : Operand} {av : AV} {t e yt ty : TypeId} {pos : String} {af : Array Edge} {gd : Option (Nat × Bool)} (ht : P.underlying t = some (.pointer e)) (hp : isPtr av = true) (hN : d < bs.N) (hc : cOk [(x, av), (y, dv (.pointer none))]) : ORule P bs ⟨some d, .binOp .neq t x y yt, ty, pos, af, gd⟩ ⟨rtOf [(x, av), (y, dv (.pointer none))], [], [(d, dv (.bool true))], []⟩ :=
  .val rfl hN hc fun B S U s' a w g _ he => by
    obtain ⟨ad, hv⟩ := isPtr_spec hp he.1
    have hy : a.eval y = .pointer none := he.2.1
    refine ⟨.bool true, ?_, rfl⟩
    have hb : (binOp .neq t (.pointer (some ad)) (.pointer none)).run P w = .ok (.bool true) w := neq_of (r := false) fun n => eqIn_ptr ht rfl
    have hg : (eqGuard .neq t x y (.pointer (some ad)) (.pointer none)).run P w = .ok () w := eqGuard_plain (.inl fun _ => by simp) (.inl (by simp))
    simp only [execOp, hv, hy, Sem.run_bind, hg, Result.andThen_ok, hb]
    rfl

/-! ### Turns of the state between operations -/

theorem T.turn {s s' : St} {c : Code} {Q : Exit → Act → World → Prop} (h : ∀ a w, Gs bs s a w → Gs bs s' a w) (ht : T P bs s' c Q) : T P bs s c Q := fun a w hG => ht a w (h a w hG)

/-- A slice of unknown making is nil or is not. -/
theorem T.nilOr {t : List AV} {h : List HS} {k : Nat} {tag : Bool} {sz n : Nat} {el : Nat → Nat → DV} {c : Code} {Q : Exit → Act → World → Prop} (hk : tget t k = sv (.d (.sl tag false sz n el)))
    (h1 : n = 0 → T P bs ⟨tset t k (dv (.slice none 0 0)), h⟩ c Q) (h2 : T P bs ⟨tset t k (sv (.d (.sl tag true sz n el))), h⟩ c Q) : T P bs ⟨t, h⟩ c Q := by
  intro a w hG
  obtain ⟨B, S, U, g⟩ := hG
  have hv := g.tm k
  rw [show tget (⟨t, h⟩ : St).t k = sv (.d (.sl tag false sz n el)) from hk] at hv
  obtain ⟨ao, cap, hv, e1, e2, _, e4⟩ := hv
  have put : ∀ av, avOk B S U w av (a.tmps.getD k undef) → G bs B S U ⟨tset t k av, h⟩ a w := by
    intro av hav
    refine { g with tm := fun j => ?_ }
    show avOk B S U w (tget (tset t k av) j) (a.tmps.getD j undef)
    rw [tget_tset]
    split
    · rename_i e; subst e; exact hav
    · exact g.tm j
  cases ao with
  | none =>
    have hc0 : cap = 0 := e2 rfl
    have hn0 : n = 0 := by omega
    refine h1 hn0 a w ⟨B, S, U, put _ ?_⟩
    rw [hv, hn0, hc0]
    exact (rfl : Value.slice none 0 0 = _)
  | some ad =>
    refine h2 a w ⟨B, S, U, put _ ?_⟩
    exact ⟨some ad, cap, hv, e1, e2, fun _ => by simp, e4⟩

/-- What an object's slice is once its object is shared. -/
def frS (l sz n : Nat) (el : Nat → Nat → DV) (x y : SV) : Prop := x = y ∨
  match x, y with
  | .own l' sz0 off m, .d (.sl tag nn sz' m' el') => l' = l ∧ sz0 = sz ∧ tag = false ∧ (nn = true → 0 < m) ∧ sz' = sz ∧ m' = m ∧ off + m ≤ n ∧ ∀ i j, i < m → el' i j = el (off + i) j
  | _, _ => False
def frT (l sz n : Nat) (el : Nat → Nat → DV) : TV → TV → Prop
  | .one x, .one y => frS l sz n el x y
  | .agg a, .agg b => all2 (frS l sz n el) a b
  | _, _ => False
def frA (l sz n : Nat) (el : Nat → Nat → DV) (x y : AV) : Prop := x = y ∨
  match x, y with
  | .tv a, .tv b => frT l sz n el a b
  | .tup a, .tup b => all2 (frT l sz n el) a b
  | _, _ => False
def frO (l sz n : Nat) (el : Nat → Nat → DV) (x y : HS) : Prop := x = y ∨
  match x, y with
  | .live (.box T a), .live (.box T' b) => T' = T ∧ all2 (frS l sz n el) a b
  | _, _ => False
def frH (l sz n : Nat) (el : Nat → Nat → DV) : Nat → List HS → List HS → Prop
  | _, [], [] => True
  | i, x :: r, y :: r' => (i = l ∧ y = .dead ∨ i ≠ l ∧ frO l sz n el x y) ∧ frH l sz n el (i + 1) r r'
  | _, _, _ => False

theorem all2_trans {α β γ : Type} {R : α → β → Prop} {R1 : α → γ → Prop} {R2 : β → γ → Prop} (h : ∀ a b c, R a b → R1 a c → R2 b c) : ∀ {l : List α} {k : List β} {m : List γ}, all2 R l k → all2 R1 l m → all2 R2 k m
  | [], [], [], _, _ => trivial
  | _ :: _, _ :: _, _ :: _, h1, h2 => ⟨h _ _ _ h1.1 h2.1, all2_trans h h1.2 h2.2⟩
  | [], _ :: _, _, h1, _ => h1.elim
  | _ :: _, [], _, h1, _ => h1.elim
  | [], [], _ :: _, _, h2 => h2.elim
  | _ :: _, _ :: _, [], _, h2 => h2.elim


theorem tget_all2 {R : AV → AV → Prop} (h0 : R .any .any) : ∀ {l k : List AV}, all2 R l k → ∀ i, R (tget l i) (tget k i)
  | [], [], _, _ => h0
  | _ :: _, _ :: _, h, 0 => h.1
  | _ :: _, _ :: _, h, i + 1 => tget_all2 h0 h.2 i
  | [], _ :: _, h, _ => h.elim
  | _ :: _, [], h, _ => h.elim

theorem frH_get {l sz n : Nat} {el : Nat → Nat → DV} : ∀ {a b : List HS} {i : Nat}, frH l sz n el i a b → ∀ k, (i + k = l ∧ k < b.length → hget b k = .dead) ∧ (i + k ≠ l → frO l sz n el (hget a k) (hget b k))
  | [], [], _, _, k => ⟨fun h => absurd h.2 (Nat.not_lt_zero _), fun _ => .inl rfl⟩
  | x :: a, y :: b, i, h, 0 => ⟨fun e => by rcases h.1 with h | h; exact h.2; exact absurd e.1 h.1, fun e => by rcases h.1 with h | h; exact absurd h.1 e; exact h.2⟩
  | x :: a, y :: b, i, h, k + 1 => by
    have := frH_get h.2 k
    rw [show i + (k + 1) = i + 1 + k from by omega]
    exact ⟨fun e => this.1 ⟨e.1, by simpa using e.2⟩, this.2⟩
  | [], _ :: _, _, h, _ => h.elim
  | _ :: _, [], _, h, _ => h.elim
theorem frH_len {l sz n : Nat} {el : Nat → Nat → DV} : ∀ {a b : List HS} {i : Nat}, frH l sz n el i a b → a.length = b.length
  | [], [], _, _ => rfl
  | _ :: a, _ :: b, i, h => by simp only [List.length_cons]; rw [frH_len h.2]
  | [], _ :: _, _, h => h.elim
  | _ :: _, [], _, h => h.elim

theorem all2_fr {α β : Type} {F : α → α → Prop} {R R' : α → β → Prop} (h : ∀ x y v, F x y → R x v → R' y v) : ∀ {a b : List α} {c : List β}, all2 F a b → all2 R a c → all2 R' b c
  | [], [], [], _, _ => trivial
  | _ :: _, _ :: _, _ :: _, h1, h2 => ⟨h _ _ _ h1.1 h2.1, all2_fr h h1.2 h2.2⟩
  | [], _ :: _, _, h1, _ => h1.elim
  | _ :: _, [], _, h1, _ => h1.elim
  | [], [], _ :: _, _, h2 => h2.elim
  | _ :: _, _ :: _, [], _, h2 => h2.elim

/-- An object's slice is shared from now on. -/
theorem Gs.freeze {s s' : St} {a : Act} {w : World} (l : Nat) {Ty sz n : Nat} {el : Nat → Nat → DV} (hl : hget s.h l = .live (.arr Ty sz n el)) (ht : all2 (frA l sz n el) s.t s'.t) (hh : frH l sz n el 0 s.h s'.h) (hG : Gs bs s a w) : Gs bs s' a w := by
  obtain ⟨B, S, U, g⟩ := hG
  have hob := g.ob l _ hl
  let F : Nat → Prop := fun b => ∃ κ, B l = some (some (b, κ))
  have hsv : ∀ x y v, frS l sz n el x y → svOk B S U w x v → svOk B (fun b => S b ∨ F b) (fun b => U b ∨ F b) w y v := by
    intro x y v h hv
    have mono := svOk_mono (B := B) (B' := B) (S := S) (S' := fun b => S b ∨ F b) (U := U) (U' := fun b => U b ∨ F b) (w := w) (w' := w) (fun _ _ h => h) (fun _ h => .inl h) (fun _ h => .inl h) (Pres.refl _ _)
    rcases h with rfl | h
    · exact mono _ _ hv
    · match x, y, h with
      | .own l' sz0 off m, .d (.sl tag nn sz' m' el'), ⟨h1, h2, h3, h4, h5, h6, h7, h8⟩ =>
        subst h1
        subst h2
        subst h3
        subst h5
        subst h6
        rcases hv with ⟨_, _, hn0, hv⟩ | ⟨b, κ, o, cap, hb, hv, hcap, hle, ho⟩
        · subst hn0
          exact ⟨none, 0, hv, Nat.le_refl _, fun _ => rfl, fun h => absurd (h4 h) (Nat.lt_irrefl 0), fun i hi => absurd hi (Nat.not_lt_zero _)⟩
        · refine ⟨some ⟨b, o, none⟩, cap, hv, hle, by simp, by simp, fun i hi => ⟨⟨b, o, none⟩, rfl, rfl, .inr ⟨κ, hb⟩, fun j hj => ?_⟩⟩
          rcases hob with ⟨hob, _⟩ | ⟨b', κ', cur, hb', hcur, hsz, hnk, hkm', hel⟩
          · rw [hb] at hob; cases hob
          · rw [hb] at hb'
            cases hb'
            obtain ⟨u, hu, hd⟩ := hel (off + i) (by omega) j hj
            refine ⟨u, cell_of_block hcur ?_, ?_⟩
            · rw [ho (.inl (by omega)), ← Nat.add_assoc, ← Nat.add_mul]
              exact hu
            · rw [h8 i j hi]
              exact dOk_mono (fun _ h => .inl h) (fun _ h => .inl h) (Pres.refl _ _) _ _ hd
  have htv : ∀ x y v, frT l sz n el x y → tvOk B S U w x v → tvOk B (fun b => S b ∨ F b) (fun b => U b ∨ F b) w y v := by
    intro x y v h hv
    match x, y, h with
    | .one x, .one y, h => exact hsv x y v h hv
    | .agg x, .agg y, h =>
      obtain ⟨cs, h1, h2⟩ := hv
      exact ⟨cs, h1, all2_fr hsv h h2⟩
  have hav : ∀ x y v, frA l sz n el x y → avOk B S U w x v → avOk B (fun b => S b ∨ F b) (fun b => U b ∨ F b) w y v := by
    intro x y v h hv
    rcases h with rfl | h
    · exact avOk_mono (fun _ _ h => h) (fun _ h => .inl h) (fun _ h => .inl h) (Pres.refl _ _) _ _ hv
    · match x, y, h with
      | .tv x, .tv y, h => exact htv x y v h hv
      | .tup x, .tup y, h =>
        obtain ⟨cs, h1, h2⟩ := hv
        exact ⟨cs, h1, all2_fr htv h h2⟩
  have hFlive : ∀ b, F b → (bs.C b ∨ bs.w0.heap.size ≤ b) ∧ b < w.heap.size := fun b ⟨κ, hb⟩ => ⟨g.cf l _ (b, κ) hl hb, obOk_lt hob hb⟩
  have hlen := frH_len hh
  have hlt : l < s.h.length := hget_lt hl
  have hdead : hget s'.h l = .dead := ((frH_get hh l).1 ⟨by omega, by omega⟩)
  have hfo : ∀ k, k ≠ l → frO l sz n el (hget s.h k) (hget s'.h k) := fun k hk => (frH_get hh k).2 (by omega)
  have hlv : ∀ k o', hget s'.h k = .live o' → k ≠ l ∧ ∃ o, hget s.h k = .live o ∧ (obOk B S U w k o → obOk B (fun b => S b ∨ F b) (fun b => U b ∨ F b) w k o') := by
    intro k o' ho'
    have hk : k ≠ l := fun e => by rw [e, hdead] at ho'; cases ho'
    refine ⟨hk, ?_⟩
    rcases hfo k hk with h | h
    · exact ⟨o', by rw [h]; exact ho', obOk_mono (fun _ _ h => h) (fun _ h => .inl h) (fun _ h => .inl h) (Pres.refl _ _) fun _ _ => rfl⟩
    · rw [ho'] at h
      match hs : hget s.h k, o', h with
      | .live (.box T x), .box T' y, h =>
        obtain ⟨rfl, h⟩ := h
        exact ⟨_, rfl, fun ⟨b, κ, cur, h1, h2, h3⟩ => ⟨b, κ, cur, h1, h2, all2_fr hsv h h3⟩⟩
  have hFuf : ∀ b, F b → ∃ c T, w.heap[b]? = some (.cells c T (0, 0)) := fun b ⟨κ, hb⟩ => by rcases hob with ⟨h, _⟩ | ⟨b', κ', cur, h1, h2, _⟩; (rw [hb] at h; cases h); (rw [hb] at h1; cases h1; exact ⟨cur, _, h2⟩)
  refine ⟨B, fun b => S b ∨ F b, fun b => U b ∨ F b, { df := g.df, sz := g.sz, tm := fun k => hav _ _ _ (tget_all2 (.inl rfl) ht k) (g.tm k), ob := fun k o' e => ?_, nj := fun k k' o o' e e' hne p p' hp hp' => ?_, sp := fun k o' p e hp => ?_, cf := fun k o' p e hp => ?_, fr := fun k e => ?_, su := fun b h => h.imp (g.su b) id, ub := fun b h => h.elim (g.ub b) fun h => (hFlive b h).2, s0 := fun b h => .inl (g.s0 b h), u0 := fun b h => .inl (g.u0 b h), sn := fun b h => h.elim (g.sn b) fun h => .inr (hFlive b h).1, un := fun b h => h.elim (g.un b) fun h => .inr (hFlive b h).1, ps := g.ps, hs := g.hs, os := g.os, tp := g.tp, op := g.op, bl := g.bl, bk := g.bk, uf := fun b h hn => h.elim (fun h => g.uf b h fun q => hn q) (fun h => hFuf b h) }⟩
  · obtain ⟨hk, o, ho, f⟩ := hlv k o' e
    exact f (g.ob k o ho)
  · obtain ⟨_, o1, ho1, _⟩ := hlv k o e
    obtain ⟨_, o2, ho2, _⟩ := hlv k' o' e'
    exact g.nj k k' o1 o2 ho1 ho2 hne p p' hp hp'
  · obtain ⟨hk, o, ho, _⟩ := hlv k o' e
    rintro (h | ⟨κ, h⟩)
    · exact g.sp k o p ho hp h
    · exact g.nj k l o _ ho hl hk p (p.1, κ) hp h rfl
  · obtain ⟨hk, o, ho, _⟩ := hlv k o' e
    exact g.cf k o p ho hp
  · have hk : k ≠ l := fun h => by rw [h, hdead] at e; cases e
    rcases hfo k hk with h | h
    · exact g.fr k (by rw [h]; exact e)
    · rw [e] at h
      match hs : hget s.h k, h with
      | .live (.box _ _), h => exact h.elim
end Go.Proofs.Ytioenfjcbikbcaa.Q

namespace Go.Proofs.Ytioenfjcbikbcaa.Q
open Go Go.RowKit
set_option linter.unusedVariables false
set_option linter.unusedSimpArgs false

variable {P : Program} {bs : Base}

def kU8 : Kd UInt8 := ⟨1, fun b _ => .val (.int .u8 b.toNat), 0⟩

/-! ### Bytes and strings -/

theorem bytesWorld_rest (w : World) (e : TypeId) (s : ByteArray) : (Lib.bytesWorld w e s).os = w.os ∧ (Lib.bytesWorld w e s).tape = w.tape ∧ (Lib.bytesWorld w e s).output = w.output := by
  simp [Lib.bytesWorld, World.freeze, World.alloc, World.drew, -World.alloc_eq, -World.drew_eq]


theorem bytes_cells {S U : Nat → Prop} {w : World} {xs : List UInt8} {cs : List Value} (h : rowOk S U w 1 xs.length (elOf kU8 xs) cs) : cs = xs.map fun b => Value.int .u8 b.toNat := by
  obtain ⟨h1, h2⟩ := h
  apply List.ext_getElem? 
  intro i
  by_cases hi : i < xs.length
  · obtain ⟨u, hu, hd⟩ := h2 i hi 0 (by omega)
    have hd' : u = .int .u8 (xs.getD i 0).toNat := hd
    rw [Nat.mul_one, Nat.add_zero] at hu
    rw [hu, hd']
    simp [List.getElem?_eq_getElem hi]
  · rw [List.getElem?_eq_none (by omega), List.getElem?_eq_none (by simp; omega)]

/-- 'string(b)'. -/
theorem r_strOf {d : Nat} {x : Operand} {ys : SV} {rhs : List (Nat × HS)} {xs : List UInt8} {src dst e ty : TypeId} {pos : String} {af : Array Edge} {gd : Option (Nat × Bool)} (hs : P.underlying src = some (.slice e)) (he' : P.underlying e = some (.int .u8)) (hd : P.underlying dst = some .string) (hy : srcLike rhs 1 xs.length (elOf kU8 xs) ys) (hN : d < bs.N) (hc : cOk [(x, sv ys)]) :
    ORule P bs ⟨some d, .convert src dst x, ty, pos, af, gd⟩ ⟨rtOf [(x, sv ys)], rhs, [(d, dv (strV xs))], []⟩ :=
  .val rfl hN hc fun B S U s a w g hh he => by
    obtain ⟨ao, c, cs, hv, hr, hnone, hcell⟩ := src_cells g hh hy he.1
    have hcs := bytes_cells hr
    refine ⟨strV xs, ?_, rfl⟩
    have hv' : a.eval x = .slice ao xs.length c := hv
    have hconv := run_convert_bytes_string (P := P) w src dst e ao xs.length c hs he' hd
    have hb : (Conv.bytesToString (.slice ao xs.length c)).run P w = .ok (strV xs) w := by
      cases ao with
      | none =>
        have : xs = [] := List.eq_nil_of_length_eq_zero (hnone rfl).1
        subst this
        rfl
      | some ad =>
        have hl := run_loadCells_list (P := P) w ad cs (hcell ad rfl)
        have hlen : cs.length = xs.length := by have := hr.1; omega
        rw [hlen, hcs] at hl
        have hmm : xs.map (fun b => Value.int .u8 (b.toNat : Int)) = (xs.map fun b => (b.toNat : Int)).map (Value.int .u8) := by simp
        rw [hmm] at hl
        rw [run_bytesToString w ad xs.length c _ hl, foldl_push_bytes]
        have hid : ∀ ys : List UInt8, ((ys.map fun b => (b.toNat : Int)).map fun n => UInt8.ofNat n.toNat) = ys := by
          intro ys
          induction ys with
          | nil => rfl
          | cons b ys ih => simp only [List.map_cons, ih]; congr 1; simp
        rw [hid]
        have hemp : (ByteArray.empty.data ++ xs.toArray : Array UInt8) = xs.toArray := by
          show (#[] ++ xs.toArray : Array UInt8) = xs.toArray
          simp
        rw [hemp]
        rfl
    simp only [execOp, hv', Sem.run_bind, hconv, hb, Result.andThen_ok, Sem.run_pure]

/-- 's[i]', s a string. -/
theorem r_indexStr {d : Nat} {x y : Operand} {l : List UInt8} {k : IntKind} {i : Int} {m : Nat} {b : UInt8} {t ty : TypeId} {pos : String} {af : Array Edge} {gd : Option (Nat × Bool)} (ht : P.underlying t = some .string) (hi : i = m) (hm : m < l.length) (hb : l.getD m 0 = b) (hN : d < bs.N) (hc : cOk [(x, dv (strV l)), (y, dv (.int k i))]) :
    ORule P bs ⟨some d, .index t x y, ty, pos, af, gd⟩ ⟨rtOf [(x, dv (strV l)), (y, dv (.int k i))], [], [(d, dv (.int .u8 b.toNat))], []⟩ :=
  .val rfl hN hc fun B S U s a w g hh he => by
    have hx : a.eval x = strV l := he.1
    have hy : a.eval y = .int k i := he.2.1
    subst hi
    refine ⟨.int .u8 b.toNat, ?_, rfl⟩
    have hget : (⟨l.toArray⟩ : ByteArray)[m]? = some b := by
      have hsz : m < (⟨l.toArray⟩ : ByteArray).size := by simpa [ByteArray.size] using hm
      rw [getElem?_pos (⟨l.toArray⟩ : ByteArray) m hsz, ← hb]
      congr 1
      simp [List.getD_eq_getElem?_getD, List.getElem?_eq_getElem hm]
      rfl
    simp only [execOp, Instr.index, hx, hy, strV, Sem.run_bind, asIntOf, Sem.run_pure, Result.andThen_ok, run_underlying' ht]
    simp [hget]

/-- 's[lo:hi]', s a string. -/
theorem r_sliceStr {d l h : Nat} {x : Operand} {s0 : List UInt8} {lo hi : Option (Operand × Int)} {lo' hi' : Option Operand} {t ty : TypeId} {pos : String} {af : Array Edge} {gd : Option (Nat × Bool)} (ht : P.underlying t = some .string) (hlo' : lo' = lo.map (·.1)) (hhi' : hi' = hi.map (·.1)) (hl : match lo with | none => l = 0 | some p => p.2 = l) (hh : match hi with | none => h = s0.length | some p => p.2 = h) (hlh : l ≤ h) (hhn : h ≤ s0.length) {s1 : List UInt8} (hs1 : (s0.take h).drop l = s1) (hN : d < bs.N) (hc : cOk ((x, dv (strV s0)) :: (oOps lo ++ oOps hi))) :
    ORule P bs ⟨some d, .slice t x lo' hi' none, ty, pos, af, gd⟩ ⟨rtOf ((x, dv (strV s0)) :: (oOps lo ++ oOps hi)), [], [(d, dv (strV s1))], []⟩ :=
  .val rfl hN hc fun B S U s a w g _ he => by
    have hx : a.eval x = strV s0 := he.1
    obtain ⟨he1, he2⟩ := evs_append.1 he.2
    subst hlo'
    subst hhi'
    have hsz : (⟨s0.toArray⟩ : ByteArray).size = s0.length := by simp [ByteArray.size]
    have hb : boundsOk s0.length s0.length lo hi none l h s0.length := by
      refine ⟨rfl, ?_, ?_⟩
      · cases hi with
        | none => exact hh
        | some p => exact ⟨hh, by omega⟩
      · cases lo with
        | none => exact hl
        | some p => exact ⟨hl, hlh⟩
    have hmx := run_sliceBounds (P := P) (sl := false) (w := w) hb
    refine ⟨strV s1, ?_, rfl⟩
    have hex : (⟨s0.toArray⟩ : ByteArray).extract l h = ⟨s1.toArray⟩ := by
      rw [← hs1]
      apply ByteArray.ext
      simp [ByteArray.data_extract, List.take_drop]
      rw [show l + (h - l) = h by omega]
    simp only [execOp, Instr.sliceAt, Instr.slice, hx, strV, oOps_eval he1, oOps_eval he2, Sem.run_bind, Option.map_none, Option.isSome_none, Bool.false_eq_true, if_false, run_underlying' ht, Result.andThen_ok, hsz] at hmx ⊢
    rw [hmx]
    simp only [Result.andThen_ok, Sem.run_pure, hex]

/-! ### New arrays -/

def flat (n sz : Nat) (el : Nat → Nat → DV) : List SV := (List.range n).flatMap fun i => (List.range sz).map fun j => .d (el i j)

theorem flat_get {n sz : Nat} {el : Nat → Nat → DV} : ∀ i, i < n → ∀ j, j < sz → (flat n sz el)[i * sz + j]? = some (.d (el i j)) := by
  induction n with
  | zero => intro i hi; omega
  | succ n ih =>
    intro i hi j hj
    have hs : flat (n + 1) sz el = flat n sz el ++ ((List.range sz).map fun j => SV.d (el n j)) := by simp [flat, List.range_succ]
    have hlen : (flat n sz el).length = n * sz := by
      have : ∀ n, (flat n sz el).length = n * sz := by
        intro n
        induction n with
        | zero => simp [flat]
        | succ n ih =>
          have hs : flat (n + 1) sz el = flat n sz el ++ ((List.range sz).map fun j => SV.d (el n j)) := by simp [flat, List.range_succ]
          rw [hs, List.length_append, ih, Nat.add_mul]
          simp
      exact this n
    rw [hs]
    by_cases h : i < n
    · have hlt : i * sz + j < n * sz := by
        calc i * sz + j < i * sz + sz := by omega
          _ = (i + 1) * sz := by rw [Nat.add_mul, Nat.one_mul]
          _ ≤ n * sz := Nat.mul_le_mul_right _ h
      rw [List.getElem?_append_left (by omega)]
      exact ih i h j hj
    · have : i = n := by omega
      subst this
      rw [List.getElem?_append_right (by omega), hlen, show i * sz + j - i * sz = j by omega]
      simp [hj]

theorem r_buildSliceW {d l e sz len : Nat} {zs : List Value} {ps : List Part} {el : Nat → Nat → DV} {cs : List SV} {xs : Array (Nat × Operand)} {t ty : TypeId} {pos : String} {af : Array Edge} {gd : Option (Nat × Bool)} (ht : P.underlying t = some (.slice e)) {inf : TypeInfo} (hi : P.info? e = some inf) (hsz : inf.size = sz) (hz : Zero P e zs) (hzl : zs.length = sz) (hpos : 0 < sz) (hx : xs = (ps.map fun p => (p.i, p.x)).toArray) (hle : len * sz ≤ 16777216) (h63 : len ≤ maxLen)
    (hok : partsOk (fun i => some (i * sz, sz)) (len * sz) ps) (hcs : fillS ((List.range (len * sz)).map fun k => .d (.val (zs.getD (k % sz) undef))) (partsFill ps) = cs) (hwk : all2 wkS cs (flat len sz el)) (hN : d < bs.N) (hc : cOk (partsOps ps)) :
    ORule P bs ⟨some d, .buildSlice t len xs, ty, pos, af, gd⟩ ⟨rtOf (partsOps ps), [(l, .free)], [(d, sv (.own l sz 0 len))], [(l, .live (.arr e sz len el))]⟩ :=
  .heap rfl hN hc fun B S U s a w g hh he => by
    obtain ⟨i, z, h1, h2, h3⟩ := hz
    rw [hi] at h1
    cases h1
    subst hsz
    have hzsz : z.cells.size = inf.size := by rw [← hzl, ← h3]; simp
    let base : Array Value := (Array.range (len * inf.size)).map (z.cells[· % inf.size]!)
    have hbase : base = (Array.range (len * inf.size)).map (z.cells[· % z.cells.size]!) := by simp [base, hzsz]
    have hbsz : base.size = len * inf.size := by simp [base]
    have hb : all2 (svOk B S U w) ((List.range (len * inf.size)).map fun k => SV.d (.val (zs.getD (k % inf.size) undef))) base.toList := by
      refine all2_of_get (by simp [base]) fun k x v hx hv => ?_
      rw [List.getElem?_map] at hx
      have hk : k < len * inf.size := by
        have := (List.getElem?_eq_some_iff.1 hv).1
        simpa [base] using this
      rw [List.getElem?_range hk] at hx
      simp only [Option.map_some, Option.some.injEq] at hx
      subst hx
      have hmod : k % inf.size < z.cells.size := by rw [hzsz]; exact Nat.mod_lt _ hpos
      have hv' : v = z.cells[k % inf.size]! := by
        simp only [base, Array.toList_map, Array.toList_range, List.getElem?_map, List.getElem?_range hk, Option.map_some, Option.some.injEq] at hv
        exact hv.symm
      show v = zs.getD (k % inf.size) undef
      rw [hv', ← h3]
      simp [hmod]
    obtain ⟨out, ho, hall⟩ := fill_ok (fun i => some (i * inf.size, inf.size)) ps _ base he (by rw [hbsz]; exact hok) hb
    rw [hcs] at hall
    replace hall := all2_wk hwk hall
    have hosz : out.size = len * inf.size := by
      have := all2_len hall
      have hl : (flat len inf.size el).length = len * inf.size := by
        have : ∀ n, (flat n inf.size el).length = n * inf.size := by
          intro n
          induction n with
          | zero => simp [flat]
          | succ n ih =>
            have hs : flat (n + 1) inf.size el = flat n inf.size el ++ ((List.range inf.size).map fun j => SV.d (el n j)) := by simp [flat, List.range_succ]
            rw [hs, List.length_append, ih, Nat.add_mul]
            simp
        exact this len
      rw [hl] at this
      simpa using this.symm
    have hlf := hh.1
    have hm := svOk_alloc (B := B) (S := S) (U := U) (w := w) (l := l) (p := some (w.heap.size, len)) (o := .cells out e) (g.fr l hlf) fun b hb => hb.elim (fun h => g.ub b (g.su b h)) (g.ub b)
    refine ⟨.slice (some ⟨w.heap.size, 0, none⟩) len len, w.alloc (.cells out e), bset B l (some (w.heap.size, len)), S, U, ?_, g.alloc hlf _ _ len (.inr ⟨w.heap.size, len, out, by simp [bset], heap_alloc_new w _, hosz, Nat.le_refl _, h63, fun i hi j hj => ?_⟩), .inr ⟨w.heap.size, len, 0, len, by simp [bset], rfl, by omega, Nat.le_refl _, fun _ => by simp⟩⟩
    · subst hx
      have hps : (((ps.map fun p => (p.i, p.x)).toArray.map fun (q : Nat × Operand) => (q.1, a.eval q.2)).toList : List (Nat × Value)) = ps.map fun p => (p.i, a.eval p.x) := by simp
      have hn : ¬ (16777216 < len * inf.size) := by omega
      by_cases h0 : len * inf.size = 0
      · have hlen0 : len = 0 := by
          rcases Nat.mul_eq_zero.1 h0 with h | h
          · exact h
          · omega
        subst hlen0
        have hbe : base = #[] := by simp [base, Array.range_zero']
        rw [hbe] at ho
        simp only [execOp, Instr.buildSlice, Sem.run_bind, run_underlying' ht, Result.andThen_ok, run_sizeOf hi, hps]
        simp [ho, newRow, newObj, Sem.run, Array.range_zero']
      · simp only [execOp, Instr.buildSlice, Sem.run_bind, run_underlying' ht, Result.andThen_ok, run_sizeOf hi, hps]
        simp only [hbase] at ho
        simp [hn, h0, run_zeroValue hi h2, ho, newRow, newObj, Sem.run]
    · obtain ⟨u, hu, hd⟩ := all2_get hall (flat_get (n := len) (sz := inf.size) (el := el) i hi j hj)
      refine ⟨u, by simpa using hu, ?_⟩
      exact hm (.d (el i j)) u hd

/-- 'make([]T, n)'; 'make([]T, 0, n)': k elements are told. -/
theorem r_buildSlice {d l e sz len : Nat} {zs : List Value} {ps : List Part} {el : Nat → Nat → DV} {xs : Array (Nat × Operand)} {t ty : TypeId} {pos : String} {af : Array Edge} {gd : Option (Nat × Bool)} (ht : P.underlying t = some (.slice e)) {inf : TypeInfo} (hi : P.info? e = some inf) (hsz : inf.size = sz) (hz : Zero P e zs) (hzl : zs.length = sz) (hpos : 0 < sz) (hx : xs = (ps.map fun p => (p.i, p.x)).toArray) (hle : len * sz ≤ 16777216) (h63 : len ≤ maxLen)
    (hok : partsOk (fun i => some (i * sz, sz)) (len * sz) ps) (hcs : fillS ((List.range (len * sz)).map fun k => .d (.val (zs.getD (k % sz) undef))) (partsFill ps) = flat len sz el) (hN : d < bs.N) (hc : cOk (partsOps ps)) :
    ORule P bs ⟨some d, .buildSlice t len xs, ty, pos, af, gd⟩ ⟨rtOf (partsOps ps), [(l, .free)], [(d, sv (.own l sz 0 len))], [(l, .live (.arr e sz len el))]⟩ :=
  r_buildSliceW ht hi hsz hz hzl hpos hx hle h63 hok hcs (wk_refl _) hN hc

theorem r_make {d l e sz bytes k n : Nat} {zs : List Value} {el : Nat → Nat → DV} {x y : Operand} {p q : Int} {t ty : TypeId} {pos : String} {af : Array Edge} {gd : Option (Nat × Bool)} (hE : Elem P t e sz bytes) (hz : Zero P e zs) (hp : p = k) (hq : q = n) (hkn : k ≤ n) (hb : bytes * n ≤ 281474976710656) (h63 : n ≤ maxLen) (hel : ∀ i j, i < k → j < sz → el i j = .val (zs.getD j undef)) (hN : d < bs.N) (hc : cOk [(x, dv (.int .i64 p)), (y, dv (.int .i64 q))]) :
    ORule P bs ⟨some d, .makeSlice t x y, ty, pos, af, gd⟩ ⟨rtOf [(x, dv (.int .i64 p)), (y, dv (.int .i64 q))], [(l, .free)], [(d, sv (.own l sz 0 k))], [(l, .live (.arr e sz k el))]⟩ :=
  .heap rfl hN hc fun B S U s a w g hh he => by
    have hx : a.eval x = .int .i64 p := he.1
    have hy : a.eval y = .int .i64 q := he.2.1
    obtain ⟨ht, i, z, hi, hz1, hs, hby, hzs, hpos⟩ := hE
    obtain ⟨i', z', hi', hz2, hz3⟩ := hz
    rw [hi] at hi'
    cases hi'
    rw [hz1] at hz2
    cases hz2
    subst hp
    subst hq
    have hr := run_make (P := P) w t e i z ht hi hz1 .i64 .i64 (k : Int) (n : Int) (by omega) (by omega) (by rw [hby, ← Int.natCast_mul]; omega) (by simp only [maxLen] at h63; omega)
    have hlf := hh.1
    simp only [Int.toNat_natCast, hs] at hr
    refine ⟨.slice (some ⟨w.heap.size, 0, none⟩) k n, _, bset B l (some (w.heap.size, n)), S, U, ?_, g.alloc hlf _ _ n (.inr ⟨w.heap.size, n, madeCells z.cells (n * sz), by simp [bset], heap_alloc_new w _, by simp [madeCells], hkn, h63, fun i' hi' j hj => ?_⟩), .inr ⟨w.heap.size, n, 0, n, by simp [bset], rfl, by omega, hkn, fun _ => by simp⟩⟩
    · simp only [execOp, hx, hy, Sem.run_bind, hr, Result.andThen_ok, Sem.run_pure]
    · refine ⟨zs.getD j undef, ?_, ?_⟩
      · have hlt : i' * sz + j < n * sz := by
          calc i' * sz + j < i' * sz + sz := by omega
            _ = (i' + 1) * sz := by rw [Nat.add_mul, Nat.one_mul]
            _ ≤ n * sz := Nat.mul_le_mul_right _ (by omega)
        have hmod : (i' * sz + j) % z.cells.size = j := by rw [hzs, Nat.mul_comm, Nat.mul_add_mod, Nat.mod_eq_of_lt hj]
        have hjl : j < z.cells.size := by omega
        rw [← hz3]
        simp [madeCells, hlt, hmod, hjl]
      · rw [hel i' j hi' hj]
        exact rfl

/-! ### An object's elements -/

theorem r_indexO {d l sz off n : Nat} {k : IntKind} {i : Int} {m : Nat} {x y : Operand} {t e ty : TypeId} {pos : String} {af : Array Edge} {gd : Option (Nat × Bool)} {inf : TypeInfo} (ht : P.underlying t = some (.slice e)) (hi : P.info? e = some inf) (hsz : inf.size = sz) (hm : i = m) (h1 : m < n) {o' : Nat} (ho' : (off + m) * sz = o') (hN : d < bs.N) (hc : cOk [(x, sv (.own l sz off n)), (y, dv (.int k i))]) :
    ORule P bs ⟨some d, .indexAddr t x y, ty, pos, af, gd⟩ ⟨rtOf [(x, sv (.own l sz off n)), (y, dv (.int k i))], [], [(d, pv l o')], []⟩ :=
  .val rfl hN hc fun B S U s a w g _ he => by
    have hy : a.eval y = .int k i := he.2.1
    subst hm
    rcases he.1 with ⟨_, _, hn0, hv⟩ | ⟨b, κ, o, cap, hb, hv, hcap, hle, ho⟩
    · omega
    · refine ⟨.pointer (some ⟨b, o', none⟩), ?_, b, κ, hb, rfl⟩
      have h0 : (0 : Int) ≤ m := by omega
      have h2 : (m : Int) < n := by omega
      simp only [execOp, Instr.indexAt, hv, hy, Sem.run_bind, asIntOf, Sem.run_pure, Result.andThen_ok, run_underlying' ht, h0, h2, and_self, if_true, run_sizeOf hi, hsz, add_eq, Int.toNat_natCast]
      rw [ho (.inl (by omega)), ← Nat.add_mul, ho']

theorem r_loadA {d l off i j : Nat} {x : Operand} {T sz n : Nat} {el : Nat → Nat → DV} {c : DV} {t ty : TypeId} {pos : String} {af : Array Edge} {gd : Option (Nat × Bool)} (hw : Wide P t none) (ho : off = i * sz + j) (hi : i < n) (hj : j < sz) (hcc : el i j = c) (hN : d < bs.N) (hc : cOk [(x, pv l off)]) : ORule P bs ⟨some d, .load t x, ty, pos, af, gd⟩ ⟨rtOf [(x, pv l off)], [(l, .live (.arr T sz n el))], [(d, sv (.d c))], []⟩ :=
  .val rfl hN hc fun B S U s a w g hh he => by
    obtain ⟨b, κ, hb, h1⟩ := he.1
    rcases g.ob l _ hh.1 with ⟨hb', _⟩ | ⟨b', κ', cur, hb', hcur, hsz, hnk, hkm, hel⟩
    · rw [hb] at hb'; cases hb'
    · rw [hb] at hb'
      cases hb'
      obtain ⟨u, hu, hd⟩ := hel i hi j hj
      refine ⟨u, ?_, by rw [← hcc]; exact hd⟩
      have hcell : w.cell? ⟨b, off, none⟩ = some u := cell_of_block hcur (by rw [ho]; exact hu)
      simp only [execOp, h1, Sem.run_bind, run_loadAt_one hw hcell]
      rfl

theorem r_loadAs {d l off i j m : Nat} {x : Operand} {T sz n : Nat} {el : Nat → Nat → DV} {ds : List SV} {t ty : TypeId} {pos : String} {af : Array Edge} {gd : Option (Nat × Bool)} (hw : Wide P t (some m)) (ho : off = i * sz + j) (hi : i < n) (hj : j + m ≤ sz) (hds : dvs m (fun k => el i (j + k)) = ds) (hN : d < bs.N) (hc : cOk [(x, pv l off)]) : ORule P bs ⟨some d, .load t x, ty, pos, af, gd⟩ ⟨rtOf [(x, pv l off)], [(l, .live (.arr T sz n el))], [(d, .tv (.agg ds))], []⟩ :=
  .val rfl hN hc fun B S U s a w g hh he => by
    obtain ⟨b, κ, hb, h1⟩ := he.1
    rcases g.ob l _ hh.1 with ⟨hb', _⟩ | ⟨b', κ', cur, hb', hcur, hsz, hnk, hkm, hel⟩
    · rw [hb] at hb'; cases hb'
    · rw [hb] at hb'
      cases hb'
      subst hds
      have hex : ∀ m', m' ≤ m → ∃ cs : List Value, cs.length = m' ∧ (∀ k u, cs[k]? = some u → w.cell? ⟨b, off + k, none⟩ = some u) ∧ all2 (svOk B S U w) (dvs m' fun k => el i (j + k)) cs := by
        intro m'
        induction m' with
        | zero => intro _; exact ⟨[], rfl, by simp, trivial⟩
        | succ m' ih =>
          intro hle
          obtain ⟨cs, h1, h2, h3⟩ := ih (by omega)
          obtain ⟨u, hu, hd⟩ := hel i hi (j + m') (by omega)
          refine ⟨cs ++ [u], by simp [h1], fun k v hk => ?_, ?_⟩
          · rw [List.getElem?_append] at hk
            split at hk
            · exact h2 k v hk
            · have : k = m' := by
                rcases Nat.lt_or_ge (k - cs.length) 1 with h | h
                · omega
                · simp [List.getElem?_eq_none (show [u].length ≤ k - cs.length by simpa using h)] at hk
              subst this
              simp [h1] at hk
              rw [← hk]
              exact cell_of_block hcur (by rw [ho, Nat.add_assoc]; exact hu)
          · have : dvs (m' + 1) (fun k => el i (j + k)) = dvs m' (fun k => el i (j + k)) ++ [.d (el i (j + m'))] := by simp [dvs, List.range_succ]
            rw [this]
            exact all2_append h3 ⟨hd, trivial⟩
      obtain ⟨cs, hl, hc2, hok⟩ := hex m (Nat.le_refl _)
      refine ⟨.agg cs.toArray, ?_, cs, rfl, hok⟩
      simp only [execOp, h1, Sem.run_bind, run_loadAt_agg hw (ad := ⟨b, off, none⟩) rfl hl hc2]
      rfl

/-- A store into an object's array. -/
theorem r_storeAW {l off i j m : Nat} {x y : Operand} {T sz n : Nat} {el el' : Nat → Nat → DV} {ds : List DV} {tv : TV} {t ty : TypeId} {pos : String} {af : Array Edge} {gd : Option (Nat × Bool)} (hn : Cells P t m) (hds : all2 wkS (tvCells tv) (ds.map SV.d)) (hl : ds.length = m) (ho : off = i * sz + j) (hi : i < n) (hj : j + m ≤ sz) (hok : (tvCells tv).all cellS = true)
    (hel : ∀ i' j', i' < n → j' < sz → el' i' j' = if i' = i ∧ j ≤ j' ∧ j' < j + m then ds.getD (j' - j) .any else el i' j') (hc : cOk [(x, pv l off), (y, .tv tv)]) :
    ORule P bs ⟨none, .store t x y, ty, pos, af, gd⟩ ⟨rtOf [(x, pv l off), (y, .tv tv)], [(l, .live (.arr T sz n el))], [], [(l, .live (.arr T sz n el'))]⟩ :=
  .unit rfl hc fun B S U s a w g hh he => by
    obtain ⟨b, κ, hb, h1⟩ := he.1
    rcases g.ob l _ hh.1 with ⟨hb', _⟩ | ⟨b', κ', cur, hb', hcur, hsz, hnk, hkm, hold⟩
    · rw [hb] at hb'; cases hb'
    · rw [hb] at hb'
      cases hb'
      have hone : ∀ s, tv = .one s → cellS s = true := fun s e => by subst e; simpa [tvCells] using hok
      have hv := tv_cells he.2.1 hone
      have hv2 := all2_wk hds hv
      have hvl := all2_len hv2
      have hvm : (a.eval y).cells.toList.length = m := by rw [← hvl]; simp [hl]
      have hcv : ∀ v, v ∈ (a.eval y).cells.toList → cellV v = true := all2_mem (p := cellS) (q := fun v => cellV v = true) (fun _ _ h h' => cellS_spec h h') hv hok
      have hfit : off + m ≤ cur.size := by
        rw [hsz, ho]
        calc i * sz + j + m ≤ i * sz + sz := by omega
          _ = (i + 1) * sz := by rw [Nat.add_mul, Nat.one_mul]
          _ ≤ κ * sz := Nat.mul_le_mul_right _ (by omega)
      obtain ⟨cur', hr, hsz', hget⟩ := run_storeCells (P := P) (b := b) (T := T) (a.eval y).cells.toList cur off 0 w hcur (by omega) hcv
      obtain ⟨inf, hinf, hin⟩ := hn
      have hblt : b < w.heap.size := (Array.getElem?_eq_some_iff.1 hcur).1
      have hP : Pres (fun b => S b ∨ U b) w { w with heap := w.heap.setIfInBounds b (.cells cur' T (0, 0)) } := fun c hc' => by
        have hU : U c := hc'.elim (g.su c) id
        have : c ≠ b := fun e => g.sp l _ (b, κ) hh.1 hb (e ▸ hU)
        simp [Array.getElem?_setIfInBounds, Ne.symm this]
      refine ⟨{ w with heap := w.heap.setIfInBounds b (.cells cur' T (0, 0)) }, B, S, U, ?_, ?_⟩
      · simp only [execOp, h1, Instr.storeAt, Instr.sureAddr, storeVar, Sem.run_bind, Sem.run_pure, Result.andThen_ok, run_sizeOf hinf]
        have : (a.eval y).cells.size = inf.size := by rw [hin, ← hvm]; simp
        rw [if_neg (by simp [this])]
        simp only [Sem.run_bind, Sem.run_pure, Result.andThen_ok, hr]
      · refine g.upd (fun k => k = l) _ (fun k hk => by simp [hsets, hget_hset, hk]) (fun _ _ h => h) (fun _ _ => rfl) (fun _ h => h) (fun _ h => h) g.su (fun b hb => by simpa using g.ub b hb) (fun _ h => .inl h) (fun _ h => .inl h)
          (fun k y' hk hy' => ?_) (fun k k' _ _ _ _ h h' _ _ hne => absurd (h.trans h'.symm) hne) (fun c hc hne => ?_) (fun k hk h => ?_) (fun k y q _ hk hq => g.sp k y q hk hq) (by simp) rfl rfl rfl (fun _ h hn => absurd h hn)
        · subst hk
          simp only [hsets, hget_hset, if_true] at hy'
          cases hy'
          refine ⟨.inr ⟨b, κ, cur', hb, by simp [hblt], by rw [hsz', hsz], hnk, hkm, fun i' hi' j' hj' => ?_⟩, fun p hp => ⟨g.sp k _ p hh.1 hp, g.cf k _ p hh.1 hp, fun k' o' q hk' ho' hq => g.nj k' k o' _ ho' hh.1 hk' q p hq hp⟩⟩
          rw [hel i' j' hi' hj', hget]
          have hm := dOk_mono (S := S) (S' := S) (U := U) (U' := U) (fun _ h => h) (fun _ h => h) hP
          by_cases hcase : i' = i ∧ j ≤ j' ∧ j' < j + m
          · obtain ⟨rfl, hj1, hj2⟩ := hcase
            have hin1 : off + 0 ≤ i' * sz + j' ∧ i' * sz + j' < off + 0 + (a.eval y).cells.toList.length := by rw [hvm]; omega
            rw [if_pos hin1, if_pos (show i' = i' ∧ j ≤ j' ∧ j' < j + m from ⟨rfl, hj1, hj2⟩)]
            have hidx : i' * sz + j' - (off + 0) = j' - j := by omega
            rw [hidx]
            have hds' : (ds.map SV.d)[j' - j]? = some (.d (ds.getD (j' - j) .any)) := by
              rw [List.getElem?_map]
              simp [List.getElem?_eq_getElem (show j' - j < ds.length by omega)]
            obtain ⟨u, hu, hd⟩ := all2_get hv2 hds'
            exact ⟨u, hu, hm _ _ hd⟩
          · rw [if_neg hcase]
            have hout : ¬ (off + 0 ≤ i' * sz + j' ∧ i' * sz + j' < off + 0 + (a.eval y).cells.toList.length) := by
              rintro ⟨hA, hB⟩
              rw [hvm] at hB
              apply hcase
              have hii : i' = i := by
                rcases Nat.lt_trichotomy i' i with h | h | h
                · have : (i' + 1) * sz ≤ i * sz := Nat.mul_le_mul_right _ h
                  rw [Nat.add_mul, Nat.one_mul] at this
                  omega
                · exact h
                · have : (i + 1) * sz ≤ i' * sz := Nat.mul_le_mul_right _ h
                  rw [Nat.add_mul, Nat.one_mul] at this
                  omega
              subst hii
              exact ⟨rfl, by omega, by omega⟩
            rw [if_neg hout]
            obtain ⟨u, hu, hd⟩ := hold i' hi' j' hj'
            exact ⟨u, hu, hm _ _ hd⟩
        · have : c ≠ b := hne l _ (b, κ) rfl hh.1 hb
          simp [Array.getElem?_setIfInBounds, Ne.symm this]
        · subst hk; simp [hsets, hget_hset] at h
end Go.Proofs.Ytioenfjcbikbcaa.Q

namespace Go.Proofs.Ytioenfjcbikbcaa.Q
open Go Go.RowKit
set_option linter.unusedVariables false
set_option linter.unusedSimpArgs false

variable {P : Program} {bs : Base}

/-! ### The walk's joints -/

abbrev Ends (bs : Base) (s : St) (e : Exit) (Q : Exit → Act → World → Prop) : Prop := ∀ a w, Gs bs s a w → Q e a w

theorem nT {s : St} {y : Code} {Q Q' : Exit → Act → World → Prop} (h : T P bs s y Q) : Ends bs s .normal (Exit.then (y.wp P Q) Q') := h
theorem nB {s : St} {i : Nat} {Q : Exit → Act → World → Prop} (h : Ends bs s .normal Q) : Ends bs s .normal (Exit.inBlock i Q) := h
theorem xT {s : St} {i : Nat} {K : Act → World → Prop} {Q : Exit → Act → World → Prop} (h : Ends bs s (.exit i) Q) : Ends bs s (.exit i) (Exit.then K Q) := h
theorem xH {s : St} {i : Nat} {Q : Exit → Act → World → Prop} (h : Ends bs s .normal Q) : Ends bs s (.exit i) (Exit.inBlock i Q) := fun a w hG => by
  show (if i = i then Q .normal a w else Q (.exit i) a w)
  rw [if_pos rfl]; exact h a w hG
theorem xM {s : St} {i j : Nat} {Q : Exit → Act → World → Prop} (hne : Nat.beq i j = false) (h : Ends bs s (.exit i) Q) : Ends bs s (.exit i) (Exit.inBlock j Q) := fun a w hG => by
  show (if i = j then Q .normal a w else Q (.exit i) a w)
  have : i ≠ j := fun e => by rw [e] at hne; simp at hne
  rw [if_neg this]; exact h a w hG
theorem rT {s : St} {K : Act → World → Prop} {Q : Exit → Act → World → Prop} (h : Ends bs s .ret Q) : Ends bs s .ret (Exit.then K Q) := h
theorem rB {s : St} {i : Nat} {Q : Exit → Act → World → Prop} (h : Ends bs s .ret Q) : Ends bs s .ret (Exit.inBlock i Q) := h

/-- The end of a round. -/
theorem nL {ι : Type} {st : ι → St} {pre : ι → Prop} {μ : ι → Nat} {x : ι} {s : St} {Q : Exit → Act → World → Prop} (x' : ι) (hp : pre x') (hμ : μ x' < μ x) (h : ∀ a w, Gs bs s a w → Gs bs (st x') a w) :
    Ends bs s .normal (Exit.then (fun a w => ∃ x', pre x' ∧ μ x' < μ x ∧ Gs bs (st x') a w) Q) := fun a w hG => ⟨x', hp, hμ, h a w hG⟩

def intoT (r : Nat → Nat) (m : Nat) : List AV → List AV → Prop
  | [], _ => True
  | x :: l, t => (x = .any ∨ (idsA m x = true ∧ renA r x = tget t 0)) ∧ intoT r m l (t.drop 1)
def intoH (r : Nat → Nat) (m : Nat) (h : List HS) : Nat → List HS → Prop
  | _, [] => True
  | i, .live o :: l => (idsO m o = true ∧ hget h (r i) = .live (renO r o)) ∧ intoH r m h (i + 1) l
  | i, .dead :: l => intoH r m h (i + 1) l
  | _, .free :: _ => False
def fixB (k : Nat) (r : Nat → Nat) : Bool := (List.range k).all fun i => Nat.beq (r i) i

theorem intoT_get {r : Nat → Nat} {m : Nat} : ∀ {l t : List AV}, intoT r m l t → ∀ i, tget l i = .any ∨ (idsA m (tget l i) = true ∧ renA r (tget l i) = tget t i)
  | [], _, _, _ => .inl rfl
  | x :: l, t, h, 0 => h.1
  | x :: l, t, h, i + 1 => by
    have := intoT_get h.2 i
    have e : tget (t.drop 1) i = tget t (i + 1) := by cases t <;> rfl
    rw [e] at this
    exact this
theorem intoH_get {r : Nat → Nat} {m : Nat} {h : List HS} : ∀ {l : List HS} {i : Nat}, intoH r m h i l → ∀ k, (k < l.length → hget l k ≠ .free) ∧ ∀ o, hget l k = .live o → idsO m o = true ∧ hget h (r (i + k)) = .live (renO r o)
  | [], _, _, k => ⟨fun h => absurd h (Nat.not_lt_zero _), fun o e => by cases e⟩
  | .live o :: l, i, h, 0 => by
    constructor
    · intro _ e; cases e
    · intro o' e; cases e; exact h.1
  | .dead :: l, i, h, 0 => by
    constructor
    · intro _ e; cases e
    · intro o' e; cases e
  | .live o :: l, i, h, k + 1 => by
    have := intoH_get h.2 k
    rw [show i + (k + 1) = i + 1 + k from by omega]
    exact ⟨fun hk => this.1 (by simpa using hk), this.2⟩
  | .dead :: l, i, h, k + 1 => by
    have := intoH_get (l := l) (i := i + 1) h k
    rw [show i + (k + 1) = i + 1 + k from by omega]
    exact ⟨fun hk => this.1 (by simpa using hk), this.2⟩
  | .free :: _, _, h, _ => h.elim

/-- A state that is another one, its objects numbered anew. -/
theorem Gs.into {N k : Nat} {w0 : World} {S0 U0 : Nat → Prop} {B0 : Bk} {s s' : St} {a : Act} {w : World} (rl : List Nat) (hrl : s'.h.length = rl.length) (hk : Nat.ble k rl.length = true) (hfix : fixB k (fun i => rl.getD i 0) = true) (hnd : nodupB rl = true)
    (ht : intoT (fun i => rl.getD i 0) rl.length s'.t s.t) (hh : intoH (fun i => rl.getD i 0) rl.length s.h 0 s'.h) (hG : Gs (mkBase N k w0 S0 U0 B0) s a w) : Gs (mkBase N k w0 S0 U0 B0) s' a w := by
  refine hG.ren (fun i => rl.getD i 0) (by rw [hrl]; exact Nat.le_of_ble_eq_true hk) (fun l hl => ?_) (fun l l' h1 h2 e => nodupB_spec hnd l l' (by omega) (by omega) e) (fun l hl => (intoH_get hh l).1 hl) (fun l hl => hget_ge hl) (fun i => ?_) (fun l o e => ?_)
  · simp only [fixB, List.all_eq_true, List.mem_range] at hfix
    exact Nat.eq_of_beq_eq_true (hfix l hl)
  · rw [hrl]; exact intoT_get ht i
  · rw [hrl]
    have := (intoH_get hh l).2 o e
    rwa [Nat.zero_add] at this

/-! ### Regions, one equation each -/

def nthO : List Oper → Nat → Option Oper
  | [], _ => none
  | o :: _, 0 => some o
  | _ :: l, i + 1 => nthO l i
theorem nthO_eq : ∀ (l : List Oper) (i : Nat), nthO l i = l[i]?
  | [], _ => rfl
  | _ :: _, 0 => rfl
  | _ :: l, i + 1 => nthO_eq l i
theorem nthO_get {ops : Array Oper} {i : Nat} {o : Oper} (h : nthO ops.toList i = some o) : ops[i]? = some o := by
  rw [nthO_eq] at h
  simpa using h

theorem oS {ops : Array Oper} {i : Nat} {x : OS} {o : Oper} (ho : nthO ops.toList i = some o) (hg : o.guard = none) (h : ORule P bs o x) : OStep P ops bs i x := .of (nthO_get ho) hg h
theorem oY {ops : Array Oper} {i : Nat} {rt : List (Nat × AV)} {rh : List (Nat × HS)} {wt : List (Nat × AV)} {wh : List (Nat × HS)} {o o' : Oper} {j d : Nat} {want b : Bool} (ho : nthO ops.toList i = some o) (hg : o.guard = some (j, want)) (hj : nthO ops.toList j = some o') (hd : o'.dst = some d) (hN : d < bs.N) (hb : b = want) (h : ORule P bs o ⟨rt, rh, wt, wh⟩) : OStep P ops bs i ⟨(d, dv (.bool b)) :: rt, rh, wt, wh⟩ := .yes (nthO_get ho) hg (nthO_get hj) hd hN hb h
theorem oN {ops : Array Oper} {i : Nat} {o o' : Oper} {j d e : Nat} {want b : Bool} (ho : nthO ops.toList i = some o) (hg : o.guard = some (j, want)) (hj : nthO ops.toList j = some o') (hd : o'.dst = some d) (hN : d < bs.N) (hb : b = !want) (he : o.dst = some e) (hN' : e < bs.N) : OStep P ops bs i ⟨[(d, dv (.bool b))], [], [(e, dv undef)], []⟩ := .no (nthO_get ho) hg (nthO_get hj) hd hN hb he hN'
theorem oN' {ops : Array Oper} {i : Nat} {o o' : Oper} {j d : Nat} {want b : Bool} (ho : nthO ops.toList i = some o) (hg : o.guard = some (j, want)) (hj : nthO ops.toList j = some o') (hd : o'.dst = some d) (hN : d < bs.N) (hb : b = !want) (he : o.dst = none) : OStep P ops bs i ⟨[(d, dv (.bool b))], [], [], []⟩ := .no' (nthO_get ho) hg (nthO_get hj) hd hN hb he
theorem oNU {ops : Array Oper} {i : Nat} {o o' : Oper} {j d e : Nat} {want : Bool} (ho : nthO ops.toList i = some o) (hg : o.guard = some (j, want)) (hj : nthO ops.toList j = some o') (hd : o'.dst = some d) (he : o.dst = some e) (hN' : e < bs.N) : OStep P ops bs i ⟨[(d, dv undef)], [], [(e, dv undef)], []⟩ := .noU (nthO_get ho) hg (nthO_get hj) hd he hN'
theorem oNU' {ops : Array Oper} {i : Nat} {o o' : Oper} {j d : Nat} {want : Bool} (ho : nthO ops.toList i = some o) (hg : o.guard = some (j, want)) (hj : nthO ops.toList j = some o') (hd : o'.dst = some d) (he : o.dst = none) : OStep P ops bs i ⟨[(d, dv undef)], [], [], []⟩ := .noU' (nthO_get ho) hg (nthO_get hj) hd he

theorem oC {ops : Array Oper} {i : Nat} {x : OS} {l : List OS} (h : OStep P ops bs i x) (r : OSteps P ops bs (i + 1) l) : OSteps P ops bs i (x :: l) := ⟨h, r⟩
theorem oZ {ops : Array Oper} {i : Nat} (h : ops.size = i) : OSteps P ops bs i [] := h

def readT : List (Nat × AV) → List AV → List AV
  | [], _ => []
  | p :: r, t => tget t p.1 :: readT r t
def readH : List (Nat × HS) → List HS → List HS
  | [], _ => []
  | p :: r, t => hget t p.1 :: readH r t
def reads : St → List OS → List (List AV × List HS)
  | _, [] => []
  | s, x :: r => (readT x.rt s.t, readH x.rh s.h) :: reads (x.app s) r
def wants : List OS → List (List AV × List HS)
  | [] => []
  | x :: r => (x.rt.map (·.2), x.rh.map (·.2)) :: wants r
theorem satT_read : ∀ {l : List (Nat × AV)} {t : List AV}, readT l t = l.map (·.2) → satT l t
  | [], _, _ => trivial
  | p :: r, t, h => by
    simp only [readT, List.map_cons, List.cons.injEq] at h
    exact ⟨h.1, satT_read h.2⟩
theorem satH_read : ∀ {l : List (Nat × HS)} {t : List HS}, readH l t = l.map (·.2) → satH l t
  | [], _, _ => trivial
  | p :: r, t, h => by
    simp only [readH, List.map_cons, List.cons.injEq] at h
    exact ⟨h.1, satH_read h.2⟩
theorem seqSat_reads : ∀ {l : List OS} {s : St}, reads s l = wants l → seqSat s l
  | [], _, _ => trivial
  | x :: r, s, h => by
    simp only [reads, wants, List.cons.injEq, Prod.mk.injEq] at h
    exact ⟨⟨satT_read h.1.1, satH_read h.1.2⟩, seqSat_reads h.2⟩

theorem tR {s s1 : St} {id : Nat} {ops : Array Oper} {Q : Exit → Act → World → Prop} {l : List OS} (m n : List Bool) (h : OSteps P ops bs 0 l) (hs : reads s l = wants l)
    (h1 : (⟨maskT m (appAll s l).t, maskH n (appAll s l).h⟩ : St) = s1) (hQ : Ends bs s1 .normal Q) : T P bs s (.region id ops false) Q := T.region l m n h (seqSat_reads hs) h1 hQ
theorem tD {s s1 : St} {id : Nat} {ops : Array Oper} {Q : Exit → Act → World → Prop} {l : List OS} (hm : P.follows .mixedOrders = true) (anc : List (List Nat)) (m n : List Bool) (h : OSteps P ops bs 0 l) (hs : reads s l = wants l) (hanc : ancOk ops anc = true) (hback : backOk ops = true) (hcl : clashOk l anc = true)
    (h1 : (⟨maskT m (appAll s l).t, maskH n (appAll s l).h⟩ : St) = s1) (hQ : Ends bs s1 .normal Q) : T P bs s (.region id ops true) Q := T.draws hm l anc m n h (seqSat_reads hs) hanc hback hcl h1 hQ

theorem lt_of {a b : Nat} (h : Nat.ble (a + 1) b = true) : a < b := Nat.le_of_ble_eq_true h

/-- The end of a function, its objects numbered as the contract does. -/
theorem tE {fn : Func} {c : Ct} {N k : Nat} {w0 : World} {S0 U0 : Nat → Prop} {B0 : Bk} {s : St} {e : Exit} (he : e = .ret ∨ e = .normal) (rvs : List RV) (hr : all2 (rvOk P s) rvs fn.results.toList) (rl : List Nat) (hres : renA (fun i => rl.getD i 0) c.res = resAV rvs) (hids : idsA rl.length c.res = true)
    (hrl : c.hout.length = rl.length) (hk : Nat.ble k rl.length = true) (hfix : fixB k (fun i => rl.getD i 0) = true) (hnd : nodupB rl = true) (hh : intoH (fun i => rl.getD i 0) rl.length s.h 0 c.hout) :
    Ends (mkBase N k w0 S0 U0 B0) s e (bodyPost P fn (PostG k w0 S0 U0 B0 c)) := by
  intro a w hG
  have h1 := ret_rule (P := P) (c := ⟨[], [], resAV rvs, s.h⟩) rvs hr rfl (fun _ => .inr rfl) e he a w hG
  have key : ∀ e' w', PostG k w0 S0 U0 B0 ⟨[], [], resAV rvs, s.h⟩ e' w' → PostG k w0 S0 U0 B0 c e' w' := by
    rintro e' w' ⟨v, B', S', U', rfl, g⟩
    have hgs : Gs (mkBase 1 k w0 S0 U0 B0) ⟨[resAV rvs], s.h⟩ ⟨#[v], []⟩ w' := ⟨B', S', U', g⟩
    obtain ⟨B2, S2, U2, g2⟩ := Gs.into (s := ⟨[resAV rvs], s.h⟩) (s' := ⟨[c.res], c.hout⟩) rl hrl hk hfix hnd ⟨.inr ⟨hids, hres⟩, trivial⟩ hh hgs
    exact ⟨v, B2, S2, U2, rfl, g2⟩
  rcases he with rfl | rfl
  · obtain ⟨hd, v, hr, hp⟩ := h1
    exact ⟨hd, v, hr, key _ _ hp⟩
  · obtain ⟨hd, v, hr, hp⟩ := h1
    exact ⟨hd, v, hr, key _ _ hp⟩

/-! ### Numbers -/

theorem wrap_in {x : Int} (h : -9223372036854775808 ≤ x ∧ x ≤ 9223372036854775807) : IntKind.i64.wrap x = x := by rw [IntKind.wrap_i64]; omega

theorem dvs_eq (n : Nat) (el : Nat → DV) : dvs n el = (List.range n).map fun j => SV.d (el j) := rfl
end Go.Proofs.Ytioenfjcbikbcaa.Q

namespace Go.Proofs.Ytioenfjcbikbcaa.Q
open Go Go.RowKit
set_option linter.unusedVariables false
set_option linter.unusedSimpArgs false

variable {P : Program} {bs : Base}

/-! ### The rules over kinds -/

def KOk {α : Type} (K : Kd α) : Prop := 0 < K.sz ∧ ∀ x j, j < K.sz → cellD (K.cell x j) = true

theorem kU8_ok : KOk kU8 := ⟨by decide, fun _ _ _ => rfl⟩
def kInt (k : IntKind) : Kd Int := ⟨1, fun x _ => .val (.int k x), 0⟩
theorem kInt_ok (k : IntKind) : KOk (kInt k) := ⟨by simp [kInt], fun _ _ _ => rfl⟩
def kBool : Kd Bool := ⟨1, fun x _ => .val (.bool x), false⟩
theorem kBool_ok : KOk kBool := ⟨by decide, fun _ _ _ => rfl⟩
def kStr : Kd (List UInt8) := ⟨1, fun x _ => .val (strV x), []⟩
theorem kStr_ok : KOk kStr := ⟨by decide, fun _ _ _ => rfl⟩
def kSl {α : Type} (t : Bool) (K : Kd α) : Kd (List α) := ⟨1, fun x _ => dsl t false K x, []⟩
theorem kSl_ok {α : Type} (t : Bool) (K : Kd α) : KOk (kSl t K) := ⟨by simp [kSl], fun _ _ _ => rfl⟩

section
variable {α : Type} {K : Kd α}

theorem q_len (tag nn : Bool) (K : Kd α) (xs : List α) {d : Nat} {x : Operand} {t e ty : TypeId} {pos : String} {af : Array Edge} {gd : Option (Nat × Bool)} (ht : P.underlying t = some (.slice e)) (hN : d < bs.N) (hc : cOk [(x, slV tag nn K xs)]) :
    ORule P bs ⟨some d, .call { callee := .builtin .len, args := #[x], argTypes := #[t] }, ty, pos, af, gd⟩ ⟨rtOf [(x, slV tag nn K xs)], [], [(d, dv (.int .i64 (xs.length : Nat)))], []⟩ := r_lenS ht hN hc

theorem q_index (tag nn : Bool) (K : Kd α) (xs : List α) (m : Nat) {d : Nat} {k : IntKind} {i : Int} {x y : Operand} {t e ty : TypeId} {pos : String} {af : Array Edge} {gd : Option (Nat × Bool)} {inf : TypeInfo} (ht : P.underlying t = some (.slice e)) (hi : P.info? e = some inf) (hsz : inf.size = K.sz) (hm : i = m) (h1 : m < xs.length) (hN : d < bs.N) (hc : cOk [(x, slV tag nn K xs), (y, dv (.int k i))]) :
    ORule P bs ⟨some d, .indexAddr t x y, ty, pos, af, gd⟩ ⟨rtOf [(x, slV tag nn K xs), (y, dv (.int k i))], [], [(d, sv (.ep tag K.sz (K.cell (xs.getD m K.z))))], []⟩ := r_indexS ht hi hsz hm h1 rfl hN hc

theorem cut_len (xs : List α) (l h : Nat) (hh : h ≤ xs.length) : ((xs.take h).drop l).length = h - l := by simp; omega

theorem q_slice (tag nn : Bool) (K : Kd α) (xs ys : List α) (l h : Nat) {d : Nat} {x : Operand} {lo hi : Option (Operand × Int)} {lo' hi' : Option Operand} {t e ty : TypeId} {pos : String} {af : Array Edge} {gd : Option (Nat × Bool)} {inf : TypeInfo} (ht : P.underlying t = some (.slice e)) (hinf : P.info? e = some inf) (hsz : inf.size = K.sz)
    (hlo' : lo' = lo.map (·.1)) (hhi' : hi' = hi.map (·.1)) (hl : match lo with | none => l = 0 | some p => p.2 = l) (hh : match hi with | none => h = xs.length | some p => p.2 = h) (hlh : l ≤ h) (hhn : h ≤ xs.length) (hys : (xs.take h).drop l = ys) (hN : d < bs.N) (hc : cOk ((x, slV tag nn K xs) :: (oOps lo ++ oOps hi))) :
    ORule P bs ⟨some d, .slice t x lo' hi' none, ty, pos, af, gd⟩ ⟨rtOf ((x, slV tag nn K xs) :: (oOps lo ++ oOps hi)), [], [(d, slV tag nn K ys)], []⟩ := by
  subst hys
  exact r_sliceS (n := xs.length) (el := elOf K xs) ht hinf hsz hlo' hhi' hl hh hlh hhn (fun i j hij => elOf_cut K xs l h hhn i j hij) (cut_len xs l h hhn).symm hN hc

theorem q_clip (tag nn : Bool) (K : Kd α) (xs : List α) {d : Nat} {x y z : Operand} {p q : Int} {t e ty : TypeId} {pos : String} {af : Array Edge} {gd : Option (Nat × Bool)} {inf : TypeInfo} (ht : P.underlying t = some (.slice e)) (hinf : P.info? e = some inf) (hsz : inf.size = K.sz)
    (hp : p = (xs.length : Nat)) (hq : q = (xs.length : Nat)) (hN : d < bs.N) (hc : cOk [(x, slV tag nn K xs), (y, dv (.int .i64 p)), (z, dv (.int .i64 q))]) :
    ORule P bs ⟨some d, .slice t x none (some y) (some z), ty, pos, af, gd⟩ ⟨rtOf [(x, slV tag nn K xs), (y, dv (.int .i64 p)), (z, dv (.int .i64 q))], [], [(d, sv (.cl tag nn K.sz xs.length (elOf K xs)))], []⟩ := r_clip ht hinf hsz hp hq hN hc

abbrev clV (tag nn : Bool) (K : Kd α) (xs : List α) : AV := sv (.cl tag nn K.sz xs.length (elOf K xs))
abbrev ownV (l : Nat) (K : Kd α) (off n : Nat) : AV := sv (.own l K.sz off n)

/-- What may be appended, over kinds. -/
def srcK (rh : List (Nat × HS)) (K : Kd α) (ys : List α) : SV → Prop := srcLike rh K.sz ys.length (elOf K ys)
theorem src_sl (tag nn : Bool) (K : Kd α) (ys : List α) : srcK [] K ys (.d (dsl tag nn K ys)) := ⟨rfl, rfl, fun _ _ _ => rfl⟩
theorem src_cl (tag nn : Bool) (K : Kd α) (ys : List α) : srcK [] K ys (.cl tag nn K.sz ys.length (elOf K ys)) := ⟨rfl, rfl, fun _ _ _ => rfl⟩
theorem src_nil (K : Kd α) : srcK [] K [] (.d (.val (.slice none 0 0))) := ⟨rfl, rfl⟩
theorem src_own (l T : Nat) (K : Kd α) (ys : List α) : srcK [(l, .live (arrK T K ys))] K ys (.own l K.sz 0 ys.length) :=
  ⟨rfl, rfl, T, ys.length, elOf K ys, by simp [arrK], by omega, fun i j _ => by rw [Nat.zero_add]⟩
theorem src_cut (l T : Nat) (K : Kd α) (ys zs : List α) (a b : Nat) (hab : a ≤ b) (hb : b ≤ ys.length) (hz : (ys.take b).drop a = zs) {n : Nat} (hn : b - a = n) : srcK [(l, .live (arrK T K ys))] K zs (.own l K.sz a n) := by
  subst hz
  subst hn
  refine ⟨rfl, (cut_len ys a b hb).symm, T, ys.length, elOf K ys, by simp [arrK], by rw [cut_len ys a b hb]; omega, fun i j hi => ?_⟩
  rw [cut_len ys a b hb] at hi
  exact elOf_cut K ys a b hb i j hi

theorem q_appendO (l l2 e bytes : Nat) (K : Kd α) (hK : KOk K) (xs ys zs : List α) (n : Nat) {d : Nat} {x y : Operand} {sy : SV} {rhs : List (Nat × HS)} {t ty : TypeId} {pos : String} {af : Array Edge} {gd : Option (Nat × Bool)} (hE : Elem P t e K.sz bytes) (hn : n ≤ xs.length) (hy : srcK rhs K ys sy) (hzs : xs.take n ++ ys = zs)
    (h63 : n + ys.length ≤ maxLen) (hb : (n + ys.length) * bytes ≤ 140737488355328) (hN : d < bs.N) (hc : cOk [(x, ownV l K 0 n), (y, sv sy)]) :
    ORule P bs ⟨some d, .call { callee := .builtin .append, args := #[x, y], argTypes := #[t, t] }, ty, pos, af, gd⟩
      ⟨rtOf [(x, ownV l K 0 n), (y, sv sy)], (l, .live (arrK e K xs)) :: (l2, .free) :: rhs, [(d, ownV l2 K 0 zs.length)], [(l, .dead), (l2, .live (arrK e K zs))]⟩ := by
  subst hzs
  have hlen : (xs.take n).length = n := by simp; omega
  refine r_appendO (el := elOf K xs) (el2 := elOf K ys) hE hn hy (fun i j _ hj => hK.2 _ j hj) h63 hb (fun i j hi => ?_) (by simp; omega) hN hc
  rw [elOf_app, hlen]
  split
  · have := elOf_cut K xs 0 n hn i j (by omega)
    simpa using this
  · rfl

theorem q_appendN (l2 e bytes : Nat) (K : Kd α) (hK : KOk K) (ys : List α) {d : Nat} {x y : Operand} {sy : SV} {rhs : List (Nat × HS)} {t ty : TypeId} {pos : String} {af : Array Edge} {gd : Option (Nat × Bool)} (hE : Elem P t e K.sz bytes) (hy : srcK rhs K ys sy)
    (h63 : ys.length ≤ maxLen) (hb : ys.length * bytes ≤ 140737488355328) (hN : d < bs.N) (hc : cOk [(x, dv (.slice none 0 0)), (y, sv sy)]) :
    ORule P bs ⟨some d, .call { callee := .builtin .append, args := #[x, y], argTypes := #[t, t] }, ty, pos, af, gd⟩
      ⟨rtOf [(x, dv (.slice none 0 0)), (y, sv sy)], (l2, .free) :: rhs, [(d, ownV l2 K 0 ys.length)], [(l2, .live (arrK e K ys))]⟩ :=
  r_appendN hE hy (fun i j _ hj => hK.2 _ j hj) h63 hb hN hc

theorem q_appendC (l2 e bytes : Nat) (tag nn : Bool) (K : Kd α) (hK : KOk K) (xs ys zs : List α) {d : Nat} {x y : Operand} {sy : SV} {rhs : List (Nat × HS)} {t ty : TypeId} {pos : String} {af : Array Edge} {gd : Option (Nat × Bool)} (hE : Elem P t e K.sz bytes) (hm : 0 < ys.length) (hy : srcK rhs K ys sy) (hzs : xs ++ ys = zs)
    (h63 : xs.length + ys.length ≤ maxLen) (hb : (xs.length + ys.length) * bytes ≤ 140737488355328) (hN : d < bs.N) (hc : cOk [(x, clV tag nn K xs), (y, sv sy)]) :
    ORule P bs ⟨some d, .call { callee := .builtin .append, args := #[x, y], argTypes := #[t, t] }, ty, pos, af, gd⟩
      ⟨rtOf [(x, clV tag nn K xs), (y, sv sy)], (l2, .free) :: rhs, [(d, ownV l2 K 0 zs.length)], [(l2, .live (arrK e K zs))]⟩ := by
  subst hzs
  exact r_appendC (el := elOf K xs) (el2 := elOf K ys) hE hm hy h63 hb (fun i j _ => elOf_app K xs ys i j) (by simp) hN hc

theorem q_buildSlice (l e : Nat) (K : Kd α) (hK : KOk K) (ys : List α) (ps : List Part) {cs : List SV} {zs : List Value} {d len : Nat} {xs : Array (Nat × Operand)} {t ty : TypeId} {pos : String} {af : Array Edge} {gd : Option (Nat × Bool)} (ht : P.underlying t = some (.slice e)) {inf : TypeInfo} (hi : P.info? e = some inf) (hsz : inf.size = K.sz) (hz : Zero P e zs) (hzl : zs.length = K.sz) (hlen : len = ys.length) (hx : xs = (ps.map fun p => (p.i, p.x)).toArray) (hle : ys.length * K.sz ≤ 16777216)
    (hok : partsOk (fun i => some (i * K.sz, K.sz)) (ys.length * K.sz) ps) (hcs : fillS ((List.range (ys.length * K.sz)).map fun k => .d (.val (zs.getD (k % K.sz) undef))) (partsFill ps) = cs) (hwk : all2 wkS cs (flat ys.length K.sz (elOf K ys))) (hN : d < bs.N) (hc : cOk (partsOps ps)) :
    ORule P bs ⟨some d, .buildSlice t len xs, ty, pos, af, gd⟩ ⟨rtOf (partsOps ps), [(l, .free)], [(d, ownV l K 0 ys.length)], [(l, .live (arrK e K ys))]⟩ := by
  subst hlen
  have : ys.length ≤ 16777216 := Nat.le_trans (Nat.le_mul_of_pos_right _ hK.1) hle
  exact r_buildSliceW ht hi hsz hz hzl hK.1 hx hle (by simp only [maxLen]; omega) hok hcs hwk hN hc

theorem q_strOf (K' : Unit) (xs : List UInt8) {d : Nat} {x : Operand} {ys : SV} {rhs : List (Nat × HS)} {src dst e ty : TypeId} {pos : String} {af : Array Edge} {gd : Option (Nat × Bool)} (hs : P.underlying src = some (.slice e)) (he' : P.underlying e = some (.int .u8)) (hd : P.underlying dst = some .string) (hy : srcK rhs kU8 xs ys) (hN : d < bs.N) (hc : cOk [(x, sv ys)]) :
    ORule P bs ⟨some d, .convert src dst x, ty, pos, af, gd⟩ ⟨rtOf [(x, sv ys)], rhs, [(d, dv (strV xs))], []⟩ := r_strOf hs he' hd hy hN hc
end

theorem part_ok {place : Nat → Option (Nat × Nat)} {n : Nat} : partsOk place n [] := fun _ h => by cases h
theorem part_cons {place : Nat → Option (Nat × Nat)} {n : Nat} {p : Part} {l : List Part} (h1 : oneOk p.t = true) (h2 : place p.i = some (p.off, (tvCells p.t).length)) (h3 : p.off + (tvCells p.t).length ≤ n) (h : partsOk place n l) : partsOk place n (p :: l) := fun q hq => by
  cases hq with
  | head => exact ⟨h1, h2, h3⟩
  | tail _ hq => exact h q hq

theorem Ends.turn {s s' : St} {e : Exit} {Q : Exit → Act → World → Prop} (h : ∀ a w, Gs bs s a w → Gs bs s' a w) (ht : Ends bs s' e Q) : Ends bs s e Q := fun a w hG => ht a w (h a w hG)

theorem kInt_nt (k : IntKind) : ∀ x j, noTag ((kInt k).cell x j) := fun _ _ => trivial
theorem kU8_nt : ∀ x j, noTag (kU8.cell x j) := fun _ _ => trivial
theorem kBool_nt : ∀ x j, noTag (kBool.cell x j) := fun _ _ => trivial
theorem kStr_nt : ∀ x j, noTag (kStr.cell x j) := fun _ _ => trivial
theorem dsl_nt {α : Type} {K : Kd α} {nn : Bool} {xs : List α} (h : ∀ x j, noTag (K.cell x j)) : noTag (dsl false nn K xs) := ⟨rfl, fun _ _ => h _ _⟩
theorem kSl_nt {α : Type} {K : Kd α} (h : ∀ x j, noTag (K.cell x j)) : ∀ x j, noTag ((kSl false K).cell x j) := fun _ _ => dsl_nt h
theorem arr_nt {α : Type} {K : Kd α} {T : Nat} {xs : List α} (h : ∀ x j, noTag (K.cell x j)) : noTagH (.live (arrK T K xs)) := fun _ _ => h _ _

theorem r_makeFunc {d : Nat} {fn : Fn} {fs cs : List (Operand × Value)} {xs ys : Array Operand} {ty : TypeId} {pos : String} {af : Array Edge} {gd : Option (Nat × Bool)} (hx : xs = (fs.map (·.1)).toArray) (hy : ys = (cs.map (·.1)).toArray) (hN : d < bs.N) (hc : cOk ((fs ++ cs).map fun p => (p.1, dv p.2))) :
    ORule P bs ⟨some d, .makeFunc fn xs ys, ty, pos, af, gd⟩ ⟨rtOf ((fs ++ cs).map fun p => (p.1, dv p.2)), [], [(d, dv (.func fn (fs.map (·.2)).toArray (cs.map (·.2)).toArray))], []⟩ :=
  .val rfl hN hc fun B S U s a w g hh he => by
    have key : ∀ l : List (Operand × Value), evs B S U a w (l.map fun p => (p.1, dv p.2)) → l.map (fun p => a.eval p.1) = l.map (·.2) := by
      intro l
      induction l with
      | nil => intro _; rfl
      | cons p l ih => intro h; have h1 : a.eval p.1 = p.2 := h.1; simp only [List.map_cons, h1, ih h.2]
    rw [List.map_append] at he
    obtain ⟨h1, h2⟩ := evs_append.1 he
    subst hx
    subst hy
    refine ⟨Value.func fn (List.map (fun p : Operand × Value => p.2) fs).toArray (List.map (fun p : Operand × Value => p.2) cs).toArray, ?_, rfl⟩
    have e1 := key fs h1
    have e2 := key cs h2
    simp only [execOp, Instr.makeFunc, Sem.run_bind, Sem.run_pure, Result.andThen_ok, List.map_toArray, List.map_map, Function.comp_def, e1, e2]

theorem q_lenStr {d : Nat} (l : List UInt8) {x : Operand} {t ty : TypeId} {pos : String} {af : Array Edge} {gd : Option (Nat × Bool)} (ht : P.underlying t = some .string) (hN : d < bs.N) (hc : cOk [(x, dv (strV l))]) :
    ORule P bs ⟨some d, .call { callee := .builtin .len, args := #[x], argTypes := #[t] }, ty, pos, af, gd⟩ ⟨rtOf [(x, dv (strV l))], [], [(d, dv (.int .i64 (l.length : Nat)))], []⟩ := by
  have := r_lenStr (P := P) (bs := bs) (b := ⟨l.toArray⟩) (d := d) (x := x) (ty := ty) (pos := pos) (af := af) (gd := gd) ht hN hc
  have hs : (⟨l.toArray⟩ : ByteArray).size = l.length := by simp [ByteArray.size]
  rw [hs] at this
  exact this

section
variable {α : Type} {K : Kd α}
theorem q_storeA (l T : Nat) (K : Kd α) (xs : List α) (v : α) (i j m : Nat) (ds : List DV) {off : Nat} {x y : Operand} {tv : TV} {t ty : TypeId} {pos : String} {af : Array Edge} {gd : Option (Nat × Bool)} (hn : Cells P t m) (hds : all2 wkS (tvCells tv) (ds.map SV.d)) (hl : ds.length = m) (ho : off = i * K.sz + j) (hi : i < xs.length) (hj : j + m ≤ K.sz) (hok : (tvCells tv).all cellS = true)
    (hv : ∀ j', j' < K.sz → K.cell v j' = if j ≤ j' ∧ j' < j + m then ds.getD (j' - j) .any else K.cell (xs.getD i K.z) j') (hc : cOk [(x, pv l off), (y, .tv tv)]) :
    ORule P bs ⟨none, .store t x y, ty, pos, af, gd⟩ ⟨rtOf [(x, pv l off), (y, .tv tv)], [(l, .live (arrK T K xs))], [], [(l, .live (arrK T K (xs.set i v)))]⟩ := by
  have h := r_storeAW (P := P) (bs := bs) (l := l) (off := off) (i := i) (j := j) (m := m) (x := x) (y := y) (T := T) (sz := K.sz) (n := xs.length) (el := elOf K xs) (el' := elOf K (xs.set i v)) (ds := ds) (tv := tv) (t := t) (ty := ty) (pos := pos) (af := af) (gd := gd) hn hds hl ho hi hj hok (fun i' j' hi' hj' => by
    unfold elOf
    by_cases e : i' = i
    · subst e
      have : (xs.set i' v).getD i' K.z = v := by simp [List.getD_eq_getElem?_getD, hi']
      rw [this, hv j' hj']
      by_cases hcase : j ≤ j' ∧ j' < j + m
      · rw [if_pos hcase, if_pos ⟨rfl, hcase.1, hcase.2⟩]
      · rw [if_neg hcase, if_neg (fun h => hcase ⟨h.2.1, h.2.2⟩)]
    · have : (xs.set i v).getD i' K.z = xs.getD i' K.z := by simp [List.getD_eq_getElem?_getD, List.getElem?_set, Ne.symm e]
      rw [this, if_neg (fun h => e h.1)]) hc
  have hlen : arrK T K (xs.set i v) = .arr T K.sz xs.length (elOf K (xs.set i v)) := by simp [arrK]
  rw [hlen]
  exact h

theorem q_make (l e bytes : Nat) (K : Kd α) (xs : List α) (k n : Nat) {d : Nat} {zs : List Value} {x y : Operand} {p q : Int} {t ty : TypeId} {pos : String} {af : Array Edge} {gd : Option (Nat × Bool)} (hE : Elem P t e K.sz bytes) (hz : Zero P e zs) (hp : p = k) (hq : q = n) (hkn : k ≤ n) (hb : bytes * n ≤ 281474976710656) (h63 : n ≤ maxLen) (hel : ∀ j, j < K.sz → K.cell K.z j = .val (zs.getD j undef)) (hxs : xs = List.replicate k K.z) (hN : d < bs.N) (hc : cOk [(x, dv (.int .i64 p)), (y, dv (.int .i64 q))]) :
    ORule P bs ⟨some d, .makeSlice t x y, ty, pos, af, gd⟩ ⟨rtOf [(x, dv (.int .i64 p)), (y, dv (.int .i64 q))], [(l, .free)], [(d, ownV l K 0 xs.length)], [(l, .live (arrK e K xs))]⟩ := by
  subst hxs
  have := r_make (P := P) (bs := bs) (l := l) (d := d) (k := k) (n := n) (el := elOf K (List.replicate k K.z)) (x := x) (y := y) (t := t) (ty := ty) (pos := pos) (af := af) (gd := gd) hE hz hp hq hkn hb h63 (fun i j hi hj => by
    unfold elOf
    have : (List.replicate k K.z).getD i K.z = K.z := by simp [List.getD_eq_getElem?_getD, List.getElem?_replicate, hi]
    rw [this]
    exact hel j hj) hN hc
  simpa [arrK, ownV] using this
end

/-- A nil slice is a slice of an object that has no block yet. -/
theorem Gs.absent {α : Type} {s : St} {a : Act} {w : World} (l k T : Nat) (K : Kd α) (hl : hget s.h l = .free) (hk : tget s.t k = dv (.slice none 0 0)) (hG : Gs bs s a w) : Gs bs ⟨tset s.t k (ownV l K 0 0), hset s.h l (.live (arrK T K []))⟩ a w := by
  obtain ⟨B, S, U, g⟩ := hG
  have hBl := g.fr l hl
  have hB : ∀ k p, B k = some p → bset B l none k = some p := fun k p hp => by
    unfold bset
    split
    · rename_i h; subst h; rw [hBl] at hp; cases hp
    · exact hp
  have mono := avOk_mono (B := B) (B' := bset B l none) (S := S) (S' := S) (U := U) (U' := U) (w := w) (w' := w) hB (fun _ h => h) (fun _ h => h) (Pres.refl _ _)
  have hlv : ∀ k' o, hget (hset s.h l (.live (arrK T K []))) k' = .live o → k' ≠ l → hget s.h k' = .live o := fun k' o e hne => by rw [hget_hset, if_neg hne] at e; exact e
  refine ⟨bset B l none, S, U, { df := g.df, sz := g.sz, tm := fun j => ?_, ob := fun k' o e => ?_, nj := fun k1 k2 o o' e e' hne p p' hp hp' => ?_, sp := fun k' o p e hp => ?_, cf := fun k' o p e hp => ?_, fr := fun k' e => ?_, su := g.su, ub := g.ub, s0 := g.s0, u0 := g.u0, sn := g.sn, un := g.un, ps := g.ps, hs := g.hs, os := g.os, tp := g.tp, op := g.op, bl := fun k' p e => hB k' p (g.bl k' p e), bk := g.bk, uf := g.uf }⟩
  · show avOk _ S U w (tget (tset s.t k (ownV l K 0 0)) j) (a.tmps.getD j undef)
    rw [tget_tset]
    split
    · rename_i e
      subst e
      have hv := g.tm j
      rw [hk] at hv
      exact .inl ⟨by simp [bset], rfl, rfl, hv⟩
    · exact mono _ _ (g.tm j)
  · by_cases h : k' = l
    · subst h
      rw [hget_hset, if_pos rfl] at e
      cases e
      exact .inl ⟨by simp [bset], rfl⟩
    · exact obOk_mono hB (fun _ h => h) (fun _ h => h) (Pres.refl _ _) (fun _ _ => rfl) (g.ob k' o (hlv k' o e h))
  · have n1 : k1 ≠ l := fun h => by rw [h] at hp; simp [bset] at hp
    have n2 : k2 ≠ l := fun h => by rw [h] at hp'; simp [bset] at hp'
    simp only [bset, if_neg n1] at hp
    simp only [bset, if_neg n2] at hp'
    exact g.nj k1 k2 o o' (hlv _ _ e n1) (hlv _ _ e' n2) hne p p' hp hp'
  · have n1 : k' ≠ l := fun h => by rw [h] at hp; simp [bset] at hp
    simp only [bset, if_neg n1] at hp
    exact g.sp k' o p (hlv _ _ e n1) hp
  · have n1 : k' ≠ l := fun h => by rw [h] at hp; simp [bset] at hp
    simp only [bset, if_neg n1] at hp
    exact g.cf k' o p (hlv _ _ e n1) hp
  · by_cases h : k' = l
    · subst h; rw [hget_hset, if_pos rfl] at e; cases e
    · rw [hget_hset, if_neg h] at e
      simp only [bset, if_neg h]
      exact g.fr k' e
end Go.Proofs.Ytioenfjcbikbcaa.Q
