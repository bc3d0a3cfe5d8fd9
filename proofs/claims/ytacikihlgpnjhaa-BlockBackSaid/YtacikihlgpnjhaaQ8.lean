import Derived.Test.YtacikihlgpnjhaaQ7
namespace Go.Proofs.Ytacikihlgpnjhaa.Q
open Go Go.RowKit
set_option linter.unusedVariables false
set_option linter.unusedSimpArgs false

variable {P : Program} {bs : Base}

theorem eval_const (a : Act) (v : Value) : a.eval (.const v) = v := rfl
theorem eval_func (a : Act) (f : Nat) : a.eval (.func f) = .func (.func f) #[] #[] := rfl

/-- A call of a Go function that is named. -/
theorem r_call {f : Nat} {c : Ct} (hf : Holds P f c) {fn : Func} {code : Code} (hfn : P.funcs[f]? = some fn) (hbd' : fn.body = some code) (hname : (fn.name == "runtime.NumGoroutine") = false) (rl bor : List Nat) {l : List (Operand × AV)} (rhB : List (Nat × HS)) {xs : Array Operand} (hxs : xs = (l.map (·.1)).toArray) {d : Nat} {ts : Array TypeId} {ty : TypeId} {pos : String} {af : Array Edge} {gd : Option (Nat × Bool)}
    (k m : Nat) (hk : c.hin.length = k) (hm : c.hout.length = m) (hkm : Nat.ble k m = true) (hrl : rl.length = m) (hnd : nodupB rl = true) (hnf : noFree c.hout = true)
    (hids : c.hin.all (idsO k) = true) (hio : c.hout.all (idsH m) = true) (hir : idsA m c.res = true)
    (hargs : all2 (argA (fun i => rl.getD i 0) k rhB bor) l c.args) (hbd : (bor.all fun b => rl.all fun x => !Nat.beq b x) = true) (hbl : ∀ b, b ∈ bor → ∃ o, (b, HS.live o) ∈ rhB)
    (hnt : bor = [] ∨ (noTagA c.res ∧ allP noTagH c.hout)) (hN : d < bs.N) (hc : cOk l) :
    ORule P bs ⟨some d, .call { callee := .value (.func f), args := xs, argTypes := ts }, ty, pos, af, gd⟩
      ⟨rtOf l, reqIn (fun i => rl.getD i 0) 0 c.hin ++ (reqNew (fun i => rl.getD i 0) k (m - k) ++ rhB), [(d, renA (fun i => rl.getD i 0) c.res)], outW (fun i => rl.getD i 0) 0 c.hout⟩ := by
  intro Q K s a w hG hs hK
  obtain ⟨B, S, U, g⟩ := hG
  have he := evals g hs.1 hc
  have hcall := call_core hf rl bor hk hm (Nat.le_of_ble_eq_true hkm) hrl hnd hnf hids hio hir hargs hbd hbl hnt g hs.2 (l.map fun p => a.eval p.1) rfl he
  unfold Oper.wp
  have hrun : (execOp a.eval ⟨some d, .call { callee := .value (.func f), args := xs, argTypes := ts }, ty, pos, af, gd⟩).run P w = .ok (.enter f (l.map fun p => a.eval p.1).toArray) w := by
    subst hxs
    have hname' : fn.name ≠ "runtime.NumGoroutine" := by simpa using hname
    simp [execOp, resolve, eval_func, Deferred.ofValue, invoke, callFunc, hfn, hbd', hname', List.map_map, Function.comp_def]
  rw [hrun, Oper.upon_enter]
  refine hcall.mono ?_
  rintro e w' ⟨v, B', S', U', rfl, g', hv⟩
  exact hK _ _ ⟨B', S', U', g'.put hN hv⟩

/-- A call of a function value, a Go function and what it has captured. -/
theorem r_callV {f : Nat} {fs cs : Array Value} {y : Operand} {c : Ct} (hf : Holds P f c) {fn : Func} {code : Code} (hfn : P.funcs[f]? = some fn) (hbd' : fn.body = some code) (hname : (fn.name == "runtime.NumGoroutine") = false) (rl bor : List Nat) {l : List (Operand × AV)} (rhB : List (Nat × HS)) {xs : Array Operand} (hxs : xs = (l.map (·.1)).toArray) {d : Nat} {ts : Array TypeId} {ty : TypeId} {pos : String} {af : Array Edge} {gd : Option (Nat × Bool)} {more fst : List AV}
    (k m : Nat) (hk : c.hin.length = k) (hm : c.hout.length = m) (hkm : Nat.ble k m = true) (hrl : rl.length = m) (hnd : nodupB rl = true) (hnf : noFree c.hout = true)
    (hids : c.hin.all (idsO k) = true) (hio : c.hout.all (idsH m) = true) (hir : idsA m c.res = true) (hfst : fst = fs.toList.map dv) (hmore : more = cs.toList.map dv) 
    (hargs : all2 (argA (fun i => rl.getD i 0) k rhB bor) ((fs.toList.map fun v => (Operand.const v, dv v)) ++ (l ++ cs.toList.map fun v => (Operand.const v, dv v))) c.args) (hbd : (bor.all fun b => rl.all fun x => !Nat.beq b x) = true) (hbl : ∀ b, b ∈ bor → ∃ o, (b, HS.live o) ∈ rhB)
    (hnt : bor = [] ∨ (noTagA c.res ∧ allP noTagH c.hout)) (hN : d < bs.N) (hc : cOk ((y, dv (.func (.func f) fs cs)) :: l)) :
    ORule P bs ⟨some d, .call { callee := .value y, args := xs, argTypes := ts }, ty, pos, af, gd⟩
      ⟨rtOf ((y, dv (.func (.func f) fs cs)) :: l), reqIn (fun i => rl.getD i 0) 0 c.hin ++ (reqNew (fun i => rl.getD i 0) k (m - k) ++ rhB), [(d, renA (fun i => rl.getD i 0) c.res)], outW (fun i => rl.getD i 0) 0 c.hout⟩ := by
  intro Q K s a w hG hs hK
  obtain ⟨B, S, U, g⟩ := hG
  have he := evals g hs.1 hc
  have hy : a.eval y = .func (.func f) fs cs := he.1
  have ev : ∀ (vs : List Value), evs B S U a w (vs.map fun v => (Operand.const v, dv v)) := by
    intro vs
    induction vs with
    | nil => exact trivial
    | cons v vs ih => exact ⟨(rfl : v = v), ih⟩
  have eva : ∀ (l k : List (Operand × AV)), evs B S U a w l → evs B S U a w k → evs B S U a w (l ++ k) := by
    intro l
    induction l with
    | nil => intro k _ h; exact h
    | cons p l ih => intro k h h'; exact ⟨h.1, ih k h.2 h'⟩
  have he2 := eva _ _ (ev fs.toList) (eva _ _ he.2 (ev cs.toList))
  have hcall := call_core hf rl bor hk hm (Nat.le_of_ble_eq_true hkm) hrl hnd hnf hids hio hir hargs hbd hbl hnt g hs.2 _ rfl he2
  unfold Oper.wp
  have hrun : (execOp a.eval ⟨some d, .call { callee := .value y, args := xs, argTypes := ts }, ty, pos, af, gd⟩).run P w = .ok (.enter f (((fs.toList.map fun v => (Operand.const v, dv v)) ++ (l ++ cs.toList.map fun v => (Operand.const v, dv v))).map fun p => a.eval p.1).toArray) w := by
    subst hxs
    have hname' : fn.name ≠ "runtime.NumGoroutine" := by simpa using hname
    simp [execOp, resolve, hy, eval_const, Deferred.ofValue, invoke, callFunc, hfn, hbd', hname', List.map_map, Function.comp_def]
  rw [hrun, Oper.upon_enter]
  refine hcall.mono ?_
  rintro e w' ⟨v, B', S', U', rfl, g', hv⟩
  exact hK _ _ ⟨B', S', U', g'.put hN hv⟩

/-! ### Code -/

theorem T.seq {s : St} {x y : Code} {Q : Exit → Act → World → Prop} (h : T P bs s x (Exit.then (y.wp P Q) Q)) : T P bs s (.seq x y) Q := fun a w hG => wp_seq (h a w hG)
theorem T.skip {s : St} {Q : Exit → Act → World → Prop} (h : ∀ a w, Gs bs s a w → Q .normal a w) : T P bs s .skip Q := fun a w hG => wp_skip (h a w hG)
theorem T.label {s : St} {l : Nat} {Q : Exit → Act → World → Prop} (h : ∀ a w, Gs bs s a w → Q .normal a w) : T P bs s (.label l) Q := fun a w hG => wp_label (h a w hG)
theorem T.ret {s : St} {Q : Exit → Act → World → Prop} (h : ∀ a w, Gs bs s a w → Q .ret a w) : T P bs s .ret Q := fun a w hG => wp_ret (h a w hG)
theorem T.exit {s : St} {i : Nat} {Q : Exit → Act → World → Prop} (h : ∀ a w, Gs bs s a w → Q (.exit i) a w) : T P bs s (.exit i) Q := fun a w hG => wp_exit (h a w hG)
theorem T.block {s : St} {i : Nat} {c : Code} {Q : Exit → Act → World → Prop} (h : T P bs s c (Exit.inBlock i Q)) : T P bs s (.block i c) Q := fun a w hG => wp_block (h a w hG)

/-- What an operand holds. -/
def opAV (s : St) : Operand → AV
  | .tmp t => tget s.t t
  | .const v => dv v
  | _ => .any

theorem opAV_spec {s : St} {a : Act} {w : World} {x : Operand} {v : Value} (hG : Gs bs s a w) (h : opAV s x = dv v) : a.eval x = v := by
  obtain ⟨B, S, U, g⟩ := hG
  cases x with
  | tmp t => have := g.tm t; rw [show tget s.t t = dv v from h] at this; exact this
  | const u => simp only [opAV] at h; cases h; rfl
  | global g => cases h
  | func f => cases h

theorem T.cond {s : St} {c : Operand} {x y : Code} {b : Bool} {Q : Exit → Act → World → Prop} (hb : opAV s c = dv (.bool b)) (ht : b = true → T P bs s x Q) (hf : b = false → T P bs s y Q) : T P bs s (.cond c x y) Q :=
  fun a w hG => wp_cond_split (opAV_spec hG hb) (fun h => ht h a w hG) fun h => hf h a w hG
theorem T.condT {s : St} {c : Operand} {x y : Code} {b : Bool} {Q : Exit → Act → World → Prop} (hb : opAV s c = dv (.bool b)) (h : b = true) (ht : T P bs s x Q) : T P bs s (.cond c x y) Q := T.cond hb (fun _ => ht) fun h' => by rw [h] at h'; cases h'
theorem T.condF {s : St} {c : Operand} {x y : Code} {b : Bool} {Q : Exit → Act → World → Prop} (hb : opAV s c = dv (.bool b)) (h : b = false) (hf : T P bs s y Q) : T P bs s (.cond c x y) Q := T.cond hb (fun h' => by rw [h] at h'; cases h') fun _ => hf

theorem T.scope {s : St} {c : Code} {Q : Exit → Act → World → Prop} (h : ∀ a w, Gs bs s a w → (Code.scope c).wp P Q a w) : T P bs s (.scope c) Q := h

/-- A loop: its invariant, a measure. -/
theorem T.loop {s : St} {c : Code} {Q : Exit → Act → World → Prop} {ι : Type} (st : ι → St) (pre : ι → Prop) (μ : ι → Nat) (x0 : ι) (h0 : pre x0) (hs : ∀ a w, Gs bs s a w → Gs bs (st x0) a w)
    (round : ∀ x, pre x → T P bs (st x) c (Exit.then (fun a w => ∃ x', pre x' ∧ μ x' < μ x ∧ Gs bs (st x') a w) Q)) : T P bs s (.loop c) Q := by
  intro a w hG
  have key : ∀ n x a w, μ x = n → pre x → Gs bs (st x) a w → ∀ (b : Frame) (k : List Item) (cs : List Frame),
      ∃ e a' w', Q e a' w' ∧ Arrives P (lone (b.at a (.code c :: .inLoop c :: k)) cs w) b k cs e a' w' := by
    intro n
    induction n using Nat.strongRecOn with
    | _ n ih =>
      intro x a w hn hx hG b k cs
      obtain ⟨e, a₁, w₁, hq, harr⟩ := round x hx a w hG b (.inLoop c :: k) cs
      cases e with
      | normal =>
        obtain ⟨x', hx', hlt, hG'⟩ := hq
        obtain ⟨e₂, a₂, w₂, hq₂, harr₂⟩ := ih (μ x') (hn ▸ hlt) x' a₁ w₁ rfl hx' hG' b k cs
        exact ⟨e₂, a₂, w₂, hq₂, .of_steps (Steps.trans harr (.one step_inLoop)) harr₂⟩
      | exit id => exact ⟨_, a₁, w₁, hq, .pass (x := .inLoop c) rfl (fun _ _ => .inl (by simp)) harr⟩
      | goto l => exact ⟨_, a₁, w₁, hq, .pass (x := .inLoop c) rfl (fun _ _ => .inl (by simp)) harr⟩
      | ret => exact ⟨_, a₁, w₁, hq, .pass (x := .inLoop c) rfl (fun _ _ => .inl (by simp)) harr⟩
      | panic ch => exact ⟨_, a₁, w₁, hq, .pass (x := .inLoop c) rfl (fun _ _ => .inl (by simp)) harr⟩
      | outgrown => exact ⟨_, a₁, w₁, hq, .pass (x := .inLoop c) rfl (fun _ _ => .inl (by simp)) harr⟩
  intro b k cs
  obtain ⟨e, a', w', hq, harr⟩ := key _ x0 a w rfl h0 (hs a w hG) b k cs
  exact ⟨e, a', w', hq, .of_steps (.one step_loop) harr⟩
end Go.Proofs.Ytacikihlgpnjhaa.Q
