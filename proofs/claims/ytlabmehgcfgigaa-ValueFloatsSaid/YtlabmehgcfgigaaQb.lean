import Derived.Test.YtlabmehgcfgigaaQa
import Derived.Laws.AppendOwn
import Derived.Lib.ConvBytes
import Derived.Laws.BytesArg
import Derived.Laws.MakeOwn
namespace Go.Proofs.Ytlabmehgcfgigaa.Q
open Go Go.RowKit
set_option linter.unusedVariables false
set_option linter.unusedSimpArgs false
variable {P : Program} {bs : Base}
theorem eval_func (a : Act) (f : Nat) : a.eval (.func f) = .func (.func f) #[] #[] := rfl
theorem r_call {f : Nat} {c : Ct} (hf : Holds P f c) {fn : Func} {code : Code} (hfn : P.funcs[f]? = some fn) (hbd' : fn.body = some code) (hname : (fn.name == "runtime.NumGoroutine") = false) (rl bor : List Nat) {l : List (Operand × AV)} (rhB : List (Nat × HS)) {xs : Array Operand} (hxs : xs = (l.map (·.1)).toArray) {d : Nat} {ts : Array TypeId} {ty : TypeId} {pos : String} {af : Array Edge} {gd : Option (Nat × Bool)}
    (k m : Nat) (hk : c.hin.length = k) (hm : c.hout.length = m) (hkm : Nat.ble k m = true) (hrl : rl.length = m) (hnd : nodupB rl = true) (hnf : noFree c.hout = true)
    (hids : c.hin.all (idsO k) = true) (hio : c.hout.all (idsH m) = true) (hir : idsA m c.res = true)
    (hargs : all2 (argA (fun i => rl.getD i 0) k rhB bor) l c.args) (hbd : (bor.all fun b => rl.all fun x => !Nat.beq b x) = true) (hbl : ∀ b, b ∈ bor → ∃ o, (b, HS.live o) ∈ rhB)
    (hnt : bor = [] ∨ (noTagA c.res ∧ allP noTagH c.hout)) (hN : d < bs.N) (hc : cOk l) :
    ORule P bs ⟨some d, .call { callee := .value (.func f), args := xs, argTypes := ts }, ty, pos, af, gd⟩
      ⟨rtOf l, reqIn (fun i => rl.getD i 0) 0 c.hin ++ (reqNew (fun i => rl.getD i 0) k (m - k) ++ rhB), [(d, renA (fun i => rl.getD i 0) c.res)], outW (fun i => rl.getD i 0) 0 c.hout⟩ := by
  intro Q K s a w hG hs hK
  obtain ⟨B, S, U, g⟩ := hG
  have he := evals g hs.1 hc
  have hcall := call_core hf rl bor hk hm (Nat.le_of_ble_eq_true hkm) hrl hnd hnf hids hio hir hargs hbd hbl hnt g hs.2 (l.map fun p => a.eval p.1) rfl he
  unfold Oper.wp
  have hrun : (execOp a.eval ⟨some d, .call { callee := .value (.func f), args := xs, argTypes := ts }, ty, pos, af, gd⟩).run P w = .ok (.enter f (l.map fun p => a.eval p.1).toArray) w := by
    subst hxs
    have hname' : fn.name ≠ "runtime.NumGoroutine" := by simpa using hname
    simp [execOp, resolve, eval_func, Deferred.ofValue, invoke, callFunc, hfn, hbd', hname', List.map_map, Function.comp_def]
  rw [hrun, Oper.upon_enter]
  refine hcall.mono ?_
  rintro e w' ⟨v, B', S', U', rfl, g', hv⟩
  exact hK _ _ ⟨B', S', U', g'.put hN hv⟩
theorem T.seq {s : St} {x y : Code} {Q : Exit → Act → World → Prop} (h : T P bs s x (Exit.then (y.wp P Q) Q)) : T P bs s (.seq x y) Q := fun a w hG => wp_seq (h a w hG)
theorem T.skip {s : St} {Q : Exit → Act → World → Prop} (h : ∀ a w, Gs bs s a w → Q .normal a w) : T P bs s .skip Q := fun a w hG => wp_skip (h a w hG)
theorem T.ret {s : St} {Q : Exit → Act → World → Prop} (h : ∀ a w, Gs bs s a w → Q .ret a w) : T P bs s .ret Q := fun a w hG => wp_ret (h a w hG)
theorem T.exit {s : St} {i : Nat} {Q : Exit → Act → World → Prop} (h : ∀ a w, Gs bs s a w → Q (.exit i) a w) : T P bs s (.exit i) Q := fun a w hG => wp_exit (h a w hG)
theorem T.block {s : St} {i : Nat} {c : Code} {Q : Exit → Act → World → Prop} (h : T P bs s c (Exit.inBlock i Q)) : T P bs s (.block i c) Q := fun a w hG => wp_block (h a w hG)
def opAV (s : St) : Operand → AV
  | .tmp t => tget s.t t
  | .const v => dv v
  | _ => .any
theorem opAV_spec {s : St} {a : Act} {w : World} {x : Operand} {v : Value} (hG : Gs bs s a w) (h : opAV s x = dv v) : a.eval x = v := by
  obtain ⟨B, S, U, g⟩ := hG
  cases x with
  | tmp t => have := g.tm t; rw [show tget s.t t = dv v from h] at this; exact this
  | const u => simp only [opAV] at h; cases h; rfl
  | global g => cases h
  | func f => cases h
theorem T.cond {s : St} {c : Operand} {x y : Code} {b : Bool} {Q : Exit → Act → World → Prop} (hb : opAV s c = dv (.bool b)) (ht : b = true → T P bs s x Q) (hf : b = false → T P bs s y Q) : T P bs s (.cond c x y) Q :=
  fun a w hG => wp_cond_split (opAV_spec hG hb) (fun h => ht h a w hG) fun h => hf h a w hG
theorem T.condT {s : St} {c : Operand} {x y : Code} {b : Bool} {Q : Exit → Act → World → Prop} (hb : opAV s c = dv (.bool b)) (h : b = true) (ht : T P bs s x Q) : T P bs s (.cond c x y) Q := T.cond hb (fun _ => ht) fun h' => by rw [h] at h'; cases h'
theorem T.condF {s : St} {c : Operand} {x y : Code} {b : Bool} {Q : Exit → Act → World → Prop} (hb : opAV s c = dv (.bool b)) (h : b = false) (hf : T P bs s y Q) : T P bs s (.cond c x y) Q := T.cond hb (fun h' => by rw [h] at h'; cases h') fun _ => hf
theorem T.loop {s : St} {c : Code} {Q : Exit → Act → World → Prop} {ι : Type} (st : ι → St) (pre : ι → Prop) (μ : ι → Nat) (x0 : ι) (h0 : pre x0) (hs : ∀ a w, Gs bs s a w → Gs bs (st x0) a w)
    (round : ∀ x, pre x → T P bs (st x) c (Exit.then (fun a w => ∃ x', pre x' ∧ μ x' < μ x ∧ Gs bs (st x') a w) Q)) : T P bs s (.loop c) Q := by
  intro a w hG
  have key : ∀ n x a w, μ x = n → pre x → Gs bs (st x) a w → ∀ (b : Frame) (k : List Item) (cs : List Frame),
      ∃ e a' w', Q e a' w' ∧ Arrives P (lone (b.at a (.code c :: .inLoop c :: k)) cs w) b k cs e a' w' := by
    intro n
    induction n using Nat.strongRecOn with
    | _ n ih =>
      intro x a w hn hx hG b k cs
      obtain ⟨e, a₁, w₁, hq, harr⟩ := round x hx a w hG b (.inLoop c :: k) cs
      cases e with
      | normal =>
        obtain ⟨x', hx', hlt, hG'⟩ := hq
        obtain ⟨e₂, a₂, w₂, hq₂, harr₂⟩ := ih (μ x') (hn ▸ hlt) x' a₁ w₁ rfl hx' hG' b k cs
        exact ⟨e₂, a₂, w₂, hq₂, .of_steps (Steps.trans harr (.one step_inLoop)) harr₂⟩
      | exit id => exact ⟨_, a₁, w₁, hq, .pass (x := .inLoop c) rfl (fun _ _ => .inl (by simp)) harr⟩
      | goto l => exact ⟨_, a₁, w₁, hq, .pass (x := .inLoop c) rfl (fun _ _ => .inl (by simp)) harr⟩
      | ret => exact ⟨_, a₁, w₁, hq, .pass (x := .inLoop c) rfl (fun _ _ => .inl (by simp)) harr⟩
      | panic ch => exact ⟨_, a₁, w₁, hq, .pass (x := .inLoop c) rfl (fun _ _ => .inl (by simp)) harr⟩
      | outgrown => exact ⟨_, a₁, w₁, hq, .pass (x := .inLoop c) rfl (fun _ _ => .inl (by simp)) harr⟩
  intro b k cs
  obtain ⟨e, a', w', hq, harr⟩ := key _ x0 a w rfl h0 (hs a w hG) b k cs
  exact ⟨e, a', w', hq, .of_steps (.one step_loop) harr⟩
end Go.Proofs.Ytlabmehgcfgigaa.Q
namespace Go.Proofs.Ytlabmehgcfgigaa.Q
open Go Go.RowKit
set_option linter.unusedVariables false
set_option linter.unusedSimpArgs false
structure Kd (α : Type) where
  sz : Nat
  cell : α → Nat → DV
  z : α
def elOf {α : Type} (K : Kd α) (xs : List α) : Nat → Nat → DV := fun i j => K.cell (xs.getD i K.z) j
def dsl {α : Type} (tag nn : Bool) (K : Kd α) (xs : List α) : DV := .sl tag nn K.sz xs.length (elOf K xs)
abbrev slV {α : Type} (tag nn : Bool) (K : Kd α) (xs : List α) : AV := sv (.d (dsl tag nn K xs))
def arrK {α : Type} (T : Nat) (K : Kd α) (xs : List α) : HObj := .arr T K.sz xs.length (elOf K xs)
variable {P : Program} {bs : Base}
def cellD : DV → Bool
  | .any => false
  | .val v => cellV v
  | .nan => true
  | .sl .. => true
end Go.Proofs.Ytlabmehgcfgigaa.Q
namespace Go.Proofs.Ytlabmehgcfgigaa.Q
open Go Go.RowKit
set_option linter.unusedVariables false
set_option linter.unusedSimpArgs false
variable {P : Program} {bs : Base}
theorem eqGuard_plain {op : BinOp} {t : TypeId} {x y : Operand} {a b : Value} {w : World} (h : (∀ c, a ≠ .agg c) ∨ (∀ c, b ≠ .agg c)) (h' : a ≠ .nilIface ∨ b ≠ .nilIface) : (eqGuard op t x y a b).run P w = .ok () w := by
  unfold eqGuard
  split
  · cases a <;> cases b <;> first | rfl | (simp at h; done) | (simp at h'; done)
  · cases a <;> cases b <;> first | rfl | (simp at h; done) | (simp at h'; done)
  · rfl
theorem equal_of {t : TypeId} {a b : Value} {r : Bool} {w : World} (h : ∀ n, (Op.equalIn (n + 1) t a b).run P w = .ok r w) : (Op.equal t a b).run P w = .ok r w := h 9999
theorem eql_of {t : TypeId} {a b : Value} {r : Bool} {w : World} (h : ∀ n, (Op.equalIn (n + 1) t a b).run P w = .ok r w) : (do pure (.bool (← Op.equal t a b)) : Sem Value).run P w = .ok (.bool r) w := by
  simp only [Sem.run_bind, equal_of h, Result.andThen_ok, Sem.run_pure]
theorem neq_of {t : TypeId} {a b : Value} {r : Bool} {w : World} (h : ∀ n, (Op.equalIn (n + 1) t a b).run P w = .ok r w) : (do pure (.bool (!(← Op.equal t a b))) : Sem Value).run P w = .ok (.bool (!r)) w := by
  simp only [Sem.run_bind, equal_of h, Result.andThen_ok, Sem.run_pure]
theorem eqIn_ptr {t e : TypeId} {ao bo : Option Addr} {k : Nat} {w : World} (ht : P.underlying t = some (.pointer e)) (h : bo = none) : (Op.equalIn (k + 1) t (.pointer ao) (.pointer bo)).run P w = .ok ao.isNone w := by
  subst h
  simp only [Op.equalIn, Sem.run_bind, run_underlying' ht, Result.andThen_ok]
  cases ao <;> rfl
theorem eqIn_bool {t : TypeId} {a b : Bool} {k : Nat} {w : World} (ht : P.underlying t = some .bool) : (Op.equalIn (k + 1) t (.bool a) (.bool b)).run P w = .ok (a == b) w := by
  simp only [Op.equalIn, Sem.run_bind, run_underlying' ht, Result.andThen_ok]
  rfl
theorem bin_of {op : BinOp} {t : TypeId} {a b v : Value} (h : (∀ c, a ≠ .agg c) ∨ (∀ c, b ≠ .agg c)) (h' : a ≠ .nilIface ∨ b ≠ .nilIface) (hr : ∀ w, (binOp op t a b).run P w = .ok v w) : BinR P op t a b v := fun w x y => by
  simp only [Sem.run_bind, eqGuard_plain h h', Result.andThen_ok, hr]
theorem b_add {k : IntKind} {t : TypeId} {a b c : Int} (h : k.wrap (a + b) = c) : BinR P .add t (.int k a) (.int k b) (.int k c) := bin_of (.inl fun _ => by simp) (.inl (by simp)) fun w => by simp [binOp, Op.intArith, h]
theorem b_sub {k : IntKind} {t : TypeId} {a b c : Int} (h : k.wrap (a - b) = c) : BinR P .sub t (.int k a) (.int k b) (.int k c) := bin_of (.inl fun _ => by simp) (.inl (by simp)) fun w => by simp [binOp, Op.intArith, h]
theorem b_mul {k : IntKind} {t : TypeId} {a b c : Int} (h : k.wrap (a * b) = c) : BinR P .mul t (.int k a) (.int k b) (.int k c) := bin_of (.inl fun _ => by simp) (.inl (by simp)) fun w => by simp [binOp, Op.intArith, h]
theorem b_quo {k : IntKind} {t : TypeId} {a b c : Int} (h0 : b ≠ 0) (h : k.wrap (a.tdiv b) = c) : BinR P .quo t (.int k a) (.int k b) (.int k c) := bin_of (.inl fun _ => by simp) (.inl (by simp)) fun w => by simp [binOp, Op.intDiv, h, h0]
theorem b_shl {k k' : IntKind} {t : TypeId} {a b c : Int} {n : Nat} (hb : b = n) (hn : n ≤ k.bits) (h : k.wrap (a * 2 ^ n) = c) : BinR P .shl t (.int k a) (.int k' b) (.int k c) := bin_of (.inl fun _ => by simp) (.inl (by simp)) fun w => by
  subst hb
  simp [binOp, Op.shift, h, show ¬ ((n : Int) < 0) by omega, Nat.min_eq_left hn]
theorem b_shr {k k' : IntKind} {t : TypeId} {a b c : Int} {n : Nat} (hb : b = n) (hn : n ≤ k.bits) (h : a.fdiv (2 ^ n) = c) : BinR P .shr t (.int k a) (.int k' b) (.int k c) := bin_of (.inl fun _ => by simp) (.inl (by simp)) fun w => by
  subst hb
  simp [binOp, Op.shift, h, show ¬ ((n : Int) < 0) by omega, Nat.min_eq_left hn]
theorem b_lss {k : IntKind} {t : TypeId} {a b : Int} : BinR P .lss t (.int k a) (.int k b) (.bool (decide (a < b))) := bin_of (.inl fun _ => by simp) (.inl (by simp)) fun w => by simp [binOp, Op.intCmp]
theorem b_leq {k : IntKind} {t : TypeId} {a b : Int} : BinR P .leq t (.int k a) (.int k b) (.bool (decide (a ≤ b))) := bin_of (.inl fun _ => by simp) (.inl (by simp)) fun w => by simp [binOp, Op.intCmp]
theorem b_gtr {k : IntKind} {t : TypeId} {a b : Int} : BinR P .gtr t (.int k a) (.int k b) (.bool (decide (a > b))) := bin_of (.inl fun _ => by simp) (.inl (by simp)) fun w => by simp [binOp, Op.intCmp]
theorem b_geq {k : IntKind} {t : TypeId} {a b : Int} : BinR P .geq t (.int k a) (.int k b) (.bool (decide (a ≥ b))) := bin_of (.inl fun _ => by simp) (.inl (by simp)) fun w => by simp [binOp, Op.intCmp]
theorem b_eql {k : IntKind} {t : TypeId} {a b : Int} : BinR P .eql t (.int k a) (.int k b) (.bool (decide (a = b))) := bin_of (.inl fun _ => by simp) (.inl (by simp)) fun w => by
  have : (a == b) = decide (a = b) := by by_cases h : a = b <;> simp [h]
  simp [binOp, Op.intCmp, this]
theorem b_neq {k : IntKind} {t : TypeId} {a b : Int} : BinR P .neq t (.int k a) (.int k b) (.bool (decide (a ≠ b))) := bin_of (.inl fun _ => by simp) (.inl (by simp)) fun w => by
  have : (a != b) = decide (a ≠ b) := by by_cases h : a = b <;> simp [h]
  simp [binOp, Op.intCmp, this]
def strV (l : List UInt8) : Value := .string ⟨l.toArray⟩
theorem b_eqlS {t : TypeId} {a b : List UInt8} : BinR P .eql t (strV a) (strV b) (.bool (decide (a = b))) := bin_of (.inl fun _ => by simp [strV]) (.inl (by simp [strV])) fun w => by
  have : (a == b) = decide (a = b) := by by_cases h : a = b <;> simp [h]
  simp [strV, binOp, Op.stringOp, this]
theorem b_neqS {t : TypeId} {a b : List UInt8} : BinR P .neq t (strV a) (strV b) (.bool (decide (a ≠ b))) := bin_of (.inl fun _ => by simp [strV]) (.inl (by simp [strV])) fun w => by
  have : (a == b) = decide (a = b) := by by_cases h : a = b <;> simp [h]
  simp [strV, binOp, Op.stringOp, this]
theorem b_eqlB {t : TypeId} {a b : Bool} (ht : P.underlying t = some .bool) : BinR P .eql t (.bool a) (.bool b) (.bool (decide (a = b))) := bin_of (.inl fun _ => by simp) (.inl (by simp)) fun w => by
  have : (a == b) = decide (a = b) := by cases a <;> cases b <;> rfl
  rw [← this]
  exact eql_of fun n => eqIn_bool ht
theorem b_neqB {t : TypeId} {a b : Bool} (ht : P.underlying t = some .bool) : BinR P .neq t (.bool a) (.bool b) (.bool (decide (a ≠ b))) := bin_of (.inl fun _ => by simp) (.inl (by simp)) fun w => by
  have : (!(a == b)) = decide (a ≠ b) := by cases a <;> cases b <;> rfl
  rw [← this]
  exact neq_of fun n => eqIn_bool ht
theorem b_eqlNilP {t e : TypeId} (ht : P.underlying t = some (.pointer e)) : BinR P .eql t (.pointer none) (.pointer none) (.bool true) := bin_of (.inl fun _ => by simp) (.inl (by simp)) fun w => by
  exact eql_of fun n => eqIn_ptr ht rfl
theorem b_neqNilP {t e : TypeId} (ht : P.underlying t = some (.pointer e)) : BinR P .neq t (.pointer none) (.pointer none) (.bool false) := bin_of (.inl fun _ => by simp) (.inl (by simp)) fun w => by
  exact neq_of fun n => eqIn_ptr ht rfl
theorem u_not {b : Bool} : UnR P .not (.bool b) (.bool (!b)) := fun w => by simp [Op.unary]
theorem u_neg {k : IntKind} {a c : Int} (h : k.wrap (0 - a) = c) : UnR P .neg (.int k a) (.int k c) := fun w => by simp only [Op.unary, Op.intArith, h]; rfl
theorem c_int {s d : TypeId} {ds : TypeDesc} {k k' : IntKind} {a c : Int} (hs : P.underlying s = some ds) (hd : P.underlying d = some (.int k)) (h : k.wrap a = c) : ConvR P s d (.int k' a) (.int k c) := fun w => by
  simp only [convert, Sem.run_bind, run_underlying' hs, run_underlying' hd, Result.andThen_ok]
  cases ds <;> simp [Conv.intToInt, h]
theorem r_eqNilP {d : Nat} {x y : Operand} {av : AV} {t e yt ty : TypeId} {pos : String} {af : Array Edge} {gd : Option (Nat × Bool)} (ht : P.underlying t = some (.pointer e)) (hp : isPtr av = true) (hN : d < bs.N) (hc : cOk [(x, av), (y, dv (.pointer none))]) : ORule P bs ⟨some d, .binOp .eql t x y yt, ty, pos, af, gd⟩ ⟨rtOf [(x, av), (y, dv (.pointer none))], [], [(d, dv (.bool false))], []⟩ :=
  .val rfl hN hc fun B S U s' a w g _ he => by
    obtain ⟨ad, hv⟩ := isPtr_spec hp he.1
    have hy : a.eval y = .pointer none := he.2.1
    refine ⟨.bool false, ?_, rfl⟩
    have hb : (binOp .eql t (.pointer (some ad)) (.pointer none)).run P w = .ok (.bool false) w := eql_of (r := false) fun n => eqIn_ptr ht rfl
    have hg : (eqGuard .eql t x y (.pointer (some ad)) (.pointer none)).run P w = .ok () w := eqGuard_plain (.inl fun _ => by simp) (.inl (by simp))
    simp only [execOp, hv, hy, Sem.run_bind, hg, Result.andThen_ok, hb]
    rfl
theorem r_neNilP {d : Nat} {x y : Operand} {av : AV} {t e yt ty : TypeId} {pos : String} {af : Array Edge} {gd : Option (Nat × Bool)} (ht : P.underlying t = some (.pointer e)) (hp : isPtr av = true) (hN : d < bs.N) (hc : cOk [(x, av), (y, dv (.pointer none))]) : ORule P bs ⟨some d, .binOp .neq t x y yt, ty, pos, af, gd⟩ ⟨rtOf [(x, av), (y, dv (.pointer none))], [], [(d, dv (.bool true))], []⟩ :=
  .val rfl hN hc fun B S U s' a w g _ he => by
    obtain ⟨ad, hv⟩ := isPtr_spec hp he.1
    have hy : a.eval y = .pointer none := he.2.1
    refine ⟨.bool true, ?_, rfl⟩
    have hb : (binOp .neq t (.pointer (some ad)) (.pointer none)).run P w = .ok (.bool true) w := neq_of (r := false) fun n => eqIn_ptr ht rfl
    have hg : (eqGuard .neq t x y (.pointer (some ad)) (.pointer none)).run P w = .ok () w := eqGuard_plain (.inl fun _ => by simp) (.inl (by simp))
    simp only [execOp, hv, hy, Sem.run_bind, hg, Result.andThen_ok, hb]
    rfl
theorem T.turn {s s' : St} {c : Code} {Q : Exit → Act → World → Prop} (h : ∀ a w, Gs bs s a w → Gs bs s' a w) (ht : T P bs s' c Q) : T P bs s c Q := fun a w hG => ht a w (h a w hG)
def frS (l sz n : Nat) (el : Nat → Nat → DV) (x y : SV) : Prop := x = y ∨
  match x, y with
  | .own l' sz0 off m, .d (.sl tag nn sz' m' el') => l' = l ∧ sz0 = sz ∧ tag = false ∧ (nn = true → 0 < m) ∧ sz' = sz ∧ m' = m ∧ off + m ≤ n ∧ ∀ i j, i < m → el' i j = el (off + i) j
  | _, _ => False
def frT (l sz n : Nat) (el : Nat → Nat → DV) : TV → TV → Prop
  | .one x, .one y => frS l sz n el x y
  | .agg a, .agg b => all2 (frS l sz n el) a b
  | _, _ => False
def frA (l sz n : Nat) (el : Nat → Nat → DV) (x y : AV) : Prop := x = y ∨
  match x, y with
  | .tv a, .tv b => frT l sz n el a b
  | .tup a, .tup b => all2 (frT l sz n el) a b
  | _, _ => False
def frO (l sz n : Nat) (el : Nat → Nat → DV) (x y : HS) : Prop := x = y ∨
  match x, y with
  | .live (.box T a), .live (.box T' b) => T' = T ∧ all2 (frS l sz n el) a b
  | _, _ => False
def frH (l sz n : Nat) (el : Nat → Nat → DV) : Nat → List HS → List HS → Prop
  | _, [], [] => True
  | i, x :: r, y :: r' => (i = l ∧ y = .dead ∨ i ≠ l ∧ frO l sz n el x y) ∧ frH l sz n el (i + 1) r r'
  | _, _, _ => False
theorem tget_all2 {R : AV → AV → Prop} (h0 : R .any .any) : ∀ {l k : List AV}, all2 R l k → ∀ i, R (tget l i) (tget k i)
  | [], [], _, _ => h0
  | _ :: _, _ :: _, h, 0 => h.1
  | _ :: _, _ :: _, h, i + 1 => tget_all2 h0 h.2 i
  | [], _ :: _, h, _ => h.elim
  | _ :: _, [], h, _ => h.elim
theorem frH_get {l sz n : Nat} {el : Nat → Nat → DV} : ∀ {a b : List HS} {i : Nat}, frH l sz n el i a b → ∀ k, (i + k = l ∧ k < b.length → hget b k = .dead) ∧ (i + k ≠ l → frO l sz n el (hget a k) (hget b k))
  | [], [], _, _, k => ⟨fun h => absurd h.2 (Nat.not_lt_zero _), fun _ => .inl rfl⟩
  | x :: a, y :: b, i, h, 0 => ⟨fun e => by rcases h.1 with h | h; exact h.2; exact absurd e.1 h.1, fun e => by rcases h.1 with h | h; exact absurd h.1 e; exact h.2⟩
  | x :: a, y :: b, i, h, k + 1 => by
    have := frH_get h.2 k
    rw [show i + (k + 1) = i + 1 + k from by omega]
    exact ⟨fun e => this.1 ⟨e.1, by simpa using e.2⟩, this.2⟩
  | [], _ :: _, _, h, _ => h.elim
  | _ :: _, [], _, h, _ => h.elim
theorem frH_len {l sz n : Nat} {el : Nat → Nat → DV} : ∀ {a b : List HS} {i : Nat}, frH l sz n el i a b → a.length = b.length
  | [], [], _, _ => rfl
  | _ :: a, _ :: b, i, h => by simp only [List.length_cons]; rw [frH_len h.2]
  | [], _ :: _, _, h => h.elim
  | _ :: _, [], _, h => h.elim
theorem all2_fr {α β : Type} {F : α → α → Prop} {R R' : α → β → Prop} (h : ∀ x y v, F x y → R x v → R' y v) : ∀ {a b : List α} {c : List β}, all2 F a b → all2 R a c → all2 R' b c
  | [], [], [], _, _ => trivial
  | _ :: _, _ :: _, _ :: _, h1, h2 => ⟨h _ _ _ h1.1 h2.1, all2_fr h h1.2 h2.2⟩
  | [], _ :: _, _, h1, _ => h1.elim
  | _ :: _, [], _, h1, _ => h1.elim
  | [], [], _ :: _, _, h2 => h2.elim
  | _ :: _, _ :: _, [], _, h2 => h2.elim
theorem Gs.freeze {s s' : St} {a : Act} {w : World} (l : Nat) {Ty sz n : Nat} {el : Nat → Nat → DV} (hl : hget s.h l = .live (.arr Ty sz n el)) (ht : all2 (frA l sz n el) s.t s'.t) (hh : frH l sz n el 0 s.h s'.h) (hG : Gs bs s a w) : Gs bs s' a w := by
  obtain ⟨B, S, U, g⟩ := hG
  have hob := g.ob l _ hl
  let F : Nat → Prop := fun b => ∃ κ, B l = some (some (b, κ))
  have hsv : ∀ x y v, frS l sz n el x y → svOk B S U w x v → svOk B (fun b => S b ∨ F b) (fun b => U b ∨ F b) w y v := by
    intro x y v h hv
    have mono := svOk_mono (B := B) (B' := B) (S := S) (S' := fun b => S b ∨ F b) (U := U) (U' := fun b => U b ∨ F b) (w := w) (w' := w) (fun _ _ h => h) (fun _ h => .inl h) (fun _ h => .inl h) (Pres.refl _ _)
    rcases h with rfl | h
    · exact mono _ _ hv
    · match x, y, h with
      | .own l' sz0 off m, .d (.sl tag nn sz' m' el'), ⟨h1, h2, h3, h4, h5, h6, h7, h8⟩ =>
        subst h1
        subst h2
        subst h3
        subst h5
        subst h6
        rcases hv with ⟨_, _, hn0, hv⟩ | ⟨b, κ, o, cap, hb, hv, hcap, hle, ho⟩
        · subst hn0
          exact ⟨none, 0, hv, Nat.le_refl _, fun _ => rfl, fun h => absurd (h4 h) (Nat.lt_irrefl 0), fun i hi => absurd hi (Nat.not_lt_zero _)⟩
        · refine ⟨some ⟨b, o, none⟩, cap, hv, hle, by simp, by simp, fun i hi => ⟨⟨b, o, none⟩, rfl, rfl, .inr ⟨κ, hb⟩, fun j hj => ?_⟩⟩
          rcases hob with ⟨hob, _⟩ | ⟨b', κ', cur, hb', hcur, hsz, hnk, hkm', hel⟩
          · rw [hb] at hob; cases hob
          · rw [hb] at hb'
            cases hb'
            obtain ⟨u, hu, hd⟩ := hel (off + i) (by omega) j hj
            refine ⟨u, cell_of_block hcur ?_, ?_⟩
            · rw [ho (.inl (by omega)), ← Nat.add_assoc, ← Nat.add_mul]
              exact hu
            · rw [h8 i j hi]
              exact dOk_mono (fun _ h => .inl h) (fun _ h => .inl h) (Pres.refl _ _) _ _ hd
  have htv : ∀ x y v, frT l sz n el x y → tvOk B S U w x v → tvOk B (fun b => S b ∨ F b) (fun b => U b ∨ F b) w y v := by
    intro x y v h hv
    match x, y, h with
    | .one x, .one y, h => exact hsv x y v h hv
    | .agg x, .agg y, h =>
      obtain ⟨cs, h1, h2⟩ := hv
      exact ⟨cs, h1, all2_fr hsv h h2⟩
  have hav : ∀ x y v, frA l sz n el x y → avOk B S U w x v → avOk B (fun b => S b ∨ F b) (fun b => U b ∨ F b) w y v := by
    intro x y v h hv
    rcases h with rfl | h
    · exact avOk_mono (fun _ _ h => h) (fun _ h => .inl h) (fun _ h => .inl h) (Pres.refl _ _) _ _ hv
    · match x, y, h with
      | .tv x, .tv y, h => exact htv x y v h hv
      | .tup x, .tup y, h =>
        obtain ⟨cs, h1, h2⟩ := hv
        exact ⟨cs, h1, all2_fr htv h h2⟩
  have hFlive : ∀ b, F b → (bs.C b ∨ bs.w0.heap.size ≤ b) ∧ b < w.heap.size := fun b ⟨κ, hb⟩ => ⟨g.cf l _ (b, κ) hl hb, obOk_lt hob hb⟩
  have hlen := frH_len hh
  have hlt : l < s.h.length := hget_lt hl
  have hdead : hget s'.h l = .dead := ((frH_get hh l).1 ⟨by omega, by omega⟩)
  have hfo : ∀ k, k ≠ l → frO l sz n el (hget s.h k) (hget s'.h k) := fun k hk => (frH_get hh k).2 (by omega)
  have hlv : ∀ k o', hget s'.h k = .live o' → k ≠ l ∧ ∃ o, hget s.h k = .live o ∧ (obOk B S U w k o → obOk B (fun b => S b ∨ F b) (fun b => U b ∨ F b) w k o') := by
    intro k o' ho'
    have hk : k ≠ l := fun e => by rw [e, hdead] at ho'; cases ho'
    refine ⟨hk, ?_⟩
    rcases hfo k hk with h | h
    · exact ⟨o', by rw [h]; exact ho', obOk_mono (fun _ _ h => h) (fun _ h => .inl h) (fun _ h => .inl h) (Pres.refl _ _) fun _ _ => rfl⟩
    · rw [ho'] at h
      match hs : hget s.h k, o', h with
      | .live (.box T x), .box T' y, h =>
        obtain ⟨rfl, h⟩ := h
        exact ⟨_, rfl, fun ⟨b, κ, cur, h1, h2, h3⟩ => ⟨b, κ, cur, h1, h2, all2_fr hsv h h3⟩⟩
  refine ⟨B, fun b => S b ∨ F b, fun b => U b ∨ F b, { df := g.df, sz := g.sz, tm := fun k => hav _ _ _ (tget_all2 (.inl rfl) ht k) (g.tm k), ob := fun k o' e => ?_, nj := fun k k' o o' e e' hne p p' hp hp' => ?_, sp := fun k o' p e hp => ?_, cf := fun k o' p e hp => ?_, fr := fun k e => ?_, su := fun b h => h.imp (g.su b) id, ub := fun b h => h.elim (g.ub b) fun h => (hFlive b h).2, s0 := fun b h => .inl (g.s0 b h), u0 := fun b h => .inl (g.u0 b h), sn := fun b h => h.elim (g.sn b) fun h => .inr (hFlive b h).1, un := fun b h => h.elim (g.un b) fun h => .inr (hFlive b h).1, ps := g.ps, hs := g.hs, os := g.os, tp := g.tp, op := g.op, bl := g.bl, bk := g.bk }⟩
  · obtain ⟨hk, o, ho, f⟩ := hlv k o' e
    exact f (g.ob k o ho)
  · obtain ⟨_, o1, ho1, _⟩ := hlv k o e
    obtain ⟨_, o2, ho2, _⟩ := hlv k' o' e'
    exact g.nj k k' o1 o2 ho1 ho2 hne p p' hp hp'
  · obtain ⟨hk, o, ho, _⟩ := hlv k o' e
    rintro (h | ⟨κ, h⟩)
    · exact g.sp k o p ho hp h
    · exact g.nj k l o _ ho hl hk p (p.1, κ) hp h rfl
  · obtain ⟨hk, o, ho, _⟩ := hlv k o' e
    exact g.cf k o p ho hp
  · have hk : k ≠ l := fun h => by rw [h, hdead] at e; cases e
    rcases hfo k hk with h | h
    · exact g.fr k (by rw [h]; exact e)
    · rw [e] at h
      match hs : hget s.h k, h with
      | .live (.box _ _), h => exact h.elim
end Go.Proofs.Ytlabmehgcfgigaa.Q
namespace Go.Proofs.Ytlabmehgcfgigaa.Q
open Go Go.RowKit
set_option linter.unusedVariables false
set_option linter.unusedSimpArgs false
variable {P : Program} {bs : Base}
def kU8 : Kd UInt8 := ⟨1, fun b _ => .val (.int .u8 b.toNat), 0⟩
def flat (n sz : Nat) (el : Nat → Nat → DV) : List SV := (List.range n).flatMap fun i => (List.range sz).map fun j => .d (el i j)
theorem flat_get {n sz : Nat} {el : Nat → Nat → DV} : ∀ i, i < n → ∀ j, j < sz → (flat n sz el)[i * sz + j]? = some (.d (el i j)) := by
  induction n with
  | zero => intro i hi; omega
  | succ n ih =>
    intro i hi j hj
    have hs : flat (n + 1) sz el = flat n sz el ++ ((List.range sz).map fun j => SV.d (el n j)) := by simp [flat, List.range_succ]
    have hlen : (flat n sz el).length = n * sz := by
      have : ∀ n, (flat n sz el).length = n * sz := by
        intro n
        induction n with
        | zero => simp [flat]
        | succ n ih =>
          have hs : flat (n + 1) sz el = flat n sz el ++ ((List.range sz).map fun j => SV.d (el n j)) := by simp [flat, List.range_succ]
          rw [hs, List.length_append, ih, Nat.add_mul]
          simp
      exact this n
    rw [hs]
    by_cases h : i < n
    · have hlt : i * sz + j < n * sz := by
        calc i * sz + j < i * sz + sz := by omega
          _ = (i + 1) * sz := by rw [Nat.add_mul, Nat.one_mul]
          _ ≤ n * sz := Nat.mul_le_mul_right _ h
      rw [List.getElem?_append_left (by omega)]
      exact ih i h j hj
    · have : i = n := by omega
      subst this
      rw [List.getElem?_append_right (by omega), hlen, show i * sz + j - i * sz = j by omega]
      simp [hj]
theorem r_buildSliceW {d l e sz len : Nat} {zs : List Value} {ps : List Part} {el : Nat → Nat → DV} {cs : List SV} {xs : Array (Nat × Operand)} {t ty : TypeId} {pos : String} {af : Array Edge} {gd : Option (Nat × Bool)} (ht : P.underlying t = some (.slice e)) {inf : TypeInfo} (hi : P.info? e = some inf) (hsz : inf.size = sz) (hz : Zero P e zs) (hzl : zs.length = sz) (hpos : 0 < sz) (hx : xs = (ps.map fun p => (p.i, p.x)).toArray) (hle : len * sz ≤ 16777216) (h63 : len ≤ maxLen)
    (hok : partsOk (fun i => some (i * sz, sz)) (len * sz) ps) (hcs : fillS ((List.range (len * sz)).map fun k => .d (.val (zs.getD (k % sz) undef))) (partsFill ps) = cs) (hwk : all2 wkS cs (flat len sz el)) (hN : d < bs.N) (hc : cOk (partsOps ps)) :
    ORule P bs ⟨some d, .buildSlice t len xs, ty, pos, af, gd⟩ ⟨rtOf (partsOps ps), [(l, .free)], [(d, sv (.own l sz 0 len))], [(l, .live (.arr e sz len el))]⟩ :=
  .heap rfl hN hc fun B S U s a w g hh he => by
    obtain ⟨i, z, h1, h2, h3⟩ := hz
    rw [hi] at h1
    cases h1
    subst hsz
    have hzsz : z.cells.size = inf.size := by rw [← hzl, ← h3]; simp
    let base : Array Value := (Array.range (len * inf.size)).map (z.cells[· % inf.size]!)
    have hbase : base = (Array.range (len * inf.size)).map (z.cells[· % z.cells.size]!) := by simp [base, hzsz]
    have hbsz : base.size = len * inf.size := by simp [base]
    have hb : all2 (svOk B S U w) ((List.range (len * inf.size)).map fun k => SV.d (.val (zs.getD (k % inf.size) undef))) base.toList := by
      refine all2_of_get (by simp [base]) fun k x v hx hv => ?_
      rw [List.getElem?_map] at hx
      have hk : k < len * inf.size := by
        have := (List.getElem?_eq_some_iff.1 hv).1
        simpa [base] using this
      rw [List.getElem?_range hk] at hx
      simp only [Option.map_some, Option.some.injEq] at hx
      subst hx
      have hmod : k % inf.size < z.cells.size := by rw [hzsz]; exact Nat.mod_lt _ hpos
      have hv' : v = z.cells[k % inf.size]! := by
        simp only [base, Array.toList_map, Array.toList_range, List.getElem?_map, List.getElem?_range hk, Option.map_some, Option.some.injEq] at hv
        exact hv.symm
      show v = zs.getD (k % inf.size) undef
      rw [hv', ← h3]
      simp [hmod]
    obtain ⟨out, ho, hall⟩ := fill_ok (fun i => some (i * inf.size, inf.size)) ps _ base he (by rw [hbsz]; exact hok) hb
    rw [hcs] at hall
    replace hall := all2_wk hwk hall
    have hosz : out.size = len * inf.size := by
      have := all2_len hall
      have hl : (flat len inf.size el).length = len * inf.size := by
        have : ∀ n, (flat n inf.size el).length = n * inf.size := by
          intro n
          induction n with
          | zero => simp [flat]
          | succ n ih =>
            have hs : flat (n + 1) inf.size el = flat n inf.size el ++ ((List.range inf.size).map fun j => SV.d (el n j)) := by simp [flat, List.range_succ]
            rw [hs, List.length_append, ih, Nat.add_mul]
            simp
        exact this len
      rw [hl] at this
      simpa using this.symm
    have hlf := hh.1
    have hm := svOk_alloc (B := B) (S := S) (U := U) (w := w) (l := l) (p := some (w.heap.size, len)) (o := .cells out e) (g.fr l hlf) fun b hb => hb.elim (fun h => g.ub b (g.su b h)) (g.ub b)
    refine ⟨.slice (some ⟨w.heap.size, 0, none⟩) len len, w.alloc (.cells out e), bset B l (some (w.heap.size, len)), S, U, ?_, g.alloc hlf _ _ len (.inr ⟨w.heap.size, len, out, by simp [bset], heap_alloc_new w _, hosz, Nat.le_refl _, h63, fun i hi j hj => ?_⟩), .inr ⟨w.heap.size, len, 0, len, by simp [bset], rfl, by omega, Nat.le_refl _, fun _ => by simp⟩⟩
    · subst hx
      have hps : (((ps.map fun p => (p.i, p.x)).toArray.map fun (q : Nat × Operand) => (q.1, a.eval q.2)).toList : List (Nat × Value)) = ps.map fun p => (p.i, a.eval p.x) := by simp
      have hn : ¬ (16777216 < len * inf.size) := by omega
      by_cases h0 : len * inf.size = 0
      · have hlen0 : len = 0 := by
          rcases Nat.mul_eq_zero.1 h0 with h | h
          · exact h
          · omega
        subst hlen0
        have hbe : base = #[] := by simp [base, Array.range_zero']
        rw [hbe] at ho
        simp only [execOp, Instr.buildSlice, Sem.run_bind, run_underlying' ht, Result.andThen_ok, run_sizeOf hi, hps]
        simp [ho, newRow, newObj, Sem.run, Array.range_zero']
      · simp only [execOp, Instr.buildSlice, Sem.run_bind, run_underlying' ht, Result.andThen_ok, run_sizeOf hi, hps]
        simp only [hbase] at ho
        simp [hn, h0, run_zeroValue hi h2, ho, newRow, newObj, Sem.run]
    · obtain ⟨u, hu, hd⟩ := all2_get hall (flat_get (n := len) (sz := inf.size) (el := el) i hi j hj)
      refine ⟨u, by simpa using hu, ?_⟩
      exact hm (.d (el i j)) u hd
end Go.Proofs.Ytlabmehgcfgigaa.Q
namespace Go.Proofs.Ytlabmehgcfgigaa.Q
open Go Go.RowKit
set_option linter.unusedVariables false
set_option linter.unusedSimpArgs false
variable {P : Program} {bs : Base}
abbrev Ends (bs : Base) (s : St) (e : Exit) (Q : Exit → Act → World → Prop) : Prop := ∀ a w, Gs bs s a w → Q e a w
theorem nT {s : St} {y : Code} {Q Q' : Exit → Act → World → Prop} (h : T P bs s y Q) : Ends bs s .normal (Exit.then (y.wp P Q) Q') := h
theorem nB {s : St} {i : Nat} {Q : Exit → Act → World → Prop} (h : Ends bs s .normal Q) : Ends bs s .normal (Exit.inBlock i Q) := h
theorem xT {s : St} {i : Nat} {K : Act → World → Prop} {Q : Exit → Act → World → Prop} (h : Ends bs s (.exit i) Q) : Ends bs s (.exit i) (Exit.then K Q) := h
theorem xH {s : St} {i : Nat} {Q : Exit → Act → World → Prop} (h : Ends bs s .normal Q) : Ends bs s (.exit i) (Exit.inBlock i Q) := fun a w hG => by
  show (if i = i then Q .normal a w else Q (.exit i) a w)
  rw [if_pos rfl]; exact h a w hG
theorem rT {s : St} {K : Act → World → Prop} {Q : Exit → Act → World → Prop} (h : Ends bs s .ret Q) : Ends bs s .ret (Exit.then K Q) := h
theorem rB {s : St} {i : Nat} {Q : Exit → Act → World → Prop} (h : Ends bs s .ret Q) : Ends bs s .ret (Exit.inBlock i Q) := h
theorem nL {ι : Type} {st : ι → St} {pre : ι → Prop} {μ : ι → Nat} {x : ι} {s : St} {Q : Exit → Act → World → Prop} (x' : ι) (hp : pre x') (hμ : μ x' < μ x) (h : ∀ a w, Gs bs s a w → Gs bs (st x') a w) :
    Ends bs s .normal (Exit.then (fun a w => ∃ x', pre x' ∧ μ x' < μ x ∧ Gs bs (st x') a w) Q) := fun a w hG => ⟨x', hp, hμ, h a w hG⟩
def intoT (r : Nat → Nat) (m : Nat) : List AV → List AV → Prop
  | [], _ => True
  | x :: l, t => (x = .any ∨ (idsA m x = true ∧ renA r x = tget t 0)) ∧ intoT r m l (t.drop 1)
def intoH (r : Nat → Nat) (m : Nat) (h : List HS) : Nat → List HS → Prop
  | _, [] => True
  | i, .live o :: l => (idsO m o = true ∧ hget h (r i) = .live (renO r o)) ∧ intoH r m h (i + 1) l
  | i, .dead :: l => intoH r m h (i + 1) l
  | _, .free :: _ => False
def fixB (k : Nat) (r : Nat → Nat) : Bool := (List.range k).all fun i => Nat.beq (r i) i
theorem intoT_get {r : Nat → Nat} {m : Nat} : ∀ {l t : List AV}, intoT r m l t → ∀ i, tget l i = .any ∨ (idsA m (tget l i) = true ∧ renA r (tget l i) = tget t i)
  | [], _, _, _ => .inl rfl
  | x :: l, t, h, 0 => h.1
  | x :: l, t, h, i + 1 => by
    have := intoT_get h.2 i
    have e : tget (t.drop 1) i = tget t (i + 1) := by cases t <;> rfl
    rw [e] at this
    exact this
theorem intoH_get {r : Nat → Nat} {m : Nat} {h : List HS} : ∀ {l : List HS} {i : Nat}, intoH r m h i l → ∀ k, (k < l.length → hget l k ≠ .free) ∧ ∀ o, hget l k = .live o → idsO m o = true ∧ hget h (r (i + k)) = .live (renO r o)
  | [], _, _, k => ⟨fun h => absurd h (Nat.not_lt_zero _), fun o e => by cases e⟩
  | .live o :: l, i, h, 0 => by
    constructor
    · intro _ e; cases e
    · intro o' e; cases e; exact h.1
  | .dead :: l, i, h, 0 => by
    constructor
    · intro _ e; cases e
    · intro o' e; cases e
  | .live o :: l, i, h, k + 1 => by
    have := intoH_get h.2 k
    rw [show i + (k + 1) = i + 1 + k from by omega]
    exact ⟨fun hk => this.1 (by simpa using hk), this.2⟩
  | .dead :: l, i, h, k + 1 => by
    have := intoH_get (l := l) (i := i + 1) h k
    rw [show i + (k + 1) = i + 1 + k from by omega]
    exact ⟨fun hk => this.1 (by simpa using hk), this.2⟩
  | .free :: _, _, h, _ => h.elim
theorem Gs.into {N k : Nat} {w0 : World} {S0 U0 : Nat → Prop} {B0 : Bk} {s s' : St} {a : Act} {w : World} (rl : List Nat) (hrl : s'.h.length = rl.length) (hk : Nat.ble k rl.length = true) (hfix : fixB k (fun i => rl.getD i 0) = true) (hnd : nodupB rl = true)
    (ht : intoT (fun i => rl.getD i 0) rl.length s'.t s.t) (hh : intoH (fun i => rl.getD i 0) rl.length s.h 0 s'.h) (hG : Gs (mkBase N k w0 S0 U0 B0) s a w) : Gs (mkBase N k w0 S0 U0 B0) s' a w := by
  refine hG.ren (fun i => rl.getD i 0) (by rw [hrl]; exact Nat.le_of_ble_eq_true hk) (fun l hl => ?_) (fun l l' h1 h2 e => nodupB_spec hnd l l' (by omega) (by omega) e) (fun l hl => (intoH_get hh l).1 hl) (fun l hl => hget_ge hl) (fun i => ?_) (fun l o e => ?_)
  · simp only [fixB, List.all_eq_true, List.mem_range] at hfix
    exact Nat.eq_of_beq_eq_true (hfix l hl)
  · rw [hrl]; exact intoT_get ht i
  · rw [hrl]
    have := (intoH_get hh l).2 o e
    rwa [Nat.zero_add] at this
def nthO : List Oper → Nat → Option Oper
  | [], _ => none
  | o :: _, 0 => some o
  | _ :: l, i + 1 => nthO l i
theorem nthO_eq : ∀ (l : List Oper) (i : Nat), nthO l i = l[i]?
  | [], _ => rfl
  | _ :: _, 0 => rfl
  | _ :: l, i + 1 => nthO_eq l i
theorem nthO_get {ops : Array Oper} {i : Nat} {o : Oper} (h : nthO ops.toList i = some o) : ops[i]? = some o := by
  rw [nthO_eq] at h
  simpa using h
theorem oY {ops : Array Oper} {i : Nat} {rt : List (Nat × AV)} {rh : List (Nat × HS)} {wt : List (Nat × AV)} {wh : List (Nat × HS)} {o o' : Oper} {j d : Nat} {want b : Bool} (ho : nthO ops.toList i = some o) (hg : o.guard = some (j, want)) (hj : nthO ops.toList j = some o') (hd : o'.dst = some d) (hN : d < bs.N) (hb : b = want) (h : ORule P bs o ⟨rt, rh, wt, wh⟩) : OStep P ops bs i ⟨(d, dv (.bool b)) :: rt, rh, wt, wh⟩ := .yes (nthO_get ho) hg (nthO_get hj) hd hN hb h
theorem oN {ops : Array Oper} {i : Nat} {o o' : Oper} {j d e : Nat} {want b : Bool} (ho : nthO ops.toList i = some o) (hg : o.guard = some (j, want)) (hj : nthO ops.toList j = some o') (hd : o'.dst = some d) (hN : d < bs.N) (hb : b = !want) (he : o.dst = some e) (hN' : e < bs.N) : OStep P ops bs i ⟨[(d, dv (.bool b))], [], [(e, dv undef)], []⟩ := .no (nthO_get ho) hg (nthO_get hj) hd hN hb he hN'
theorem oN' {ops : Array Oper} {i : Nat} {o o' : Oper} {j d : Nat} {want b : Bool} (ho : nthO ops.toList i = some o) (hg : o.guard = some (j, want)) (hj : nthO ops.toList j = some o') (hd : o'.dst = some d) (hN : d < bs.N) (hb : b = !want) (he : o.dst = none) : OStep P ops bs i ⟨[(d, dv (.bool b))], [], [], []⟩ := .no' (nthO_get ho) hg (nthO_get hj) hd hN hb he
theorem oNU {ops : Array Oper} {i : Nat} {o o' : Oper} {j d e : Nat} {want : Bool} (ho : nthO ops.toList i = some o) (hg : o.guard = some (j, want)) (hj : nthO ops.toList j = some o') (hd : o'.dst = some d) (he : o.dst = some e) (hN' : e < bs.N) : OStep P ops bs i ⟨[(d, dv undef)], [], [(e, dv undef)], []⟩ := .noU (nthO_get ho) hg (nthO_get hj) hd he hN'
theorem oNU' {ops : Array Oper} {i : Nat} {o o' : Oper} {j d : Nat} {want : Bool} (ho : nthO ops.toList i = some o) (hg : o.guard = some (j, want)) (hj : nthO ops.toList j = some o') (hd : o'.dst = some d) (he : o.dst = none) : OStep P ops bs i ⟨[(d, dv undef)], [], [], []⟩ := .noU' (nthO_get ho) hg (nthO_get hj) hd he
def readT : List (Nat × AV) → List AV → List AV
  | [], _ => []
  | p :: r, t => tget t p.1 :: readT r t
def readH : List (Nat × HS) → List HS → List HS
  | [], _ => []
  | p :: r, t => hget t p.1 :: readH r t
theorem satT_read : ∀ {l : List (Nat × AV)} {t : List AV}, readT l t = l.map (·.2) → satT l t
  | [], _, _ => trivial
  | p :: r, t, h => by
    simp only [readT, List.map_cons, List.cons.injEq] at h
    exact ⟨h.1, satT_read h.2⟩
theorem satH_read : ∀ {l : List (Nat × HS)} {t : List HS}, readH l t = l.map (·.2) → satH l t
  | [], _, _ => trivial
  | p :: r, t, h => by
    simp only [readH, List.map_cons, List.cons.injEq] at h
    exact ⟨h.1, satH_read h.2⟩
theorem lt_of {a b : Nat} (h : Nat.ble (a + 1) b = true) : a < b := Nat.le_of_ble_eq_true h
theorem tE {fn : Func} {c : Ct} {N k : Nat} {w0 : World} {S0 U0 : Nat → Prop} {B0 : Bk} {s : St} {e : Exit} (he : e = .ret ∨ e = .normal) (rvs : List RV) (hr : all2 (rvOk P s) rvs fn.results.toList) (rl : List Nat) (hres : renA (fun i => rl.getD i 0) c.res = resAV rvs) (hids : idsA rl.length c.res = true)
    (hrl : c.hout.length = rl.length) (hk : Nat.ble k rl.length = true) (hfix : fixB k (fun i => rl.getD i 0) = true) (hnd : nodupB rl = true) (hh : intoH (fun i => rl.getD i 0) rl.length s.h 0 c.hout) :
    Ends (mkBase N k w0 S0 U0 B0) s e (bodyPost P fn (PostG k w0 S0 U0 B0 c)) := by
  intro a w hG
  have h1 := ret_rule (P := P) (c := ⟨[], [], resAV rvs, s.h⟩) rvs hr rfl (fun _ => .inr rfl) e he a w hG
  have key : ∀ e' w', PostG k w0 S0 U0 B0 ⟨[], [], resAV rvs, s.h⟩ e' w' → PostG k w0 S0 U0 B0 c e' w' := by
    rintro e' w' ⟨v, B', S', U', rfl, g⟩
    have hgs : Gs (mkBase 1 k w0 S0 U0 B0) ⟨[resAV rvs], s.h⟩ ⟨#[v], []⟩ w' := ⟨B', S', U', g⟩
    obtain ⟨B2, S2, U2, g2⟩ := Gs.into (s := ⟨[resAV rvs], s.h⟩) (s' := ⟨[c.res], c.hout⟩) rl hrl hk hfix hnd ⟨.inr ⟨hids, hres⟩, trivial⟩ hh hgs
    exact ⟨v, B2, S2, U2, rfl, g2⟩
  rcases he with rfl | rfl
  · obtain ⟨hd, v, hr, hp⟩ := h1
    exact ⟨hd, v, hr, key _ _ hp⟩
  · obtain ⟨hd, v, hr, hp⟩ := h1
    exact ⟨hd, v, hr, key _ _ hp⟩
theorem dvs_eq (n : Nat) (el : Nat → DV) : dvs n el = (List.range n).map fun j => SV.d (el j) := rfl
end Go.Proofs.Ytlabmehgcfgigaa.Q
namespace Go.Proofs.Ytlabmehgcfgigaa.Q
open Go Go.RowKit
set_option linter.unusedVariables false
set_option linter.unusedSimpArgs false
variable {P : Program} {bs : Base}
def KOk {α : Type} (K : Kd α) : Prop := 0 < K.sz ∧ ∀ x j, j < K.sz → cellD (K.cell x j) = true
theorem kU8_ok : KOk kU8 := ⟨by decide, fun _ _ _ => rfl⟩
def kInt (k : IntKind) : Kd Int := ⟨1, fun x _ => .val (.int k x), 0⟩
def kBool : Kd Bool := ⟨1, fun x _ => .val (.bool x), false⟩
def kStr : Kd (List UInt8) := ⟨1, fun x _ => .val (strV x), []⟩
section
variable {α : Type} {K : Kd α}
theorem q_index (tag nn : Bool) (K : Kd α) (xs : List α) (m : Nat) {d : Nat} {k : IntKind} {i : Int} {x y : Operand} {t e ty : TypeId} {pos : String} {af : Array Edge} {gd : Option (Nat × Bool)} {inf : TypeInfo} (ht : P.underlying t = some (.slice e)) (hi : P.info? e = some inf) (hsz : inf.size = K.sz) (hm : i = m) (h1 : m < xs.length) (hN : d < bs.N) (hc : cOk [(x, slV tag nn K xs), (y, dv (.int k i))]) :
    ORule P bs ⟨some d, .indexAddr t x y, ty, pos, af, gd⟩ ⟨rtOf [(x, slV tag nn K xs), (y, dv (.int k i))], [], [(d, sv (.ep tag K.sz (K.cell (xs.getD m K.z))))], []⟩ := r_indexS ht hi hsz hm h1 rfl hN hc
abbrev ownV (l : Nat) (K : Kd α) (off n : Nat) : AV := sv (.own l K.sz off n)
theorem q_buildSlice (l e : Nat) (K : Kd α) (hK : KOk K) (ys : List α) (ps : List Part) {cs : List SV} {zs : List Value} {d len : Nat} {xs : Array (Nat × Operand)} {t ty : TypeId} {pos : String} {af : Array Edge} {gd : Option (Nat × Bool)} (ht : P.underlying t = some (.slice e)) {inf : TypeInfo} (hi : P.info? e = some inf) (hsz : inf.size = K.sz) (hz : Zero P e zs) (hzl : zs.length = K.sz) (hlen : len = ys.length) (hx : xs = (ps.map fun p => (p.i, p.x)).toArray) (hle : ys.length * K.sz ≤ 16777216)
    (hok : partsOk (fun i => some (i * K.sz, K.sz)) (ys.length * K.sz) ps) (hcs : fillS ((List.range (ys.length * K.sz)).map fun k => .d (.val (zs.getD (k % K.sz) undef))) (partsFill ps) = cs) (hwk : all2 wkS cs (flat ys.length K.sz (elOf K ys))) (hN : d < bs.N) (hc : cOk (partsOps ps)) :
    ORule P bs ⟨some d, .buildSlice t len xs, ty, pos, af, gd⟩ ⟨rtOf (partsOps ps), [(l, .free)], [(d, ownV l K 0 ys.length)], [(l, .live (arrK e K ys))]⟩ := by
  subst hlen
  have : ys.length ≤ 16777216 := Nat.le_trans (Nat.le_mul_of_pos_right _ hK.1) hle
  exact r_buildSliceW ht hi hsz hz hzl hK.1 hx hle (by simp only [maxLen]; omega) hok hcs hwk hN hc
end
theorem part_ok {place : Nat → Option (Nat × Nat)} {n : Nat} : partsOk place n [] := fun _ h => by cases h
theorem part_cons {place : Nat → Option (Nat × Nat)} {n : Nat} {p : Part} {l : List Part} (h1 : oneOk p.t = true) (h2 : place p.i = some (p.off, (tvCells p.t).length)) (h3 : p.off + (tvCells p.t).length ≤ n) (h : partsOk place n l) : partsOk place n (p :: l) := fun q hq => by
  cases hq with
  | head => exact ⟨h1, h2, h3⟩
  | tail _ hq => exact h q hq
theorem Ends.turn {s s' : St} {e : Exit} {Q : Exit → Act → World → Prop} (h : ∀ a w, Gs bs s a w → Gs bs s' a w) (ht : Ends bs s' e Q) : Ends bs s e Q := fun a w hG => ht a w (h a w hG)
theorem q_lenStr {d : Nat} (l : List UInt8) {x : Operand} {t ty : TypeId} {pos : String} {af : Array Edge} {gd : Option (Nat × Bool)} (ht : P.underlying t = some .string) (hN : d < bs.N) (hc : cOk [(x, dv (strV l))]) :
    ORule P bs ⟨some d, .call { callee := .builtin .len, args := #[x], argTypes := #[t] }, ty, pos, af, gd⟩ ⟨rtOf [(x, dv (strV l))], [], [(d, dv (.int .i64 (l.length : Nat)))], []⟩ := by
  have := r_lenStr (P := P) (bs := bs) (b := ⟨l.toArray⟩) (d := d) (x := x) (ty := ty) (pos := pos) (af := af) (gd := gd) ht hN hc
  have hs : (⟨l.toArray⟩ : ByteArray).size = l.length := by simp [ByteArray.size]
  rw [hs] at this
  exact this
section
variable {α : Type} {K : Kd α}
end
end Go.Proofs.Ytlabmehgcfgigaa.Q
