import Derived.Test.YtacikihlgpnjhaaQ17
namespace Go.Proofs.Ytacikihlgpnjhaa.Q
open Go Go.RowKit
set_option linter.unusedVariables false
set_option linter.unusedSimpArgs false

/-! ### More of numbers; keys that are structs -/

section
variable {P : Program} {bs : Base}

theorem r_max {d : Nat} {x y : Operand} {k : IntKind} {a b : Int} {t t' ty : TypeId} {pos : String} {af : Array Edge} {gd : Option (Nat × Bool)} (hN : d < bs.N) (hc : cOk [(x, dv (.int k a)), (y, dv (.int k b))]) :
    ORule P bs ⟨some d, .call { callee := .builtin .max, args := #[x, y], argTypes := #[t, t'] }, ty, pos, af, gd⟩ ⟨rtOf [(x, dv (.int k a)), (y, dv (.int k b))], [], [(d, dv (.int k (max a b)))], []⟩ :=
  .val rfl hN hc fun B S U s a' w g _ he => by
    have h1 : a'.eval x = .int k a := he.1
    have h2 : a'.eval y = .int k b := he.2.1
    refine ⟨.int k (max a b), ?_, rfl⟩
    have : (if b > a then b else a) = max a b := by rw [Int.max_def]; split <;> split <;> omega
    simp [execOp, resolve, invoke, builtin, Builtin.max_, Builtin.max2, h1, h2, Sem.run_bind, this]

theorem r_min {d : Nat} {x y : Operand} {k : IntKind} {a b : Int} {t t' ty : TypeId} {pos : String} {af : Array Edge} {gd : Option (Nat × Bool)} (hN : d < bs.N) (hc : cOk [(x, dv (.int k a)), (y, dv (.int k b))]) :
    ORule P bs ⟨some d, .call { callee := .builtin .min, args := #[x, y], argTypes := #[t, t'] }, ty, pos, af, gd⟩ ⟨rtOf [(x, dv (.int k a)), (y, dv (.int k b))], [], [(d, dv (.int k (min a b)))], []⟩ :=
  .val rfl hN hc fun B S U s a' w g _ he => by
    have h1 : a'.eval x = .int k a := he.1
    have h2 : a'.eval y = .int k b := he.2.1
    refine ⟨.int k (min a b), ?_, rfl⟩
    have : (if b < a then b else a) = min a b := by rw [Int.min_def]; split <;> split <;> omega
    simp [execOp, resolve, invoke, builtin, Builtin.min_, Builtin.min2, h1, h2, Sem.run_bind, this]

theorem b_quoP {k : IntKind} {t : TypeId} {a b : Int} (h1 : 0 ≤ a) (h0 : 0 < b) (h : k.wrap (a / b) = a / b) : BinR P .quo t (.int k a) (.int k b) (.int k (a / b)) :=
  b_quo (by omega) (by rw [Int.tdiv_eq_ediv_of_nonneg h1]; exact h)
theorem b_remP {k : IntKind} {t : TypeId} {a b : Int} (h1 : 0 ≤ a) (h0 : 0 < b) : BinR P .rem t (.int k a) (.int k b) (.int k (a % b)) :=
  b_rem (by omega) (Int.tmod_eq_emod_of_nonneg h1)
end

theorem findAsking_first {P : Program} {kt : TypeId} {K : Type} [DecidableEq K] {f : K → Value} {w : World} {k : K} (heq : ∀ k', (Op.equal kt (f k) (f k')).run P w = .ok (decide (k = k')) w) (hinj : ∀ a b, f a = f b → a = b) : ∀ (l : List MapEntry) (i : Nat), (∀ x ∈ l, ∃ k', x.key = f k') →
    ((Instr.findAsking kt (f k) l i).run P w = .ok none w ∧ ∀ x ∈ l, x.key ≠ f k) ∨ ∃ j e, (Instr.findAsking kt (f k) l i).run P w = .ok (some (i + j, e.val)) w ∧ l[j]? = some e ∧ e.key = f k ∧ ∀ i', i' < j → ∀ e', l[i']? = some e' → e'.key ≠ f k
  | [], _, _ => .inl ⟨rfl, by simp⟩
  | e :: es, i, h => by
    obtain ⟨k', hk'⟩ := h e (.head _)
    by_cases hkk : k = k'
    · subst hkk
      refine .inr ⟨0, e, ?_, rfl, hk', fun i' hi' => absurd hi' (Nat.not_lt_zero _)⟩
      simp [Instr.findAsking, hk', heq k, Sem.run_bind]
    · have hne : e.key ≠ f k := fun q => hkk (hinj _ _ (q.symm.trans hk'))
      have hf : (Instr.findAsking kt (f k) (e :: es) i).run P w = (Instr.findAsking kt (f k) es (i + 1)).run P w := by
        simp [Instr.findAsking, hk', heq k', hkk, Sem.run_bind]
      rw [hf]
      rcases findAsking_first heq hinj es (i + 1) (fun x hx => h x (.tail _ hx)) with ⟨h1, h2⟩ | ⟨j, e', h1, h2, h3, h4⟩
      · exact .inl ⟨h1, fun x hx => by
          cases hx with
          | head => exact hne
          | tail _ hx => exact h2 x hx⟩
      · refine .inr ⟨j + 1, e', by rw [h1, Nat.add_assoc, Nat.add_comm 1 j], by simpa using h2, h3, fun i' hi' x hx => ?_⟩
        cases i' with
        | zero => simp only [List.getElem?_cons_zero, Option.some.injEq] at hx; subst hx; exact hne
        | succ i' => exact h4 i' (by omega) x (by simpa using hx)

/-- Keys that are structs. -/
theorem mkey_wide {P : Program} {kt : TypeId} {fs : Array Field} {K : Type} [DecidableEq K] {f : K → Value} (hd : P.underlying kt = some (.struct fs)) (hinj : ∀ a b, f a = f b → a = b) (hcheck : ∀ (w : World) (em : Bool) (k : K), (Instr.checkKey em 10000 kt (f k)).run P w = .ok () w)
    (heq : ∀ (w : World) (k k' : K), (Op.equal kt (f k) (f k')).run P w = .ok (decide (k = k')) w) (hbits : ∀ k, Instr.sameBits 10000 (f k) (f k) = true) : MKey P kt f where
  check := hcheck
  inj := hinj
  find w k es hes := by
    have key : (Instr.findKey kt (f k) es).run P w = (Instr.findAsking kt (f k) es 0).run P w := by
      have hn : Instr.findNow (.struct fs) (f k) es 0 = none ∨ es = [] := by
        cases es with
        | nil => exact .inr rfl
        | cons e r => left; simp [Instr.findNow, Instr.sameNow]
      rcases hn with hn | rfl
      · simp [Instr.findKey, MapKept.run_setObj_map, run_underlying' hd, hn, Sem.run_bind]
      · simp [Instr.findKey, run_underlying' hd, Instr.findNow, Instr.findAsking, Sem.run_bind]
    rw [key]
    rcases findAsking_first (heq w k) hinj es 0 hes with h | ⟨j, e, h1, h2⟩
    · exact .inl h
    · exact .inr ⟨j, e, by simpa using h1, h2⟩
  stays w k := by simp [Instr.keyThatStays, hbits]

theorem bytes_beq' (l l' : List UInt8) : ((⟨l.toArray⟩ : ByteArray) == (⟨l'.toArray⟩ : ByteArray)) = decide (l = l') := by
  rw [Bool.eq_iff_iff, MapKept.bytes_beq]
  simp

section
variable {P : Program} {kt : TypeId} {f0 f1 : Field} {k : IntKind}

theorem check_is {em : Bool} {n : Nat} {w : World} {x : Int} {y : Value} (hd : P.underlying kt = some (.struct #[f0, f1])) (h0 : f0.name ≠ "_") (h1 : f1.name ≠ "_") (o0 : f0.offset = 0) (o1 : f1.offset = 1) (ha : P.underlying f0.type = some (.int k)) (hb : P.underlying f1.type = some .string) :
    (Instr.checkKey em (n + 1 + 1) kt (.agg #[.int k x, y])).run P w = .ok () w := by
  have e0 : ∀ v, (Instr.checkKey em (n + 1) f0.type v).run P w = .ok () w := fun v => by
    simp only [Instr.checkKey, Sem.run_bind, run_underlying' ha, Result.andThen_ok]
    cases v <;> rfl
  have e1 : ∀ v, (Instr.checkKey em (n + 1) f1.type v).run P w = .ok () w := fun v => by
    simp only [Instr.checkKey, Sem.run_bind, run_underlying' hb, Result.andThen_ok]
    cases v <;> rfl
  rw [Instr.checkKey]
  simp [run_underlying' hd, run_underlying' ha, run_underlying' hb, h0, h1, o0, o1, part, isAgg, e0, e1, Sem.run_bind]

theorem equal_is {n : Nat} {w : World} {x x' : Int} {y y' : ByteArray} (hd : P.underlying kt = some (.struct #[f0, f1])) (h0 : f0.name ≠ "_") (h1 : f1.name ≠ "_") (o0 : f0.offset = 0) (o1 : f1.offset = 1) (ha : P.underlying f0.type = some (.int k)) (hb : P.underlying f1.type = some .string) (hst : P.stoodInHeld kt = false) :
    (Op.equalIn (n + 1 + 1) kt (.agg #[.int k x, .string y]) (.agg #[.int k x', .string y'])).run P w = .ok (x == x' && y == y') w := by
  have e0 : (Op.equalIn (n + 1) f0.type (.int k x) (.int k x')).run P w = .ok (x == x') w := by
    simp only [Op.equalIn, Sem.run_bind, run_underlying' ha, Result.andThen_ok, if_true]
    rfl
  have e1 : (Op.equalIn (n + 1) f1.type (.string y) (.string y')).run P w = .ok (y == y') w := by
    simp only [Op.equalIn, Sem.run_bind, run_underlying' hb, Result.andThen_ok]
    rfl
  rw [Op.equalIn]
  by_cases hx : x = x'
  · subst hx
    simp only [beq_self_eq_true] at e0
    by_cases hy : (y == y') = true
    · simp [run_underlying' hd, run_underlying' ha, run_underlying' hb, h0, h1, o0, o1, part, isAgg, e0, e1, Sem.run_bind, hst, hy]
    · simp [run_underlying' hd, run_underlying' ha, run_underlying' hb, h0, h1, o0, o1, part, isAgg, e0, e1, Sem.run_bind, hst, hy]
  · simp [run_underlying' hd, run_underlying' ha, run_underlying' hb, h0, h1, o0, o1, part, isAgg, e0, e1, Sem.run_bind, hst, hx]

theorem bits_is {n : Nat} {x : Int} {y : List UInt8} : Instr.sameBits (n + 1 + 1) (.agg #[.int k x, strV y]) (.agg #[.int k x, strV y]) = true := by
  have : ((⟨y.toArray⟩ : ByteArray) == (⟨y.toArray⟩ : ByteArray)) = true := by rw [bytes_beq']; simp
  simp [Instr.sameBits, strV, this]

/-- A struct of a number and a string. -/
theorem mkey_is {K : Type} [DecidableEq K] (a : K → Int) (b : K → List UInt8) (hk : ∀ x y, a x = a y → b x = b y → x = y)
    (hd : P.underlying kt = some (.struct #[f0, f1])) (h0 : f0.name ≠ "_") (h1 : f1.name ≠ "_") (o0 : f0.offset = 0) (o1 : f1.offset = 1) (ha : P.underlying f0.type = some (.int k)) (hb : P.underlying f1.type = some .string) (hst : P.stoodInHeld kt = false) :
    MKey P kt (fun x : K => .agg #[.int k (a x), strV (b x)]) := by
  refine mkey_wide hd (fun x y e => ?_) (fun w em x => check_is (n := 9998) hd h0 h1 o0 o1 ha hb) (fun w x y => ?_) (fun x => bits_is (n := 9998))
  · simp [strV] at e
    exact hk x y e.1 e.2
  · have hxy : decide (x = y) = (a x == a y && decide (b x = b y)) := by
      rw [Bool.eq_iff_iff]
      simp
      exact ⟨fun h => by rw [h]; exact ⟨rfl, rfl⟩, fun h => hk x y h.1 h.2⟩
    rw [hxy, ← bytes_beq']
    exact equal_is (n := 9998) hd h0 h1 o0 o1 ha hb hst
end

theorem wf_i64 {n : Int} (h : (Lit.int .i64 n).wf = true) : -9223372036854775808 ≤ n ∧ n ≤ 9223372036854775807 := by
  simp only [Lit.wf, Bool.and_eq_true, decide_eq_true_eq] at h
  exact ⟨Int.le_trans (by decide) h.1, Int.le_trans h.2 (by decide)⟩
end Go.Proofs.Ytacikihlgpnjhaa.Q
