import Derived.Test.YtacikihlgpnjhaaQ19
namespace Go.Proofs.Ytacikihlgpnjhaa.Q
open Go Go.RowKit
set_option linter.unusedVariables false
set_option linter.unusedSimpArgs false

/-! ### A loop whose first round is told apart -/

section
variable {P : Program} {bs : Base}

/-- At the head of a loop that runs. -/
def TL (P : Program) (bs : Base) (s : St) (c : Code) (Q : Exit → Act → World → Prop) : Prop := ∀ a w, Gs bs s a w → ∀ (b : Frame) (k : List Item) (cs : List Frame),
  ∃ e a' w', Q e a' w' ∧ Arrives P (lone (b.at a (.code c :: .inLoop c :: k)) cs w) b k cs e a' w'

theorem TL.turn {s s' : St} {c : Code} {Q : Exit → Act → World → Prop} (h : ∀ a w, Gs bs s a w → Gs bs s' a w) (h' : TL P bs s' c Q) : TL P bs s c Q := fun a w hG => h' a w (h a w hG)

theorem TL.loop {s : St} {c : Code} {Q : Exit → Act → World → Prop} {ι : Type} (st : ι → St) (pre : ι → Prop) (μ : ι → Nat) (x0 : ι) (h0 : pre x0) (hs : ∀ a w, Gs bs s a w → Gs bs (st x0) a w)
    (round : ∀ x, pre x → T P bs (st x) c (Exit.then (fun a w => ∃ x', pre x' ∧ μ x' < μ x ∧ Gs bs (st x') a w) Q)) : TL P bs s c Q := by
  intro a w hG
  have key : ∀ n x a w, μ x = n → pre x → Gs bs (st x) a w → ∀ (b : Frame) (k : List Item) (cs : List Frame),
      ∃ e a' w', Q e a' w' ∧ Arrives P (lone (b.at a (.code c :: .inLoop c :: k)) cs w) b k cs e a' w' := by
    intro n
    induction n using Nat.strongRecOn with
    | _ n ih =>
      intro x a w hn hx hG b k cs
      obtain ⟨e, a₁, w₁, hq, harr⟩ := round x hx a w hG b (.inLoop c :: k) cs
      cases e with
      | normal =>
        obtain ⟨x', hx', hlt, hG'⟩ := hq
        obtain ⟨e₂, a₂, w₂, hq₂, harr₂⟩ := ih (μ x') (hn ▸ hlt) x' a₁ w₁ rfl hx' hG' b k cs
        exact ⟨e₂, a₂, w₂, hq₂, .of_steps (Steps.trans harr (.one step_inLoop)) harr₂⟩
      | exit id => exact ⟨_, a₁, w₁, hq, .pass (x := .inLoop c) rfl (fun _ _ => .inl (by simp)) harr⟩
      | goto l => exact ⟨_, a₁, w₁, hq, .pass (x := .inLoop c) rfl (fun _ _ => .inl (by simp)) harr⟩
      | ret => exact ⟨_, a₁, w₁, hq, .pass (x := .inLoop c) rfl (fun _ _ => .inl (by simp)) harr⟩
      | panic ch => exact ⟨_, a₁, w₁, hq, .pass (x := .inLoop c) rfl (fun _ _ => .inl (by simp)) harr⟩
      | outgrown => exact ⟨_, a₁, w₁, hq, .pass (x := .inLoop c) rfl (fun _ _ => .inl (by simp)) harr⟩
  exact key _ x0 a w rfl h0 (hs a w hG)

/-- What is to hold at a round's end. -/
def LR (P : Program) (c : Code) (Q : Exit → Act → World → Prop) (a : Act) (w : World) : Prop := ∀ (b : Frame) (k : List Item) (cs : List Frame), ∃ e a' w', Q e a' w' ∧ Arrives P (lone (b.at a (.code c :: .inLoop c :: k)) cs w) b k cs e a' w'

theorem TL.peel {s : St} {c : Code} {Q : Exit → Act → World → Prop} (h : T P bs s c (Exit.then (LR P c Q) Q)) : TL P bs s c Q := by
  intro a w hG b k cs
  obtain ⟨e, a₁, w₁, hq, harr⟩ := h a w hG b (.inLoop c :: k) cs
  cases e with
  | normal =>
    obtain ⟨e₂, a₂, w₂, hq₂, harr₂⟩ := hq b k cs
    exact ⟨e₂, a₂, w₂, hq₂, .of_steps (Steps.trans harr (.one step_inLoop)) harr₂⟩
  | exit id => exact ⟨_, a₁, w₁, hq, .pass (x := .inLoop c) rfl (fun _ _ => .inl (by simp)) harr⟩
  | goto l => exact ⟨_, a₁, w₁, hq, .pass (x := .inLoop c) rfl (fun _ _ => .inl (by simp)) harr⟩
  | ret => exact ⟨_, a₁, w₁, hq, .pass (x := .inLoop c) rfl (fun _ _ => .inl (by simp)) harr⟩
  | panic ch => exact ⟨_, a₁, w₁, hq, .pass (x := .inLoop c) rfl (fun _ _ => .inl (by simp)) harr⟩
  | outgrown => exact ⟨_, a₁, w₁, hq, .pass (x := .inLoop c) rfl (fun _ _ => .inl (by simp)) harr⟩

theorem T.ofTL {s : St} {c : Code} {Q : Exit → Act → World → Prop} (h : TL P bs s c Q) : T P bs s (.loop c) Q := by
  intro a w hG b k cs
  obtain ⟨e, a', w', hq, harr⟩ := h a w hG b k cs
  exact ⟨e, a', w', hq, .of_steps (.one step_loop) harr⟩

theorem nP {s : St} {c : Code} {Q Q' : Exit → Act → World → Prop} (h : TL P bs s c Q) : Ends bs s .normal (Exit.then (LR P c Q) Q') := h
end

/-! ### Bits and floats -/

section
variable {P : Program} {bs : Base}

theorem b_orU {t : TypeId} {a b : Nat} (ha : a < 18446744073709551616) (hb : b < 18446744073709551616) : BinR P .or t (.int .u64 (a : Int)) (.int .u64 (b : Int)) (.int .u64 ((a ||| b : Nat) : Int)) := bin_of (.inl fun _ => by simp) (.inl (by simp)) fun w => by
  have e1 : (BitVec.ofInt 64 (a : Int)).toNat = a := by rw [BitVec.ofInt_natCast, BitVec.toNat_ofNat]; exact Nat.mod_eq_of_lt ha
  have e2 : (BitVec.ofInt 64 (b : Int)).toNat = b := by rw [BitVec.ofInt_natCast, BitVec.toNat_ofNat]; exact Nat.mod_eq_of_lt hb
  have h : (BitVec.ofInt 64 (a : Int) ||| BitVec.ofInt 64 (b : Int)).toNat = a ||| b := by rw [BitVec.toNat_or, e1, e2]
  have hl : a ||| b < 18446744073709551616 := by rw [← h]; exact (BitVec.ofInt 64 (a : Int) ||| BitVec.ofInt 64 (b : Int)).isLt
  have hw : IntKind.u64.wrap ((a ||| b : Nat) : Int) = ((a ||| b : Nat) : Int) := by rw [IntKind.wrap_u64]; omega
  show (Op.intBits .or .u64 a b).run P w = _
  unfold Op.intBits
  simp only [IntKind.bits] at *
  show Result.ok (Value.int .u64 (IntKind.u64.wrap ((BitVec.ofInt 64 (a : Int) ||| BitVec.ofInt 64 (b : Int)).toNat : Int))) w = _
  rw [h, hw]

theorem b_shrN {k k' : IntKind} {t : TypeId} {a n : Nat} {b : Int} (hb : b = n) (hn : n ≤ k.bits) : BinR P .shr t (.int k (a : Int)) (.int k' b) (.int k ((a / 2 ^ n : Nat) : Int)) :=
  b_shr hb hn (by
    have : ((2 : Int) ^ n) = ((2 ^ n : Nat) : Int) := by simp
    rw [this, Int.fdiv_eq_ediv_of_nonneg _ (Int.natCast_nonneg _)]
    rfl)
theorem b_shlN {k k' : IntKind} {t : TypeId} {a n : Nat} {b : Int} (hb : b = n) (hn : n ≤ k.bits) (h : k.wrap ((a * 2 ^ n : Nat) : Int) = ((a * 2 ^ n : Nat) : Int)) : BinR P .shl t (.int k (a : Int)) (.int k' b) (.int k ((a * 2 ^ n : Nat) : Int)) :=
  b_shl hb hn (by simpa using h)

theorem wrap_byte (n : Nat) : IntKind.u8.wrap (n : Int) = ((UInt8.ofNat n).toNat : Int) := by
  rw [IntKind.wrap_u8]
  simp
/-- A number's last byte. -/
theorem c_byte {s d : TypeId} {ds : TypeDesc} {k' : IntKind} {n : Nat} (hs : P.underlying s = some ds) (hd : P.underlying d = some (.int .u8)) : ConvR P s d (.int k' (n : Int)) (.int .u8 ((UInt8.ofNat n).toNat : Int)) := c_int hs hd (wrap_byte n)

def u64 (n : Int) : Nat := (n % 18446744073709551616).toNat
theorem c_u64 {s d : TypeId} {ds : TypeDesc} {k' : IntKind} {n : Int} (hs : P.underlying s = some ds) (hd : P.underlying d = some (.int .u64)) : ConvR P s d (.int k' n) (.int .u64 ((u64 n : Nat) : Int)) := c_int hs hd (by rw [IntKind.wrap_u64]; unfold u64; omega)
def toI64 (n : Nat) : Int := if n < 9223372036854775808 then (n : Int) else (n : Int) - 18446744073709551616
theorem c_i64 {s d : TypeId} {ds : TypeDesc} {k' : IntKind} {n : Nat} (h : n < 18446744073709551616) (hs : P.underlying s = some ds) (hd : P.underlying d = some (.int .i64)) : ConvR P s d (.int k' (n : Int)) (.int .i64 (toI64 n)) := c_int hs hd (by rw [IntKind.wrap_i64]; unfold toI64; split <;> omega)
theorem toI64_u64 {n : Int} (h : -9223372036854775808 ≤ n ∧ n ≤ 9223372036854775807) : toI64 (u64 n) = n := by unfold toI64 u64; split <;> omega
theorem u64_lt (n : Int) : u64 n < 18446744073709551616 := by unfold u64; omega

def nanB (b : Nat) : Bool := !(Op.floatEq .f64 b b)
def kF64 : Kd Nat := ⟨1, fun x _ => .val (.float .f64 x), 0⟩
theorem kF64_ok : KOk kF64 := ⟨by decide, fun _ _ _ => rfl⟩
theorem kF64_nt : ∀ x j, noTag (kF64.cell x j) := fun _ _ => trivial
theorem b_nan {t : TypeId} {a : Nat} : BinR P .neq t (.float .f64 a) (.float .f64 a) (.bool (nanB a)) := bin_of (.inl fun _ => by simp) (.inl (by simp)) fun w => by
  simp [binOp, Op.floatCmp, nanB, Op.floatEq]
  rfl
theorem rd_f64 {t : TypeId} (ht : P.underlying t = some (.float .f64)) : Rd P t kF64 (fun n => n < 18446744073709551616) := fun H enc w base sp held fuel cs x h => by
  have hx : ∃ n, cs = [.float .f64 n] ∧ (Lit.float .f64 n).wf = true := by
    cases fuel with
    | zero => simp [DataW.trod] at h
    | succ n =>
      unfold DataW.trod at h
      rw [ht] at h
      split at h <;> simp_all
  obtain ⟨n, rfl, hw⟩ := hx
  refine ⟨n, by simpa [Lit.wf] using hw, rfl, fun j hj => ?_⟩
  have hj : j < 1 := hj
  obtain rfl : j = 0 := by omega
  exact ⟨_, rfl, rfl⟩

/-- A function of the model's own, of one argument, that asks nothing of the world. -/
theorem r_ext1 {d f : Nat} {fn : Func} {e : Array Value → Sem Value} {u v : Value} {x : Operand} {ts : Array TypeId} {ty : TypeId} {pos : String} {af : Array Edge} {gd : Option (Nat × Bool)} (hf : P.funcs[f]? = some fn) (hb : fn.body.isNone = true) (hn : (Extern.findNext fn).isNone = true) (he : Extern.find fn = some e) (hname : (fn.name == "runtime.NumGoroutine") = false)
    (hr : ∀ w, (e #[u]).run P w = .ok v w) (hN : d < bs.N) (hc : cOk [(x, dv u)]) :
    ORule P bs ⟨some d, .call { callee := .value (.func f), args := #[x], argTypes := ts }, ty, pos, af, gd⟩ ⟨rtOf [(x, dv u)], [], [(d, dv v)], []⟩ :=
  .val rfl hN hc fun B S U s a w g _ he' => by
    have h1 : a.eval x = u := he'.1
    have hn' := Option.isNone_iff_eq_none.1 hn
    have hcall : (callFunc f #[u]).run P w = .ok (.value v) w := by
      unfold callFunc
      simp only [Sem.run_bind, run_program, Result.andThen_ok, hf, hname, hb, hn', he, if_true, Bool.false_eq_true, if_false]
      have hm : (mark (.extern f)).run P w = .ok () w := rfl
      simp only [Sem.run_bind, hm, Result.andThen_ok, hr, Sem.run_pure]
    have hf0 : a.eval (.func f) = .func (.func f) #[] #[] := rfl
    exact ⟨v, by simpa [execOp, resolve, invoke, h1, hf0, Sem.run_bind, Deferred.ofValue] using hcall, rfl⟩
end
end Go.Proofs.Ytacikihlgpnjhaa.Q
