import Derived.Test.YtacikihlgpnjhaaQ21
namespace Go.Proofs.Ytacikihlgpnjhaa.Q
open Go Go.RowKit
set_option linter.unusedVariables false
set_option linter.unusedSimpArgs false

/-! ### Arrays in boxes -/

section
variable {P : Program} {bs : Base}

/-- The address of an element of an array that lies in a box. -/
theorem r_indexB {d l off len : Nat} {k : IntKind} {i : Int} {m : Nat} {x y : Operand} {t e ty : TypeId} {pos : String} {af : Array Edge} {gd : Option (Nat × Bool)} {inf : TypeInfo} (ht : P.underlying t = some (.array len e)) (hi : P.info? e = some inf) (hm : i = m) (h1 : m < len) {o' : Nat} (ho' : off + m * inf.size = o') (hN : d < bs.N) (hc : cOk [(x, pv l off), (y, dv (.int k i))]) :
    ORule P bs ⟨some d, .indexAddr t x y, ty, pos, af, gd⟩ ⟨rtOf [(x, pv l off), (y, dv (.int k i))], [], [(d, pv l o')], []⟩ :=
  .val rfl hN hc fun B S U s a w g _ he => by
    have hy : a.eval y = .int k i := he.2.1
    obtain ⟨b, κ, hb, hx⟩ := he.1
    subst hm
    refine ⟨.pointer (some ⟨b, o', none⟩), ?_, b, κ, hb, rfl⟩
    have h0 : (0 : Int) ≤ m := by omega
    have h2 : (m : Int) < len := by omega
    simp only [execOp, Instr.indexAt, Instr.sureAddr, hx, hy, Sem.run_bind, asIntOf, Sem.run_pure, Result.andThen_ok, run_underlying' ht, h0, h2, and_self, if_true, run_sizeOf hi, add_eq, Int.toNat_natCast]
    rw [ho']
end

section
variable {H : Type} {enc : TypeId × Value → H} {P : Program} {w : World} {base : Nat} {sp : Nat → Bool} {held : Bool} {fuel : Nat} {t : TypeId} {cs : List Value} {x : DataW H × List MemPlace}
theorem trod_array {len : Nat} {e : TypeId} (ht : P.underlying t = some (.array len e)) (h : DataW.trod enc P w base sp held fuel t cs = some x) :
    ∃ (xs : List (DataW H × List MemPlace)) (n : Nat), cs.length = P.cellsOf t ∧ xs.length = len ∧ ∀ (i : Nat), i < len → DataW.trod enc P w base sp held n e ((cs.drop (i * P.cellsOf e)).take (P.cellsOf e)) = xs[i]? := by
  cases fuel with
  | zero => simp [DataW.trod] at h
  | succ n =>
    unfold DataW.trod at h
    rw [ht] at h
    split at h <;> simp_all
    obtain ⟨hl, xs, hp, hd⟩ := h
    exact ⟨xs, by simpa using mapM_some_length hp, n, fun i hi => mapM_some_get hp i i (by simp [hi])⟩

theorem rd_elem {α : Type} {K : Kd α} {ok : α → Prop} {n len : Nat} {e : TypeId} {xs : List (DataW H × List MemPlace)} (hx : xs.length = len)
    (h : ∀ (i : Nat), i < len → DataW.trod enc P w base sp held n e ((cs.drop (i * P.cellsOf e)).take (P.cellsOf e)) = xs[i]?) (i : Nat) (hi : i < len) {off : Nat} (ho : i * P.cellsOf e = off) (hr : Rd P e K ok) :
    ∃ a : α, ok a ∧ ∀ j, j < K.sz → ∃ u, cs[off + j]? = some u ∧ dOk (inW w) (inW w) w (K.cell a j) u := by
  subst ho
  have h1 := h i hi
  rw [List.getElem?_eq_getElem (by omega)] at h1
  obtain ⟨a, h2, h3, h4⟩ := hr H enc w base sp held n _ _ h1
  refine ⟨a, h2, fun j hj => ?_⟩
  obtain ⟨u, hu, hd⟩ := h4 j hj
  refine ⟨u, ?_, hd⟩
  rw [List.getElem?_take] at hu
  split at hu
  · rwa [List.getElem?_drop] at hu
  · cases hu
end
end Go.Proofs.Ytacikihlgpnjhaa.Q
