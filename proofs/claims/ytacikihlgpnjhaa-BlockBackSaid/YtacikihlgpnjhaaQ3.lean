import Derived.Test.YtacikihlgpnjhaaQ2
namespace Go.Proofs.Ytacikihlgpnjhaa.Q
open Go Go.RowKit
set_option linter.unusedVariables false
set_option linter.unusedSimpArgs false

/-! ### Operands -/

def rtOf : List (Operand × AV) → List (Nat × AV)
  | [] => []
  | (.tmp t, v) :: r => (t, v) :: rtOf r
  | _ :: r => rtOf r

/-- The operands that are no temporaries are what is said of them. -/
def cOk : List (Operand × AV) → Prop
  | [] => True
  | (.tmp _, _) :: r => cOk r
  | (.const v, av) :: r => av = dv v ∧ cOk r
  | (.func f, av) :: r => av = dv (.func (.func f) #[] #[]) ∧ cOk r
  | (.global _, _) :: _ => False

def evs (B : Bk) (S U : Nat → Prop) (a : Act) (w : World) : List (Operand × AV) → Prop
  | [] => True
  | p :: r => avOk B S U w p.2 (a.eval p.1) ∧ evs B S U a w r

theorem evals {bs : Base} {B : Bk} {S U : Nat → Prop} {s : St} {a : Act} {w : World} (g : G bs B S U s a w) : ∀ {l : List (Operand × AV)}, satT (rtOf l) s.t → cOk l → evs B S U a w l
  | [], _, _ => trivial
  | (.tmp t, v) :: r, hs, hc => ⟨by have := g.tm t; rw [hs.1] at this; exact this, evals g hs.2 hc⟩
  | (.const v, u) :: r, hs, hc => ⟨by obtain ⟨rfl, _⟩ := hc; exact (rfl : v = v), evals (l := r) g hs hc.2⟩
  | (.func f, u) :: r, hs, hc => ⟨by obtain ⟨rfl, _⟩ := hc; exact (rfl : Value.func (.func f) #[] #[] = _), evals (l := r) g hs hc.2⟩
  | (.global _, _) :: _, _, hc => hc.elim

variable {P : Program} {bs : Base}

/-- A rule of an operation that only tells a value. -/
theorem ORule.val {o : Oper} {l : List (Operand × AV)} {rh : List (Nat × HS)} {d : Nat} {av : AV} (hd : o.dst = some d) (hN : d < bs.N) (hc : cOk l)
    (h : ∀ B S U s a w, G bs B S U s a w → satH rh s.h → evs B S U a w l → ∃ v, (execOp a.eval o).run P w = .ok (.value v) w ∧ avOk B S U w av v) :
    ORule P bs o ⟨rtOf l, rh, [(d, av)], []⟩ := by
  intro Q K s a w hG hs hK
  obtain ⟨B, S, U, g⟩ := hG
  obtain ⟨v, hr, hv⟩ := h B S U s a w g hs.2 (evals g hs.1 hc)
  unfold Oper.wp
  rw [hr, Oper.upon_value, hd]
  exact hK _ _ ⟨B, S, U, g.put hN hv⟩

/-- A rule of an operation that turns memory. -/
theorem ORule.heap {o : Oper} {l : List (Operand × AV)} {rh wh : List (Nat × HS)} {d : Nat} {av : AV} (hd : o.dst = some d) (hN : d < bs.N) (hc : cOk l)
    (h : ∀ B S U s a w, G bs B S U s a w → satH rh s.h → evs B S U a w l → ∃ v w' B' S' U', (execOp a.eval o).run P w = .ok (.value v) w' ∧ G bs B' S' U' ⟨s.t, hsets s.h wh⟩ a w' ∧ avOk B' S' U' w' av v) :
    ORule P bs o ⟨rtOf l, rh, [(d, av)], wh⟩ := by
  intro Q K s a w hG hs hK
  obtain ⟨B, S, U, g⟩ := hG
  obtain ⟨v, w', B', S', U', hr, g', hv⟩ := h B S U s a w g hs.2 (evals g hs.1 hc)
  unfold Oper.wp
  rw [hr, Oper.upon_value, hd]
  exact hK _ _ ⟨B', S', U', g'.put hN hv⟩

/-- A rule of an operation that tells nothing. -/
theorem ORule.unit {o : Oper} {l : List (Operand × AV)} {rh wh : List (Nat × HS)} (hd : o.dst = none) (hc : cOk l)
    (h : ∀ B S U s a w, G bs B S U s a w → satH rh s.h → evs B S U a w l → ∃ w' B' S' U', (execOp a.eval o).run P w = .ok .skip w' ∧ G bs B' S' U' ⟨s.t, hsets s.h wh⟩ a w') :
    ORule P bs o ⟨rtOf l, rh, [], wh⟩ := by
  intro Q K s a w hG hs hK
  obtain ⟨B, S, U, g⟩ := hG
  obtain ⟨w', B', S', U', hr, g'⟩ := h B S U s a w g hs.2 (evals g hs.1 hc)
  unfold Oper.wp
  rw [hr, Oper.upon_skip, hd]
  exact hK _ _ ⟨B', S', U', g'⟩

/-! ### Operations on temporaries alone -/

theorem r_move {d : Nat} {x : Operand} {av : AV} {ty : TypeId} {pos : String} {af : Array Edge} {gd : Option (Nat × Bool)} (hN : d < bs.N) (hc : cOk [(x, av)]) : ORule P bs ⟨some d, .move x, ty, pos, af, gd⟩ ⟨rtOf [(x, av)], [], [(d, av)], []⟩ :=
  .val rfl hN hc fun B S U s a w g _ he => ⟨a.eval x, by simp [execOp], he.1⟩

theorem r_assign {d : Nat} {x : Operand} {av : AV} {ty : TypeId} {pos : String} {af : Array Edge} {gd : Option (Nat × Bool)} (hN : d < bs.N) (hc : cOk [(x, av)]) : ORule P bs ⟨some d, .assign x, ty, pos, af, gd⟩ ⟨rtOf [(x, av)], [], [(d, av)], []⟩ :=
  .val rfl hN hc fun B S U s a w g _ he => ⟨a.eval x, by simp [execOp], he.1⟩

theorem r_pickT {d : Nat} {c x y : Operand} {b : Bool} {av : AV} {ty : TypeId} {pos : String} {af : Array Edge} {gd : Option (Nat × Bool)} (hN : d < bs.N) (hc : cOk [(c, dv (.bool b)), (x, av)]) (hb : b = true) : ORule P bs ⟨some d, .pick c x y, ty, pos, af, gd⟩ ⟨rtOf [(c, dv (.bool b)), (x, av)], [], [(d, av)], []⟩ :=
  .val rfl hN hc fun B S U s a w g _ he => ⟨a.eval x, by
    have h1 : a.eval c = .bool b := he.1
    simp [execOp, h1, hb, asBool], he.2.1⟩

theorem r_pickF {d : Nat} {c x y : Operand} {b : Bool} {av : AV} {ty : TypeId} {pos : String} {af : Array Edge} {gd : Option (Nat × Bool)} (hN : d < bs.N) (hc : cOk [(c, dv (.bool b)), (y, av)]) (hb : b = false) : ORule P bs ⟨some d, .pick c x y, ty, pos, af, gd⟩ ⟨rtOf [(c, dv (.bool b)), (y, av)], [], [(d, av)], []⟩ :=
  .val rfl hN hc fun B S U s a w g _ he => ⟨a.eval y, by
    have h1 : a.eval c = .bool b := he.1
    simp [execOp, h1, hb, asBool], he.2.1⟩

/-- Values that are pointers to something. -/
def isPtr : AV → Bool
  | .tv (.one (.ptr _ _)) => true
  | .tv (.one (.ep _ _ _)) => true
  | _ => false

theorem isPtr_spec {av : AV} (h : isPtr av = true) {B : Bk} {S U : Nat → Prop} {w : World} {v : Value} (hv : avOk B S U w av v) : ∃ ad, v = .pointer (some ad) := by
  match av, h with
  | .tv (.one (.ptr _ _)), _ => obtain ⟨b, κ, _, h⟩ := hv; exact ⟨_, h⟩
  | .tv (.one (.ep _ _ _)), _ => obtain ⟨ad, h, _⟩ := hv; exact ⟨_, h⟩

theorem r_nilCheck {d : Nat} {x : Operand} {av : AV} {ty : TypeId} {pos : String} {af : Array Edge} {gd : Option (Nat × Bool)} (hp : isPtr av = true) (hN : d < bs.N) (hc : cOk [(x, av)]) : ORule P bs ⟨some d, .nilCheck x, ty, pos, af, gd⟩ ⟨rtOf [(x, av)], [], [(d, av)], []⟩ :=
  .val rfl hN hc fun B S U s a w g _ he => ⟨a.eval x, by
    obtain ⟨ad, h⟩ := isPtr_spec hp he.1
    simp [execOp, h], he.1⟩

/-- A function value that is not nil. -/
theorem r_nilCheckF {d : Nat} {x : Operand} {f : Nat} {fs cs : Array Value} {ty : TypeId} {pos : String} {af : Array Edge} {gd : Option (Nat × Bool)} (hN : d < bs.N) (hc : cOk [(x, dv (.func (.func f) fs cs))]) : ORule P bs ⟨some d, .nilCheck x, ty, pos, af, gd⟩ ⟨rtOf [(x, dv (.func (.func f) fs cs))], [], [(d, dv (.func (.func f) fs cs))], []⟩ :=
  .val rfl hN hc fun B S U s a w g _ he => ⟨a.eval x, by
    have h : a.eval x = .func (.func f) fs cs := he.1
    simp [execOp, h], he.1⟩

/-- What a binary operation on two values comes to, whatever the world. -/
def BinR (P : Program) (op : BinOp) (t : TypeId) (u1 u2 v : Value) : Prop := ∀ w x y, (do eqGuard op t x y u1 u2; binOp op t u1 u2 : Sem Value).run P w = .ok v w

theorem r_bin {d : Nat} {x y : Operand} {op : BinOp} {u1 u2 v : Value} {t yt ty : TypeId} {pos : String} {af : Array Edge} {gd : Option (Nat × Bool)} (h : BinR P op t u1 u2 v) (hN : d < bs.N) (hc : cOk [(x, dv u1), (y, dv u2)]) : ORule P bs ⟨some d, .binOp op t x y yt, ty, pos, af, gd⟩ ⟨rtOf [(x, dv u1), (y, dv u2)], [], [(d, dv v)], []⟩ :=
  .val rfl hN hc fun B S U s a w g _ he => ⟨v, by
    have h1 : a.eval x = u1 := he.1
    have h2 : a.eval y = u2 := he.2.1
    have h3 := h w x y
    simp only [execOp, h1, h2, Sem.run_bind]
    simp only [Sem.run_bind] at h3
    rw [h3]
    rfl, rfl⟩

def UnR (P : Program) (op : UnOp) (u v : Value) : Prop := ∀ w, (Op.unary op u).run P w = .ok v w

theorem r_un {d : Nat} {x : Operand} {op : UnOp} {u v : Value} {t ty : TypeId} {pos : String} {af : Array Edge} {gd : Option (Nat × Bool)} (h : UnR P op u v) (hN : d < bs.N) (hc : cOk [(x, dv u)]) : ORule P bs ⟨some d, .unOp op t x, ty, pos, af, gd⟩ ⟨rtOf [(x, dv u)], [], [(d, dv v)], []⟩ :=
  .val rfl hN hc fun B S U s a w g _ he => ⟨v, by
    have h1 : a.eval x = u := he.1
    simp only [execOp, h1, Sem.run_bind, h w]
    rfl, rfl⟩

def ConvR (P : Program) (src dst : TypeId) (u v : Value) : Prop := ∀ w, (convert src dst u).run P w = .ok v w

theorem r_conv {d : Nat} {x : Operand} {u v : Value} {src dst ty : TypeId} {pos : String} {af : Array Edge} {gd : Option (Nat × Bool)} (h : ConvR P src dst u v) (hN : d < bs.N) (hc : cOk [(x, dv u)]) : ORule P bs ⟨some d, .convert src dst x, ty, pos, af, gd⟩ ⟨rtOf [(x, dv u)], [], [(d, dv v)], []⟩ :=
  .val rfl hN hc fun B S U s a w g _ he => ⟨v, by
    have h1 : a.eval x = u := he.1
    simp only [execOp, h1, Sem.run_bind, h w]
    rfl, rfl⟩

theorem r_extract {d i : Nat} {x : Operand} {l : List TV} {tv : TV} {ty : TypeId} {pos : String} {af : Array Edge} {gd : Option (Nat × Bool)} (hi : l[i]? = some tv) (hN : d < bs.N) (hc : cOk [(x, AV.tup l)]) : ORule P bs ⟨some d, .extract x i, ty, pos, af, gd⟩ ⟨rtOf [(x, AV.tup l)], [], [(d, .tv tv)], []⟩ :=
  .val rfl hN hc fun B S U s a w g _ he => by
    obtain ⟨vs, h1, h2⟩ := he.1
    obtain ⟨v, hv, hok⟩ := all2_get h2 hi
    exact ⟨v, by simp [execOp, h1, Instr.extract, hv], hok⟩

/-! ### Pointers into objects and to shared cells -/

theorem run_underlying' {t : TypeId} {w : World} {d : TypeDesc} (h : P.underlying t = some d) : (underlying t).run P w = .ok d w := by
  exact run_underlying h w

theorem run_sizeOf {t : TypeId} {w : World} {i : TypeInfo} (h : P.info? t = some i) : (sizeOf t).run P w = .ok i.size w := by
  simp [sizeOf, typeInfo, h]

/-- A field's address: k cells on. -/
def FieldAt (P : Program) (t : TypeId) (f k : Nat) : Prop := ∃ fs fd i, P.underlying t = some (.struct fs) ∧ fs[f]? = some fd ∧ P.info? fd.type = some i ∧ i.size ≠ 0 ∧ fd.offset = k

theorem run_fieldAt {t : TypeId} {f k : Nat} (h : FieldAt P t f k) (ad : Addr) (w : World) : (Instr.fieldAt t (.pointer (some ad)) f).run P w = .ok (.pointer (some (ad.add k))) w := by
  obtain ⟨fs, fd, i, h1, h2, h3, h4, h5⟩ := h
  simp [Instr.fieldAt, run_underlying' h1, h2, Instr.sureAddr, fieldPlace, run_sizeOf h3, h4, h5, Sem.run_bind]

theorem add_eq (b o k : Nat) : (⟨b, o, none⟩ : Addr).add k = ⟨b, o + k, none⟩ := by
  unfold Addr.add; split <;> simp_all

theorem add_eq' {ad : Addr} (h : ad.spot = none) (k : Nat) : ad.add k = ⟨ad.block, ad.off + k, none⟩ := by
  obtain ⟨b, o, s⟩ := ad
  simp only at h
  subst h
  exact add_eq b o k

theorem r_fieldAddr {d f k l off : Nat} {x : Operand} {t ty : TypeId} {pos : String} {af : Array Edge} {gd : Option (Nat × Bool)} (hf : FieldAt P t f k) (hN : d < bs.N) (hc : cOk [(x, pv l off)]) : ORule P bs ⟨some d, .fieldAddr t x f, ty, pos, af, gd⟩ ⟨rtOf [(x, pv l off)], [], [(d, pv l (off + k))], []⟩ :=
  .val rfl hN hc fun B S U s a w g _ he => by
    obtain ⟨b, κ, hb, h1⟩ := he.1
    refine ⟨.pointer (some ⟨b, off + k, none⟩), ?_, b, κ, hb, rfl⟩
    simp only [execOp, h1, Sem.run_bind, run_fieldAt hf, add_eq]
    rfl

theorem r_fieldAddrE {d f k n m : Nat} {tag : Bool} {el : Nat → DV} {x : Operand} {t ty : TypeId} {pos : String} {af : Array Edge} {gd : Option (Nat × Bool)} (hf : FieldAt P t f k) (hm : k + m ≤ n) (hN : d < bs.N) (hc : cOk [(x, sv (.ep tag n el))]) : ORule P bs ⟨some d, .fieldAddr t x f, ty, pos, af, gd⟩ ⟨rtOf [(x, sv (.ep tag n el))], [], [(d, sv (.ep tag m (fun j => el (k + j))))], []⟩ :=
  .val rfl hN hc fun B S U s a w g _ he => by
    obtain ⟨ad, h1, hs, hb, hcell⟩ := he.1
    refine ⟨.pointer (some ⟨ad.block, ad.off + k, none⟩), ?_, _, rfl, rfl, hb, fun j hj => ?_⟩
    · simp only [execOp, h1, Sem.run_bind, run_fieldAt hf, add_eq' hs]
      rfl
    · obtain ⟨u, hu, hd⟩ := hcell (k + j) (by omega)
      exact ⟨u, by rw [← hu]; simp only [Nat.add_assoc], hd⟩

/-! ### Loads -/

/-- How many cells a variable of a type takes; `none`: one cell, told by itself. -/
def Wide (P : Program) (t : TypeId) : Option Nat → Prop
  | some n => ∃ d i, P.underlying t = some d ∧ ((∃ fs, d = .struct fs) ∨ ∃ k e, d = .array k e) ∧ P.info? t = some i ∧ i.size = n
  | none => ∃ d, P.underlying t = some d ∧ (∀ fs, d ≠ .struct fs) ∧ (∀ k e, d ≠ .array k e)

theorem run_isAgg_some {t : TypeId} {n : Nat} (h : Wide P t (some n)) (w : World) : (isAgg t).run P w = .ok true w := by
  obtain ⟨d, i, h1, h2, _⟩ := h
  rcases h2 with ⟨fs, rfl⟩ | ⟨k, e, rfl⟩ <;> simp [isAgg, run_underlying' h1, Sem.run_bind]
theorem run_isAgg_none {t : TypeId} (h : Wide P t none) (w : World) : (isAgg t).run P w = .ok false w := by
  obtain ⟨d, h1, h2, h3⟩ := h
  simp only [isAgg, Sem.run_bind, run_underlying' h1]
  cases d with
  | struct fs => exact absurd rfl (h2 fs)
  | array k e => exact absurd rfl (h3 k e)
  | _ => rfl

theorem run_load_cell {ad : Addr} {w : World} {v : Value} (h : w.cell? ad = some v) : (load ad).run P w = .ok v w := by
  simp [load, Sem.run, h]

theorem run_loadCellsFrom {ad : Addr} (hs : ad.spot = none) {w : World} : ∀ (cs : List Value) (i : Nat) (acc : Array Value), (∀ j u, cs[j]? = some u → w.cell? ⟨ad.block, ad.off + (i + j), none⟩ = some u) → (loadCellsFrom ad i cs.length acc).run P w = .ok (acc ++ cs.toArray) w
  | [], i, acc, _ => by simp [loadCellsFrom]
  | c :: cs, i, acc, h => by
    have h0 := h 0 c rfl
    simp only [List.length_cons, loadCellsFrom, Sem.run_bind, add_eq' hs]
    rw [Nat.add_zero] at h0
    rw [run_load_cell h0]
    simp only [Result.andThen_ok]
    rw [run_loadCellsFrom hs cs (i + 1) (acc.push c) fun j u hj => by
      have := h (j + 1) u hj
      rw [show i + 1 + j = i + (j + 1) from by omega]
      exact this]
    simp

theorem run_loadAt_agg {t : TypeId} {n : Nat} (hw : Wide P t (some n)) {ad : Addr} (hs : ad.spot = none) {w : World} {cs : List Value} (hl : cs.length = n) (h : ∀ j u, cs[j]? = some u → w.cell? ⟨ad.block, ad.off + j, none⟩ = some u) : (Instr.loadAt t (.pointer (some ad))).run P w = .ok (.agg cs.toArray) w := by
  have hw' := hw
  obtain ⟨d, i, h1, h2, h3, h4⟩ := hw'
  have := run_loadCellsFrom (P := P) hs cs 0 #[] (by simpa using h)
  simp only [Instr.loadAt, Instr.sureAddr, loadVar, Sem.run_bind, Sem.run_pure, Result.andThen_ok, run_isAgg_some hw, if_true, run_sizeOf h3, h4, loadCells, ← hl, this]
  simp

theorem run_loadAt_one {t : TypeId} (hw : Wide P t none) {ad : Addr} {w : World} {v : Value} (h : w.cell? ad = some v) : (Instr.loadAt t (.pointer (some ad))).run P w = .ok v w := by
  simp only [Instr.loadAt, Instr.sureAddr, loadVar, Sem.run_bind, Sem.run_pure, Result.andThen_ok, run_isAgg_none hw, Bool.false_eq_true, if_false]
  exact run_load_cell h

theorem cell_of_block {w : World} {b o : Nat} {cur : Array Value} {T : TypeId} {fz : Nat × Nat} {v : Value} (h : w.heap[b]? = some (.cells cur T fz)) (hv : cur[o]? = some v) : w.cell? ⟨b, o, none⟩ = some v := by
  simp [World.cell?, h, hv]

/-- Out of a box: one cell. -/
theorem r_loadB {d l off : Nat} {x : Operand} {T : Nat} {cs : List SV} {c : SV} {t ty : TypeId} {pos : String} {af : Array Edge} {gd : Option (Nat × Bool)} (hw : Wide P t none) (hcs : cs[off]? = some c) (hN : d < bs.N) (hc : cOk [(x, pv l off)]) : ORule P bs ⟨some d, .load t x, ty, pos, af, gd⟩ ⟨rtOf [(x, pv l off)], [(l, .live (.box T cs))], [(d, sv c)], []⟩ :=
  .val rfl hN hc fun B S U s a w g hh he => by
    obtain ⟨b, κ, hb, h1⟩ := he.1
    obtain ⟨b', κ', cur, hb', hcur, hall⟩ := g.ob l _ hh.1
    rw [hb] at hb'
    cases hb'
    obtain ⟨u, hu, hok⟩ := all2_get hall hcs
    refine ⟨u, ?_, hok⟩
    simp only [execOp, h1, Sem.run_bind, run_loadAt_one hw (cell_of_block hcur (by simpa using hu))]
    rfl

/-- Out of a box: a struct. -/
theorem r_loadBs {d l off n : Nat} {x : Operand} {T : Nat} {cs ds : List SV} {t ty : TypeId} {pos : String} {af : Array Edge} {gd : Option (Nat × Bool)} (hw : Wide P t (some n)) (hds : (cs.drop off).take n = ds) (hn : off + n ≤ cs.length) (hN : d < bs.N) (hc : cOk [(x, pv l off)]) : ORule P bs ⟨some d, .load t x, ty, pos, af, gd⟩ ⟨rtOf [(x, pv l off)], [(l, .live (.box T cs))], [(d, .tv (.agg ds))], []⟩ :=
  .val rfl hN hc fun B S U s a w g hh he => by
    obtain ⟨b, κ, hb, h1⟩ := he.1
    obtain ⟨b', κ', cur, hb', hcur, hall⟩ := g.ob l _ hh.1
    rw [hb] at hb'
    cases hb'
    have hlen := all2_len hall
    refine ⟨.agg ((cur.toList.drop off).take n).toArray, ?_, _, rfl, ?_⟩
    · have := run_loadAt_agg (P := P) hw (ad := ⟨b, off, none⟩) rfl (w := w) (cs := (cur.toList.drop off).take n) (by simp; simp at hlen; omega) fun j u hj => by
        refine cell_of_block hcur ?_
        rw [List.getElem?_take] at hj
        split at hj
        · rw [List.getElem?_drop] at hj
          simpa using hj
        · cases hj
      simp only [execOp, h1, Sem.run_bind, this]
      rfl
    · subst hds
      refine all2_of_get (by simp [hlen]) fun i a b hi hj => ?_
      rw [List.getElem?_take] at hi hj
      split at hi
      · rw [if_pos (by assumption)] at hj
        rw [List.getElem?_drop] at hi hj
        obtain ⟨u, hu, hok⟩ := all2_get hall hi
        rw [hj] at hu
        cases hu
        exact hok
      · cases hi

/-- Out of shared cells: one cell. -/
theorem r_loadE {d n : Nat} {tag : Bool} {el : Nat → DV} {e0 : DV} {x : Operand} {t ty : TypeId} {pos : String} {af : Array Edge} {gd : Option (Nat × Bool)} (hw : Wide P t none) (hn : 0 < n) (he0 : el 0 = e0) (hN : d < bs.N) (hc : cOk [(x, sv (.ep tag n el))]) : ORule P bs ⟨some d, .load t x, ty, pos, af, gd⟩ ⟨rtOf [(x, sv (.ep tag n el))], [], [(d, sv (.d e0))], []⟩ :=
  .val rfl hN hc fun B S U s a w g hh he => by
    obtain ⟨ad, h1, hs, hb, hcell⟩ := he.1
    obtain ⟨u, hu, hd⟩ := hcell 0 hn
    subst he0
    refine ⟨u, ?_, hd⟩
    have : w.cell? ad = some u := by
      obtain ⟨b, o, sp⟩ := ad
      simp only at hs
      subst hs
      exact hu
    simp only [execOp, h1, Sem.run_bind, run_loadAt_one hw this]
    rfl

def dvs (n : Nat) (el : Nat → DV) : List SV := (List.range n).map fun j => .d (el j)

/-- Out of shared cells: a struct. -/
theorem r_loadEs {d n m : Nat} {tag : Bool} {el : Nat → DV} {ds : List SV} {x : Operand} {t ty : TypeId} {pos : String} {af : Array Edge} {gd : Option (Nat × Bool)} (hw : Wide P t (some m)) (hm : m ≤ n) (hds : dvs m el = ds) (hN : d < bs.N) (hc : cOk [(x, sv (.ep tag n el))]) : ORule P bs ⟨some d, .load t x, ty, pos, af, gd⟩ ⟨rtOf [(x, sv (.ep tag n el))], [], [(d, .tv (.agg ds))], []⟩ :=
  .val rfl hN hc fun B S U s a w g hh he => by
    obtain ⟨ad, h1, hs, hb, hcell⟩ := he.1
    subst hds
    have hex : ∀ m, m ≤ n → ∃ cs : List Value, cs.length = m ∧ (∀ j u, cs[j]? = some u → w.cell? ⟨ad.block, ad.off + j, none⟩ = some u) ∧ all2 (svOk B S U w) (dvs m el) cs := by
      intro m
      induction m with
      | zero => intro _; exact ⟨[], rfl, by simp, trivial⟩
      | succ m ih =>
        intro hle
        obtain ⟨cs, h1, h2, h3⟩ := ih (by omega)
        obtain ⟨u, hu, hd⟩ := hcell m (by omega)
        refine ⟨cs ++ [u], by simp [h1], fun j v hj => ?_, ?_⟩
        · rw [List.getElem?_append] at hj
          split at hj
          · exact h2 j v hj
          · have : j = m := by
              rcases Nat.lt_or_ge (j - cs.length) 1 with h | h
              · omega
              · simp [List.getElem?_eq_none (show [u].length ≤ j - cs.length by simpa using h)] at hj
            subst this
            simp [h1] at hj
            rw [← hj]
            exact hu
        · have : dvs (m + 1) el = dvs m el ++ [.d (el m)] := by simp [dvs, List.range_succ]
          rw [this]
          exact all2_append h3 ⟨hd, trivial⟩
    obtain ⟨cs, hl, hc2, hok⟩ := hex m hm
    refine ⟨.agg cs.toArray, ?_, cs, rfl, hok⟩
    simp only [execOp, h1, Sem.run_bind, run_loadAt_agg hw hs hl hc2]
    rfl

/-! ### Shared slices -/

/-- The address of an element. -/
theorem r_indexS {d sz n : Nat} {tag nn : Bool} {el : Nat → Nat → DV} {k : IntKind} {i : Int} {m : Nat} {x y : Operand} {t e ty : TypeId} {pos : String} {af : Array Edge} {gd : Option (Nat × Bool)} {inf : TypeInfo} (ht : P.underlying t = some (.slice e)) (hi : P.info? e = some inf) (hsz : inf.size = sz) (hm : i = m) (h1 : m < n) {el1 : Nat → DV} (hel1 : el m = el1) (hN : d < bs.N) (hc : cOk [(x, sv (.d (.sl tag nn sz n el))), (y, dv (.int k i))]) :
    ORule P bs ⟨some d, .indexAddr t x y, ty, pos, af, gd⟩ ⟨rtOf [(x, sv (.d (.sl tag nn sz n el))), (y, dv (.int k i))], [], [(d, sv (.ep tag sz el1))], []⟩ :=
  .val rfl hN hc fun B S U s a w g _ he => by
    obtain ⟨ao, cap, hv, _, _, _, hel⟩ := he.1
    have hy : a.eval y = .int k i := he.2.1
    subst hm
    subst hel1
    have h0 : (0 : Int) ≤ m := by omega
    have h1' : (m : Int) < n := by omega
    obtain ⟨ad, ha, hs, hb, hcell⟩ := hel m h1
    subst ha
    refine ⟨.pointer (some ⟨ad.block, ad.off + m * sz, none⟩), ?_, _, rfl, rfl, hb, fun j hj => ?_⟩
    · simp only [execOp, Instr.indexAt, hv, hy, Sem.run_bind, asIntOf, Sem.run_pure, Result.andThen_ok, run_underlying' ht, h0, h1', and_self, if_true, run_sizeOf hi, hsz, add_eq' hs, Int.toNat_natCast]
    · obtain ⟨u, hu, hd⟩ := hcell j hj
      exact ⟨u, by rw [← hu]; simp only [Nat.add_assoc], hd⟩

theorem r_lenS {d sz n : Nat} {tag nn : Bool} {el : Nat → Nat → DV} {x : Operand} {t e ty : TypeId} {pos : String} {af : Array Edge} {gd : Option (Nat × Bool)} (ht : P.underlying t = some (.slice e)) (hN : d < bs.N) (hc : cOk [(x, sv (.d (.sl tag nn sz n el)))]) :
    ORule P bs ⟨some d, .call { callee := .builtin .len, args := #[x], argTypes := #[t] }, ty, pos, af, gd⟩ ⟨rtOf [(x, sv (.d (.sl tag nn sz n el)))], [], [(d, dv (.int .i64 n))], []⟩ :=
  .val rfl hN hc fun B S U s a w g _ he => by
    obtain ⟨ao, cap, hv, _⟩ := he.1
    refine ⟨.int .i64 n, ?_, rfl⟩
    simp [execOp, resolve, invoke, builtin, Builtin.len_, hv, run_underlying' ht, goInt, Sem.run_bind]

theorem r_lenO {d l sz off n : Nat} {x : Operand} {t e ty : TypeId} {pos : String} {af : Array Edge} {gd : Option (Nat × Bool)} (ht : P.underlying t = some (.slice e)) (hN : d < bs.N) (hc : cOk [(x, sv (.own l sz off n))]) :
    ORule P bs ⟨some d, .call { callee := .builtin .len, args := #[x], argTypes := #[t] }, ty, pos, af, gd⟩ ⟨rtOf [(x, sv (.own l sz off n))], [], [(d, dv (.int .i64 n))], []⟩ :=
  .val rfl hN hc fun B S U s a w g _ he => by
    refine ⟨.int .i64 n, ?_, rfl⟩
    rcases he.1 with ⟨_, _, hn, hv⟩ | ⟨b, κ, o, cap, _, hv, _⟩
    · simp [execOp, resolve, invoke, builtin, Builtin.len_, hv, run_underlying' ht, goInt, Sem.run_bind, hn]
    · simp [execOp, resolve, invoke, builtin, Builtin.len_, hv, run_underlying' ht, goInt, Sem.run_bind]

theorem r_lenV {d n cap : Nat} {ao : Option Addr} {x : Operand} {t e ty : TypeId} {pos : String} {af : Array Edge} {gd : Option (Nat × Bool)} (ht : P.underlying t = some (.slice e)) (hN : d < bs.N) (hc : cOk [(x, dv (.slice ao n cap))]) :
    ORule P bs ⟨some d, .call { callee := .builtin .len, args := #[x], argTypes := #[t] }, ty, pos, af, gd⟩ ⟨rtOf [(x, dv (.slice ao n cap))], [], [(d, dv (.int .i64 n))], []⟩ :=
  .val rfl hN hc fun B S U s a w g _ he => by
    have hv : a.eval x = .slice ao n cap := he.1
    refine ⟨.int .i64 n, ?_, rfl⟩
    simp [execOp, resolve, invoke, builtin, Builtin.len_, hv, run_underlying' ht, goInt, Sem.run_bind]

theorem r_lenStr {d : Nat} {b : ByteArray} {x : Operand} {t ty : TypeId} {pos : String} {af : Array Edge} {gd : Option (Nat × Bool)} (ht : P.underlying t = some .string) (hN : d < bs.N) (hc : cOk [(x, dv (.string b))]) :
    ORule P bs ⟨some d, .call { callee := .builtin .len, args := #[x], argTypes := #[t] }, ty, pos, af, gd⟩ ⟨rtOf [(x, dv (.string b))], [], [(d, dv (.int .i64 b.size))], []⟩ :=
  .val rfl hN hc fun B S U s a w g _ he => by
    have hv : a.eval x = .string b := he.1
    refine ⟨.int .i64 b.size, ?_, rfl⟩
    simp [execOp, resolve, invoke, builtin, Builtin.len_, hv, run_underlying' ht, goInt, Sem.run_bind]
end Go.Proofs.Ytacikihlgpnjhaa.Q
