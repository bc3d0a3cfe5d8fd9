import Derived.Test.YtacikihlgpnjhaaQ23
namespace Go.Proofs.Ytacikihlgpnjhaa.Q
open Go Go.RowKit
set_option linter.unusedVariables false
set_option linter.unusedSimpArgs false

/-! ### Short words -/

abbrev aa : AV := AV.any
/-- The first n digits of x, as truths. -/
def bm : Nat → Nat → List Bool
  | 0, _ => []
  | n + 1, x => Nat.beq (x % 2) 1 :: bm n (x / 2)

theorem elOf_part {α : Type} {K : Kd α} {l : List α} {o b : Nat} (h : l.length ≤ b) (i j : Nat) : elOf K ((l.take b).drop o) i j = elOf K l (o + i) j := by
  rw [List.take_of_length_le h]
  unfold elOf
  congr 1
  rw [List.getD_eq_getElem?_getD, List.getD_eq_getElem?_getD, List.getElem?_drop]

/-! ### Structs that are compared -/

theorem run_prog' {P : Program} {w : World} : (program).run P w = .ok P w := rfl

inductive ScEq (P : Program) (t : TypeId) : Value → Value → Bool → Prop
  | int {k : IntKind} {a b : Int} (h : P.underlying t = some (.int k)) : ScEq P t (.int k a) (.int k b) (decide (a = b))
  | bool {a b : Bool} (h : P.underlying t = some .bool) : ScEq P t (.bool a) (.bool b) (decide (a = b))
  | str {a b : List UInt8} (h : P.underlying t = some .string) : ScEq P t (strV a) (strV b) (decide (a = b))

section
variable {P : Program} {t : TypeId} {x y : Value} {b : Bool} {w : World}
theorem sc_run {n : Nat} (h : ScEq P t x y b) : (Op.equalIn (n + 1) t x y).run P w = .ok b w := by
  cases h with
  | @int k a c h =>
    have : (a == c) = decide (a = c) := by by_cases h : a = c <;> simp [h]
    rw [← this]
    simp only [Op.equalIn, Sem.run_bind, run_underlying' h, Result.andThen_ok, if_true]
    rfl
  | @bool a c h =>
    have : (a == c) = decide (a = c) := by cases a <;> cases c <;> rfl
    rw [← this]
    exact eqIn_bool h
  | @str a c h =>
    rw [← bytes_beq']
    simp only [strV, Op.equalIn, Sem.run_bind, run_underlying' h, Result.andThen_ok]
    rfl
theorem sc_part1 (h : ScEq P t x y b) {xs : Array Value} {o : Nat} (hx : xs[o]? = some x) : (part t xs o).run P w = .ok x w := by
  cases h with
  | int h => simp [part, isAgg, run_underlying' h, hx, Sem.run_bind]
  | bool h => simp [part, isAgg, run_underlying' h, hx, Sem.run_bind]
  | str h => simp [part, isAgg, run_underlying' h, hx, Sem.run_bind]
theorem sc_part2 (h : ScEq P t x y b) {xs : Array Value} {o : Nat} (hx : xs[o]? = some y) : (part t xs o).run P w = .ok y w := by
  cases h with
  | int h => simp [part, isAgg, run_underlying' h, hx, Sem.run_bind]
  | bool h => simp [part, isAgg, run_underlying' h, hx, Sem.run_bind]
  | str h => simp [part, isAgg, run_underlying' h, hx, Sem.run_bind]
end

def FEq (P : Program) (xs ys : Array Value) : List Field → List Bool → Prop
  | [], [] => True
  | f :: fs, b :: bs => f.name ≠ "_" ∧ (∃ x y, xs[f.offset]? = some x ∧ ys[f.offset]? = some y ∧ ScEq P f.type x y b) ∧ FEq P xs ys fs bs
  | _, _ => False

theorem for_all {P : Program} {w : World} {body : Field → (Option Bool × Unit) → Sem (ForInStep ((Option Bool × Unit)))} : ∀ (fl : List Field) (bs : List Bool),
    (∀ (i : Nat) (f : Field) (b : Bool), fl[i]? = some f → bs[i]? = some b → (body f (none, ())).run P w = .ok (if b = true then .yield (none, ()) else .done (some false, ())) w) → fl.length = bs.length →
    (forIn fl ((none, ()) : (Option Bool × Unit)) body).run P w = .ok (if bs.all id = true then (none, ()) else (some false, ())) w
  | [], [], _, _ => rfl
  | [], _ :: _, _, h => by simp at h
  | _ :: _, [], _, h => by simp at h
  | f :: fl, b :: bs, hb, hl => by
    have h0 := hb 0 f b rfl rfl
    have hr := for_all fl bs (fun i f b h1 h2 => hb (i + 1) f b (by simpa using h1) (by simpa using h2)) (by simpa using hl)
    rw [List.forIn_cons, Sem.run_bind, h0]
    cases b with
    | false => rfl
    | true => exact hr

theorem feq_at {P : Program} {xs ys : Array Value} : ∀ {fl : List Field} {bs : List Bool}, FEq P xs ys fl bs → fl.length = bs.length ∧ ∀ (i : Nat) (f : Field) (b : Bool), fl[i]? = some f → bs[i]? = some b → f.name ≠ "_" ∧ ∃ x y, xs[f.offset]? = some x ∧ ys[f.offset]? = some y ∧ ScEq P f.type x y b
  | [], [], _ => ⟨rfl, fun i f b h => by simp at h⟩
  | f :: fl, b :: bs, h => by
    obtain ⟨h1, h2, h3⟩ := h
    obtain ⟨a, c⟩ := feq_at h3
    refine ⟨by simp [a], fun i g d hg hd => ?_⟩
    cases i with
    | zero =>
      simp only [List.getElem?_cons_zero, Option.some.injEq] at hg hd
      subst hg
      subst hd
      exact ⟨h1, h2⟩
    | succ i => exact c i g d (by simpa using hg) (by simpa using hd)
  | [], _ :: _, h => h.elim
  | _ :: _, [], h => h.elim

theorem eq_struct {P : Program} {w : World} {kt : TypeId} {fl : List Field} {n : Nat} {xs ys : Array Value} {bs : List Bool} (hd : P.underlying kt = some (.struct fl.toArray)) (hst : P.stoodInHeld kt = false) (h : FEq P xs ys fl bs) : (Op.equalIn (n + 1 + 1) kt (.agg xs) (.agg ys)).run P w = .ok (bs.all id) w := by
  obtain ⟨hl, hf⟩ := feq_at h
  rw [Op.equalIn]
  simp only [Sem.run_bind, run_underlying' hd, Result.andThen_ok, run_prog', hst]
  simp only [List.forIn_toArray, Bool.false_eq_true, if_false, Sem.run_bind, Sem.run_pure, Result.andThen_ok]
  rw [for_all fl bs ?_ hl]
  · cases bs.all id <;> rfl
  · intro i f b h1 h2
    obtain ⟨h3, x, y, hx, hy, hs⟩ := hf i f b h1 h2
    simp only [h3, ne_eq, not_false_eq_true, if_true, Sem.run_bind, sc_part1 hs hx, sc_part2 hs hy, sc_run hs, Result.andThen_ok]
    cases b <;> rfl

/-- A type whose values can be compared, and when two are the same. -/
structure SEq (P : Program) (t : TypeId) {K : Type} [DecidableEq K] (f : K → Value) : Prop where
  agg : ∀ a, ∃ c, f a = .agg c
  guard : P.eqGuardType P.depth t = false
  run : ∀ a b w, (Op.equal t (f a) (f b)).run P w = .ok (decide (a = b)) w

section
variable {P : Program} {bs : Base} {t : TypeId} {K : Type} [DecidableEq K] {f : K → Value}
theorem seq_guard (h : SEq P t f) (op : BinOp) (x y : Operand) (a b : K) (w : World) : (eqGuard op t x y (f a) (f b)).run P w = .ok () w := by
  obtain ⟨c, hc⟩ := h.agg a
  obtain ⟨d, hd⟩ := h.agg b
  rw [hc, hd]
  have key : (do
      if !(← program).eqGuardType (← program).depth t then return
      if ← Op.eqGuardIn Op.maxDepth t (.agg c) (.agg d) then unsupported (.noEntry "binop/eql: two nil values of an interface type with methods, in a part of a struct or an array") : Sem Unit).run P w = .ok () w := by
    simp only [Sem.run_bind, run_prog', Result.andThen_ok, h.guard]
    rfl
  unfold eqGuard
  split
  · exact key
  · exact key
  · rfl
theorem r_eqSt {d : Nat} {x y : Operand} {ax ay : AV} {a b : K} {yt ty : TypeId} {pos : String} {af : Array Edge} {gd : Option (Nat × Bool)} (h : SEq P t f) (hx : isKeyA ax (f a)) (hy : isKeyA ay (f b)) (hN : d < bs.N) (hc : cOk [(x, ax), (y, ay)]) :
    ORule P bs ⟨some d, .binOp .eql t x y yt, ty, pos, af, gd⟩ ⟨rtOf [(x, ax), (y, ay)], [], [(d, dv (.bool (decide (a = b))))], []⟩ :=
  .val rfl hN hc fun B S U s a' w g _ he => ⟨.bool (decide (a = b)), by
    have h1 : a'.eval x = f a := isKeyA_spec hx he.1
    have h2 : a'.eval y = f b := isKeyA_spec hy he.2.1
    have h3 := seq_guard h .eql x y a b w
    have h4 := h.run a b w
    obtain ⟨c, hc⟩ := h.agg a
    obtain ⟨d', hd⟩ := h.agg b
    simp only [execOp, h1, h2, Sem.run_bind, h3, Result.andThen_ok]
    rw [hc, hd] at h4 ⊢
    simp only [binOp, Sem.run_bind, h4, Result.andThen_ok, Sem.run_pure], rfl⟩
theorem r_neSt {d : Nat} {x y : Operand} {ax ay : AV} {a b : K} {yt ty : TypeId} {pos : String} {af : Array Edge} {gd : Option (Nat × Bool)} (h : SEq P t f) (hx : isKeyA ax (f a)) (hy : isKeyA ay (f b)) (hN : d < bs.N) (hc : cOk [(x, ax), (y, ay)]) :
    ORule P bs ⟨some d, .binOp .neq t x y yt, ty, pos, af, gd⟩ ⟨rtOf [(x, ax), (y, ay)], [], [(d, dv (.bool (decide (a ≠ b))))], []⟩ :=
  .val rfl hN hc fun B S U s a' w g _ he => ⟨.bool (decide (a ≠ b)), by
    have h1 : a'.eval x = f a := isKeyA_spec hx he.1
    have h2 : a'.eval y = f b := isKeyA_spec hy he.2.1
    have h3 := seq_guard h .neq x y a b w
    have h4 := h.run a b w
    obtain ⟨c, hc⟩ := h.agg a
    obtain ⟨d', hd⟩ := h.agg b
    simp only [execOp, h1, h2, Sem.run_bind, h3, Result.andThen_ok]
    rw [hc, hd] at h4 ⊢
    simp only [binOp, Sem.run_bind, h4, Result.andThen_ok, Sem.run_pure, decide_not], rfl⟩
theorem seq_of {fl : List Field} {g : K → Array Value} {bs' : K → K → List Bool} (hd : P.underlying t = some (.struct fl.toArray)) (hst : P.stoodInHeld t = false) (hg : P.eqGuardType P.depth t = false) (h : ∀ a b, FEq P (g a) (g b) fl (bs' a b)) (he : ∀ a b, (bs' a b).all id = decide (a = b)) : SEq P t (fun x : K => .agg (g x)) where
  agg a := ⟨_, rfl⟩
  guard := hg
  run a b w := by
    rw [← he]
    exact eq_struct (n := 9998) hd hst (h a b)
end

theorem r_minN {P : Program} {bs : Base} {d : Nat} {x y : Operand} {k : IntKind} {a b : Nat} {t t' ty : TypeId} {pos : String} {af : Array Edge} {gd : Option (Nat × Bool)} (hN : d < bs.N) (hc : cOk [(x, dv (.int k ((a : Nat) : Int))), (y, dv (.int k ((b : Nat) : Int)))]) :
    ORule P bs ⟨some d, .call { callee := .builtin .min, args := #[x, y], argTypes := #[t, t'] }, ty, pos, af, gd⟩ ⟨rtOf [(x, dv (.int k ((a : Nat) : Int))), (y, dv (.int k ((b : Nat) : Int)))], [], [(d, dv (.int k ((min a b : Nat) : Int)))], []⟩ := by
  have h : min ((a : Nat) : Int) ((b : Nat) : Int) = ((min a b : Nat) : Int) := by omega
  have := r_min (P := P) (t := t) (t' := t') (ty := ty) (pos := pos) (af := af) (gd := gd) hN hc
  rw [h] at this
  exact this

section
variable {P : Program} {bs : Base}
theorem r_makeW {d l e sz bytes k n : Nat} {zs : List Value} {el : Nat → Nat → DV} {x y : Operand} {p q : Int} {t ty : TypeId} {pos : String} {af : Array Edge} {gd : Option (Nat × Bool)} (hE : Elem P t e sz bytes) (hz : Zero P e zs) (hp : p = k) (hq : q = n) (hkn : k ≤ n) (hb : bytes * n ≤ 281474976710656) (h63 : n ≤ maxLen) (hel : ∀ i j, i < k → j < sz → wkS (.d (.val (zs.getD j undef))) (.d (el i j))) (hN : d < bs.N) (hc : cOk [(x, dv (.int .i64 p)), (y, dv (.int .i64 q))]) :
    ORule P bs ⟨some d, .makeSlice t x y, ty, pos, af, gd⟩ ⟨rtOf [(x, dv (.int .i64 p)), (y, dv (.int .i64 q))], [(l, .free)], [(d, sv (.own l sz 0 k))], [(l, .live (.arr e sz k el))]⟩ :=
  .heap rfl hN hc fun B S U s a w g hh he => by
    have hx : a.eval x = .int .i64 p := he.1
    have hy : a.eval y = .int .i64 q := he.2.1
    obtain ⟨ht, i, z, hi, hz1, hs, hby, hzs, hpos⟩ := hE
    obtain ⟨i', z', hi', hz2, hz3⟩ := hz
    rw [hi] at hi'
    cases hi'
    rw [hz1] at hz2
    cases hz2
    subst hp
    subst hq
    have hr := run_make (P := P) w t e i z ht hi hz1 .i64 .i64 (k : Int) (n : Int) (by omega) (by omega) (by rw [hby, ← Int.natCast_mul]; omega) (by simp only [maxLen] at h63; omega)
    have hlf := hh.1
    simp only [Int.toNat_natCast, hs] at hr
    refine ⟨.slice (some ⟨w.heap.size, 0, none⟩) k n, _, bset B l (some (w.heap.size, n)), S, U, ?_, g.alloc hlf _ _ n (.inr ⟨w.heap.size, n, madeCells z.cells (n * sz), by simp [bset], heap_alloc_new w _, by simp [madeCells], hkn, h63, fun i' hi' j hj => ?_⟩), .inr ⟨w.heap.size, n, 0, n, by simp [bset], rfl, by omega, hkn, fun _ => by simp⟩⟩
    · simp only [execOp, hx, hy, Sem.run_bind, hr, Result.andThen_ok, Sem.run_pure]
    · refine ⟨zs.getD j undef, ?_, ?_⟩
      · have hlt : i' * sz + j < n * sz := by
          calc i' * sz + j < i' * sz + sz := by omega
            _ = (i' + 1) * sz := by rw [Nat.add_mul, Nat.one_mul]
            _ ≤ n * sz := Nat.mul_le_mul_right _ (by omega)
        have hmod : (i' * sz + j) % z.cells.size = j := by rw [hzs, Nat.mul_comm, Nat.mul_add_mod, Nat.mod_eq_of_lt hj]
        have hjl : j < z.cells.size := by omega
        rw [← hz3]
        simp [madeCells, hlt, hmod, hjl]
      · have h0 : svOk (bset B l (some (w.heap.size, n))) S U (w.alloc (.cells (madeCells z.cells (n * sz)) e)) (.d (.val (zs.getD j undef))) (zs.getD j undef) := rfl
        exact (hel i' j hi' hj).elim (fun q => by have h1 : SV.d (el i' j) = _ := q.symm; injection h1 with h1; rw [h1]; exact rfl) (fun q => weakS_ok (B' := bset B l (some (w.heap.size, n))) q h0)
theorem q_makeW {α : Type} (l e bytes : Nat) (K : Kd α) (xs : List α) (k n : Nat) {d : Nat} {zs : List Value} {x y : Operand} {p q : Int} {t ty : TypeId} {pos : String} {af : Array Edge} {gd : Option (Nat × Bool)} (hE : Elem P t e K.sz bytes) (hz : Zero P e zs) (hp : p = k) (hq : q = n) (hkn : k ≤ n) (hb : bytes * n ≤ 281474976710656) (h63 : n ≤ maxLen) (hel : ∀ j, j < K.sz → wkS (.d (.val (zs.getD j undef))) (.d (K.cell K.z j))) (hxs : xs = List.replicate k K.z) (hN : d < bs.N) (hc : cOk [(x, dv (.int .i64 p)), (y, dv (.int .i64 q))]) :
    ORule P bs ⟨some d, .makeSlice t x y, ty, pos, af, gd⟩ ⟨rtOf [(x, dv (.int .i64 p)), (y, dv (.int .i64 q))], [(l, .free)], [(d, ownV l K 0 xs.length)], [(l, .live (arrK e K xs))]⟩ := by
  subst hxs
  have := r_makeW (P := P) (bs := bs) (l := l) (d := d) (k := k) (n := n) (el := elOf K (List.replicate k K.z)) (x := x) (y := y) (t := t) (ty := ty) (pos := pos) (af := af) (gd := gd) hE hz hp hq hkn hb h63 (fun i j hi hj => by
    unfold elOf
    have : (List.replicate k K.z).getD i K.z = K.z := by simp [List.getD_eq_getElem?_getD, List.getElem?_replicate, hi]
    rw [this]
    exact hel j hj) hN hc
  simpa [arrK, ownV] using this
end
end Go.Proofs.Ytacikihlgpnjhaa.Q
