import Derived.Test.YtacikihlgpnjhaaQ24
namespace Go.Proofs.Ytacikihlgpnjhaa.Q
open Go Go.RowKit
set_option linter.unusedVariables false
set_option linter.unusedSimpArgs false

/-! ### Operations that are reckoned -/

variable {P : Program} {bs : Base}

def opv (s : St) : Operand → Option AV
  | .tmp t => some (tget s.t t)
  | .const v => some (dv v)
  | .func f => some (dv (.func (.func f) #[] #[]))
  | .global _ => none
theorem opv_ok {s : St} {x : Operand} {av : AV} (h : opv s x = some av) : cOk [(x, av)] ∧ satT (rtOf [(x, av)]) s.t := by
  cases x with
  | tmp t => exact ⟨trivial, Option.some.inj h, trivial⟩
  | const v => exact ⟨⟨(Option.some.inj h).symm, trivial⟩, trivial⟩
  | func f => exact ⟨⟨(Option.some.inj h).symm, trivial⟩, trivial⟩
  | global g => cases h
theorem opv_cons {s : St} {x : Operand} {av : AV} {l : List (Operand × AV)} (h : opv s x = some av) (hl : cOk l ∧ satT (rtOf l) s.t) : cOk ((x, av) :: l) ∧ satT (rtOf ((x, av) :: l)) s.t := by
  cases x with
  | tmp t => exact ⟨hl.1, Option.some.inj h, hl.2⟩
  | const v => exact ⟨⟨(Option.some.inj h).symm, hl.1⟩, hl.2⟩
  | func f => exact ⟨⟨(Option.some.inj h).symm, hl.1⟩, hl.2⟩
  | global g => cases h
theorem opv2 {s : St} {x y : Operand} {a b : AV} (h : opv s x = some a) (h' : opv s y = some b) : cOk [(x, a), (y, b)] ∧ satT (rtOf [(x, a), (y, b)]) s.t := opv_cons h (opv_ok h')

def newL : List HS → Nat
  | [] => 0
  | .free :: _ => 0
  | _ :: r => newL r + 1
theorem newL_free : ∀ h : List HS, hget h (newL h) = .free
  | [] => rfl
  | .free :: _ => rfl
  | .dead :: r => newL_free r
  | .live _ :: r => newL_free r

def fieldK (P : Program) (t f : Nat) : Option (Nat × Nat) :=
  match P.underlying t with
  | some (.struct fs) => match fs[f]? with
    | some fd => match P.info? fd.type with
      | some i => match i.size with
        | 0 => none
        | n + 1 => some (fd.offset, n + 1)
      | none => none
    | none => none
  | _ => none
theorem fieldK_ok {t f k n : Nat} (h : fieldK P t f = some (k, n)) : FieldAt P t f k := by
  unfold fieldK at h
  split at h
  · rename_i fs h1
    split at h
    · rename_i fd h2
      split at h
      · rename_i i h3
        split at h
        · cases h
        · rename_i m h4
          cases h
          exact ⟨fs, fd, i, h1, h2, h3, by omega, rfl⟩
      · cases h
    · cases h
  · cases h
def sizeK (P : Program) (t : Nat) : Option Nat := match P.info? t with
  | some i => some i.size
  | none => none
theorem sizeK_ok {t n : Nat} (h : sizeK P t = some n) : ∃ i, P.info? t = some i ∧ i.size = n := by
  unfold sizeK at h
  split at h
  · rename_i i h1
    exact ⟨i, h1, Option.some.inj h⟩
  · cases h
def wideK (P : Program) (t : Nat) : Option (Option Nat) :=
  match P.underlying t with
  | none => none
  | some (.struct _) => (match sizeK P t with | some n => some (some n) | none => none)
  | some (.array _ _) => (match sizeK P t with | some n => some (some n) | none => none)
  | some _ => some none
theorem wideK_ok {t : Nat} {w : Option Nat} (h : wideK P t = some w) : Wide P t w := by
  unfold wideK at h
  split at h
  · cases h
  · rename_i fs h1
    split at h
    · rename_i n h2
      cases h
      obtain ⟨i, h3, h4⟩ := sizeK_ok h2
      exact ⟨_, i, h1, .inl ⟨fs, rfl⟩, h3, h4⟩
    · cases h
  · rename_i k e h1
    split at h
    · rename_i n h2
      cases h
      obtain ⟨i, h3, h4⟩ := sizeK_ok h2
      exact ⟨_, i, h1, .inr ⟨k, e, rfl⟩, h3, h4⟩
    · cases h
  · rename_i d hs ha h1
    cases h
    exact ⟨d, h1, fun fs e => hs fs e, fun k e e' => ha k e e'⟩
def zeroK (P : Program) (t : Nat) : Option (List Value) := match P.info? t with
  | some i => match i.zero with
    | some z => some z.cells.toList
    | none => none
  | none => none
theorem zeroK_ok {t : Nat} {zs : List Value} (h : zeroK P t = some zs) : Zero P t zs := by
  unfold zeroK at h
  split at h
  · rename_i i h1
    split at h
    · rename_i z h2
      exact ⟨i, z, h1, h2, Option.some.inj h⟩
    · cases h
  · cases h
def placesK (P : Program) : List Field → Option (List (Nat × Nat))
  | [] => some []
  | f :: r => match sizeK P f.type, placesK P r with
    | some n, some l => some ((f.offset, n) :: l)
    | _, _ => none
theorem placesK_ok : ∀ {fs : List Field} {pl : List (Nat × Nat)}, placesK P fs = some pl → all2 (fun (f : Field) (p : Nat × Nat) => f.offset = p.1 ∧ ∃ i, P.info? f.type = some i ∧ i.size = p.2) fs pl
  | [], pl, h => by cases h; trivial
  | f :: r, pl, h => by
    unfold placesK at h
    split at h
    · rename_i n l h1 h2
      cases h
      exact ⟨⟨rfl, sizeK_ok h1⟩, placesK_ok h2⟩
    · cases h
def partsK (s : St) (pl : List (Nat × Nat)) (n : Nat) : List (Nat × Operand) → Option (List Part)
  | [] => some []
  | (i, x) :: r => match opv s x, pl[i]?, partsK s pl n r with
    | some (.tv t), some (off, m), some l => if oneOk t && Nat.beq m (tvCells t).length && Nat.ble (off + m) n then some (⟨i, x, t, off⟩ :: l) else none
    | _, _, _ => none
theorem partsK_ok {s : St} {pl : List (Nat × Nat)} {n : Nat} : ∀ {xs : List (Nat × Operand)} {ps : List Part}, partsK s pl n xs = some ps → xs = ps.map (fun p => (p.i, p.x)) ∧ partsOk (fun i => pl[i]?) n ps ∧ cOk (partsOps ps) ∧ satT (rtOf (partsOps ps)) s.t
  | [], ps, h => by cases h; exact ⟨rfl, (fun p hp => by cases hp), trivial, trivial⟩
  | (i, x) :: r, ps, h => by
    unfold partsK at h
    split at h
    · rename_i t off m l h1 h2 h3
      split at h
      · rename_i hb
        cases h
        simp only [Bool.and_eq_true] at hb
        obtain ⟨⟨b1, b2⟩, b3⟩ := hb
        have b2 := Nat.eq_of_beq_eq_true b2
        have b3 := Nat.le_of_ble_eq_true b3
        obtain ⟨r1, r2, r3⟩ := partsK_ok h3
        have r4 := opv_cons (l := partsOps l) h1 r3
        refine ⟨by rw [r1]; rfl, ?_, r4⟩
        intro p hp
        cases hp with
        | head => exact ⟨b1, by show pl[i]? = some (off, (tvCells t).length); rw [h2, b2], by show off + (tvCells t).length ≤ n; rw [← b2]; exact b3⟩
        | tail _ hp => exact r2 p hp
      · cases h
    · cases h

/-- Comparisons. -/
def cmpK (op : BinOp) (a b : Int) : Option Value :=
  match op with
  | .lss => some (.bool (decide (a < b)))
  | .leq => some (.bool (decide (a ≤ b)))
  | .gtr => some (.bool (decide (a > b)))
  | .geq => some (.bool (decide (a ≥ b)))
  | .eql => some (.bool (decide (a = b)))
  | .neq => some (.bool (decide (a ≠ b)))
  | _ => none
theorem cmpK_ok {op : BinOp} {k : IntKind} {a b : Int} {v : Value} {t : TypeId} (h : cmpK op a b = some v) : BinR P op t (.int k a) (.int k b) v := by
  cases op <;> simp only [cmpK, reduceCtorEq] at h <;> cases h
  · exact b_eql
  · exact b_neq
  · exact b_lss
  · exact b_leq
  · exact b_gtr
  · exact b_geq
def kindEq : IntKind → IntKind → Bool := fun a b => decide (a = b)
def boolT (P : Program) (t : Nat) : Bool := match P.underlying t with | some .bool => true | _ => false
theorem boolT_ok {t : Nat} (h : boolT P t = true) : P.underlying t = some .bool := by unfold boolT at h; split at h <;> simp_all
def ptrT (P : Program) (t : Nat) : Bool := match P.underlying t with | some (.pointer _) => true | _ => false
theorem ptrT_ok {t : Nat} (h : ptrT P t = true) : ∃ e, P.underlying t = some (.pointer e) := by
  unfold ptrT at h
  split at h
  · rename_i e h1; exact ⟨e, h1⟩
  · cases h
def bytL (b : ByteArray) : List UInt8 := match b with | ⟨⟨l⟩⟩ => l
theorem bytL_eq (b : ByteArray) : strV (bytL b) = .string b := rfl
def binK (P : Program) (op : BinOp) (t : Nat) : Value → Value → Option Value
  | .int k a, .int k' b => if kindEq k' k then cmpK op a b else none
  | .string a, .string b => (match op with | .eql => some (.bool (decide (bytL a = bytL b))) | .neq => some (.bool (decide (bytL a ≠ bytL b))) | _ => none)
  | .bool a, .bool b => if boolT P t then (match op with | .eql => some (.bool (decide (a = b))) | .neq => some (.bool (decide (a ≠ b))) | _ => none) else none
  | .pointer none, .pointer none => if ptrT P t then (match op with | .eql => some (.bool true) | .neq => some (.bool false) | _ => none) else none
  | _, _ => none
theorem binK_ok {op : BinOp} {t : Nat} {u1 u2 v : Value} (h : binK P op t u1 u2 = some v) : BinR P op t u1 u2 v := by
  unfold binK at h
  split at h
  · split at h
    · rename_i hk
      have hk := of_decide_eq_true hk
      subst hk
      exact cmpK_ok h
    · cases h
  · split at h
    · cases h; rw [← bytL_eq, ← bytL_eq]; exact b_eqlS
    · cases h; rw [← bytL_eq, ← bytL_eq]; exact b_neqS
    · cases h
  · split at h
    · rename_i hb
      split at h
      · cases h; exact b_eqlB (boolT_ok hb)
      · cases h; exact b_neqB (boolT_ok hb)
      · cases h
    · cases h
  · split at h
    · rename_i hb
      obtain ⟨e, he⟩ := ptrT_ok hb
      split at h
      · cases h; exact b_eqlNilP he
      · cases h; exact b_neqNilP he
      · cases h
    · cases h
  · cases h

structure VR where
  rt : List (Nat × AV)
  rh : List (Nat × HS)
  av : AV
  wh : List (Nat × HS)

def loadK (P : Program) (s : St) (t : Nat) (x : Operand) : Option VR :=
  match opv s x, wideK P t with
  | some (.tv (.one (.ptr l off))), some none => (match hget s.h l with
    | .live (.box T cs) => (match cs[off]? with
      | some c => some ⟨rtOf [(x, pv l off)], [(l, .live (.box T cs))], sv c, []⟩
      | none => none)
    | _ => none)
  | some (.tv (.one (.ptr l off))), some (some n) => (match hget s.h l with
    | .live (.box T cs) => if Nat.ble (off + n) cs.length then some ⟨rtOf [(x, pv l off)], [(l, .live (.box T cs))], .tv (.agg ((cs.drop off).take n)), []⟩ else none
    | _ => none)
  | some (.tv (.one (.ep tag n el))), some none => if Nat.ble 1 n then some ⟨rtOf [(x, sv (.ep tag n el))], [], sv (.d (el 0)), []⟩ else none
  | some (.tv (.one (.ep tag n el))), some (some m) => if Nat.ble m n then some ⟨rtOf [(x, sv (.ep tag n el))], [], .tv (.agg (dvs m el)), []⟩ else none
  | _, _ => none

def lenK (P : Program) (s : St) (t : Nat) (x : Operand) : Option VR :=
  match opv s x, P.underlying t with
  | some (.tv (.one (.d (.sl tag nn sz n el)))), some (.slice _) => some ⟨rtOf [(x, sv (.d (.sl tag nn sz n el)))], [], dv (.int .i64 n), []⟩
  | some (.tv (.one (.own l sz off n))), some (.slice _) => some ⟨rtOf [(x, sv (.own l sz off n))], [], dv (.int .i64 n), []⟩
  | some (.tv (.one (.d (.val (.slice ao n cap))))), some (.slice _) => some ⟨rtOf [(x, dv (.slice ao n cap))], [], dv (.int .i64 n), []⟩
  | some (.tv (.one (.d (.val (.string b))))), some .string => some ⟨rtOf [(x, dv (.string b))], [], dv (.int .i64 ((bytL b).length : Nat)), []⟩
  | _, _ => none

def sval (P : Program) (s : St) : Op → Option VR
  | .move x => (match opv s x with | some av => some ⟨rtOf [(x, av)], [], av, []⟩ | none => none)
  | .assign x => (match opv s x with | some av => some ⟨rtOf [(x, av)], [], av, []⟩ | none => none)
  | .nilCheck x => (match opv s x with
    | some (.tv (.one (.d (.val (.func (.func f) fs cs))))) => some ⟨rtOf [(x, dv (.func (.func f) fs cs))], [], dv (.func (.func f) fs cs), []⟩
    | some av => if isPtr av then some ⟨rtOf [(x, av)], [], av, []⟩ else none
    | none => none)
  | .extract x i => (match opv s x with
    | some (.tup l) => (match l[i]? with | some tv => some ⟨rtOf [(x, AV.tup l)], [], .tv tv, []⟩ | none => none)
    | _ => none)
  | .fieldAddr t x f => (match opv s x, fieldK P t f with
    | some (.tv (.one (.ptr l off))), some (k, _) => some ⟨rtOf [(x, pv l off)], [], pv l (off + k), []⟩
    | some (.tv (.one (.ep tag n el))), some (k, m) => if Nat.ble (k + m) n then some ⟨rtOf [(x, sv (.ep tag n el))], [], sv (.ep tag m (fun j => el (k + j))), []⟩ else none
    | _, _ => none)
  | .load t x => loadK P s t x
  | .alloc t => (match zeroK P t with
    | some zs => some ⟨[], [(newL s.h, .free)], pv (newL s.h) 0, [(newL s.h, .live (.box t (zs.map fun v => .d (.val v))))]⟩
    | none => none)
  | .box t x => (match opv s x with
    | some (.tv v) => if oneOk v then some ⟨rtOf [(x, .tv v)], [(newL s.h, .free)], pv (newL s.h) 0, [(newL s.h, .live (.box t (tvCells v)))]⟩ else none
    | _ => none)
  | .build t xs => (match P.underlying t, zeroK P t with
    | some (.struct fs), some zs => (match placesK P fs.toList with
      | some pl => (match partsK s pl zs.length xs.toList with
        | some ps => some ⟨rtOf (partsOps ps), [], .tv (.agg (fillS (zs.map fun v => .d (.val v)) (partsFill ps))), []⟩
        | none => none)
      | none => none)
    | _, _ => none)
  | .binOp op t x y _ => (match opv s x, opv s y with
    | some (.tv (.one (.d (.val u1)))), some (.tv (.one (.d (.val u2)))) => (match binK P op t u1 u2 with
      | some v => some ⟨rtOf [(x, dv u1), (y, dv u2)], [], dv v, []⟩
      | none => none)
    | some av, some (.tv (.one (.d (.val (.pointer none))))) => if isPtr av && ptrT P t then (match op with
        | .eql => some ⟨rtOf [(x, av), (y, dv (.pointer none))], [], dv (.bool false), []⟩
        | .neq => some ⟨rtOf [(x, av), (y, dv (.pointer none))], [], dv (.bool true), []⟩
        | _ => none) else none
    | _, _ => none)
  | .unOp .not _ x => (match opv s x with
    | some (.tv (.one (.d (.val (.bool b))))) => some ⟨rtOf [(x, dv (.bool b))], [], dv (.bool (!b)), []⟩
    | _ => none)
  | .call c => (match c.callee, c.args.toList, c.argTypes.toList with
    | .builtin .len, [x], [t] => lenK P s t x
    | _, _, _ => none)
  | _ => none

theorem load_ok {s : St} {t : Nat} {x : Operand} {r : VR} {d : Nat} {ty : TypeId} {pos : String} {af : Array Edge} {gd : Option (Nat × Bool)} (h : loadK P s t x = some r) (hN : d < bs.N) :
    ORule P bs ⟨some d, .load t x, ty, pos, af, gd⟩ ⟨r.rt, r.rh, [(d, r.av)], r.wh⟩ ∧ satT r.rt s.t ∧ satH r.rh s.h := by
  unfold loadK at h
  split at h
  · rename_i l off h1 h2
    split at h
    · rename_i T cs h3
      split at h
      · rename_i c h4
        cases h
        exact ⟨r_loadB (wideK_ok h2) h4 hN (opv_ok h1).1, (opv_ok h1).2, h3, trivial⟩
      · cases h
    · cases h
  · rename_i l off n h1 h2
    split at h
    · rename_i T cs h3
      split at h
      · rename_i hb
        cases h
        exact ⟨r_loadBs (wideK_ok h2) rfl (Nat.le_of_ble_eq_true hb) hN (opv_ok h1).1, (opv_ok h1).2, h3, trivial⟩
      · cases h
    · cases h
  · rename_i tag n el h1 h2
    split at h
    · rename_i hb
      cases h
      exact ⟨r_loadE (wideK_ok h2) (Nat.le_of_ble_eq_true hb) rfl hN (opv_ok h1).1, (opv_ok h1).2, trivial⟩
    · cases h
  · rename_i tag n el m h1 h2
    split at h
    · rename_i hb
      cases h
      exact ⟨r_loadEs (wideK_ok h2) (Nat.le_of_ble_eq_true hb) rfl hN (opv_ok h1).1, (opv_ok h1).2, trivial⟩
    · cases h
  · cases h

theorem len_ok {s : St} {t : Nat} {x : Operand} {r : VR} {d : Nat} {ty : TypeId} {pos : String} {af : Array Edge} {gd : Option (Nat × Bool)} (h : lenK P s t x = some r) (hN : d < bs.N) :
    ORule P bs ⟨some d, .call { callee := .builtin .len, args := #[x], argTypes := #[t] }, ty, pos, af, gd⟩ ⟨r.rt, r.rh, [(d, r.av)], r.wh⟩ ∧ satT r.rt s.t ∧ satH r.rh s.h := by
  unfold lenK at h
  split at h
  · rename_i h1 h2
    cases h
    exact ⟨r_lenS h2 hN (opv_ok h1).1, (opv_ok h1).2, trivial⟩
  · rename_i h1 h2
    cases h
    exact ⟨r_lenO h2 hN (opv_ok h1).1, (opv_ok h1).2, trivial⟩
  · rename_i h1 h2
    cases h
    exact ⟨r_lenV h2 hN (opv_ok h1).1, (opv_ok h1).2, trivial⟩
  · rename_i b h1 h2
    cases h
    rw [← bytL_eq] at h1
    exact ⟨q_lenStr (bytL b) h2 hN (opv_ok h1).1, (opv_ok h1).2, trivial⟩
  · cases h

theorem sval_ok {s : St} {op : Op} {r : VR} {d : Nat} {ty : TypeId} {pos : String} {af : Array Edge} {gd : Option (Nat × Bool)} (h : sval P s op = some r) (hN : d < bs.N) :
    ORule P bs ⟨some d, op, ty, pos, af, gd⟩ ⟨r.rt, r.rh, [(d, r.av)], r.wh⟩ ∧ satT r.rt s.t ∧ satH r.rh s.h := by
  unfold sval at h
  split at h
  · split at h
    · rename_i av h1
      cases h
      exact ⟨r_move hN (opv_ok h1).1, (opv_ok h1).2, trivial⟩
    · cases h
  · split at h
    · rename_i av h1
      cases h
      exact ⟨r_assign hN (opv_ok h1).1, (opv_ok h1).2, trivial⟩
    · cases h
  · split at h
    · rename_i h1
      cases h
      exact ⟨r_nilCheckF hN (opv_ok h1).1, (opv_ok h1).2, trivial⟩
    · rename_i av _ h1
      split at h
      · rename_i hp
        cases h
        exact ⟨r_nilCheck hp hN (opv_ok h1).1, (opv_ok h1).2, trivial⟩
      · cases h
    · cases h
  · split at h
    · rename_i l h1
      split at h
      · rename_i tv h2
        cases h
        exact ⟨r_extract h2 hN (opv_ok h1).1, (opv_ok h1).2, trivial⟩
      · cases h
    · cases h
  · split at h
    · rename_i h1 h2
      cases h
      exact ⟨r_fieldAddr (fieldK_ok h2) hN (opv_ok h1).1, (opv_ok h1).2, trivial⟩
    · rename_i h1 h2
      split at h
      · rename_i hb
        cases h
        exact ⟨r_fieldAddrE (fieldK_ok h2) (Nat.le_of_ble_eq_true hb) hN (opv_ok h1).1, (opv_ok h1).2, trivial⟩
      · cases h
    · cases h
  · exact load_ok h hN
  · split at h
    · rename_i zs h1
      cases h
      exact ⟨r_alloc (zeroK_ok h1) hN, trivial, newL_free _, trivial⟩
    · cases h
  · split at h
    · rename_i v h1
      split at h
      · rename_i hb
        cases h
        exact ⟨r_box hb hN (opv_ok h1).1, (opv_ok h1).2, newL_free _, trivial⟩
      · cases h
    · cases h
  · rename_i t xs
    split at h
    · rename_i fs zs h1 h2
      split at h
      · rename_i pl h3
        split at h
        · rename_i ps h4
          cases h
          obtain ⟨p1, p2, p3, p4⟩ := partsK_ok h4
          exact ⟨r_build (zeroK_ok h2) ⟨fs, h1, placesK_ok h3⟩ (by rw [← p1]) p2 rfl hN p3, p4, trivial⟩
        · cases h
      · cases h
    · cases h
  · split at h
    · rename_i u1 u2 h1 h2
      split at h
      · rename_i v h3
        cases h
        exact ⟨r_bin (binK_ok h3) hN (opv2 h1 h2).1, (opv2 h1 h2).2, trivial⟩
      · cases h
    · rename_i av _ h1 h2
      split at h
      · rename_i hb
        simp only [Bool.and_eq_true] at hb
        obtain ⟨e, he⟩ := ptrT_ok hb.2
        split at h
        · cases h; exact ⟨r_eqNilP he hb.1 hN (opv2 h1 h2).1, (opv2 h1 h2).2, trivial⟩
        · cases h; exact ⟨r_neNilP he hb.1 hN (opv2 h1 h2).1, (opv2 h1 h2).2, trivial⟩
        · cases h
      · cases h
    · cases h
  · split at h
    · rename_i b h1
      cases h
      exact ⟨r_un u_not hN (opv_ok h1).1, (opv_ok h1).2, trivial⟩
    · cases h
  · rename_i c
    split at h
    · rename_i x t h1 h2 h3
      obtain ⟨ca, ar, at'⟩ := c
      simp only at h1 h2 h3
      subst h1
      have e1 : ar = #[x] := by rw [← Array.toArray_toList (xs := ar), h2]
      have e2 : at' = #[t] := by rw [← Array.toArray_toList (xs := at'), h3]
      subst e1
      subst e2
      exact len_ok h hN
    · cases h
  · cases h

def storeK (P : Program) (s : St) (t : Nat) (x y : Operand) : Option OS :=
  match opv s x, opv s y, sizeK P t with
  | some (.tv (.one (.ptr l off))), some (.tv tv), some n => (match hget s.h l with
    | .live (.box T cs) => if Nat.beq (tvCells tv).length n && Nat.ble (off + n) cs.length && (tvCells tv).all cellS then some ⟨rtOf [(x, pv l off), (y, .tv tv)], [(l, .live (.box T cs))], [], [(l, .live (.box T (putAt cs off (tvCells tv))))]⟩ else none
    | _ => none)
  | _, _, _ => none

def sop (P : Program) (N : Nat) (s : St) (o : Oper) : Option OS :=
  match o.dst with
  | some d => if Nat.ble (d + 1) N then (match sval P s o.op with | some r => some ⟨r.rt, r.rh, [(d, r.av)], r.wh⟩ | none => none) else none
  | none => (match o.op with | .store t x y => storeK P s t x y | _ => none)
theorem sop_ok {s : St} {o : Oper} {x : OS} (h : sop P bs.N s o = some x) : ORule P bs o x ∧ x.sat s := by
  obtain ⟨dst, op, ty, pos, af, gd⟩ := o
  unfold sop at h
  simp only at h
  split at h
  · rename_i d
    split at h
    · rename_i hb
      split at h
      · rename_i r h1
        cases h
        obtain ⟨a, b, c⟩ := sval_ok (bs := bs) (d := d) (ty := ty) (pos := pos) (af := af) (gd := gd) h1 (lt_of hb)
        exact ⟨a, b, c⟩
      · cases h
    · cases h
  · split at h
    · rename_i t a b
      unfold storeK at h
      split at h
      · rename_i l off tv n h1 h2 h3
        split at h
        · rename_i T cs h4
          split at h
          · rename_i hb
            cases h
            simp only [Bool.and_eq_true] at hb
            obtain ⟨⟨b1, b2⟩, b3⟩ := hb
            have e := opv2 h1 h2
            exact ⟨r_store (sizeK_ok h3) (Nat.eq_of_beq_eq_true b1) (Nat.le_of_ble_eq_true b2) b3 rfl e.1, e.2, h4, trivial⟩
          · cases h
        · cases h
      · cases h
    · cases h

/-! ### A region, hard operations told -/

/-- What is told of an operation: its step; that its guard lets it in (the truth and what is wanted), or not, or was not reached; which way a choice goes. -/
inductive HD where
  | r (x : OS)
  | y (b w : Bool)
  | n (b w : Bool)
  | u
  | p (b w : Bool)
def HOk (P : Program) (ops : Array Oper) (bs : Base) (i : Nat) : HD → Prop
  | .r x => OStep P ops bs i x
  | .y b w => b = w
  | .n b w => b = !w
  | .u => True
  | .p b w => b = w
structure HX (P : Program) (ops : Array Oper) (bs : Base) where
  i : Nat
  d : HD
  ok : HOk P ops bs i d
variable {ops : Array Oper}
def hR (i : Nat) {x : OS} {o : Oper} (ho : nthO ops.toList i = some o) (hg : o.guard = none) (h : ORule P bs o x) : HX P ops bs := ⟨i, .r x, .of (nthO_get ho) hg h⟩
def hS (i : Nat) {x : OS} (h : OStep P ops bs i x) : HX P ops bs := ⟨i, .r x, h⟩
def hY (i : Nat) {b w : Bool} (h : b = w) : HX P ops bs := ⟨i, .y b w, h⟩
def hN (i : Nat) {b : Bool} (w : Bool) (h : b = !w) : HX P ops bs := ⟨i, .n b w, h⟩
def hU (i : Nat) : HX P ops bs := ⟨i, .u, trivial⟩
def hP (i : Nat) {b w : Bool} (h : b = w) : HX P ops bs := ⟨i, .p b w, h⟩

def bEq : Bool → Bool → Bool
  | true, b => b
  | false, b => !b
theorem bEq_ok {a b : Bool} (h : bEq a b = true) : a = b := by cases a <;> cases b <;> simp_all [bEq]
/-- The temporary of the operation that a guard asks. -/
def gdst (l : List Oper) (N j : Nat) : Option Nat := match nthO l j with
  | some o => (match o.dst with
    | some d => if Nat.ble (d + 1) N then some d else none
    | none => none)
  | none => none
def stp (P : Program) (l : List Oper) (N : Nat) (s : St) (o : Oper) : Option HD → Option OS
  | none => (match o.guard with | none => sop P N s o | some _ => none)
  | some (.r x) => some x
  | some (.y b w) => (match o.guard with
    | some (j, want) => (match gdst l N j, sop P N s o with
      | some d, some x => if bEq w want then some ⟨(d, dv (.bool b)) :: x.rt, x.rh, x.wt, x.wh⟩ else none
      | _, _ => none)
    | none => none)
  | some (.n b w) => (match o.guard with
    | some (j, want) => (match gdst l N j with
      | some d => if bEq w want then (match o.dst with
        | some e => if Nat.ble (e + 1) N then some ⟨[(d, dv (.bool b))], [], [(e, dv undef)], []⟩ else none
        | none => some ⟨[(d, dv (.bool b))], [], [], []⟩) else none
      | none => none)
    | none => none)
  | some .u => (match o.guard with
    | some (j, want) => (match gdst l N j with
      | some d => (match o.dst with
        | some e => if Nat.ble (e + 1) N then some ⟨[(d, dv undef)], [], [(e, dv undef)], []⟩ else none
        | none => some ⟨[(d, dv undef)], [], [], []⟩)
      | none => none)
    | none => none)
  | some (.p b w) => (match o.guard, o.dst, o.op with
    | none, some d, .pick c x y => if Nat.ble (d + 1) N then (match opv s c, w, opv s x, opv s y with
      | some (.tv (.one (.d (.val (.bool _))))), true, some av, _ => some ⟨rtOf [(c, dv (.bool b)), (x, av)], [], [(d, av)], []⟩
      | some (.tv (.one (.d (.val (.bool _))))), false, _, some av => some ⟨rtOf [(c, dv (.bool b)), (y, av)], [], [(d, av)], []⟩
      | _, _, _, _ => none) else none
    | _, _, _ => none)

abbrev RW := List AV × List HS
def lhsK (N : Nat) (l : List Oper) (s : St) (o : Oper) : Option HD → RW
  | some (.r x) => (readT x.rt s.t, readH x.rh s.h)
  | some (.y _ _) => (match o.guard with | some (j, _) => (match gdst l N j with | some d => ([tget s.t d], []) | none => ([], [])) | none => ([], []))
  | some (.n _ _) => (match o.guard with | some (j, _) => (match gdst l N j with | some d => ([tget s.t d], []) | none => ([], [])) | none => ([], []))
  | some .u => (match o.guard with | some (j, _) => (match gdst l N j with | some d => ([tget s.t d], []) | none => ([], [])) | none => ([], []))
  | some (.p _ _) => (match o.op with | .pick c _ _ => (match opv s c with | some av => ([av], []) | none => ([], [])) | _ => ([], []))
  | none => ([], [])
def rhsK : Option HD → RW
  | some (.r x) => (x.rt.map (·.2), x.rh.map (·.2))
  | some (.y b _) => ([dv (.bool b)], [])
  | some (.n b _) => ([dv (.bool b)], [])
  | some .u => ([dv undef], [])
  | some (.p b _) => ([dv (.bool b)], [])
  | none => ([], [])
def HOk' (P : Program) (ops : Array Oper) (bs : Base) (i : Nat) : Option HD → Prop
  | some h => HOk P ops bs i h
  | none => True
theorem gdst_ok {l : List Oper} {N j d : Nat} (h : gdst l N j = some d) : ∃ o', nthO l j = some o' ∧ o'.dst = some d ∧ d < N := by
  unfold gdst at h
  split at h
  · rename_i o h1
    split at h
    · rename_i e h2
      split at h
      · rename_i hb
        cases h
        exact ⟨o, h1, h2, lt_of hb⟩
      · cases h
    · cases h
  · cases h
theorem pick_T {o : Oper} {d : Nat} {c x y : Operand} {b : Bool} {av : AV} (hd : o.dst = some d) (hop : o.op = .pick c x y) (hN : d < bs.N) (hc : cOk [(c, dv (.bool b)), (x, av)]) (hb : b = true) : ORule P bs o ⟨rtOf [(c, dv (.bool b)), (x, av)], [], [(d, av)], []⟩ := by
  obtain ⟨dst, op, ty, pos, af, gd⟩ := o
  simp only at hd hop
  subst hd hop
  exact r_pickT hN hc hb
theorem pick_F {o : Oper} {d : Nat} {c x y : Operand} {b : Bool} {av : AV} (hd : o.dst = some d) (hop : o.op = .pick c x y) (hN : d < bs.N) (hc : cOk [(c, dv (.bool b)), (y, av)]) (hb : b = false) : ORule P bs o ⟨rtOf [(c, dv (.bool b)), (y, av)], [], [(d, av)], []⟩ := by
  obtain ⟨dst, op, ty, pos, af, gd⟩ := o
  simp only at hd hop
  subst hd hop
  exact r_pickF hN hc hb
theorem stp_ok {s : St} {o : Oper} {i : Nat} {h : Option HD} {x : OS} (he : stp P ops.toList bs.N s o h = some x) (ho : nthO ops.toList i = some o) (hk : HOk' P ops bs i h) (hr : lhsK bs.N ops.toList s o h = rhsK h) : OStep P ops bs i x ∧ x.sat s := by
  match h, he, hk, hr with
  | none, he, _, _ =>
    simp only [stp] at he
    split at he
    · rename_i hg
      obtain ⟨h1, h2⟩ := sop_ok (bs := bs) he
      exact ⟨.of (nthO_get ho) hg h1, h2⟩
    · cases he
  | some (.r y), he, hk, hr =>
    cases he
    simp only [lhsK, rhsK, Prod.mk.injEq] at hr
    exact ⟨hk, satT_read hr.1, satH_read hr.2⟩
  | some (.y b w), he, hk, hr =>
    simp only [stp] at he
    simp only [lhsK, rhsK] at hr
    split at he
    · rename_i j want hg
      simp only [hg] at hr
      split at he
      · rename_i d y hd hs
        split at he
        · rename_i hw
          cases he
          obtain ⟨o', g1, g2, g3⟩ := gdst_ok hd
          simp only [hd, Prod.mk.injEq, List.cons.injEq, and_true] at hr
          obtain ⟨h1, h2⟩ := sop_ok (bs := bs) hs
          have hk : b = w := hk
          exact ⟨oY ho hg g1 g2 g3 (hk.trans (bEq_ok hw)) h1, ⟨hr, h2.1⟩, h2.2⟩
        · cases he
      · cases he
    · cases he
  | some (.n b w), he, hk, hr =>
    simp only [stp] at he
    simp only [lhsK, rhsK] at hr
    split at he
    · rename_i j want hg
      simp only [hg] at hr
      split at he
      · rename_i d hd
        obtain ⟨o', g1, g2, g3⟩ := gdst_ok hd
        simp only [hd, Prod.mk.injEq, List.cons.injEq, and_true] at hr
        split at he
        · rename_i hw
          have hk : b = !w := hk
          have hw := bEq_ok hw
          subst hw
          split at he
          · rename_i e hde
            split at he
            · rename_i hb
              cases he
              exact ⟨oN ho hg g1 g2 g3 hk hde (lt_of hb), ⟨hr, trivial⟩, trivial⟩
            · cases he
          · rename_i hde
            cases he
            exact ⟨oN' ho hg g1 g2 g3 hk hde, ⟨hr, trivial⟩, trivial⟩
        · cases he
      · cases he
    · cases he
  | some .u, he, _, hr =>
    simp only [stp] at he
    simp only [lhsK, rhsK] at hr
    split at he
    · rename_i j want hg
      simp only [hg] at hr
      split at he
      · rename_i d hd
        obtain ⟨o', g1, g2, g3⟩ := gdst_ok hd
        simp only [hd, Prod.mk.injEq, List.cons.injEq, and_true] at hr
        split at he
        · rename_i e hde
          split at he
          · rename_i hb
            cases he
            exact ⟨oNU ho hg g1 g2 hde (lt_of hb), ⟨hr, trivial⟩, trivial⟩
          · cases he
        · rename_i hde
          cases he
          exact ⟨oNU' ho hg g1 g2 hde, ⟨hr, trivial⟩, trivial⟩
      · cases he
    · cases he
  | some (.p b w), he, hk, hr =>
    simp only [stp] at he
    simp only [lhsK, rhsK] at hr
    split at he
    · rename_i d c y z hg hdst hop
      have hk : b = w := hk
      simp only [hop] at hr
      split at he
      · rename_i hN
        have hN := lt_of hN
        split at he
        · rename_i b0 av0 h1 h2 _
          cases he
          simp only [h1, Prod.mk.injEq, List.cons.injEq, and_true] at hr
          rw [hr] at h1
          have e := opv2 h1 (by assumption)
          exact ⟨.of (nthO_get ho) hg (pick_T hdst hop hN e.1 hk), e.2, trivial⟩
        · rename_i b0 av0 h1 h2 _
          cases he
          simp only [h1, Prod.mk.injEq, List.cons.injEq, and_true] at hr
          rw [hr] at h1
          have e := opv2 h1 (by assumption)
          exact ⟨.of (nthO_get ho) hg (pick_F hdst hop hN e.1 hk), e.2, trivial⟩
        · cases he
      · cases he
    · cases he

structure EX where
  l : List OS
  a : List RW
  b : List RW
  ok : Bool
def exK (P : Program) (ops : Array Oper) (bs : Base) : List Oper → Nat → List (HX P ops bs) → St → EX
  | [], _, _, _ => ⟨[], [], [], true⟩
  | o :: r, i, [], s => (match stp P ops.toList bs.N s o none with
    | some x => ⟨x :: (exK P ops bs r (i + 1) [] (x.app s)).l, (exK P ops bs r (i + 1) [] (x.app s)).a, (exK P ops bs r (i + 1) [] (x.app s)).b, (exK P ops bs r (i + 1) [] (x.app s)).ok⟩
    | none => ⟨[], [], [], false⟩)
  | o :: r, i, h :: hs, s => if Nat.beq h.i i then (match stp P ops.toList bs.N s o (some h.d) with
      | some x => ⟨x :: (exK P ops bs r (i + 1) hs (x.app s)).l, lhsK bs.N ops.toList s o (some h.d) :: (exK P ops bs r (i + 1) hs (x.app s)).a, rhsK (some h.d) :: (exK P ops bs r (i + 1) hs (x.app s)).b, (exK P ops bs r (i + 1) hs (x.app s)).ok⟩
      | none => ⟨[], [], [], false⟩)
    else (match stp P ops.toList bs.N s o none with
      | some x => ⟨x :: (exK P ops bs r (i + 1) (h :: hs) (x.app s)).l, (exK P ops bs r (i + 1) (h :: hs) (x.app s)).a, (exK P ops bs r (i + 1) (h :: hs) (x.app s)).b, (exK P ops bs r (i + 1) (h :: hs) (x.app s)).ok⟩
      | none => ⟨[], [], [], false⟩)
theorem exK_ok : ∀ (r : List Oper) (i : Nat) (hs : List (HX P ops bs)) (s : St), (∀ j o, nthO r j = some o → nthO ops.toList (i + j) = some o) → ops.size = i + r.length → (exK P ops bs r i hs s).ok = true → (exK P ops bs r i hs s).a = (exK P ops bs r i hs s).b →
    OSteps P ops bs i (exK P ops bs r i hs s).l ∧ seqSat s (exK P ops bs r i hs s).l
  | [], i, hs, s, _, hl, _, _ => ⟨hl, trivial⟩
  | o :: r, i, [], s, hn, hl, hok, hab => by
    have ho := hn 0 o rfl
    rw [Nat.add_zero] at ho
    have hn' : ∀ j o', nthO r j = some o' → nthO ops.toList (i + 1 + j) = some o' := fun j o' h => by rw [show i + 1 + j = i + (j + 1) by omega]; exact hn (j + 1) o' h
    unfold exK at hok hab ⊢
    split at hok
    · rename_i x hx
      simp only [hx] at hab ⊢
      obtain ⟨h1, h2⟩ := stp_ok hx ho trivial rfl
      obtain ⟨h3, h4⟩ := exK_ok r (i + 1) [] (x.app s) hn' (by simp only [List.length_cons] at hl; omega) hok hab
      exact ⟨⟨h1, h3⟩, h2, h4⟩
    · cases hok
  | o :: r, i, h :: hs, s, hn, hl, hok, hab => by
    have ho := hn 0 o rfl
    rw [Nat.add_zero] at ho
    have hn' : ∀ j o', nthO r j = some o' → nthO ops.toList (i + 1 + j) = some o' := fun j o' h => by rw [show i + 1 + j = i + (j + 1) by omega]; exact hn (j + 1) o' h
    unfold exK at hok hab ⊢
    by_cases hb : Nat.beq h.i i = true
    · simp only [hb, if_true] at hok hab ⊢
      split at hok
      · rename_i x hx
        simp only [hx, List.cons.injEq] at hab ⊢
        have hi := Nat.eq_of_beq_eq_true hb
        obtain ⟨h1, h2⟩ := stp_ok (i := i) hx ho (show HOk' P ops bs i (some h.d) from hi ▸ h.ok) hab.1
        obtain ⟨h3, h4⟩ := exK_ok r (i + 1) hs (x.app s) hn' (by simp only [List.length_cons] at hl; omega) hok hab.2
        exact ⟨⟨h1, h3⟩, h2, h4⟩
      · cases hok
    · simp only [hb, if_false, Bool.false_eq_true] at hok hab ⊢
      split at hok
      · rename_i x hx
        simp only [hx] at hab ⊢
        obtain ⟨h1, h2⟩ := stp_ok hx ho trivial rfl
        obtain ⟨h3, h4⟩ := exK_ok r (i + 1) (h :: hs) (x.app s) hn' (by simp only [List.length_cons] at hl; omega) hok hab
        exact ⟨⟨h1, h3⟩, h2, h4⟩
      · cases hok
theorem exK_all {hs : List (HX P ops bs)} {s : St} (hok : (exK P ops bs ops.toList 0 hs s).ok = true) (hab : (exK P ops bs ops.toList 0 hs s).a = (exK P ops bs ops.toList 0 hs s).b) :
    OSteps P ops bs 0 (exK P ops bs ops.toList 0 hs s).l ∧ seqSat s (exK P ops bs ops.toList 0 hs s).l :=
  exK_ok ops.toList 0 hs s (fun j o h => by rw [Nat.zero_add]; exact h) (by simp) hok hab

/-- What a region leaves. -/
def aft (P : Program) (ops : Array Oper) (bs : Base) (hs : List (HX P ops bs)) (s : St) : St := appAll s (exK P ops bs ops.toList 0 hs s).l
theorem maskH_nil : ∀ l : List HS, maskH [] l = l := fun _ => rfl
theorem xR {s : St} {id : Nat} {Q : Exit → Act → World → Prop} (hs : List (HX P ops bs)) (hok : (exK P ops bs ops.toList 0 hs s).ok = true) (hab : (exK P ops bs ops.toList 0 hs s).a = (exK P ops bs ops.toList 0 hs s).b) (hQ : Ends bs (aft P ops bs hs s) .normal Q) : T P bs s (.region id ops false) Q := by
  obtain ⟨h1, h2⟩ := exK_all hok hab
  refine T.region (exK P ops bs ops.toList 0 hs s).l ((aft P ops bs hs s).t.map fun _ => true) [] h1 h2 ?_ hQ
  have hm : ∀ t : List AV, maskT (t.map fun _ => true) t = t := fun t => by induction t with
    | nil => rfl
    | cons a r ih => simp only [List.map_cons, maskT, ih]
  unfold aft
  rw [hm, maskH_nil]
theorem xD {s : St} {id : Nat} {Q : Exit → Act → World → Prop} (anc : List (List Nat)) (hs : List (HX P ops bs)) (hm : P.follows .mixedOrders = true) (hanc : ancOk ops anc = true) (hback : backOk ops = true) (hok : (exK P ops bs ops.toList 0 hs s).ok = true) (hab : (exK P ops bs ops.toList 0 hs s).a = (exK P ops bs ops.toList 0 hs s).b)
    (hcl : clashOk (exK P ops bs ops.toList 0 hs s).l anc = true) (hQ : Ends bs (aft P ops bs hs s) .normal Q) : T P bs s (.region id ops true) Q := by
  obtain ⟨h1, h2⟩ := exK_all hok hab
  refine T.draws hm (exK P ops bs ops.toList 0 hs s).l anc ((aft P ops bs hs s).t.map fun _ => true) [] h1 h2 hanc hback hcl ?_ hQ
  have hm : ∀ t : List AV, maskT (t.map fun _ => true) t = t := fun t => by induction t with
    | nil => rfl
    | cons a r ih => simp only [List.map_cons, maskT, ih]
  unfold aft
  rw [hm, maskH_nil]
/-- A state told in other words; what is left out is forgotten. -/
def anyB : AV → Bool
  | .tv (.one (.d .any)) => true
  | _ => false
def dropT : List AV → List AV → List AV
  | a :: m, x :: r => (bif anyB a then .any else x) :: dropT m r
  | _, _ => []
theorem dropT_spec : ∀ (m l : List AV) (k : Nat), tget (dropT m l) k = .any ∨ tget (dropT m l) k = tget l k
  | [], _, _ => .inl (by simp [dropT, tget])
  | _ :: _, [], _ => .inl (by simp [dropT, tget])
  | a :: m, x :: r, 0 => by
    simp only [dropT, tget]
    cases anyB a
    · exact .inr rfl
    · exact .inl rfl
  | a :: m, x :: r, k + 1 => dropT_spec m r k
theorem Gs.norm {s s1 : St} {a : Act} {w : World} (h : (⟨dropT s1.t s.t, s.h⟩ : St) = s1) (hG : Gs bs s a w) : Gs bs s1 a w := by
  rw [← h]
  exact hG.weak (fun k => dropT_spec s1.t s.t k) (fun _ => .inr rfl)
end Go.Proofs.Ytacikihlgpnjhaa.Q
