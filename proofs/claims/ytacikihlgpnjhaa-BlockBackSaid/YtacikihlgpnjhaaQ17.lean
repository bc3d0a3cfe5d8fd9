import Derived.Test.YtacikihlgpnjhaaQ16
import Derived.MapKept
namespace Go.Proofs.Ytacikihlgpnjhaa.Q
open Go Go.RowKit
set_option linter.unusedVariables false
set_option linter.unusedSimpArgs false

/-! ### Maps -/

section
variable {K V : Type} [DecidableEq K]
def mput : List (K × V) → K → V → List (K × V)
  | [], k, v => [(k, v)]
  | e :: r, k, v => if e.1 = k then (k, v) :: r else e :: mput r k v
def mget : List (K × V) → K → V → V
  | [], _, z => z
  | e :: r, k, z => if e.1 = k then e.2 else mget r k z
def mhas : List (K × V) → K → Bool
  | [], _ => false
  | e :: r, k => if e.1 = k then true else mhas r k
def mdel : List (K × V) → K → List (K × V)
  | [], _ => []
  | e :: r, k => if e.1 = k then r else e :: mdel r k

/-- Where a key stands first. -/
def firstAt (l : List (K × V)) (k : K) (j : Nat) : Prop := ∃ e, l[j]? = some e ∧ e.1 = k ∧ ∀ i, i < j → ∀ e', l[i]? = some e' → e'.1 ≠ k

theorem map_none {l : List (K × V)} {k : K} (v : V) (h : ∀ e, e ∈ l → e.1 ≠ k) : mput l k v = l ++ [(k, v)] ∧ mget l k v = v ∧ mhas l k = false ∧ mdel l k = l := by
  induction l with
  | nil => exact ⟨rfl, rfl, rfl, rfl⟩
  | cons e r ih =>
    have h1 := h e (List.mem_cons_self ..)
    obtain ⟨i1, i2, i3, i4⟩ := ih fun x hx => h x (List.mem_cons_of_mem _ hx)
    refine ⟨?_, ?_, ?_, ?_⟩ <;> simp only [mput, mget, mhas, mdel, if_neg h1, i1, i2, i3, i4, List.cons_append]

theorem map_some {l : List (K × V)} {k : K} (v : V) : ∀ {j : Nat} {e : K × V}, l[j]? = some e → e.1 = k → (∀ i, i < j → ∀ e', l[i]? = some e' → e'.1 ≠ k) → mput l k v = l.set j (k, v) ∧ mget l k v = e.2 ∧ mhas l k = true ∧ mdel l k = l.eraseIdx j := by
  induction l with
  | nil => intro j e h; simp at h
  | cons x r ih =>
    intro j e h hk hf
    cases j with
    | zero =>
      simp only [List.getElem?_cons_zero, Option.some.injEq] at h
      subst h
      refine ⟨?_, ?_, ?_, ?_⟩ <;> simp [mput, mget, mhas, mdel, hk]
    | succ j =>
      have h1 : x.1 ≠ k := hf 0 (Nat.succ_pos _) x rfl
      obtain ⟨i1, i2, i3, i4⟩ := ih (j := j) (e := e) (by simpa using h) hk (fun i hi e' he' => hf (i + 1) (by omega) e' (by simpa using he'))
      refine ⟨?_, ?_, ?_, ?_⟩ <;> simp [mput, mget, mhas, mdel, if_neg h1, i1, i2, i3, i4]
end

/-- How keys of a type are found. -/
structure MKey (P : Program) (kt : TypeId) {K : Type} (f : K → Value) : Prop where
  check : ∀ (w : World) (em : Bool) (k : K), (Instr.checkKey em 10000 kt (f k)).run P w = .ok () w
  inj : ∀ a b, f a = f b → a = b
  find : ∀ (w : World) (k : K) (es : List MapEntry), (∀ e, e ∈ es → ∃ k', e.key = f k') →
    ((Instr.findKey kt (f k) es).run P w = .ok none w ∧ ∀ e, e ∈ es → e.key ≠ f k) ∨
    ∃ j e, (Instr.findKey kt (f k) es).run P w = .ok (some (j, e.val)) w ∧ es[j]? = some e ∧ e.key = f k ∧ ∀ i, i < j → ∀ e', es[i]? = some e' → e'.key ≠ f k
  stays : ∀ (w : World) (k : K), (Instr.keyThatStays (f k) (f k)).run P w = .ok (f k) w

theorem findNow_first {d : TypeDesc} {k : Value} (hk : MapKept.IsKey d k) : ∀ (l : List MapEntry) (i : Nat), (∀ x ∈ l, MapKept.IsKey d x.key) →
    (Instr.findNow d k l i = some none ∧ ∀ x ∈ l, x.key ≠ k) ∨ ∃ j e, Instr.findNow d k l i = some (some (i + j, e.val)) ∧ l[j]? = some e ∧ e.key = k ∧ ∀ i', i' < j → ∀ e', l[i']? = some e' → e'.key ≠ k
  | [], _, _ => .inl ⟨rfl, by simp⟩
  | e :: es, i, h => by
    obtain ⟨r, hr, hiff⟩ := MapKept.sameNow_of_keys hk (h e (.head _))
    cases r with
    | true => exact .inr ⟨0, e, by simp [Instr.findNow, hr], rfl, (hiff.1 rfl).symm, fun i' hi' => absurd hi' (Nat.not_lt_zero _)⟩
    | false =>
      have hne : e.key ≠ k := fun q => by have := hiff.2 q.symm; cases this
      rcases findNow_first hk es (i + 1) (fun x hx => h x (.tail _ hx)) with ⟨h1, h2⟩ | ⟨j, e', h1, h2, h3, h4⟩
      · exact .inl ⟨by simp [Instr.findNow, hr, h1], fun x hx => by
          cases hx with
          | head => exact hne
          | tail _ hx => exact h2 x hx⟩
      · refine .inr ⟨j + 1, e', by simp [Instr.findNow, hr, h1]; omega, by simpa using h2, h3, fun i' hi' x hx => ?_⟩
        cases i' with
        | zero => simp only [List.getElem?_cons_zero, Option.some.injEq] at hx; subst hx; exact hne
        | succ i' => exact h4 i' (by omega) x (by simpa using hx)

theorem mkey_plain {P : Program} {kt : TypeId} {d : TypeDesc} {K : Type} {f : K → Value} (hd : P.underlying kt = some d) (hf : ∀ k, MapKept.IsKey d (f k)) (hinj : ∀ a b, f a = f b → a = b) : MKey P kt f where
  check w em k := MapKept.run_checkKey hd (hf k) em 9999
  inj := hinj
  find w k es hes := by
    have hks : ∀ x ∈ es, MapKept.IsKey d x.key := fun x hx => by obtain ⟨k', e⟩ := hes x hx; rw [e]; exact hf k'
    rcases findNow_first (hf k) es 0 hks with ⟨h1, h2⟩ | ⟨j, e0, h1, h2, h3, h4⟩
    · exact .inl ⟨MapKept.run_findKey hd h1, h2⟩
    · exact .inr ⟨j, e0, by simpa using MapKept.run_findKey hd h1, h2, h3, h4⟩
  stays w k := MapKept.run_keyThatStays (hf k)

abbrev fInt (k : IntKind) : Int → Value := fun n => .int k n
theorem mkey_int {P : Program} {kt : TypeId} {k : IntKind} (h : P.underlying kt = some (.int k)) : MKey P kt (fInt k) :=
  mkey_plain h (fun _ => rfl) (fun a b e => by cases e; rfl)
abbrev fStr : List UInt8 → Value := fun s => strV s
theorem mkey_str {P : Program} {kt : TypeId} (h : P.underlying kt = some .string) : MKey P kt fStr :=
  mkey_plain h (fun _ => trivial) (fun a b e => by simpa [strV] using e)

def cellsL {α : Type} (k : Kd α) (x : α) : List DV := (List.range k.sz).map (k.cell x)
def mpK {K V : Type} (f : K → Value) (kd : Kd V) (l : List (K × V)) : HObj := .mp (l.map fun e => (f e.1, cellsL kd e.2))
def mkTV : List DV → TV
  | [c] => .one (.d c)
  | l => .agg (l.map .d)

theorem mp_nt {K V : Type} {f : K → Value} {kd : Kd V} {l : List (K × V)} (h : ∀ x j, noTag (kd.cell x j)) : noTagO (mpK f kd l) := by
  have h1 : ∀ x, allP noTag (cellsL kd x) := fun x => by
    unfold cellsL
    induction List.range kd.sz with
    | nil => exact trivial
    | cons a r ih => exact ⟨h x a, ih⟩
  show allP (fun (e : Value × List DV) => allP noTag e.2) (l.map _)
  induction l with
  | nil => exact trivial
  | cons a r ih => exact ⟨h1 a.2, ih⟩

/-- An operand's value, if it is one of values alone. -/
def isKeyA : AV → Value → Prop
  | .tv (.one (.d (.val u))), v => u = v
  | .tv (.agg l), v => ∃ us : List Value, l = us.map (fun u => .d (.val u)) ∧ v = .agg us.toArray
  | _, _ => False

theorem isKeyA_spec {B : Bk} {S U : Nat → Prop} {w : World} {av : AV} {v u : Value} (h : isKeyA av v) (hv : avOk B S U w av u) : u = v := by
  match av, h with
  | .tv (.one (.d (.val x))), h => exact (show u = x from hv).trans h
  | .tv (.agg l), h =>
    obtain ⟨us, rfl, rfl⟩ := h
    obtain ⟨cs, rfl, h2⟩ := hv
    have : ∀ (us cs : List Value), all2 (svOk B S U w) (us.map fun u => .d (.val u)) cs → cs = us := by
      intro us
      induction us with
      | nil => intro cs h; match cs, h with | [], _ => rfl
      | cons a r ih => intro cs h; match cs, h with | c :: cs, h => rw [ih cs h.2, show c = a from h.1]
    rw [this us cs h2]

section
variable {P : Program} {bs : Base} {K V : Type} {f : K → Value} {kd : Kd V}

theorem r_makeMap (l : Nat) (f : K → Value) (kd : Kd V) {d : Nat} {t ty : TypeId} {pos : String} {af : Array Edge} {gd : Option (Nat × Bool)} (hN : d < bs.N) :
    ORule P bs ⟨some d, .makeMap t none, ty, pos, af, gd⟩ ⟨[], [(l, .free)], [(d, sv (.mref l))], [(l, .live (mpK f kd []))]⟩ :=
  .heap (l := []) rfl hN trivial fun B S U s a w g hh he => by
    have hl := hh.1
    refine ⟨.map (some w.heap.size), w.alloc (.map #[] 0), bset B l (some (w.heap.size, 0)), S, U, ?_, g.alloc hl _ _ 0 ⟨w.heap.size, 0, #[], 0, by simp [bset], heap_alloc_new w _, trivial⟩, w.heap.size, 0, by simp [bset], rfl⟩
    simp [execOp, Instr.makeMap, newObj, Sem.run]

/-- What an object that is a map is in memory. -/
theorem mp_open {B : Bk} {S U : Nat → Prop} {w : World} {l : Nat} {rows : List (K × V)} (h : obOk B S U w l (mpK f kd rows)) : ∃ b κ ents clock, B l = some (some (b, κ)) ∧ w.heap[b]? = some (.map ents clock) ∧ ents.size = rows.length ∧
    all2 (entOk S U w) (rows.map fun e => (f e.1, cellsL kd e.2)) ents.toList ∧ (∀ e, e ∈ ents.toList → ∃ k', e.key = f k') ∧ ∀ (j : Nat) (e : MapEntry), ents.toList[j]? = some e → ∃ x : K × V, rows[j]? = some x ∧ e.key = f x.1 ∧ ((cellsL kd x.2).length = 1 → e.val.cells = #[e.val]) ∧ all2 (dOk S U w) (cellsL kd x.2) e.val.cells.toList := by
  obtain ⟨b, κ, ents, clock, h1, h2, h3⟩ := h
  have hlen : ents.size = rows.length := by have := all2_len h3; simpa using this.symm
  have hget : ∀ (j : Nat) (e : MapEntry), ents.toList[j]? = some e → ∃ x : K × V, rows[j]? = some x ∧ e.key = f x.1 ∧ ((cellsL kd x.2).length = 1 → e.val.cells = #[e.val]) ∧ all2 (dOk S U w) (cellsL kd x.2) e.val.cells.toList := fun j e he => by
    have hj : j < rows.length := by have := (List.getElem?_eq_some_iff.1 he).1; simp at this; omega
    have hr : rows[j]? = some rows[j] := List.getElem?_eq_getElem hj
    have hm : (rows.map fun e => (f e.1, cellsL kd e.2))[j]? = some (f rows[j].1, cellsL kd rows[j].2) := by rw [List.getElem?_map, hr]; rfl
    obtain ⟨e', he', h4⟩ := all2_get h3 hm
    rw [he] at he'
    cases he'
    exact ⟨rows[j], hr, h4.1, h4.2.1, h4.2.2⟩
  refine ⟨b, κ, ents, clock, h1, h2, hlen, h3, fun e he => ?_, hget⟩
  obtain ⟨j, hj, rfl⟩ := List.getElem_of_mem he
  obtain ⟨x, _, hx, _⟩ := hget j _ (List.getElem?_eq_getElem hj)
  exact ⟨x.1, hx⟩

/-- The key's place in memory is its place in the row. -/
theorem mp_find {kt : TypeId} (M : MKey P kt f) {S U : Nat → Prop} {w : World} {rows : List (K × V)} {ents : Array MapEntry} (hlen : ents.size = rows.length) (hall : ∀ e, e ∈ ents.toList → ∃ k', e.key = f k')
    (hget : ∀ (j : Nat) (e : MapEntry), ents.toList[j]? = some e → ∃ x : K × V, rows[j]? = some x ∧ e.key = f x.1 ∧ ((cellsL kd x.2).length = 1 → e.val.cells = #[e.val]) ∧ all2 (dOk S U w) (cellsL kd x.2) e.val.cells.toList) (w' : World) (k : K) :
    ((Instr.findKey kt (f k) ents.toList).run P w' = .ok none w' ∧ ∀ e, e ∈ rows → e.1 ≠ k) ∨
    ∃ j e x, (Instr.findKey kt (f k) ents.toList).run P w' = .ok (some (j, e.val)) w' ∧ ents[j]? = some e ∧ e.key = f k ∧ rows[j]? = some x ∧ x.1 = k ∧ (∀ i, i < j → ∀ e', rows[i]? = some e' → e'.1 ≠ k) ∧ ((cellsL kd x.2).length = 1 → e.val.cells = #[e.val]) ∧ all2 (dOk S U w) (cellsL kd x.2) e.val.cells.toList := by
  have hrow : ∀ (j : Nat) (x : K × V), rows[j]? = some x → ∃ e, ents.toList[j]? = some e ∧ e.key = f x.1 := fun j x hx => by
    have hj : j < ents.toList.length := by have := (List.getElem?_eq_some_iff.1 hx).1; simp; omega
    obtain ⟨x', hx', hk, _⟩ := hget j _ (List.getElem?_eq_getElem hj)
    rw [hx] at hx'
    cases hx'
    exact ⟨_, List.getElem?_eq_getElem hj, hk⟩
  rcases M.find w' k ents.toList hall with ⟨h1, h2⟩ | ⟨j, e, h1, h2, h3, h4⟩
  · left
    refine ⟨h1, fun x hx e => ?_⟩
    obtain ⟨j, hj, rfl⟩ := List.getElem_of_mem hx
    obtain ⟨e', he', hk⟩ := hrow j _ (List.getElem?_eq_getElem hj)
    exact h2 e' (List.mem_of_getElem? he') (by rw [hk, e])
  · right
    obtain ⟨x, hx, hk, hc1, hc2⟩ := hget j e h2
    refine ⟨j, e, x, h1, by simpa using h2, h3, hx, M.inj _ _ (hk.symm.trans h3), fun i hi e' he' e1 => ?_, hc1, hc2⟩
    obtain ⟨e2, he2, hk2⟩ := hrow i _ he'
    exact h4 i hi e2 he2 (by rw [hk2, e1])

/-- A rule of an operation that turns memory and whose value nobody takes. -/
theorem ORule.unitV {o : Oper} {l : List (Operand × AV)} {rh wh : List (Nat × HS)} (hd : o.dst = none) (hc : cOk l)
    (h : ∀ B S U s a w, G bs B S U s a w → satH rh s.h → evs B S U a w l → ∃ v w' B' S' U', (execOp a.eval o).run P w = .ok (.value v) w' ∧ G bs B' S' U' ⟨s.t, hsets s.h wh⟩ a w') :
    ORule P bs o ⟨rtOf l, rh, [], wh⟩ := by
  intro Q K s a w hG hs hK
  obtain ⟨B, S, U, g⟩ := hG
  obtain ⟨v, w', B', S', U', hr, g'⟩ := h B S U s a w g hs.2 (evals g hs.1 hc)
  unfold Oper.wp
  rw [hr, Oper.upon_value, hd]
  exact hK _ _ ⟨B', S', U', g'⟩

theorem all2_erase {α β : Type} {R : α → β → Prop} : ∀ {l : List α} {k : List β} (j : Nat), all2 R l k → all2 R (l.eraseIdx j) (k.eraseIdx j)
  | [], [], _, _ => trivial
  | _ :: _, _ :: _, 0, h => h.2
  | _ :: _, _ :: _, j + 1, h => ⟨h.1, all2_erase j h.2⟩
  | [], _ :: _, _, h => h.elim
  | _ :: _, [], _, h => h.elim

/-- A map's block written anew. -/
theorem G.setMap {B : Bk} {S U : Nat → Prop} {s : St} {a : Act} {w : World} (g : G bs B S U s a w) {l b κ : Nat} {x : HObj} {ents ents' : Array MapEntry} {clock clock' : Nat} {es : List (Value × List DV)} (hl : hget s.h l = .live x) (hb : B l = some (some (b, κ))) (hcur : w.heap[b]? = some (.map ents clock))
    (hnew : ∀ w', Pres (fun b => S b ∨ U b) w w' → all2 (entOk S U w') es ents'.toList) :
    G bs B S U ⟨s.t, hset s.h l (.live (.mp es))⟩ a { w with heap := w.heap.setIfInBounds b (.map ents' clock') } := by
  have hblt : b < w.heap.size := (Array.getElem?_eq_some_iff.1 hcur).1
  have hP : Pres (fun b => S b ∨ U b) w { w with heap := w.heap.setIfInBounds b (.map ents' clock') } := fun c hc' => by
    have hU : U c := hc'.elim (g.su c) id
    have : c ≠ b := fun e => g.sp l _ (b, κ) hl hb (e ▸ hU)
    simp [Array.getElem?_setIfInBounds, Ne.symm this]
  refine g.upd (fun k => k = l) _ (fun k hk => by simp [hget_hset, hk]) (fun _ _ h => h) (fun _ _ => rfl) (fun _ h => h) (fun _ h => h) g.su (fun b hb => by simpa using g.ub b hb) (fun _ h => .inl h) (fun _ h => .inl h)
    (fun k y hk hy => ?_) (fun k k' _ _ _ _ h h' _ _ hne => absurd (h.trans h'.symm) hne) (fun c hc hne => ?_) (fun k hk h => ?_) (fun k y q _ hk hq => g.sp k y q hk hq) (by simp) rfl rfl rfl
  · subst hk
    simp only [hget_hset, if_true] at hy
    cases hy
    exact ⟨⟨b, κ, ents', clock', hb, by simp [hblt], hnew _ hP⟩, fun p hp => ⟨g.sp k _ p hl hp, g.cf k _ p hl hp, fun k' o' q hk' ho hq => g.nj k' k o' _ ho hl hk' q p hq hp⟩⟩
  · have : c ≠ b := hne l _ (b, κ) rfl hl hb
    simp [Array.getElem?_setIfInBounds, Ne.symm this]
  · subst hk; simp [hget_hset] at h

/-- Is a value of one cell no struct? -/
def shapeB : TV → Bool
  | .one s => cellS s
  | .agg l => !(l.length == 1)

theorem all2_d {B : Bk} {S U : Nat → Prop} {w : World} : ∀ {cs : List DV} {vs : List Value}, all2 (svOk B S U w) (cs.map .d) vs → all2 (dOk S U w) cs vs
  | [], [], _ => trivial
  | _ :: _, _ :: _, h => ⟨h.1, all2_d h.2⟩
  | [], _ :: _, h => h.elim
  | _ :: _, [], h => h.elim

theorem ent_mono {S U : Nat → Prop} {w w' : World} (hP : Pres (fun b => S b ∨ U b) w w') (e : Value × List DV) (x : MapEntry) (h : entOk S U w e x) : entOk S U w' e x :=
  ⟨h.1, h.2.1, all2_mono (dOk_mono (fun _ h => h) (fun _ h => h) hP) h.2.2⟩

theorem r_mapUpdate [DecidableEq K] (l : Nat) (rows : List (K × V)) (key : K) (v : V) {m kx x : Operand} {ak : AV} {tv : TV} {t kt et ty : TypeId} {pos : String} {af : Array Edge} {gd : Option (Nat × Bool)}
    (ht : P.underlying t = some (.map kt et)) (M : MKey P kt f) (hka : isKeyA ak (f key)) (hsh : shapeB tv = true) (hw : all2 wkS (tvCells tv) ((cellsL kd v).map .d)) (hc : cOk [(m, sv (.mref l)), (kx, ak), (x, .tv tv)]) :
    ORule P bs ⟨none, .mapUpdate t m kx x, ty, pos, af, gd⟩ ⟨rtOf [(m, sv (.mref l)), (kx, ak), (x, .tv tv)], [(l, .live (mpK f kd rows))], [], [(l, .live (mpK f kd (mput rows key v)))]⟩ :=
  .unit rfl hc fun B S U s a w g hh he => by
    obtain ⟨b, κ, hb, h1⟩ := he.1
    have h2 : a.eval kx = f key := isKeyA_spec hka he.2.1
    obtain ⟨b', κ', ents, clock, hb', hcur, hlen, hall2, hall, hget⟩ := mp_open (g.ob l _ hh.1)
    rw [hb] at hb'
    cases hb'
    have hcells : all2 (dOk S U w) (cellsL kd v) (a.eval x).cells.toList := all2_d (all2_wk hw (tv_cells he.2.2.1 (fun s e => by subst e; exact hsh)))
    have hone : (cellsL kd v).length = 1 → (a.eval x).cells = #[a.eval x] := fun h => by
      cases tv with
      | one s => exact cells_of_cellV (cellS_spec hsh he.2.2.1)
      | agg q =>
        exfalso
        have e1 : q.length = ((cellsL kd v).map SV.d).length := by have := all2_len hw; simpa [tvCells] using this
        rw [List.length_map, h] at e1
        simp [shapeB, e1] at hsh
    rcases mp_find M hlen hall hget w key with ⟨f1, f2⟩ | ⟨j, e, x0, f1, f2, f3, f4, f5, f6, _, _⟩
    · refine ⟨{ w with heap := w.heap.setIfInBounds b (.map (ents.push { key := f key, val := a.eval x, born := clock }) (clock + 1)) }, B, S, U, ?_, ?_⟩
      · simp [execOp, h1, h2, Instr.mapUpdate, run_underlying ht, MapKept.run_getObj_map hcur, M.check w false key, f1, MapKept.run_setObj_map _ hcur, Result.andThen]
      · refine G.setMap g hh.1 hb hcur fun w' hP => ?_
        rw [(map_none v f2).1, List.map_append, Array.toList_push]
        exact all2_append (all2_mono (ent_mono hP) hall2) ⟨ent_mono hP _ _ ⟨rfl, hone, hcells⟩, trivial⟩
    · refine ⟨{ w with heap := w.heap.setIfInBounds b (.map (ents.modify j fun e => { e with key := f key, val := a.eval x }) clock) }, B, S, U, ?_, ?_⟩
      · simp [execOp, h1, h2, Instr.mapUpdate, run_underlying ht, MapKept.run_getObj_map hcur, M.check w false key, f1, f2, f3, M.stays w key, MapKept.run_setObj_map _ hcur, Result.andThen]
      · refine G.setMap g hh.1 hb hcur fun w' hP => ?_
        rw [(map_some v f4 f5 f6).1, List.map_set]
        refine all2_of_get ?_ fun i p q hp hq => ?_
        · have := all2_len hall2; simpa using this
        · rw [List.getElem?_set] at hp
          simp only [Array.getElem?_toList, Array.getElem?_modify] at hq
          by_cases hij : j = i
          · subst hij
            rw [if_pos rfl, f2] at hq
            simp only [Option.map_some, Option.some.injEq] at hq
            subst hq
            rw [if_pos rfl] at hp
            split at hp
            · cases hp
              exact ent_mono hP _ _ ⟨rfl, hone, hcells⟩
            · cases hp
          · rw [if_neg hij] at hp hq
            obtain ⟨q', hq', hr⟩ := all2_get hall2 hp
            rw [Array.getElem?_toList, hq] at hq'
            cases hq'
            exact ent_mono hP _ _ hr

/-- A zero value of a map's elements. -/
def ZeroM (P : Program) (T : TypeId) (zs : List Value) : Prop := ∃ i z, P.info? T = some i ∧ i.zero = some z ∧ z.cells.toList = zs ∧ (zs.length = 1 → z.cells = #[z])

theorem mkTV_ok {B : Bk} {S U : Nat → Prop} {w : World} {cs : List DV} {v : Value} (h : all2 (dOk S U w) cs v.cells.toList) (h1 : cs.length = 1 → v.cells = #[v]) : tvOk B S U w (mkTV cs) v := by
  have ag : ∀ {v : Value}, v.cells.toList.length ≠ 1 → ∃ c, v = .agg c := fun {v} h => by cases v <;> first | exact ⟨_, rfl⟩ | simp [Value.cells] at h
  have hd : ∀ {cs : List DV} {vs : List Value}, all2 (dOk S U w) cs vs → all2 (svOk B S U w) (cs.map .d) vs := by
    intro cs
    induction cs with
    | nil => intro vs h; match vs, h with | [], _ => exact trivial
    | cons c r ih => intro vs h; match vs, h with | u :: vs, h => exact ⟨h.1, ih h.2⟩
  have hlen := all2_len h
  match cs, h, h1, hlen with
  | [c], h, h1, _ =>
    rw [h1 rfl] at h
    exact h.1
  | [], h, _, hlen =>
    obtain ⟨c, rfl⟩ := ag (v := v) (by rw [← hlen]; simp)
    exact ⟨c.toList, by simp, hd h⟩
  | c1 :: c2 :: r, h, _, hlen =>
    obtain ⟨c, rfl⟩ := ag (v := v) (by rw [← hlen]; simp)
    exact ⟨c.toList, by simp, hd h⟩

theorem look_run [DecidableEq K] {l : Nat} {rows : List (K × V)} {key : K} {m kx : Operand} {ak : AV} {t kt et : TypeId} {zs : List Value}
    (ht : P.underlying t = some (.map kt et)) (M : MKey P kt f) (hka : isKeyA ak (f key)) (hz : ZeroM P et zs) (hzw : all2 wkS (zs.map fun u => .d (.val u)) ((cellsL kd kd.z).map .d)) {B : Bk} {S U : Nat → Prop} {s : St} {a : Act} {w : World} (g : G bs B S U s a w) (hh : hget s.h l = .live (mpK f kd rows))
    (he : evs B S U a w [(m, sv (.mref l)), (kx, ak)]) :
    ∃ v, (∀ c, (Instr.lookup t (a.eval m) (a.eval kx) c).run P w = .ok (if c then .tuple #[v, .bool (mhas rows key)] else v) w) ∧ tvOk B S U w (mkTV (cellsL kd (mget rows key kd.z))) v := by
  obtain ⟨b, κ, hb, h1⟩ := he.1
  have h2 : a.eval kx = f key := isKeyA_spec hka he.2.1
  obtain ⟨b', κ', ents, clock, hb', hcur, hlen, hall2, hall, hget⟩ := mp_open (g.ob l _ hh)
  rw [hb] at hb'
  cases hb'
  rcases mp_find M hlen hall hget w key with ⟨f1, f2⟩ | ⟨j, e, x0, f1, f2, f3, f4, f5, f6, f7, f8⟩
  · obtain ⟨i, z, z1, z2, z3, z4⟩ := hz
    obtain ⟨_, m2, m3, _⟩ := map_none kd.z f2
    refine ⟨z, fun c => ?_, ?_⟩
    · rw [m3]
      cases c <;> simp [h1, h2, Instr.lookup, run_underlying ht, MapKept.run_getObj_map hcur, M.check w _ key, f1, run_zeroValue z1 z2, Result.andThen]
    · rw [m2]
      have hv : all2 (svOk B S U w) (zs.map fun u => .d (.val u)) z.cells.toList := by
        rw [z3, all2_map]
        refine all2_of_get rfl fun i a b hi hj => ?_
        rw [hi] at hj
        cases hj
        exact rfl
      have hd := all2_d (all2_wk hzw hv)
      exact mkTV_ok hd fun h => z4 (by have := all2_len hd; rw [z3] at this; omega)
  · obtain ⟨_, m2, m3, _⟩ := map_some kd.z f4 f5 f6
    refine ⟨e.val, fun c => ?_, ?_⟩
    · rw [m3]
      cases c <;> simp [h1, h2, Instr.lookup, run_underlying ht, MapKept.run_getObj_map hcur, M.check w _ key, f1, Result.andThen]
    · rw [m2]
      exact mkTV_ok f8 f7

theorem r_lookup [DecidableEq K] (l : Nat) (rows : List (K × V)) (key : K) (tv : TV) {d : Nat} {m kx : Operand} {ak : AV} {t kt et ty : TypeId} {zs : List Value} {pos : String} {af : Array Edge} {gd : Option (Nat × Bool)}
    (ht : P.underlying t = some (.map kt et)) (M : MKey P kt f) (hka : isKeyA ak (f key)) (hz : ZeroM P et zs) (hzw : all2 wkS (zs.map fun u => .d (.val u)) ((cellsL kd kd.z).map .d)) (htv : mkTV (cellsL kd (mget rows key kd.z)) = tv) (hN : d < bs.N) (hc : cOk [(m, sv (.mref l)), (kx, ak)]) :
    ORule P bs ⟨some d, .lookup t m kx false, ty, pos, af, gd⟩ ⟨rtOf [(m, sv (.mref l)), (kx, ak)], [(l, .live (mpK f kd rows))], [(d, .tv tv)], []⟩ :=
  .val rfl hN hc fun B S U s a w g hh he => by
    obtain ⟨v, h1, h2⟩ := look_run ht M hka hz hzw g hh.1 he
    exact ⟨v, by have h3 := h1 false; simp only [Bool.false_eq_true, if_false] at h3; simp [execOp, h3, Result.andThen], htv ▸ h2⟩

theorem r_lookup2 [DecidableEq K] (l : Nat) (rows : List (K × V)) (key : K) (tv : TV) {d : Nat} {m kx : Operand} {ak : AV} {t kt et ty : TypeId} {zs : List Value} {pos : String} {af : Array Edge} {gd : Option (Nat × Bool)}
    (ht : P.underlying t = some (.map kt et)) (M : MKey P kt f) (hka : isKeyA ak (f key)) (hz : ZeroM P et zs) (hzw : all2 wkS (zs.map fun u => .d (.val u)) ((cellsL kd kd.z).map .d)) (htv : mkTV (cellsL kd (mget rows key kd.z)) = tv) (hN : d < bs.N) (hc : cOk [(m, sv (.mref l)), (kx, ak)]) :
    ORule P bs ⟨some d, .lookup t m kx true, ty, pos, af, gd⟩ ⟨rtOf [(m, sv (.mref l)), (kx, ak)], [(l, .live (mpK f kd rows))], [(d, .tup [tv, .one (.d (.val (.bool (mhas rows key))))])], []⟩ :=
  .val rfl hN hc fun B S U s a w g hh he => by
    obtain ⟨v, h1, h2⟩ := look_run ht M hka hz hzw g hh.1 he
    exact ⟨_, by have h3 := h1 true; simp only [if_true] at h3; simp [execOp, h3, Result.andThen], [v, .bool (mhas rows key)], rfl, htv ▸ h2, rfl, trivial⟩

theorem r_lenM (l : Nat) (rows : List (K × V)) {d : Nat} {m : Operand} {t kt et ty : TypeId} {pos : String} {af : Array Edge} {gd : Option (Nat × Bool)} (ht : P.underlying t = some (.map kt et)) (hN : d < bs.N) (hc : cOk [(m, sv (.mref l))]) :
    ORule P bs ⟨some d, .call { callee := .builtin .len, args := #[m], argTypes := #[t] }, ty, pos, af, gd⟩ ⟨rtOf [(m, sv (.mref l))], [(l, .live (mpK f kd rows))], [(d, dv (.int .i64 (rows.length : Nat)))], []⟩ :=
  .val rfl hN hc fun B S U s a w g hh he => by
    obtain ⟨b, κ, hb, h1⟩ := he.1
    obtain ⟨b', κ', ents, clock, hb', hcur, hlen, hall2, hall, hget⟩ := mp_open (g.ob l _ hh.1)
    rw [hb] at hb'
    cases hb'
    exact ⟨.int .i64 (rows.length : Nat), by simp [execOp, resolve, invoke, builtin, Builtin.len_, h1, run_underlying' ht, MapKept.run_getObj_map hcur, hlen, goInt, Sem.run_bind], rfl⟩

theorem r_delete [DecidableEq K] (l : Nat) (rows : List (K × V)) (key : K) {m kx : Operand} {ak : AV} {t kt et ty : TypeId} {pos : String} {af : Array Edge} {gd : Option (Nat × Bool)}
    (ht : P.underlying t = some (.map kt et)) (M : MKey P kt f) (hka : isKeyA ak (f key)) (hc : cOk [(m, sv (.mref l)), (kx, ak)]) :
    ORule P bs ⟨none, .call { callee := .builtin .delete, args := #[m, kx], argTypes := #[t, kt] }, ty, pos, af, gd⟩ ⟨rtOf [(m, sv (.mref l)), (kx, ak)], [(l, .live (mpK f kd rows))], [], [(l, .live (mpK f kd (mdel rows key)))]⟩ :=
  .unitV rfl hc fun B S U s a w g hh he => by
    obtain ⟨b, κ, hb, h1⟩ := he.1
    have h2 : a.eval kx = f key := isKeyA_spec hka he.2.1
    obtain ⟨b', κ', ents, clock, hb', hcur, hlen, hall2, hall, hget⟩ := mp_open (g.ob l _ hh.1)
    rw [hb] at hb'
    cases hb'
    rcases mp_find M hlen hall hget w key with ⟨f1, f2⟩ | ⟨j, e, x0, f1, f2, f3, f4, f5, f6, _, _⟩
    · refine ⟨.tuple #[], { w with heap := w.heap.setIfInBounds b (.map ents clock) }, B, S, U, ?_, ?_⟩
      · simp [execOp, resolve, invoke, builtin, Builtin.delete_, h1, h2, run_underlying' ht, MapKept.run_getObj_map hcur, M.check w _ key, f1, MapKept.run_setObj_map _ hcur, Sem.run_bind]
      · refine G.setMap g hh.1 hb hcur fun w' hP => ?_
        rw [(map_none kd.z f2).2.2.2]
        exact all2_mono (ent_mono hP) hall2
    · refine ⟨.tuple #[], { w with heap := w.heap.setIfInBounds b (.map (ents.eraseIdxIfInBounds j) clock) }, B, S, U, ?_, ?_⟩
      · simp [execOp, resolve, invoke, builtin, Builtin.delete_, h1, h2, run_underlying' ht, MapKept.run_getObj_map hcur, M.check w _ key, f1, MapKept.run_setObj_map _ hcur, Sem.run_bind]
      · refine G.setMap g hh.1 hb hcur fun w' hP => ?_
        have hj : j < ents.size := (Array.getElem?_eq_some_iff.1 f2).1
        have he' : (ents.eraseIdxIfInBounds j).toList = ents.toList.eraseIdx j := by
          unfold Array.eraseIdxIfInBounds
          rw [dif_pos hj]
          simp
        rw [(map_some kd.z f4 f5 f6).2.2.2, he']
        have hm : (rows.eraseIdx j).map (fun e => (f e.1, cellsL kd e.2)) = (rows.map fun e => (f e.1, cellsL kd e.2)).eraseIdx j := by
          simp only [List.eraseIdx_eq_take_drop_succ, List.map_append, List.map_take, List.map_drop]
        rw [hm]
        exact all2_erase j (all2_mono (ent_mono hP) hall2)
end
end Go.Proofs.Ytacikihlgpnjhaa.Q
