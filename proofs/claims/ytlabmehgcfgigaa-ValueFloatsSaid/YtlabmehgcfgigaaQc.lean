import Derived.Test.YtlabmehgcfgigaaQb
import Derived.Below
import Derived.ChangeOld
import Derived.ChangeArms
import Derived.MapKept
namespace Go.Proofs.Ytlabmehgcfgigaa.Q
open Go Go.RowKit
set_option linter.unusedVariables false
set_option linter.unusedSimpArgs false
variable {P : Program} {bs : Base}
def mvr (l m k : Nat) : Nat := if k = l then m else k
def mvS (l m : Nat) (x y : SV) : Prop := x = y ∨ renS (mvr l m) x = y
def mvA (l m : Nat) (x y : AV) : Prop := x = y ∨
  match x, y with
  | .tv (.one x), .tv (.one y) => mvS l m x y
  | .tv (.agg x), .tv (.agg y) => all2 (mvS l m) x y
  | _, _ => False
def mvO (l m : Nat) (x y : HS) : Prop := x = y ∨
  match x, y with
  | .live (.box T x), .live (.box T' y) => T' = T ∧ all2 (mvS l m) x y
  | _, _ => False
def mvH (l m : Nat) (o : HObj) : Nat → List HS → List HS → Prop
  | _, [], [] => True
  | i, x :: r, y :: r' => ((i = l ∧ y = .dead) ∨ (i = m ∧ y = .live o) ∨ (i ≠ l ∧ i ≠ m ∧ mvO l m x y)) ∧ mvH l m o (i + 1) r r'
  | _, _, _ => False
theorem mvH_get {l m : Nat} {o : HObj} : ∀ {a b : List HS} {i : Nat}, mvH l m o i a b → ∀ k, (k < b.length → ((i + k = l ∧ hget b k = .dead) ∨ (i + k = m ∧ hget b k = .live o) ∨ (i + k ≠ l ∧ i + k ≠ m ∧ mvO l m (hget a k) (hget b k)))) ∧ (b.length ≤ k → hget a k = .free ∧ hget b k = .free)
  | [], [], _, _, k => ⟨fun h => absurd h (Nat.not_lt_zero _), fun _ => ⟨rfl, rfl⟩⟩
  | x :: r, y :: r', i, h, 0 => ⟨fun _ => h.1, fun h => absurd h (by simp)⟩
  | x :: r, y :: r', i, h, k + 1 => by
    have := mvH_get h.2 k
    rw [show i + (k + 1) = i + 1 + k from by omega]
    exact ⟨fun hk => this.1 (by simpa using hk), fun hk => this.2 (by simpa using hk)⟩
  | [], _ :: _, _, h, _ => h.elim
  | _ :: _, [], _, h, _ => h.elim
theorem svOk_ren {B B' : Bk} {S U : Nat → Prop} {w : World} {r : Nat → Nat} (h : ∀ k p, B k = some p → B' (r k) = some p) : ∀ {x : SV} {v : Value}, svOk B S U w x v → svOk B' S U w (renS r x) v
  | .d _, _, hv => hv
  | .ptr l off, v, ⟨b, κ, e, hv⟩ => ⟨b, κ, h _ _ e, hv⟩
  | .own l sz off n, v, hv => by
    rcases hv with ⟨e, hv⟩ | ⟨b, κ, o, cap, e, hv⟩
    · exact .inl ⟨h _ _ e, hv⟩
    · exact .inr ⟨b, κ, o, cap, h _ _ e, hv⟩
  | .ep .., _, hv => hv
  | .mref l, v, ⟨b, κ, e, hv⟩ => ⟨b, κ, h _ _ e, hv⟩
  | .clo f ls, v, hv => by
    obtain ⟨ps, e, h2⟩ := hv
    exact ⟨ps, e, (all2_map r).2 (all2_mono (R := fun (l : Nat) (p : Value) => ∃ b κ, B l = some (some (b, κ)) ∧ p = .pointer (some ⟨b, 0, none⟩)) (fun l p hq => by obtain ⟨b, κ, q, hv⟩ := hq; exact ⟨b, κ, h _ _ q, hv⟩) h2)⟩
  | .cl .., _, hv => hv
theorem all2_rel {B B' : Bk} {S U : Nat → Prop} {w : World} {R : SV → SV → Prop} (f : ∀ x y v, R x y → svOk B S U w x v → svOk B' S U w y v) : ∀ {x y : List SV} {vs : List Value}, all2 R x y → all2 (svOk B S U w) x vs → all2 (svOk B' S U w) y vs
  | [], [], [], _, _ => trivial
  | x :: xs, y :: ys, v :: vs, h, h' => ⟨f _ _ _ h.1 h'.1, all2_rel f h.2 h'.2⟩
  | [], [], _ :: _, _, h => h.elim
  | _ :: _, _ :: _, [], _, h => h.elim
  | [], _ :: _, _, h, _ => h.elim
  | _ :: _, [], _, h, _ => h.elim
theorem Gs.move {s s' : St} {a : Act} {w : World} (l m : Nat) {o : HObj} (hl : hget s.h l = .live o) (hm : hget s.h m = .free) (hs' : hget s'.h m = .live o) (ht : all2 (mvA l m) s.t s'.t) (hh : mvH l m o 0 (s.h ++ [.free]) s'.h) (hG : Gs bs s a w) : Gs bs s' a w := by
  obtain ⟨B, S, U, g⟩ := hG
  have happ : ∀ k, hget (s.h ++ [.free]) k = hget s.h k := by
    intro k
    generalize s.h = h
    induction h generalizing k with
    | nil => cases k with
      | zero => rfl
      | succ k => rfl
    | cons x r ih => cases k with
      | zero => rfl
      | succ k => exact ih k
  have hlm : l ≠ m := fun e => by rw [e, hm] at hl; cases hl
  have hBm := g.fr m hm
  have hBl : ∃ q, B l = some q := by
    match o, g.ob l _ hl with
    | .box .., ⟨b, κ, cur, h, _⟩ => exact ⟨_, h⟩
    | .arr .., .inl ⟨h, _⟩ => exact ⟨_, h⟩
    | .arr .., .inr ⟨b, κ, cur, h, _⟩ => exact ⟨_, h⟩
    | .mp .., ⟨b, κ, e, c, h, _⟩ => exact ⟨_, h⟩
  obtain ⟨q, hq⟩ := hBl
  have hB : ∀ k p, B k = some p → bset B m q k = some p := fun k p hp => by
    unfold bset
    split
    · rename_i h; subst h; rw [hBm] at hp; cases hp
    · exact hp
  have hBr : ∀ k p, B k = some p → bset B m q (mvr l m k) = some p := fun k p hp => by
    unfold mvr
    split
    · rename_i h; subst h; rw [hq] at hp; simp [bset, hp]
    · exact hB k p hp
  have mono := avOk_mono (B := B) (B' := bset B m q) (S := S) (S' := S) (U := U) (U' := U) (w := w) (w' := w) hB (fun _ h => h) (fun _ h => h) (Pres.refl _ _)
  have monoS := svOk_mono (B := B) (B' := bset B m q) (S := S) (S' := S) (U := U) (U' := U) (w := w) (w' := w) hB (fun _ h => h) (fun _ h => h) (Pres.refl _ _)
  have hsv : ∀ x y v, mvS l m x y → svOk B S U w x v → svOk (bset B m q) S U w y v := fun x y v h hv => by
    rcases h with rfl | rfl
    · exact monoS _ _ hv
    · exact svOk_ren hBr hv
  have hk := fun k => mvH_get hh k
  simp only [Nat.zero_add] at hk
  have hlv : ∀ k o', hget s'.h k = .live o' → ∃ k0 o0, hget s.h k0 = .live o0 ∧ (∀ p, bset B m q k = some p → B k0 = some p) ∧ k0 = (if k = m then l else k) ∧ k ≠ l ∧ obOk (bset B m q) S U w k o' := by
    intro k o' e
    rcases Nat.lt_or_ge k s'.h.length with hlt | hge
    · rcases (hk k).1 hlt with ⟨_, h⟩ | ⟨h1, h2⟩ | ⟨h1, h2, h3⟩
      · rw [e] at h; cases h
      · subst h1
        have h2' : o' = o := by rw [e] at h2; cases h2; rfl
        rw [h2']
        refine ⟨l, o, hl, fun p hp => ?_, by simp, Ne.symm hlm, ?_⟩
        · simp [bset] at hp; rw [hq, hp]
        · have hob := g.ob l _ hl
          match o, hob with
          | .box T cs, ⟨b, κ, cur, h1, h2, h3⟩ =>
            rw [hq] at h1; cases h1
            exact ⟨b, κ, cur, by simp [bset], h2, all2_mono (fun a v h => monoS a v h) h3⟩
          | .arr T sz n el, .inl ⟨h1, h2⟩ =>
            rw [hq] at h1; cases h1
            exact .inl ⟨by simp [bset], h2⟩
          | .arr T sz n el, .inr ⟨b, κ, cur, h1, h2⟩ =>
            rw [hq] at h1; cases h1
            exact .inr ⟨b, κ, cur, by simp [bset], h2⟩
          | .mp es, ⟨b, κ, en, cl, h1, h2⟩ =>
            rw [hq] at h1; cases h1
            exact ⟨b, κ, en, cl, by simp [bset], h2⟩
      · have hkm : ∀ p, bset B m q k = some p → B k = some p := fun p hp => by simpa [bset, if_neg h2] using hp
        rw [happ] at h3
        rcases h3 with h | h
        · exact ⟨k, o', by rw [h]; exact e, hkm, (if_neg h2).symm, h1, obOk_mono hB (fun _ h => h) (fun _ h => h) (Pres.refl _ _) (fun _ _ => rfl) (g.ob k o' (by rw [h]; exact e))⟩
        · rw [e] at h
          match hs : hget s.h k, o', h with
          | .live (.box T x), .box T' y, h =>
            obtain ⟨rfl, h⟩ := h
            obtain ⟨b, κ, cur, e1, e2, e3⟩ := g.ob k _ hs
            exact ⟨k, _, hs, hkm, (if_neg h2).symm, h1, b, κ, cur, hB _ _ e1, e2, all2_rel hsv h e3⟩
    · rw [((hk k).2 hge).2] at e; cases e
  refine ⟨bset B m q, S, U, { df := g.df, sz := g.sz, tm := fun k => ?_, ob := fun k o' e => ?_, nj := fun k1 k2 o1 o2 e1 e2 hne p p' hp hp' => ?_, sp := fun k o' p e hp => ?_, cf := fun k o' p e hp => ?_, fr := fun k e => ?_, su := g.su, ub := g.ub, s0 := g.s0, u0 := g.u0, sn := g.sn, un := g.un, ps := g.ps, hs := g.hs, os := g.os, tp := g.tp, op := g.op, bl := fun k' p e => hB k' p (g.bl k' p e), bk := g.bk }⟩
  · have h := g.tm k
    rcases tget_all2 (R := mvA l m) (.inl rfl) ht k with e | e
    · rw [← e]; exact mono _ _ h
    · match hx : tget s.t k, hy : tget s'.t k with
      | .tv (.one x), .tv (.one y) => rw [hx, hy] at e; rw [hx] at h; exact hsv x y _ e h
      | .tv (.agg x), .tv (.agg y) => rw [hx, hy] at e; rw [hx] at h; obtain ⟨cs, h1, h2⟩ := h; exact ⟨cs, h1, all2_rel hsv e h2⟩
      | .tv (.one x), .tv (.agg y) => rw [hx, hy] at e; exact e.elim
      | .tv (.agg x), .tv (.one y) => rw [hx, hy] at e; exact e.elim
      | .tv (.one x), .tup y => rw [hx, hy] at e; exact e.elim
      | .tv (.agg x), .tup y => rw [hx, hy] at e; exact e.elim
      | .tup x, .tv (.one y) => rw [hx, hy] at e; exact e.elim
      | .tup x, .tv (.agg y) => rw [hx, hy] at e; exact e.elim
      | .tup x, .tup y => rw [hx, hy] at e; exact e.elim
  · obtain ⟨_, _, _, _, _, _, h⟩ := hlv k o' e
    exact h
  · obtain ⟨j1, y1, h1, f1, g1, n1, _⟩ := hlv k1 o1 e1
    obtain ⟨j2, y2, h2, f2, g2, n2, _⟩ := hlv k2 o2 e2
    refine g.nj j1 j2 y1 y2 h1 h2 (fun e => hne ?_) p p' (f1 _ hp) (f2 _ hp')
    rw [g1, g2] at e
    split at e <;> split at e
    · rename_i a b; rw [a, b]
    · exact absurd e.symm n2
    · exact absurd e n1
    · exact e
  · obtain ⟨j1, y1, h1, f1, _⟩ := hlv k o' e
    exact g.sp j1 y1 p h1 (f1 _ hp)
  · obtain ⟨j1, y1, h1, f1, _⟩ := hlv k o' e
    exact g.cf j1 y1 p h1 (f1 _ hp)
  · rcases Nat.lt_or_ge k s'.h.length with hlt | hge
    · rcases (hk k).1 hlt with ⟨_, h⟩ | ⟨h1, h2⟩ | ⟨h1, h2, h3⟩
      · rw [e] at h; cases h
      · rw [e] at h2; cases h2
      · simp only [bset, if_neg h2]
        rw [happ] at h3
        rcases h3 with h | h
        · exact g.fr k (by rw [h]; exact e)
        · rw [e] at h
          match hs : hget s.h k, h with
          | .live (.box T x), h => exact h.elim
          | .live (.arr ..), h => exact h.elim
          | .live (.mp ..), h => exact h.elim
          | .free, h => exact h.elim
          | .dead, h => exact h.elim
    · have h := ((hk k).2 hge).1
      rw [happ] at h
      have : k ≠ m := fun e' => by
        subst e'
        rw [e] at hs'; cases hs'
      simp only [bset, if_neg this]
      exact g.fr k h
def pickH (rl : List Nat) (h : List HS) : Nat → List HS → List HS
  | _, [] => []
  | i, .dead :: l => .dead :: pickH rl h (i + 1) l
  | i, _ :: l => hget h (rl.getD i 0) :: pickH rl h (i + 1) l
theorem renS_any {r : Nat → Nat} : ∀ {x : SV}, renS r x = .d .any → x = .d .any
  | .d x, h => h
theorem renA_any {r : Nat → Nat} : ∀ {x : AV}, renA r x = .any → x = .any
  | .tv (.one x), h => by
    have : renS r x = .d .any := by injection h with h; injection h
    rw [renS_any this]
  | .tv (.agg l), h => by injection h with h; cases h
theorem tget_map {r : Nat → Nat} : ∀ (l : List AV) (i : Nat), i < l.length → tget (l.map (renA r)) i = renA r (tget l i)
  | [], _, h => absurd h (Nat.not_lt_zero _)
  | _ :: _, 0, _ => rfl
  | _ :: l, i + 1, h => tget_map l i (by simpa using h)
theorem tget_any : ∀ {l : List AV} {i : Nat}, l.length ≤ i → tget l i = .any
  | [], _, _ => rfl
  | _ :: _, 0, h => absurd h (by simp)
  | _ :: l, i + 1, h => tget_any (l := l) (by simpa using h)
theorem tget_all {p : AV → Bool} : ∀ {l : List AV} {i : Nat}, l.all p = true → i < l.length → p (tget l i) = true
  | [], _, _, h => absurd h (Nat.not_lt_zero _)
  | x :: l, 0, h, _ => by simp only [List.all_cons, Bool.and_eq_true] at h; exact h.1
  | x :: l, i + 1, h, hi => by simp only [List.all_cons, Bool.and_eq_true] at h; exact tget_all (l := l) h.2 (by simpa using hi)
theorem pick_get {r : Nat → Nat} {rl : List Nat} {h : List HS} : ∀ {l : List HS} {i : Nat}, l.map (renH r) = pickH rl h i l → ∀ k o, hget l k = .live o → hget h (rl.getD (i + k) 0) = .live (renO r o)
  | [], _, _, k, o, e => by cases e
  | .live x :: l, i, hh, 0, o, e => by
    cases e
    simp only [List.map_cons, pickH, List.cons.injEq] at hh
    exact hh.1.symm
  | .dead :: l, i, hh, 0, o, e => by cases e
  | .free :: l, i, hh, 0, o, e => by cases e
  | .live x :: l, i, hh, k + 1, o, e => by
    simp only [List.map_cons, pickH, List.cons.injEq] at hh
    rw [show i + (k + 1) = i + 1 + k from by omega]
    exact pick_get hh.2 k o e
  | .dead :: l, i, hh, k + 1, o, e => by
    simp only [List.map_cons, pickH, List.cons.injEq] at hh
    rw [show i + (k + 1) = i + 1 + k from by omega]
    exact pick_get hh.2 k o e
  | .free :: l, i, hh, k + 1, o, e => by
    simp only [List.map_cons, pickH, List.cons.injEq] at hh
    rw [show i + (k + 1) = i + 1 + k from by omega]
    exact pick_get hh.2 k o e
theorem hget_all {m : Nat} : ∀ {l : List HS} {k : Nat} {o : HObj}, l.all (idsH m) = true → hget l k = .live o → idsO m o = true
  | [], _, _, _, e => by cases e
  | x :: l, 0, o, h, e => by
    simp only [List.all_cons, Bool.and_eq_true] at h
    have e : x = .live o := e
    subst e
    exact h.1
  | x :: l, k + 1, o, h, e => by
    simp only [List.all_cons, Bool.and_eq_true] at h
    exact hget_all (l := l) (k := k) h.2 e
theorem Gs.into2 {N k : Nat} {w0 : World} {S0 U0 : Nat → Prop} {B0 : Bk} {s s' : St} {a : Act} {w : World} (rl : List Nat) (m : List Bool) {t1 t2 : List AV} {h1 h2 : List HS} (et : t1 = t2) (eh : h1 = h2) (hrl : Nat.beq s'.h.length rl.length = true) (hk : Nat.ble k rl.length = true) (hfix : fixB k (fun i => rl.getD i 0) = true) (hnd : nodupB rl = true)
    (hnf : noFree s'.h = true) (hidt : s'.t.all (idsA rl.length) = true) (hidh : s'.h.all (idsH rl.length) = true)
    (ht1 : s'.t.map (renA fun i => rl.getD i 0) = t1) (ht2 : maskT m s.t = t2) (hh1 : s'.h.map (renH fun i => rl.getD i 0) = h1) (hh2 : pickH rl s.h 0 s'.h = h2)
    (hG : Gs (mkBase N k w0 S0 U0 B0) s a w) : Gs (mkBase N k w0 S0 U0 B0) s' a w := by
  have hrl' : s'.h.length = rl.length := Nat.eq_of_beq_eq_true hrl
  have hT : s'.t.map (renA fun i => rl.getD i 0) = maskT m s.t := ht1.trans (et.trans ht2.symm)
  have hH : s'.h.map (renH fun i => rl.getD i 0) = pickH rl s.h 0 s'.h := hh1.trans (eh.trans hh2.symm)
  refine hG.ren (fun i => rl.getD i 0) (by rw [hrl']; exact Nat.le_of_ble_eq_true hk) (fun l hl => ?_) (fun l l' h1 h2 e => nodupB_spec hnd l l' (by omega) (by omega) e) (fun l hl => noFree_spec hnf l hl) (fun l hl => hget_ge hl) (fun i => ?_) (fun l o e => ?_)
  · simp only [fixB, List.all_eq_true, List.mem_range] at hfix
    exact Nat.eq_of_beq_eq_true (hfix l hl)
  · rcases Nat.lt_or_ge i s'.t.length with hi | hi
    · have h3 := tget_map (r := fun i => rl.getD i 0) s'.t i hi
      rw [hT] at h3
      rcases maskT_spec m s.t i with h | h
      · rw [h] at h3
        exact .inl (renA_any h3.symm)
      · rw [h] at h3
        exact .inr ⟨by rw [hrl']; exact tget_all hidt hi, h3.symm⟩
    · exact .inl (tget_any hi)
  · have := pick_get hH l o e
    rw [Nat.zero_add] at this
    exact ⟨by rw [hrl']; exact hget_all hidh e, this⟩
end Go.Proofs.Ytlabmehgcfgigaa.Q
namespace Go.Proofs.Ytlabmehgcfgigaa.Q
open Go Go.RowKit
set_option linter.unusedVariables false
variable {P : Program}
end Go.Proofs.Ytlabmehgcfgigaa.Q
namespace Go.Proofs.Ytlabmehgcfgigaa.Q
open Go Go.RowKit
set_option linter.unusedVariables false
variable {P : Program}
def inW (w : World) (b : Nat) : Prop := b < w.heap.size
def cellsOk {α : Type} (w : World) (K : Kd α) (a : α) (cs : List Value) : Prop := cs.length = K.sz ∧ ∀ j, j < K.sz → ∃ u, cs[j]? = some u ∧ dOk (inW w) (inW w) w (K.cell a j) u
def Rd {α : Type} (P : Program) (t : TypeId) (K : Kd α) (ok : α → Prop) : Prop :=
  ∀ (H : Type) (enc : TypeId × Value → H) (w : World) (base : Nat) (sp : Nat → Bool) (held : Bool) (fuel : Nat) (cs : List Value) (x : DataW H × List MemPlace), DataW.trod enc P w base sp held fuel t cs = some x → ∃ a : α, ok a ∧ cellsOk w K a cs
theorem rd_int {t : TypeId} {k : IntKind} (ht : P.underlying t = some (.int k)) : Rd P t (kInt k) (fun n => (Lit.int k n).wf = true) := fun H enc w base sp held fuel cs x h => by
  obtain ⟨n, rfl, _, hw⟩ := DataW.trod_int ht h
  refine ⟨n, hw, rfl, fun j hj => ?_⟩
  have hj : j < 1 := hj
  obtain rfl : j = 0 := by omega
  exact ⟨_, rfl, rfl⟩
theorem rd_bool {t : TypeId} (ht : P.underlying t = some .bool) : Rd P t kBool (fun _ => True) := fun H enc w base sp held fuel cs x h => by
  obtain ⟨n, rfl, _⟩ := DataW.trod_bool ht h
  refine ⟨n, trivial, rfl, fun j hj => ?_⟩
  have hj : j < 1 := hj
  obtain rfl : j = 0 := by omega
  exact ⟨_, rfl, rfl⟩
theorem rd_str {t : TypeId} (ht : P.underlying t = some .string) : Rd P t kStr (fun l => l.length ≤ maxLen) := fun H enc w base sp held fuel cs x h => by
  obtain ⟨s, rfl, _, hw⟩ := DataW.trod_string ht h
  refine ⟨s.data.toList, by simpa using hw, rfl, fun j hj => ?_⟩
  have hj : j < 1 := hj
  obtain rfl : j = 0 := by omega
  exact ⟨_, rfl, rfl⟩
theorem rd_field {α : Type} {K : Kd α} {ok : α → Prop} {H : Type} {enc : TypeId × Value → H} {w : World} {base : Nat} {sp : Nat → Bool} {held : Bool} {n : Nat} {cs : List Value} {xs : List (DataW H × List MemPlace)} {fs : Array Field} (hx : xs.length = fs.size)
    (h : ∀ (i : Nat) (f : Field), fs[i]? = some f → DataW.trod enc P w base sp held n f.type ((cs.drop f.offset).take (P.cellsOf f.type)) = xs[i]?) (i : Nat) {f : Field} (hf : fs[i]? = some f) {t : TypeId} {off : Nat} (ht : f.type = t) (ho : f.offset = off) (hr : Rd P t K ok) :
    ∃ a : α, ok a ∧ ∀ j, j < K.sz → ∃ u, cs[off + j]? = some u ∧ dOk (inW w) (inW w) w (K.cell a j) u := by
  subst ht ho
  have hi : i < xs.length := by rw [hx]; exact (Array.getElem?_eq_some_iff.1 hf).1
  have h1 := h i f hf
  rw [List.getElem?_eq_getElem hi] at h1
  obtain ⟨a, h2, h3, h4⟩ := hr H enc w base sp held n _ _ h1
  refine ⟨a, h2, fun j hj => ?_⟩
  obtain ⟨u, hu, hd⟩ := h4 j hj
  refine ⟨u, ?_, hd⟩
  rw [List.getElem?_take] at hu
  split at hu
  · rwa [List.getElem?_drop] at hu
  · cases hu
theorem G0 {W : World} {vs : List Value} {l : List AV} (hl : vs.length = l.length) (h : ∀ i av, l[i]? = some av → avOk (fun _ => none) (inW W) (inW W) W av (vs.getD i undef)) :
    G (mkBase vs.length 0 W (inW W) (inW W) fun _ => none) (fun _ => none) (inW W) (inW W) ⟨l, []⟩ ⟨vs.toArray, []⟩ W :=
  { df := rfl, sz := by simp [mkBase], tm := fun k => by
      rcases Nat.lt_or_ge k l.length with hk | hk
      · have h1 := h k l[k] (List.getElem?_eq_getElem hk)
        have h2 : tget l k = l[k] := by
          clear h h1 hl
          induction l generalizing k with
          | nil => exact absurd hk (Nat.not_lt_zero _)
          | cons x r ih => cases k with
            | zero => rfl
            | succ k => exact ih k (by simpa using hk)
        show avOk _ _ _ _ (tget l k) (vs.toArray.getD k undef)
        rw [h2]
        simpa using h1
      · show avOk _ _ _ _ (tget l k) _
        rw [tget_ge l k hk]
        exact trivial,
    ob := fun l o e => (by cases l <;> cases e), nj := fun l l' o o' e => (by cases l <;> cases e), sp := fun l o p e => (by cases l <;> cases e), cf := fun l o p e => (by cases l <;> cases e), fr := fun _ _ => rfl, su := fun _ h => h, ub := fun _ h => h, s0 := fun _ h => h, u0 := fun _ h => h, sn := fun _ h => .inl h, un := fun _ h => .inl h, ps := fun _ _ _ => rfl, hs := Nat.le_refl _, os := rfl, tp := rfl, op := rfl, bl := fun _ _ h => h, bk := fun _ _ => rfl }
theorem lawN {f : Nat} {l : List AV} (h : Holds P f ⟨l, [], dv (.bool true), []⟩) (W : World) {vs : List Value} (hl : vs.length = l.length) (ha : ∀ i av, l[i]? = some av → avOk (fun _ => none) (inW W) (inW W) W av (vs.getD i undef)) : Calls P f vs.toArray W fun e w' => e = .returned (.bool true) ∧ Below W.heap.size W w' := by
  refine (h W (fun _ => none) (inW W) (inW W) vs hl (G0 hl ha)).mono ?_
  rintro e w' ⟨v, B', S', U', rfl, g⟩
  have hv : v = .bool true := g.tm 0
  subst hv
  exact ⟨rfl, ⟨g.os, g.tp, g.op, g.hs, fun k hk => g.ps k hk fun ⟨i, κ, hi, _⟩ => absurd hi (Nat.not_lt_zero _)⟩⟩
theorem arg_agg {α : Type} {W : World} {K : Kd α} {a : α} {cs : Array Value} {l : List SV} (h : cellsOk W K a cs.toList) (hl : (dvs K.sz (K.cell a)) = l) : avOk (fun _ => none) (inW W) (inW W) W (.tv (.agg l)) (.agg cs) := by
  refine ⟨cs.toList, by simp, ?_⟩
  subst hl
  rw [dvs_eq]
  refine all2_of_get (by simp; exact h.1.symm) fun i x y hx hy => ?_
  have hi : i < K.sz := by have := (List.getElem?_eq_some_iff.1 hx).1; simpa using this
  rw [List.getElem?_map, List.getElem?_range hi] at hx
  cases hx
  obtain ⟨u, hu, hd⟩ := h.2 i hi
  rw [hu] at hy
  cases hy
  exact hd
theorem arg_one {α : Type} {W : World} {K : Kd α} {a : α} {v : Value} {d : DV} (h : cellsOk W K a [v]) (hs : K.sz = 1) (hd : K.cell a 0 = d) : avOk (fun _ => none) (inW W) (inW W) W (sv (.d d)) v := by
  obtain ⟨u, hu, h1⟩ := h.2 0 (by omega)
  cases hu
  subst hd
  exact h1
end Go.Proofs.Ytlabmehgcfgigaa.Q
namespace Go.Proofs.Ytlabmehgcfgigaa.Q
open Go Go.RowKit
set_option linter.unusedVariables false
set_option linter.unusedSimpArgs false
section
variable {K V : Type} [DecidableEq K]
def mput : List (K × V) → K → V → List (K × V)
  | [], k, v => [(k, v)]
  | e :: r, k, v => if e.1 = k then (k, v) :: r else e :: mput r k v
def mget : List (K × V) → K → V → V
  | [], _, z => z
  | e :: r, k, z => if e.1 = k then e.2 else mget r k z
def mhas : List (K × V) → K → Bool
  | [], _ => false
  | e :: r, k => if e.1 = k then true else mhas r k
def mdel : List (K × V) → K → List (K × V)
  | [], _ => []
  | e :: r, k => if e.1 = k then r else e :: mdel r k
theorem map_some {l : List (K × V)} {k : K} (v : V) : ∀ {j : Nat} {e : K × V}, l[j]? = some e → e.1 = k → (∀ i, i < j → ∀ e', l[i]? = some e' → e'.1 ≠ k) → mput l k v = l.set j (k, v) ∧ mget l k v = e.2 ∧ mhas l k = true ∧ mdel l k = l.eraseIdx j := by
  induction l with
  | nil => intro j e h; simp at h
  | cons x r ih =>
    intro j e h hk hf
    cases j with
    | zero =>
      simp only [List.getElem?_cons_zero, Option.some.injEq] at h
      subst h
      refine ⟨?_, ?_, ?_, ?_⟩ <;> simp [mput, mget, mhas, mdel, hk]
    | succ j =>
      have h1 : x.1 ≠ k := hf 0 (Nat.succ_pos _) x rfl
      obtain ⟨i1, i2, i3, i4⟩ := ih (j := j) (e := e) (by simpa using h) hk (fun i hi e' he' => hf (i + 1) (by omega) e' (by simpa using he'))
      refine ⟨?_, ?_, ?_, ?_⟩ <;> simp [mput, mget, mhas, mdel, if_neg h1, i1, i2, i3, i4]
end
def isKeyA : AV → Value → Prop
  | .tv (.one (.d (.val u))), v => u = v
  | .tv (.agg l), v => ∃ us : List Value, l = us.map (fun u => .d (.val u)) ∧ v = .agg us.toArray
  | _, _ => False
theorem isKeyA_spec {B : Bk} {S U : Nat → Prop} {w : World} {av : AV} {v u : Value} (h : isKeyA av v) (hv : avOk B S U w av u) : u = v := by
  match av, h with
  | .tv (.one (.d (.val x))), h => exact (show u = x from hv).trans h
  | .tv (.agg l), h =>
    obtain ⟨us, rfl, rfl⟩ := h
    obtain ⟨cs, rfl, h2⟩ := hv
    have : ∀ (us cs : List Value), all2 (svOk B S U w) (us.map fun u => .d (.val u)) cs → cs = us := by
      intro us
      induction us with
      | nil => intro cs h; match cs, h with | [], _ => rfl
      | cons a r ih => intro cs h; match cs, h with | c :: cs, h => rw [ih cs h.2, show c = a from h.1]
    rw [this us cs h2]
section
variable {P : Program} {bs : Base} {K V : Type} {f : K → Value} {kd : Kd V}
end
end Go.Proofs.Ytlabmehgcfgigaa.Q
namespace Go.Proofs.Ytlabmehgcfgigaa.Q
open Go Go.RowKit
set_option linter.unusedVariables false
set_option linter.unusedSimpArgs false
section
variable {P : Program} {bs : Base}
theorem r_max {d : Nat} {x y : Operand} {k : IntKind} {a b : Int} {t t' ty : TypeId} {pos : String} {af : Array Edge} {gd : Option (Nat × Bool)} (hN : d < bs.N) (hc : cOk [(x, dv (.int k a)), (y, dv (.int k b))]) :
    ORule P bs ⟨some d, .call { callee := .builtin .max, args := #[x, y], argTypes := #[t, t'] }, ty, pos, af, gd⟩ ⟨rtOf [(x, dv (.int k a)), (y, dv (.int k b))], [], [(d, dv (.int k (max a b)))], []⟩ :=
  .val rfl hN hc fun B S U s a' w g _ he => by
    have h1 : a'.eval x = .int k a := he.1
    have h2 : a'.eval y = .int k b := he.2.1
    refine ⟨.int k (max a b), ?_, rfl⟩
    have : (if b > a then b else a) = max a b := by rw [Int.max_def]; split <;> split <;> omega
    simp [execOp, resolve, invoke, builtin, Builtin.max_, Builtin.max2, h1, h2, Sem.run_bind, this]
theorem r_min {d : Nat} {x y : Operand} {k : IntKind} {a b : Int} {t t' ty : TypeId} {pos : String} {af : Array Edge} {gd : Option (Nat × Bool)} (hN : d < bs.N) (hc : cOk [(x, dv (.int k a)), (y, dv (.int k b))]) :
    ORule P bs ⟨some d, .call { callee := .builtin .min, args := #[x, y], argTypes := #[t, t'] }, ty, pos, af, gd⟩ ⟨rtOf [(x, dv (.int k a)), (y, dv (.int k b))], [], [(d, dv (.int k (min a b)))], []⟩ :=
  .val rfl hN hc fun B S U s a' w g _ he => by
    have h1 : a'.eval x = .int k a := he.1
    have h2 : a'.eval y = .int k b := he.2.1
    refine ⟨.int k (min a b), ?_, rfl⟩
    have : (if b < a then b else a) = min a b := by rw [Int.min_def]; split <;> split <;> omega
    simp [execOp, resolve, invoke, builtin, Builtin.min_, Builtin.min2, h1, h2, Sem.run_bind, this]
end
theorem bytes_beq' (l l' : List UInt8) : ((⟨l.toArray⟩ : ByteArray) == (⟨l'.toArray⟩ : ByteArray)) = decide (l = l') := by
  rw [Bool.eq_iff_iff, MapKept.bytes_beq]
  simp
section
variable {P : Program} {kt : TypeId} {f0 f1 : Field} {k : IntKind}
end
theorem wf_i64 {n : Int} (h : (Lit.int .i64 n).wf = true) : -9223372036854775808 ≤ n ∧ n ≤ 9223372036854775807 := by
  simp only [Lit.wf, Bool.and_eq_true, decide_eq_true_eq] at h
  exact ⟨Int.le_trans (by decide) h.1, Int.le_trans h.2 (by decide)⟩
end Go.Proofs.Ytlabmehgcfgigaa.Q
namespace Go.Proofs.Ytlabmehgcfgigaa.Q
open Go Go.RowKit
set_option linter.unusedVariables false
set_option linter.unusedSimpArgs false
section
variable {P : Program} {bs : Base}
end
end Go.Proofs.Ytlabmehgcfgigaa.Q
namespace Go.Proofs.Ytlabmehgcfgigaa.Q
open Go Go.RowKit
set_option linter.unusedVariables false
set_option linter.unusedSimpArgs false
section
variable {P : Program} {bs : Base}
def TL (P : Program) (bs : Base) (s : St) (c : Code) (Q : Exit → Act → World → Prop) : Prop := ∀ a w, Gs bs s a w → ∀ (b : Frame) (k : List Item) (cs : List Frame),
  ∃ e a' w', Q e a' w' ∧ Arrives P (lone (b.at a (.code c :: .inLoop c :: k)) cs w) b k cs e a' w'
theorem TL.turn {s s' : St} {c : Code} {Q : Exit → Act → World → Prop} (h : ∀ a w, Gs bs s a w → Gs bs s' a w) (h' : TL P bs s' c Q) : TL P bs s c Q := fun a w hG => h' a w (h a w hG)
theorem TL.loop {s : St} {c : Code} {Q : Exit → Act → World → Prop} {ι : Type} (st : ι → St) (pre : ι → Prop) (μ : ι → Nat) (x0 : ι) (h0 : pre x0) (hs : ∀ a w, Gs bs s a w → Gs bs (st x0) a w)
    (round : ∀ x, pre x → T P bs (st x) c (Exit.then (fun a w => ∃ x', pre x' ∧ μ x' < μ x ∧ Gs bs (st x') a w) Q)) : TL P bs s c Q := by
  intro a w hG
  have key : ∀ n x a w, μ x = n → pre x → Gs bs (st x) a w → ∀ (b : Frame) (k : List Item) (cs : List Frame),
      ∃ e a' w', Q e a' w' ∧ Arrives P (lone (b.at a (.code c :: .inLoop c :: k)) cs w) b k cs e a' w' := by
    intro n
    induction n using Nat.strongRecOn with
    | _ n ih =>
      intro x a w hn hx hG b k cs
      obtain ⟨e, a₁, w₁, hq, harr⟩ := round x hx a w hG b (.inLoop c :: k) cs
      cases e with
      | normal =>
        obtain ⟨x', hx', hlt, hG'⟩ := hq
        obtain ⟨e₂, a₂, w₂, hq₂, harr₂⟩ := ih (μ x') (hn ▸ hlt) x' a₁ w₁ rfl hx' hG' b k cs
        exact ⟨e₂, a₂, w₂, hq₂, .of_steps (Steps.trans harr (.one step_inLoop)) harr₂⟩
      | exit id => exact ⟨_, a₁, w₁, hq, .pass (x := .inLoop c) rfl (fun _ _ => .inl (by simp)) harr⟩
      | goto l => exact ⟨_, a₁, w₁, hq, .pass (x := .inLoop c) rfl (fun _ _ => .inl (by simp)) harr⟩
      | ret => exact ⟨_, a₁, w₁, hq, .pass (x := .inLoop c) rfl (fun _ _ => .inl (by simp)) harr⟩
      | panic ch => exact ⟨_, a₁, w₁, hq, .pass (x := .inLoop c) rfl (fun _ _ => .inl (by simp)) harr⟩
      | outgrown => exact ⟨_, a₁, w₁, hq, .pass (x := .inLoop c) rfl (fun _ _ => .inl (by simp)) harr⟩
  exact key _ x0 a w rfl h0 (hs a w hG)
end
section
variable {P : Program} {bs : Base}
theorem b_orU {t : TypeId} {a b : Nat} (ha : a < 18446744073709551616) (hb : b < 18446744073709551616) : BinR P .or t (.int .u64 (a : Int)) (.int .u64 (b : Int)) (.int .u64 ((a ||| b : Nat) : Int)) := bin_of (.inl fun _ => by simp) (.inl (by simp)) fun w => by
  have e1 : (BitVec.ofInt 64 (a : Int)).toNat = a := by rw [BitVec.ofInt_natCast, BitVec.toNat_ofNat]; exact Nat.mod_eq_of_lt ha
  have e2 : (BitVec.ofInt 64 (b : Int)).toNat = b := by rw [BitVec.ofInt_natCast, BitVec.toNat_ofNat]; exact Nat.mod_eq_of_lt hb
  have h : (BitVec.ofInt 64 (a : Int) ||| BitVec.ofInt 64 (b : Int)).toNat = a ||| b := by rw [BitVec.toNat_or, e1, e2]
  have hl : a ||| b < 18446744073709551616 := by rw [← h]; exact (BitVec.ofInt 64 (a : Int) ||| BitVec.ofInt 64 (b : Int)).isLt
  have hw : IntKind.u64.wrap ((a ||| b : Nat) : Int) = ((a ||| b : Nat) : Int) := by rw [IntKind.wrap_u64]; omega
  show (Op.intBits .or .u64 a b).run P w = _
  unfold Op.intBits
  simp only [IntKind.bits] at *
  show Result.ok (Value.int .u64 (IntKind.u64.wrap ((BitVec.ofInt 64 (a : Int) ||| BitVec.ofInt 64 (b : Int)).toNat : Int))) w = _
  rw [h, hw]
theorem b_shrN {k k' : IntKind} {t : TypeId} {a n : Nat} {b : Int} (hb : b = n) (hn : n ≤ k.bits) : BinR P .shr t (.int k (a : Int)) (.int k' b) (.int k ((a / 2 ^ n : Nat) : Int)) :=
  b_shr hb hn (by
    have : ((2 : Int) ^ n) = ((2 ^ n : Nat) : Int) := by simp
    rw [this, Int.fdiv_eq_ediv_of_nonneg _ (Int.natCast_nonneg _)]
    rfl)
theorem b_shlN {k k' : IntKind} {t : TypeId} {a n : Nat} {b : Int} (hb : b = n) (hn : n ≤ k.bits) (h : k.wrap ((a * 2 ^ n : Nat) : Int) = ((a * 2 ^ n : Nat) : Int)) : BinR P .shl t (.int k (a : Int)) (.int k' b) (.int k ((a * 2 ^ n : Nat) : Int)) :=
  b_shl hb hn (by simpa using h)
def u64 (n : Int) : Nat := (n % 18446744073709551616).toNat
def toI64 (n : Nat) : Int := if n < 9223372036854775808 then (n : Int) else (n : Int) - 18446744073709551616
theorem c_i64 {s d : TypeId} {ds : TypeDesc} {k' : IntKind} {n : Nat} (h : n < 18446744073709551616) (hs : P.underlying s = some ds) (hd : P.underlying d = some (.int .i64)) : ConvR P s d (.int k' (n : Int)) (.int .i64 (toI64 n)) := c_int hs hd (by rw [IntKind.wrap_i64]; unfold toI64; split <;> omega)
def nanB (b : Nat) : Bool := !(Op.floatEq .f64 b b)
def kF64 : Kd Nat := ⟨1, fun x _ => .val (.float .f64 x), 0⟩
theorem b_nan {t : TypeId} {a : Nat} : BinR P .neq t (.float .f64 a) (.float .f64 a) (.bool (nanB a)) := bin_of (.inl fun _ => by simp) (.inl (by simp)) fun w => by
  simp [binOp, Op.floatCmp, nanB, Op.floatEq]
  rfl
theorem rd_f64 {t : TypeId} (ht : P.underlying t = some (.float .f64)) : Rd P t kF64 (fun n => n < 18446744073709551616) := fun H enc w base sp held fuel cs x h => by
  have hx : ∃ n, cs = [.float .f64 n] ∧ (Lit.float .f64 n).wf = true := by
    cases fuel with
    | zero => simp [DataW.trod] at h
    | succ n =>
      unfold DataW.trod at h
      rw [ht] at h
      split at h <;> simp_all
  obtain ⟨n, rfl, hw⟩ := hx
  refine ⟨n, by simpa [Lit.wf] using hw, rfl, fun j hj => ?_⟩
  have hj : j < 1 := hj
  obtain rfl : j = 0 := by omega
  exact ⟨_, rfl, rfl⟩
theorem r_ext1 {d f : Nat} {fn : Func} {e : Array Value → Sem Value} {u v : Value} {x : Operand} {ts : Array TypeId} {ty : TypeId} {pos : String} {af : Array Edge} {gd : Option (Nat × Bool)} (hf : P.funcs[f]? = some fn) (hb : fn.body.isNone = true) (hn : (Extern.findNext fn).isNone = true) (he : Extern.find fn = some e) (hname : (fn.name == "runtime.NumGoroutine") = false)
    (hr : ∀ w, (e #[u]).run P w = .ok v w) (hN : d < bs.N) (hc : cOk [(x, dv u)]) :
    ORule P bs ⟨some d, .call { callee := .value (.func f), args := #[x], argTypes := ts }, ty, pos, af, gd⟩ ⟨rtOf [(x, dv u)], [], [(d, dv v)], []⟩ :=
  .val rfl hN hc fun B S U s a w g _ he' => by
    have h1 : a.eval x = u := he'.1
    have hn' := Option.isNone_iff_eq_none.1 hn
    have hcall : (callFunc f #[u]).run P w = .ok (.value v) w := by
      unfold callFunc
      simp only [Sem.run_bind, run_program, Result.andThen_ok, hf, hname, hb, hn', he, if_true, Bool.false_eq_true, if_false]
      have hm : (mark (.extern f)).run P w = .ok () w := rfl
      simp only [Sem.run_bind, hm, Result.andThen_ok, hr, Sem.run_pure]
    have hf0 : a.eval (.func f) = .func (.func f) #[] #[] := rfl
    exact ⟨v, by simpa [execOp, resolve, invoke, h1, hf0, Sem.run_bind, Deferred.ofValue] using hcall, rfl⟩
end
end Go.Proofs.Ytlabmehgcfgigaa.Q
