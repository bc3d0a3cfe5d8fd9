import Derived.Test.YtacikihlgpnjhaaQ4
namespace Go.Proofs.Ytacikihlgpnjhaa.Q
open Go Go.RowKit
set_option linter.unusedVariables false
set_option linter.unusedSimpArgs false

/-! ### Names of objects, renamed -/

def renS (r : Nat → Nat) : SV → SV
  | .d x => .d x
  | .ptr l off => .ptr (r l) off
  | .own l sz off n => .own (r l) sz off n
  | .ep tag n el => .ep tag n el
  | .mref l => .mref (r l)
  | .cl tag nn sz n el => .cl tag nn sz n el
def renT (r : Nat → Nat) : TV → TV
  | .one s => .one (renS r s)
  | .agg l => .agg (l.map (renS r))
def renA (r : Nat → Nat) : AV → AV
  | .tv t => .tv (renT r t)
  | .tup l => .tup (l.map (renT r))
def renO (r : Nat → Nat) : HObj → HObj
  | .box T cs => .box T (cs.map (renS r))
  | .arr T sz n el => .arr T sz n el
  | .mp es => .mp es
def renH (r : Nat → Nat) : HS → HS
  | .live o => .live (renO r o)
  | .free => .free
  | .dead => .dead

/-- All objects that are named have a number below m. -/
def idsS (m : Nat) : SV → Bool
  | .ptr l _ => Nat.blt l m
  | .own l _ _ _ => Nat.blt l m
  | .mref l => Nat.blt l m
  | _ => true
def idsT (m : Nat) : TV → Bool
  | .one s => idsS m s
  | .agg l => l.all (idsS m)
def idsA (m : Nat) : AV → Bool
  | .tv t => idsT m t
  | .tup l => l.all (idsT m)
def idsO (m : Nat) : HObj → Bool
  | .box _ cs => cs.all (idsS m)
  | _ => true
def idsH (m : Nat) : HS → Bool
  | .live o => idsO m o
  | _ => true

theorem blt_lt {l m : Nat} (h : Nat.blt l m = true) : l < m := by simpa using h

section
variable {B B' : Bk} {S U : Nat → Prop} {w : World} {r : Nat → Nat} {m : Nat}

theorem ren_svOk (hB : ∀ l, l < m → B' l = B (r l)) : ∀ {x : SV} {v : Value}, idsS m x = true → (svOk B' S U w x v ↔ svOk B S U w (renS r x) v)
  | .d _, _, _ => Iff.rfl
  | .ptr l off, v, h => by simp only [svOk, renS, hB l (blt_lt h)]
  | .own l sz off n, v, h => by simp only [svOk, renS, hB l (blt_lt h)]
  | .ep .., _, _ => Iff.rfl
  | .mref l, v, h => by simp only [svOk, renS, hB l (blt_lt h)]
  | .cl .., _, _ => Iff.rfl

theorem all2_iff_all {α β γ : Type} {R : α → β → Prop} {R' : γ → β → Prop} {f : α → γ} {p : α → Bool} (h : ∀ a b, p a = true → (R a b ↔ R' (f a) b)) : ∀ {l : List α} {k : List β}, l.all p = true → (all2 R l k ↔ all2 R' (l.map f) k)
  | [], [], _ => Iff.rfl
  | a :: as, b :: bs, hp => by
    simp only [List.all_cons, Bool.and_eq_true] at hp
    exact and_congr (h a b hp.1) (all2_iff_all h hp.2)
  | [], _ :: _, _ => Iff.rfl
  | _ :: _, [], _ => Iff.rfl

theorem ren_tvOk (hB : ∀ l, l < m → B' l = B (r l)) : ∀ {x : TV} {v : Value}, idsT m x = true → (tvOk B' S U w x v ↔ tvOk B S U w (renT r x) v)
  | .one s, v, h => ren_svOk hB h
  | .agg l, v, h => by
    simp only [tvOk, renT]
    exact exists_congr fun cs => and_congr Iff.rfl (all2_iff_all (R := svOk B' S U w) (R' := svOk B S U w) (f := renS r) (p := idsS m) (fun _ _ hp => ren_svOk hB hp) h)

theorem ren_avOk (hB : ∀ l, l < m → B' l = B (r l)) : ∀ {x : AV} {v : Value}, idsA m x = true → (avOk B' S U w x v ↔ avOk B S U w (renA r x) v)
  | .tv t, v, h => ren_tvOk hB h
  | .tup l, v, h => by
    simp only [avOk, renA]
    exact exists_congr fun cs => and_congr Iff.rfl (all2_iff_all (R := tvOk B' S U w) (R' := tvOk B S U w) (f := renT r) (p := idsT m) (fun _ _ hp => ren_tvOk hB hp) h)

theorem ren_obOk (hB : ∀ l, l < m → B' l = B (r l)) {l : Nat} (hl : l < m) : ∀ {o : HObj}, idsO m o = true → (obOk B' S U w l o ↔ obOk B S U w (r l) (renO r o))
  | .box T cs, h => by
    simp only [obOk, renO, hB l hl]
    exact exists_congr fun b => exists_congr fun κ => exists_congr fun cur => and_congr Iff.rfl (and_congr Iff.rfl (all2_iff_all (R := svOk B' S U w) (R' := svOk B S U w) (f := renS r) (p := idsS m) (fun _ _ hp => ren_svOk hB hp) h))
  | .arr T sz n el, _ => by simp only [obOk, renO, hB l hl]
  | .mp es, _ => by simp only [obOk, renO, hB l hl]
end

theorem hget_lt {h : List HS} {l : Nat} {o : HObj} (e : hget h l = .live o) : l < h.length := by
  induction h generalizing l with
  | nil => simp [hget] at e
  | cons x r ih =>
    cases l with
    | zero => simp
    | succ l => have := ih e; simp only [List.length_cons]; omega

/-- Another numbering. -/
theorem Gs.ren {bs : Base} {s s' : St} {a : Act} {w : World} (h : Gs bs s a w) (r : Nat → Nat) (hk : bs.k ≤ s'.h.length) (hfix : ∀ l, l < bs.k → r l = l)
    (hinj : ∀ l l', l < s'.h.length → l' < s'.h.length → r l = r l' → l = l') (hnf : ∀ l, l < s'.h.length → hget s'.h l ≠ .free) (hend : ∀ l, s'.h.length ≤ l → hget s'.h l = .free)
    (ht : ∀ i, tget s'.t i = .any ∨ (idsA s'.h.length (tget s'.t i) = true ∧ renA r (tget s'.t i) = tget s.t i))
    (hh : ∀ l o, hget s'.h l = .live o → idsO s'.h.length o = true ∧ hget s.h (r l) = .live (renO r o)) : Gs bs s' a w := by
  obtain ⟨B, S, U, g⟩ := h
  refine ⟨fun l => if l < s'.h.length then B (r l) else none, S, U, ?_⟩
  have hB : ∀ l, l < s'.h.length → (fun l => if l < s'.h.length then B (r l) else none) l = B (r l) := fun l hl => if_pos hl
  refine { g with tm := fun i => ?_, ob := fun l o e => ?_, nj := fun l l' o o' e e' hne p p' hp hp' => ?_, sp := fun l o p e hp => ?_, cf := fun l o p e hp => ?_, fr := fun l e => ?_, bl := fun l p e => ?_ }
  · rcases ht i with h | ⟨h1, h2⟩
    · rw [h]; exact trivial
    · rw [ren_avOk hB h1, h2]; exact g.tm i
  · obtain ⟨h1, h2⟩ := hh l o e
    rw [ren_obOk hB (hget_lt e) h1]
    exact g.ob _ _ h2
  · have h1 := (hh l o e).2
    have h2 := (hh l' o' e').2
    have l1 := hget_lt e
    have l2 := hget_lt e'
    simp only [if_pos l1] at hp
    simp only [if_pos l2] at hp'
    exact g.nj _ _ _ _ h1 h2 (fun h => hne (hinj l l' l1 l2 h)) p p' hp hp'
  · simp only [if_pos (hget_lt e)] at hp
    exact g.sp _ _ p (hh l o e).2 hp
  · simp only [if_pos (hget_lt e)] at hp
    exact g.cf _ _ p (hh l o e).2 hp
  · have : ¬ l < s'.h.length := fun h => hnf l h e
    simp only [if_neg this]
  · have hl : l < bs.k := by
      rcases Nat.lt_or_ge l bs.k with h | h
      · exact h
      · rw [g.bk l h] at e; cases e
    simp only [if_pos (show l < s'.h.length by omega), hfix l hl]
    exact g.bl l p e

/-! ### Contracts -/

/-- A contract: the arguments, the objects that are handed in (numbers 0 ..), the result, the objects behind the call (the first ones are those that came in). -/
structure Ct where
  args : List AV
  hin : List HObj
  res : AV
  hout : List HS

def liveL (l : List HObj) : List HS := l.map .live
def Cs (k : Nat) (B : Bk) : Nat → Prop := fun b => ∃ l κ, l < k ∧ B l = some (some (b, κ))
def mkBase (N k : Nat) (w : World) (S U : Nat → Prop) (B : Bk) : Base := ⟨N, k, w, Cs k B, S, U, B⟩

def PostG (k : Nat) (w : World) (S U : Nat → Prop) (B : Bk) (c : Ct) (e : Ending) (w' : World) : Prop :=
  ∃ v B' S' U', e = .returned v ∧ G (mkBase 1 k w S U B) B' S' U' ⟨[c.res], c.hout⟩ ⟨#[v], []⟩ w'

def Holds (P : Program) (f : Nat) (c : Ct) : Prop :=
  ∀ (w : World) (B : Bk) (S U : Nat → Prop) (vs : List Value), vs.length = c.args.length → G (mkBase vs.length c.hin.length w S U B) B S U ⟨c.args, liveL c.hin⟩ ⟨vs.toArray, []⟩ w →
    Calls P f vs.toArray w (PostG c.hin.length w S U B c)

theorem tget_ge : ∀ (l : List AV) (k : Nat), l.length ≤ k → tget l k = .any
  | [], _, _ => rfl
  | _ :: r, 0, h => absurd h (by simp)
  | _ :: r, k + 1, h => tget_ge r k (by simpa using h)

variable {P : Program}

theorem Holds.of {f : Nat} {fn : Func} {code : Code} {c : Ct} (hf : P.funcs[f]? = some fn) (hb : fn.body = some code) {N : Nat} (hN : fn.ntmps = N) (hk : Nat.ble c.args.length N = true)
    (h : ∀ (w : World) (B : Bk) (S U : Nat → Prop), T P (mkBase N c.hin.length w S U B) ⟨c.args, liveL c.hin⟩ code (bodyPost P fn (PostG c.hin.length w S U B c))) : Holds P f c := by
  intro w B S U vs hl g
  have hk' := Nat.le_of_ble_eq_true hk
  refine calls_of_wp hf hb (h w B S U _ w ⟨B, S, U, ?_⟩)
  refine { g with sz := ?_, tm := fun k => ?_, df := rfl, s0 := g.s0, u0 := g.u0, sn := g.sn, un := g.un, cf := g.cf, ps := g.ps, hs := g.hs, os := g.os, tp := g.tp, op := g.op, bl := g.bl, bk := g.bk }
  · show (vs.toArray ++ Array.replicate (fn.ntmps - vs.toArray.size) undef).size = N
    simp
    omega
  · show avOk B S U w (tget c.args k) ((vs.toArray ++ Array.replicate (fn.ntmps - vs.toArray.size) undef).getD k undef)
    by_cases hlt : k < vs.length
    · have := g.tm k
      have e : (vs.toArray ++ Array.replicate (fn.ntmps - vs.toArray.size) undef).getD k undef = vs.toArray.getD k undef := by
        simp [Array.getD_eq_getD_getElem?, Array.getElem?_append, hlt]
      rw [e]
      exact this
    · rw [tget_ge c.args k (by omega)]
      exact trivial

/-! ### The end of a function -/

/-- What a result variable holds. -/
inductive RV where
  | t (k : Nat) (v : TV)
  | c (k l : Nat) (T off : Nat) (bT : Nat) (cs : List SV) (v : TV)

def rvOk (P : Program) (s : St) : RV → ResultVar → Prop
  | .t k v, .tmp t => t = k ∧ tget s.t k = .tv v
  | .c k l T off bT cs v, .cell t ty => t = k ∧ ty = T ∧ tget s.t k = pv l off ∧ hget s.h l = .live (.box bT cs) ∧ ((∃ n, Wide P T (some n) ∧ v = .agg ((cs.drop off).take n) ∧ off + n ≤ cs.length) ∨ (Wide P T none ∧ ∃ x, cs[off]? = some x ∧ v = .one x))
  | _, _ => False
def rvTV : RV → TV
  | .t _ v => v
  | .c _ _ _ _ _ _ v => v

def resAV : List RV → AV
  | [r] => .tv (rvTV r)
  | l => .tup (l.map rvTV)

theorem run_loadVar_agg {t : TypeId} {n : Nat} (hw : Wide P t (some n)) {ad : Addr} (hs : ad.spot = none) {w : World} {cs : List Value} (hl : cs.length = n) (h : ∀ j u, cs[j]? = some u → w.cell? ⟨ad.block, ad.off + j, none⟩ = some u) : (loadVar t ad).run P w = .ok (.agg cs.toArray) w := by
  have := run_loadAt_agg (P := P) hw hs hl h
  simpa [Instr.loadAt, Instr.sureAddr] using this

theorem run_loadVar_one {t : TypeId} (hw : Wide P t none) {ad : Addr} {w : World} {v : Value} (h : w.cell? ad = some v) : (loadVar t ad).run P w = .ok v w := by
  have := run_loadAt_one (P := P) hw h
  simpa [Instr.loadAt, Instr.sureAddr] using this

theorem all2_cut {R : SV → Value → Prop} {cs : List SV} {cur : List Value} (h : all2 R cs cur) (off n : Nat) : all2 R ((cs.drop off).take n) ((cur.drop off).take n) := by
  have hlen := all2_len h
  refine all2_of_get (by simp [hlen]) fun i a b hi hj => ?_
  rw [List.getElem?_take] at hi hj
  split at hi
  · rw [if_pos (by assumption)] at hj
    rw [List.getElem?_drop] at hi hj
    obtain ⟨u, hu, hok⟩ := all2_get h hi
    rw [hj] at hu
    cases hu
    exact hok
  · cases hi

def resOf (tmps : Array Value) : ResultVar → Sem Value
  | .tmp t => pure (tmps.getD t undef)
  | .cell a t => do loadVar t (← asAddr (tmps.getD a undef))

theorem run_results {bs : Base} {B : Bk} {S U : Nat → Prop} {s : St} {a : Act} {w : World} (g : G bs B S U s a w) : ∀ (rvs : List RV) (rs : List ResultVar), all2 (rvOk P s) rvs rs → ∃ vs, (rs.mapM (resOf a.tmps)).run P w = .ok vs w ∧ all2 (tvOk B S U w) (rvs.map rvTV) vs
  | [], [], _ => ⟨[], by simp, trivial⟩
  | r :: rvs, x :: rs, h => by
    obtain ⟨vs, h1, h2⟩ := run_results g rvs rs h.2
    have key : ∃ v, (resOf a.tmps x).run P w = .ok v w ∧ tvOk B S U w (rvTV r) v := by
      match r, x, h.1 with
      | .t k v, .tmp t, ⟨e1, e2⟩ =>
        subst e1
        have := g.tm t
        rw [e2] at this
        exact ⟨_, by simp [resOf], this⟩
      | .c k l T off bT cs v, .cell t ty, ⟨e1, e2, e3, e4, e5⟩ =>
        subst e1
        subst e2
        have ht := g.tm t
        rw [e3] at ht
        obtain ⟨b, κ, hb, hp⟩ := ht
        obtain ⟨b', κ', cur, hb', hcur, hall⟩ := g.ob l _ e4
        rw [hb] at hb'
        cases hb'
        have hlen := all2_len hall
        rcases e5 with ⟨n, hw, rfl, hn⟩ | ⟨hw, x, hx, rfl⟩
        · refine ⟨.agg ((cur.toList.drop off).take n).toArray, ?_, _, rfl, all2_cut hall off n⟩
          have := run_loadVar_agg (P := P) hw (ad := ⟨b, off, none⟩) rfl (w := w) (cs := (cur.toList.drop off).take n) (by simp; simp at hlen; omega) fun j u hj => by
            refine cell_of_block hcur ?_
            rw [List.getElem?_take] at hj
            split at hj
            · rw [List.getElem?_drop] at hj
              simpa using hj
            · cases hj
          simp only [resOf, hp, asAddr, Sem.run_bind, Sem.run_pure, Result.andThen_ok, this]
        · obtain ⟨u, hu, hok⟩ := all2_get hall hx
          refine ⟨u, ?_, hok⟩
          simp only [resOf, hp, asAddr, Sem.run_bind, Sem.run_pure, Result.andThen_ok, run_loadVar_one hw (cell_of_block hcur (by simpa using hu))]
    obtain ⟨v, hv, hok⟩ := key
    exact ⟨v :: vs, by simp only [List.mapM_cons, Sem.run_bind, hv, h1, Result.andThen_ok, Sem.run_pure], hok, h2⟩
  | [], _ :: _, h => h.elim
  | _ :: _, [], h => h.elim

/-- The end of a function: its results, its objects. -/
theorem ret_rule {fn : Func} {c : Ct} {N k : Nat} {w0 : World} {S0 U0 : Nat → Prop} {B0 : Bk} {s : St} (rvs : List RV) (hr : all2 (rvOk P s) rvs fn.results.toList) (hres : resAV rvs = c.res) (hh : ∀ l, hget c.hout l = .dead ∨ hget c.hout l = hget s.h l) (e : Exit) (he : e = .ret ∨ e = .normal) :
    ∀ a w, Gs (mkBase N k w0 S0 U0 B0) s a w → bodyPost P fn (PostG k w0 S0 U0 B0 c) e a w := by
  intro a w hG
  obtain ⟨B, S, U, g⟩ := hG
  obtain ⟨vs, h1, h2⟩ := run_results (P := P) g rvs fn.results.toList hr
  have hrun : (results fn a.tmps).run P w = .ok (if h : vs.toArray.size = 1 then vs.toArray[0] else .tuple vs.toArray) w := by
    have hm : (fn.results.mapM (resOf a.tmps)) = (do pure (List.toArray (← fn.results.toList.mapM (resOf a.tmps))) : Sem (Array Value)) := by
      rw [Array.mapM_eq_mapM_toList]; rfl
    have hm' : results fn a.tmps = (do let vs ← fn.results.mapM (resOf a.tmps); pure (if h : vs.size = 1 then vs[0] else .tuple vs) : Sem Value) := by
      unfold results
      rfl
    rw [hm', hm]
    simp only [Sem.run_bind, h1, Result.andThen_ok, Sem.run_pure]
  have hav : avOk B S U w c.res (if h : vs.toArray.size = 1 then vs.toArray[0] else .tuple vs.toArray) := by
    rw [← hres]
    match rvs, vs, h2 with
    | [r], [v], h => exact (show tvOk B S U w (rvTV r) v from h.1)
    | [], [], h => exact ⟨[], by simp, trivial⟩
    | r :: r' :: rs, v :: v' :: vs', h => exact ⟨v :: v' :: vs', by simp, h⟩
  have hpost : PostG k w0 S0 U0 B0 c (.returned (if h : vs.toArray.size = 1 then vs.toArray[0] else .tuple vs.toArray)) w := by
    have hl : ∀ l o, hget c.hout l = .live o → hget s.h l = .live o := fun l o e => by
      rcases hh l with h | h
      · rw [h] at e; cases e
      · rw [← h]; exact e
    refine ⟨_, B, S, U, rfl, { df := rfl, sz := rfl, tm := fun i => ?_, ob := fun l o e => g.ob l o (hl l o e), nj := fun l l' o o' e e' => g.nj l l' o o' (hl l o e) (hl l' o' e'), sp := fun l o p e => g.sp l o p (hl l o e), cf := fun l o p e => g.cf l o p (hl l o e), fr := fun l e => ?_, su := g.su, ub := g.ub, s0 := g.s0, u0 := g.u0, sn := g.sn, un := g.un, ps := g.ps, hs := g.hs, os := g.os, tp := g.tp, op := g.op, bl := g.bl, bk := g.bk }⟩
    · match i with
      | 0 => exact hav
      | i + 1 => exact trivial
    · rcases hh l with h | h
      · rw [h] at e; cases e
      · exact g.fr l (by rw [← h]; exact e)
  rcases he with rfl | rfl
  · exact ⟨g.df, _, hrun, hpost⟩
  · exact ⟨g.df, _, hrun, hpost⟩
end Go.Proofs.Ytacikihlgpnjhaa.Q
