import Derived.Test.YtacikihlgpnjhaaQ12
namespace Go.Proofs.Ytacikihlgpnjhaa.Q
open Go Go.RowKit
set_option linter.unusedVariables false
set_option linter.unusedSimpArgs false

variable {P : Program} {bs : Base}

/-! ### The rules over kinds -/

def KOk {α : Type} (K : Kd α) : Prop := 0 < K.sz ∧ ∀ x j, j < K.sz → cellD (K.cell x j) = true

theorem kU8_ok : KOk kU8 := ⟨by decide, fun _ _ _ => rfl⟩
def kInt (k : IntKind) : Kd Int := ⟨1, fun x _ => .val (.int k x), 0⟩
theorem kInt_ok (k : IntKind) : KOk (kInt k) := ⟨by simp [kInt], fun _ _ _ => rfl⟩
def kBool : Kd Bool := ⟨1, fun x _ => .val (.bool x), false⟩
theorem kBool_ok : KOk kBool := ⟨by decide, fun _ _ _ => rfl⟩
def kStr : Kd (List UInt8) := ⟨1, fun x _ => .val (strV x), []⟩
theorem kStr_ok : KOk kStr := ⟨by decide, fun _ _ _ => rfl⟩
def kSl {α : Type} (t : Bool) (K : Kd α) : Kd (List α) := ⟨1, fun x _ => dsl t false K x, []⟩
theorem kSl_ok {α : Type} (t : Bool) (K : Kd α) : KOk (kSl t K) := ⟨by simp [kSl], fun _ _ _ => rfl⟩

section
variable {α : Type} {K : Kd α}

theorem q_len (tag nn : Bool) (K : Kd α) (xs : List α) {d : Nat} {x : Operand} {t e ty : TypeId} {pos : String} {af : Array Edge} {gd : Option (Nat × Bool)} (ht : P.underlying t = some (.slice e)) (hN : d < bs.N) (hc : cOk [(x, slV tag nn K xs)]) :
    ORule P bs ⟨some d, .call { callee := .builtin .len, args := #[x], argTypes := #[t] }, ty, pos, af, gd⟩ ⟨rtOf [(x, slV tag nn K xs)], [], [(d, dv (.int .i64 (xs.length : Nat)))], []⟩ := r_lenS ht hN hc

theorem q_index (tag nn : Bool) (K : Kd α) (xs : List α) (m : Nat) {d : Nat} {k : IntKind} {i : Int} {x y : Operand} {t e ty : TypeId} {pos : String} {af : Array Edge} {gd : Option (Nat × Bool)} {inf : TypeInfo} (ht : P.underlying t = some (.slice e)) (hi : P.info? e = some inf) (hsz : inf.size = K.sz) (hm : i = m) (h1 : m < xs.length) (hN : d < bs.N) (hc : cOk [(x, slV tag nn K xs), (y, dv (.int k i))]) :
    ORule P bs ⟨some d, .indexAddr t x y, ty, pos, af, gd⟩ ⟨rtOf [(x, slV tag nn K xs), (y, dv (.int k i))], [], [(d, sv (.ep tag K.sz (K.cell (xs.getD m K.z))))], []⟩ := r_indexS ht hi hsz hm h1 rfl hN hc

theorem cut_len (xs : List α) (l h : Nat) (hh : h ≤ xs.length) : ((xs.take h).drop l).length = h - l := by simp; omega

theorem q_slice (tag nn : Bool) (K : Kd α) (xs ys : List α) (l h : Nat) {d : Nat} {x : Operand} {lo hi : Option (Operand × Int)} {lo' hi' : Option Operand} {t e ty : TypeId} {pos : String} {af : Array Edge} {gd : Option (Nat × Bool)} {inf : TypeInfo} (ht : P.underlying t = some (.slice e)) (hinf : P.info? e = some inf) (hsz : inf.size = K.sz)
    (hlo' : lo' = lo.map (·.1)) (hhi' : hi' = hi.map (·.1)) (hl : match lo with | none => l = 0 | some p => p.2 = l) (hh : match hi with | none => h = xs.length | some p => p.2 = h) (hlh : l ≤ h) (hhn : h ≤ xs.length) (hys : (xs.take h).drop l = ys) (hN : d < bs.N) (hc : cOk ((x, slV tag nn K xs) :: (oOps lo ++ oOps hi))) :
    ORule P bs ⟨some d, .slice t x lo' hi' none, ty, pos, af, gd⟩ ⟨rtOf ((x, slV tag nn K xs) :: (oOps lo ++ oOps hi)), [], [(d, slV tag nn K ys)], []⟩ := by
  subst hys
  exact r_sliceS (n := xs.length) (el := elOf K xs) ht hinf hsz hlo' hhi' hl hh hlh hhn (fun i j hij => elOf_cut K xs l h hhn i j hij) (cut_len xs l h hhn).symm hN hc

theorem q_clip (tag nn : Bool) (K : Kd α) (xs : List α) {d : Nat} {x y z : Operand} {p q : Int} {t e ty : TypeId} {pos : String} {af : Array Edge} {gd : Option (Nat × Bool)} {inf : TypeInfo} (ht : P.underlying t = some (.slice e)) (hinf : P.info? e = some inf) (hsz : inf.size = K.sz)
    (hp : p = (xs.length : Nat)) (hq : q = (xs.length : Nat)) (hN : d < bs.N) (hc : cOk [(x, slV tag nn K xs), (y, dv (.int .i64 p)), (z, dv (.int .i64 q))]) :
    ORule P bs ⟨some d, .slice t x none (some y) (some z), ty, pos, af, gd⟩ ⟨rtOf [(x, slV tag nn K xs), (y, dv (.int .i64 p)), (z, dv (.int .i64 q))], [], [(d, sv (.cl tag nn K.sz xs.length (elOf K xs)))], []⟩ := r_clip ht hinf hsz hp hq hN hc

abbrev clV (tag nn : Bool) (K : Kd α) (xs : List α) : AV := sv (.cl tag nn K.sz xs.length (elOf K xs))
abbrev ownV (l : Nat) (K : Kd α) (off n : Nat) : AV := sv (.own l K.sz off n)

/-- What may be appended, over kinds. -/
def srcK (rh : List (Nat × HS)) (K : Kd α) (ys : List α) : SV → Prop := srcLike rh K.sz ys.length (elOf K ys)
theorem src_sl (tag nn : Bool) (K : Kd α) (ys : List α) : srcK [] K ys (.d (dsl tag nn K ys)) := ⟨rfl, rfl, fun _ _ _ => rfl⟩
theorem src_cl (tag nn : Bool) (K : Kd α) (ys : List α) : srcK [] K ys (.cl tag nn K.sz ys.length (elOf K ys)) := ⟨rfl, rfl, fun _ _ _ => rfl⟩
theorem src_nil (K : Kd α) : srcK [] K [] (.d (.val (.slice none 0 0))) := ⟨rfl, rfl⟩
theorem src_own (l T : Nat) (K : Kd α) (ys : List α) : srcK [(l, .live (arrK T K ys))] K ys (.own l K.sz 0 ys.length) :=
  ⟨rfl, rfl, T, ys.length, elOf K ys, by simp [arrK], by omega, fun i j _ => by rw [Nat.zero_add]⟩
theorem src_cut (l T : Nat) (K : Kd α) (ys zs : List α) (a b : Nat) (hab : a ≤ b) (hb : b ≤ ys.length) (hz : (ys.take b).drop a = zs) {n : Nat} (hn : b - a = n) : srcK [(l, .live (arrK T K ys))] K zs (.own l K.sz a n) := by
  subst hz
  subst hn
  refine ⟨rfl, (cut_len ys a b hb).symm, T, ys.length, elOf K ys, by simp [arrK], by rw [cut_len ys a b hb]; omega, fun i j hi => ?_⟩
  rw [cut_len ys a b hb] at hi
  exact elOf_cut K ys a b hb i j hi

theorem q_appendO (l l2 e bytes : Nat) (K : Kd α) (hK : KOk K) (xs ys zs : List α) (n : Nat) {d : Nat} {x y : Operand} {sy : SV} {rhs : List (Nat × HS)} {t ty : TypeId} {pos : String} {af : Array Edge} {gd : Option (Nat × Bool)} (hE : Elem P t e K.sz bytes) (hn : n ≤ xs.length) (hy : srcK rhs K ys sy) (hzs : xs.take n ++ ys = zs)
    (h63 : n + ys.length ≤ maxLen) (hb : (n + ys.length) * bytes ≤ 140737488355328) (hN : d < bs.N) (hc : cOk [(x, ownV l K 0 n), (y, sv sy)]) :
    ORule P bs ⟨some d, .call { callee := .builtin .append, args := #[x, y], argTypes := #[t, t] }, ty, pos, af, gd⟩
      ⟨rtOf [(x, ownV l K 0 n), (y, sv sy)], (l, .live (arrK e K xs)) :: (l2, .free) :: rhs, [(d, ownV l2 K 0 zs.length)], [(l, .dead), (l2, .live (arrK e K zs))]⟩ := by
  subst hzs
  have hlen : (xs.take n).length = n := by simp; omega
  refine r_appendO (el := elOf K xs) (el2 := elOf K ys) hE hn hy (fun i j _ hj => hK.2 _ j hj) h63 hb (fun i j hi => ?_) (by simp; omega) hN hc
  rw [elOf_app, hlen]
  split
  · have := elOf_cut K xs 0 n hn i j (by omega)
    simpa using this
  · rfl

theorem q_appendN (l2 e bytes : Nat) (K : Kd α) (hK : KOk K) (ys : List α) {d : Nat} {x y : Operand} {sy : SV} {rhs : List (Nat × HS)} {t ty : TypeId} {pos : String} {af : Array Edge} {gd : Option (Nat × Bool)} (hE : Elem P t e K.sz bytes) (hy : srcK rhs K ys sy)
    (h63 : ys.length ≤ maxLen) (hb : ys.length * bytes ≤ 140737488355328) (hN : d < bs.N) (hc : cOk [(x, dv (.slice none 0 0)), (y, sv sy)]) :
    ORule P bs ⟨some d, .call { callee := .builtin .append, args := #[x, y], argTypes := #[t, t] }, ty, pos, af, gd⟩
      ⟨rtOf [(x, dv (.slice none 0 0)), (y, sv sy)], (l2, .free) :: rhs, [(d, ownV l2 K 0 ys.length)], [(l2, .live (arrK e K ys))]⟩ :=
  r_appendN hE hy (fun i j _ hj => hK.2 _ j hj) h63 hb hN hc

theorem q_appendC (l2 e bytes : Nat) (tag nn : Bool) (K : Kd α) (hK : KOk K) (xs ys zs : List α) {d : Nat} {x y : Operand} {sy : SV} {rhs : List (Nat × HS)} {t ty : TypeId} {pos : String} {af : Array Edge} {gd : Option (Nat × Bool)} (hE : Elem P t e K.sz bytes) (hm : 0 < ys.length) (hy : srcK rhs K ys sy) (hzs : xs ++ ys = zs)
    (h63 : xs.length + ys.length ≤ maxLen) (hb : (xs.length + ys.length) * bytes ≤ 140737488355328) (hN : d < bs.N) (hc : cOk [(x, clV tag nn K xs), (y, sv sy)]) :
    ORule P bs ⟨some d, .call { callee := .builtin .append, args := #[x, y], argTypes := #[t, t] }, ty, pos, af, gd⟩
      ⟨rtOf [(x, clV tag nn K xs), (y, sv sy)], (l2, .free) :: rhs, [(d, ownV l2 K 0 zs.length)], [(l2, .live (arrK e K zs))]⟩ := by
  subst hzs
  exact r_appendC (el := elOf K xs) (el2 := elOf K ys) hE hm hy h63 hb (fun i j _ => elOf_app K xs ys i j) (by simp) hN hc

theorem q_buildSlice (l e : Nat) (K : Kd α) (hK : KOk K) (ys : List α) (ps : List Part) {cs : List SV} {zs : List Value} {d len : Nat} {xs : Array (Nat × Operand)} {t ty : TypeId} {pos : String} {af : Array Edge} {gd : Option (Nat × Bool)} (ht : P.underlying t = some (.slice e)) {inf : TypeInfo} (hi : P.info? e = some inf) (hsz : inf.size = K.sz) (hz : Zero P e zs) (hzl : zs.length = K.sz) (hlen : len = ys.length) (hx : xs = (ps.map fun p => (p.i, p.x)).toArray) (hle : ys.length * K.sz ≤ 16777216)
    (hok : partsOk (fun i => some (i * K.sz, K.sz)) (ys.length * K.sz) ps) (hcs : fillS ((List.range (ys.length * K.sz)).map fun k => .d (.val (zs.getD (k % K.sz) undef))) (partsFill ps) = cs) (hwk : all2 wkS cs (flat ys.length K.sz (elOf K ys))) (hN : d < bs.N) (hc : cOk (partsOps ps)) :
    ORule P bs ⟨some d, .buildSlice t len xs, ty, pos, af, gd⟩ ⟨rtOf (partsOps ps), [(l, .free)], [(d, ownV l K 0 ys.length)], [(l, .live (arrK e K ys))]⟩ := by
  subst hlen
  have : ys.length ≤ 16777216 := Nat.le_trans (Nat.le_mul_of_pos_right _ hK.1) hle
  exact r_buildSliceW ht hi hsz hz hzl hK.1 hx hle (by simp only [maxLen]; omega) hok hcs hwk hN hc

theorem q_strOf (K' : Unit) (xs : List UInt8) {d : Nat} {x : Operand} {ys : SV} {rhs : List (Nat × HS)} {src dst e ty : TypeId} {pos : String} {af : Array Edge} {gd : Option (Nat × Bool)} (hs : P.underlying src = some (.slice e)) (he' : P.underlying e = some (.int .u8)) (hd : P.underlying dst = some .string) (hy : srcK rhs kU8 xs ys) (hN : d < bs.N) (hc : cOk [(x, sv ys)]) :
    ORule P bs ⟨some d, .convert src dst x, ty, pos, af, gd⟩ ⟨rtOf [(x, sv ys)], rhs, [(d, dv (strV xs))], []⟩ := r_strOf hs he' hd hy hN hc
end

theorem part_ok {place : Nat → Option (Nat × Nat)} {n : Nat} : partsOk place n [] := fun _ h => by cases h
theorem part_cons {place : Nat → Option (Nat × Nat)} {n : Nat} {p : Part} {l : List Part} (h1 : oneOk p.t = true) (h2 : place p.i = some (p.off, (tvCells p.t).length)) (h3 : p.off + (tvCells p.t).length ≤ n) (h : partsOk place n l) : partsOk place n (p :: l) := fun q hq => by
  cases hq with
  | head => exact ⟨h1, h2, h3⟩
  | tail _ hq => exact h q hq

theorem Ends.turn {s s' : St} {e : Exit} {Q : Exit → Act → World → Prop} (h : ∀ a w, Gs bs s a w → Gs bs s' a w) (ht : Ends bs s' e Q) : Ends bs s e Q := fun a w hG => ht a w (h a w hG)

theorem kInt_nt (k : IntKind) : ∀ x j, noTag ((kInt k).cell x j) := fun _ _ => trivial
theorem kU8_nt : ∀ x j, noTag (kU8.cell x j) := fun _ _ => trivial
theorem kBool_nt : ∀ x j, noTag (kBool.cell x j) := fun _ _ => trivial
theorem kStr_nt : ∀ x j, noTag (kStr.cell x j) := fun _ _ => trivial
theorem dsl_nt {α : Type} {K : Kd α} {nn : Bool} {xs : List α} (h : ∀ x j, noTag (K.cell x j)) : noTag (dsl false nn K xs) := ⟨rfl, fun _ _ => h _ _⟩
theorem kSl_nt {α : Type} {K : Kd α} (h : ∀ x j, noTag (K.cell x j)) : ∀ x j, noTag ((kSl false K).cell x j) := fun _ _ => dsl_nt h
theorem arr_nt {α : Type} {K : Kd α} {T : Nat} {xs : List α} (h : ∀ x j, noTag (K.cell x j)) : noTagH (.live (arrK T K xs)) := fun _ _ => h _ _

theorem r_makeFunc {d : Nat} {fn : Fn} {fs cs : List (Operand × Value)} {xs ys : Array Operand} {ty : TypeId} {pos : String} {af : Array Edge} {gd : Option (Nat × Bool)} (hx : xs = (fs.map (·.1)).toArray) (hy : ys = (cs.map (·.1)).toArray) (hN : d < bs.N) (hc : cOk ((fs ++ cs).map fun p => (p.1, dv p.2))) :
    ORule P bs ⟨some d, .makeFunc fn xs ys, ty, pos, af, gd⟩ ⟨rtOf ((fs ++ cs).map fun p => (p.1, dv p.2)), [], [(d, dv (.func fn (fs.map (·.2)).toArray (cs.map (·.2)).toArray))], []⟩ :=
  .val rfl hN hc fun B S U s a w g hh he => by
    have key : ∀ l : List (Operand × Value), evs B S U a w (l.map fun p => (p.1, dv p.2)) → l.map (fun p => a.eval p.1) = l.map (·.2) := by
      intro l
      induction l with
      | nil => intro _; rfl
      | cons p l ih => intro h; have h1 : a.eval p.1 = p.2 := h.1; simp only [List.map_cons, h1, ih h.2]
    rw [List.map_append] at he
    obtain ⟨h1, h2⟩ := evs_append.1 he
    subst hx
    subst hy
    refine ⟨Value.func fn (List.map (fun p : Operand × Value => p.2) fs).toArray (List.map (fun p : Operand × Value => p.2) cs).toArray, ?_, rfl⟩
    have e1 := key fs h1
    have e2 := key cs h2
    simp only [execOp, Instr.makeFunc, Sem.run_bind, Sem.run_pure, Result.andThen_ok, List.map_toArray, List.map_map, Function.comp_def, e1, e2]

theorem q_lenStr {d : Nat} (l : List UInt8) {x : Operand} {t ty : TypeId} {pos : String} {af : Array Edge} {gd : Option (Nat × Bool)} (ht : P.underlying t = some .string) (hN : d < bs.N) (hc : cOk [(x, dv (strV l))]) :
    ORule P bs ⟨some d, .call { callee := .builtin .len, args := #[x], argTypes := #[t] }, ty, pos, af, gd⟩ ⟨rtOf [(x, dv (strV l))], [], [(d, dv (.int .i64 (l.length : Nat)))], []⟩ := by
  have := r_lenStr (P := P) (bs := bs) (b := ⟨l.toArray⟩) (d := d) (x := x) (ty := ty) (pos := pos) (af := af) (gd := gd) ht hN hc
  have hs : (⟨l.toArray⟩ : ByteArray).size = l.length := by simp [ByteArray.size]
  rw [hs] at this
  exact this

section
variable {α : Type} {K : Kd α}
theorem q_storeA (l T : Nat) (K : Kd α) (xs : List α) (v : α) (i j m : Nat) (ds : List DV) {off : Nat} {x y : Operand} {tv : TV} {t ty : TypeId} {pos : String} {af : Array Edge} {gd : Option (Nat × Bool)} (hn : Cells P t m) (hds : all2 wkS (tvCells tv) (ds.map SV.d)) (hl : ds.length = m) (ho : off = i * K.sz + j) (hi : i < xs.length) (hj : j + m ≤ K.sz) (hok : (tvCells tv).all cellS = true)
    (hv : ∀ j', j' < K.sz → K.cell v j' = if j ≤ j' ∧ j' < j + m then ds.getD (j' - j) .any else K.cell (xs.getD i K.z) j') (hc : cOk [(x, pv l off), (y, .tv tv)]) :
    ORule P bs ⟨none, .store t x y, ty, pos, af, gd⟩ ⟨rtOf [(x, pv l off), (y, .tv tv)], [(l, .live (arrK T K xs))], [], [(l, .live (arrK T K (xs.set i v)))]⟩ := by
  have h := r_storeAW (P := P) (bs := bs) (l := l) (off := off) (i := i) (j := j) (m := m) (x := x) (y := y) (T := T) (sz := K.sz) (n := xs.length) (el := elOf K xs) (el' := elOf K (xs.set i v)) (ds := ds) (tv := tv) (t := t) (ty := ty) (pos := pos) (af := af) (gd := gd) hn hds hl ho hi hj hok (fun i' j' hi' hj' => by
    unfold elOf
    by_cases e : i' = i
    · subst e
      have : (xs.set i' v).getD i' K.z = v := by simp [List.getD_eq_getElem?_getD, hi']
      rw [this, hv j' hj']
      by_cases hcase : j ≤ j' ∧ j' < j + m
      · rw [if_pos hcase, if_pos ⟨rfl, hcase.1, hcase.2⟩]
      · rw [if_neg hcase, if_neg (fun h => hcase ⟨h.2.1, h.2.2⟩)]
    · have : (xs.set i v).getD i' K.z = xs.getD i' K.z := by simp [List.getD_eq_getElem?_getD, List.getElem?_set, Ne.symm e]
      rw [this, if_neg (fun h => e h.1)]) hc
  have hlen : arrK T K (xs.set i v) = .arr T K.sz xs.length (elOf K (xs.set i v)) := by simp [arrK]
  rw [hlen]
  exact h

theorem q_make (l e bytes : Nat) (K : Kd α) (xs : List α) (k n : Nat) {d : Nat} {zs : List Value} {x y : Operand} {p q : Int} {t ty : TypeId} {pos : String} {af : Array Edge} {gd : Option (Nat × Bool)} (hE : Elem P t e K.sz bytes) (hz : Zero P e zs) (hp : p = k) (hq : q = n) (hkn : k ≤ n) (hb : bytes * n ≤ 281474976710656) (h63 : n ≤ maxLen) (hel : ∀ j, j < K.sz → K.cell K.z j = .val (zs.getD j undef)) (hxs : xs = List.replicate k K.z) (hN : d < bs.N) (hc : cOk [(x, dv (.int .i64 p)), (y, dv (.int .i64 q))]) :
    ORule P bs ⟨some d, .makeSlice t x y, ty, pos, af, gd⟩ ⟨rtOf [(x, dv (.int .i64 p)), (y, dv (.int .i64 q))], [(l, .free)], [(d, ownV l K 0 xs.length)], [(l, .live (arrK e K xs))]⟩ := by
  subst hxs
  have := r_make (P := P) (bs := bs) (l := l) (d := d) (k := k) (n := n) (el := elOf K (List.replicate k K.z)) (x := x) (y := y) (t := t) (ty := ty) (pos := pos) (af := af) (gd := gd) hE hz hp hq hkn hb h63 (fun i j hi hj => by
    unfold elOf
    have : (List.replicate k K.z).getD i K.z = K.z := by simp [List.getD_eq_getElem?_getD, List.getElem?_replicate, hi]
    rw [this]
    exact hel j hj) hN hc
  simpa [arrK, ownV] using this
end

/-- A nil slice is a slice of an object that has no block yet. -/
theorem Gs.absent {α : Type} {s : St} {a : Act} {w : World} (l k T : Nat) (K : Kd α) (hl : hget s.h l = .free) (hk : tget s.t k = dv (.slice none 0 0)) (hG : Gs bs s a w) : Gs bs ⟨tset s.t k (ownV l K 0 0), hset s.h l (.live (arrK T K []))⟩ a w := by
  obtain ⟨B, S, U, g⟩ := hG
  have hBl := g.fr l hl
  have hB : ∀ k p, B k = some p → bset B l none k = some p := fun k p hp => by
    unfold bset
    split
    · rename_i h; subst h; rw [hBl] at hp; cases hp
    · exact hp
  have mono := avOk_mono (B := B) (B' := bset B l none) (S := S) (S' := S) (U := U) (U' := U) (w := w) (w' := w) hB (fun _ h => h) (fun _ h => h) (Pres.refl _ _)
  have hlv : ∀ k' o, hget (hset s.h l (.live (arrK T K []))) k' = .live o → k' ≠ l → hget s.h k' = .live o := fun k' o e hne => by rw [hget_hset, if_neg hne] at e; exact e
  refine ⟨bset B l none, S, U, { df := g.df, sz := g.sz, tm := fun j => ?_, ob := fun k' o e => ?_, nj := fun k1 k2 o o' e e' hne p p' hp hp' => ?_, sp := fun k' o p e hp => ?_, cf := fun k' o p e hp => ?_, fr := fun k' e => ?_, su := g.su, ub := g.ub, s0 := g.s0, u0 := g.u0, sn := g.sn, un := g.un, ps := g.ps, hs := g.hs, os := g.os, tp := g.tp, op := g.op, bl := fun k' p e => hB k' p (g.bl k' p e), bk := g.bk }⟩
  · show avOk _ S U w (tget (tset s.t k (ownV l K 0 0)) j) (a.tmps.getD j undef)
    rw [tget_tset]
    split
    · rename_i e
      subst e
      have hv := g.tm j
      rw [hk] at hv
      exact .inl ⟨by simp [bset], rfl, rfl, hv⟩
    · exact mono _ _ (g.tm j)
  · by_cases h : k' = l
    · subst h
      rw [hget_hset, if_pos rfl] at e
      cases e
      exact .inl ⟨by simp [bset], rfl⟩
    · exact obOk_mono hB (fun _ h => h) (fun _ h => h) (Pres.refl _ _) (fun _ _ => rfl) (g.ob k' o (hlv k' o e h))
  · have n1 : k1 ≠ l := fun h => by rw [h] at hp; simp [bset] at hp
    have n2 : k2 ≠ l := fun h => by rw [h] at hp'; simp [bset] at hp'
    simp only [bset, if_neg n1] at hp
    simp only [bset, if_neg n2] at hp'
    exact g.nj k1 k2 o o' (hlv _ _ e n1) (hlv _ _ e' n2) hne p p' hp hp'
  · have n1 : k' ≠ l := fun h => by rw [h] at hp; simp [bset] at hp
    simp only [bset, if_neg n1] at hp
    exact g.sp k' o p (hlv _ _ e n1) hp
  · have n1 : k' ≠ l := fun h => by rw [h] at hp; simp [bset] at hp
    simp only [bset, if_neg n1] at hp
    exact g.cf k' o p (hlv _ _ e n1) hp
  · by_cases h : k' = l
    · subst h; rw [hget_hset, if_pos rfl] at e; cases e
    · rw [hget_hset, if_neg h] at e
      simp only [bset, if_neg h]
      exact g.fr k' e
end Go.Proofs.Ytacikihlgpnjhaa.Q
