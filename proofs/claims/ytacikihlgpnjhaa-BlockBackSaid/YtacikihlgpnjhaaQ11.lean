import Derived.Test.YtacikihlgpnjhaaQ10
import Derived.Laws.BytesArg
import Derived.Laws.MakeOwn
namespace Go.Proofs.Ytacikihlgpnjhaa.Q
open Go Go.RowKit
set_option linter.unusedVariables false
set_option linter.unusedSimpArgs false

variable {P : Program} {bs : Base}

def kU8 : Kd UInt8 := ⟨1, fun b _ => .val (.int .u8 b.toNat), 0⟩

/-! ### Bytes and strings -/

theorem G.share {B : Bk} {S U : Nat → Prop} {s : St} {a : Act} {w w' : World} (g : G bs B S U s a w) (hold : ∀ b, b < w.heap.size → w'.heap[b]? = w.heap[b]?) (hsz : w'.heap.size = w.heap.size + 1) (hos : w'.os = w.os) (htp : w'.tape = w.tape) (hop : w'.output = w.output) :
    G bs B (fun b => S b ∨ b = w.heap.size) (fun b => U b ∨ b = w.heap.size) s a w' := by
  refine g.upd (fun _ => False) s.h (fun _ _ => rfl) (fun _ _ h => h) (fun _ _ => rfl) (fun _ h => .inl h) (fun _ h => .inl h) (fun b h => h.imp (g.su b) id) (fun b h => ?_) (fun b h => ?_) (fun b h => ?_) (fun _ _ h => h.elim) (fun _ _ _ _ _ _ h => h.elim) (fun b hb _ => hold b hb) (fun _ h => h.elim) (fun k o q _ hk hq h => ?_) (by omega) hos htp hop
  · rcases h with h | h
    · have := g.ub b h; omega
    · omega
  · rcases h with h | h
    · exact .inl h
    · have := g.hs; exact .inr (.inr (by omega))
  · rcases h with h | h
    · exact .inl h
    · have := g.hs; exact .inr (.inr (by omega))
  · rcases h with h | h
    · exact g.sp k o q hk hq h
    · have := obOk_lt (g.ob k o hk) hq; omega

theorem bytesWorld_rest (w : World) (e : TypeId) (s : ByteArray) : (Lib.bytesWorld w e s).os = w.os ∧ (Lib.bytesWorld w e s).tape = w.tape ∧ (Lib.bytesWorld w e s).output = w.output := by
  simp [Lib.bytesWorld, World.freeze, World.alloc, World.drew, -World.alloc_eq, -World.drew_eq]

/-- '[]byte(s)': bytes that are shared. -/
theorem r_bytesOf {d : Nat} {x : Operand} {l : List UInt8} {src dst e ty : TypeId} {pos : String} {af : Array Edge} {gd : Option (Nat × Bool)} (hs : P.underlying src = some .string) (hd : P.underlying dst = some (.slice e)) (he' : P.underlying e = some (.int .u8)) (hN : d < bs.N) (hc : cOk [(x, dv (strV l))]) :
    ORule P bs ⟨some d, .convert src dst x, ty, pos, af, gd⟩ ⟨rtOf [(x, dv (strV l))], [], [(d, slV false true kU8 l)], []⟩ := by
  intro Q K s a w hG hsat hK
  obtain ⟨B, S, U, g⟩ := hG
  have hx : a.eval x = strV l := (evals g hsat.1 hc).1
  have hr := Lib.run_convert_string_bytes (P := P) w src dst e ⟨l.toArray⟩ hs hd he'
  obtain ⟨h1, h2, h3⟩ := bytesWorld_rest w e ⟨l.toArray⟩
  have g' := g.share (w' := Lib.bytesWorld w e ⟨l.toArray⟩) (fun b hb => Lib.bytesWorld_at_old w e _ b hb) (Lib.bytesWorld_size w e _) h1 h2 h3
  unfold Oper.wp
  have hrun : (execOp a.eval ⟨some d, .convert src dst x, ty, pos, af, gd⟩).run P w = .ok (.value (.slice (some ⟨w.heap.size, 0, none⟩) l.length (grownCap w l.length 0 e))) (Lib.bytesWorld w e ⟨l.toArray⟩) := by
    have : (⟨l.toArray⟩ : ByteArray).size = l.length := by simp [ByteArray.size]
    rw [this] at hr
    simp only [execOp, hx, strV, Sem.run_bind, hr, Result.andThen_ok, Sem.run_pure]
  rw [hrun, Oper.upon_value]
  refine hK _ _ ⟨B, _, _, g'.put hN ?_⟩
  refine ⟨some ⟨w.heap.size, 0, none⟩, grownCap w l.length 0 e, rfl, grownCap_ge w _ _ _, by simp, by simp, fun i hi => ⟨⟨w.heap.size, 0, none⟩, rfl, rfl, .inr rfl, fun j hj => ?_⟩⟩
  have hj0 : j = 0 := by have : j < 1 := hj; omega
  subst hj0
  have hsz : (⟨l.toArray⟩ : ByteArray).size = l.length := by simp [ByteArray.size]
  have hcell := Lib.bytesWorld_cell w e ⟨l.toArray⟩ i (by rw [hsz]; exact hi)
  refine ⟨_, ?_, rfl⟩
  simpa [kU8] using hcell

theorem bytes_cells {S U : Nat → Prop} {w : World} {xs : List UInt8} {cs : List Value} (h : rowOk S U w 1 xs.length (elOf kU8 xs) cs) : cs = xs.map fun b => Value.int .u8 b.toNat := by
  obtain ⟨h1, h2⟩ := h
  apply List.ext_getElem? 
  intro i
  by_cases hi : i < xs.length
  · obtain ⟨u, hu, hd⟩ := h2 i hi 0 (by omega)
    have hd' : u = .int .u8 (xs.getD i 0).toNat := hd
    rw [Nat.mul_one, Nat.add_zero] at hu
    rw [hu, hd']
    simp [List.getElem?_eq_getElem hi]
  · rw [List.getElem?_eq_none (by omega), List.getElem?_eq_none (by simp; omega)]

/-- 'string(b)'. -/
theorem r_strOf {d : Nat} {x : Operand} {ys : SV} {rhs : List (Nat × HS)} {xs : List UInt8} {src dst e ty : TypeId} {pos : String} {af : Array Edge} {gd : Option (Nat × Bool)} (hs : P.underlying src = some (.slice e)) (he' : P.underlying e = some (.int .u8)) (hd : P.underlying dst = some .string) (hy : srcLike rhs 1 xs.length (elOf kU8 xs) ys) (hN : d < bs.N) (hc : cOk [(x, sv ys)]) :
    ORule P bs ⟨some d, .convert src dst x, ty, pos, af, gd⟩ ⟨rtOf [(x, sv ys)], rhs, [(d, dv (strV xs))], []⟩ :=
  .val rfl hN hc fun B S U s a w g hh he => by
    obtain ⟨ao, c, cs, hv, hr, hnone, hcell⟩ := src_cells g hh hy he.1
    have hcs := bytes_cells hr
    refine ⟨strV xs, ?_, rfl⟩
    have hv' : a.eval x = .slice ao xs.length c := hv
    have hconv := run_convert_bytes_string (P := P) w src dst e ao xs.length c hs he' hd
    have hb : (Conv.bytesToString (.slice ao xs.length c)).run P w = .ok (strV xs) w := by
      cases ao with
      | none =>
        have : xs = [] := List.eq_nil_of_length_eq_zero (hnone rfl).1
        subst this
        rfl
      | some ad =>
        have hl := run_loadCells_list (P := P) w ad cs (hcell ad rfl)
        have hlen : cs.length = xs.length := by have := hr.1; omega
        rw [hlen, hcs] at hl
        have hmm : xs.map (fun b => Value.int .u8 (b.toNat : Int)) = (xs.map fun b => (b.toNat : Int)).map (Value.int .u8) := by simp
        rw [hmm] at hl
        rw [run_bytesToString w ad xs.length c _ hl, foldl_push_bytes]
        have hid : ∀ ys : List UInt8, ((ys.map fun b => (b.toNat : Int)).map fun n => UInt8.ofNat n.toNat) = ys := by
          intro ys
          induction ys with
          | nil => rfl
          | cons b ys ih => simp only [List.map_cons, ih]; congr 1; simp
        rw [hid]
        have hemp : (ByteArray.empty.data ++ xs.toArray : Array UInt8) = xs.toArray := by
          show (#[] ++ xs.toArray : Array UInt8) = xs.toArray
          simp
        rw [hemp]
        rfl
    simp only [execOp, hv', Sem.run_bind, hconv, hb, Result.andThen_ok, Sem.run_pure]

/-- 's[i]', s a string. -/
theorem r_indexStr {d : Nat} {x y : Operand} {l : List UInt8} {k : IntKind} {i : Int} {m : Nat} {b : UInt8} {t ty : TypeId} {pos : String} {af : Array Edge} {gd : Option (Nat × Bool)} (ht : P.underlying t = some .string) (hi : i = m) (hm : m < l.length) (hb : l.getD m 0 = b) (hN : d < bs.N) (hc : cOk [(x, dv (strV l)), (y, dv (.int k i))]) :
    ORule P bs ⟨some d, .index t x y, ty, pos, af, gd⟩ ⟨rtOf [(x, dv (strV l)), (y, dv (.int k i))], [], [(d, dv (.int .u8 b.toNat))], []⟩ :=
  .val rfl hN hc fun B S U s a w g hh he => by
    have hx : a.eval x = strV l := he.1
    have hy : a.eval y = .int k i := he.2.1
    subst hi
    refine ⟨.int .u8 b.toNat, ?_, rfl⟩
    have hget : (⟨l.toArray⟩ : ByteArray)[m]? = some b := by
      have hsz : m < (⟨l.toArray⟩ : ByteArray).size := by simpa [ByteArray.size] using hm
      rw [getElem?_pos (⟨l.toArray⟩ : ByteArray) m hsz, ← hb]
      congr 1
      simp [List.getD_eq_getElem?_getD, List.getElem?_eq_getElem hm]
      rfl
    simp only [execOp, Instr.index, hx, hy, strV, Sem.run_bind, asIntOf, Sem.run_pure, Result.andThen_ok, run_underlying' ht]
    simp [hget]

/-- 's[lo:hi]', s a string. -/
theorem r_sliceStr {d l h : Nat} {x : Operand} {s0 : List UInt8} {lo hi : Option (Operand × Int)} {lo' hi' : Option Operand} {t ty : TypeId} {pos : String} {af : Array Edge} {gd : Option (Nat × Bool)} (ht : P.underlying t = some .string) (hlo' : lo' = lo.map (·.1)) (hhi' : hi' = hi.map (·.1)) (hl : match lo with | none => l = 0 | some p => p.2 = l) (hh : match hi with | none => h = s0.length | some p => p.2 = h) (hlh : l ≤ h) (hhn : h ≤ s0.length) {s1 : List UInt8} (hs1 : (s0.take h).drop l = s1) (hN : d < bs.N) (hc : cOk ((x, dv (strV s0)) :: (oOps lo ++ oOps hi))) :
    ORule P bs ⟨some d, .slice t x lo' hi' none, ty, pos, af, gd⟩ ⟨rtOf ((x, dv (strV s0)) :: (oOps lo ++ oOps hi)), [], [(d, dv (strV s1))], []⟩ :=
  .val rfl hN hc fun B S U s a w g _ he => by
    have hx : a.eval x = strV s0 := he.1
    obtain ⟨he1, he2⟩ := evs_append.1 he.2
    subst hlo'
    subst hhi'
    have hsz : (⟨s0.toArray⟩ : ByteArray).size = s0.length := by simp [ByteArray.size]
    have hb : boundsOk s0.length s0.length lo hi none l h s0.length := by
      refine ⟨rfl, ?_, ?_⟩
      · cases hi with
        | none => exact hh
        | some p => exact ⟨hh, by omega⟩
      · cases lo with
        | none => exact hl
        | some p => exact ⟨hl, hlh⟩
    have hmx := run_sliceBounds (P := P) (sl := false) (w := w) hb
    refine ⟨strV s1, ?_, rfl⟩
    have hex : (⟨s0.toArray⟩ : ByteArray).extract l h = ⟨s1.toArray⟩ := by
      rw [← hs1]
      apply ByteArray.ext
      simp [ByteArray.data_extract, List.take_drop]
      rw [show l + (h - l) = h by omega]
    simp only [execOp, Instr.sliceAt, Instr.slice, hx, strV, oOps_eval he1, oOps_eval he2, Sem.run_bind, Option.map_none, Option.isSome_none, Bool.false_eq_true, if_false, run_underlying' ht, Result.andThen_ok, hsz] at hmx ⊢
    rw [hmx]
    simp only [Result.andThen_ok, Sem.run_pure, hex]

/-! ### New arrays -/

def flat (n sz : Nat) (el : Nat → Nat → DV) : List SV := (List.range n).flatMap fun i => (List.range sz).map fun j => .d (el i j)

theorem flat_get {n sz : Nat} {el : Nat → Nat → DV} : ∀ i, i < n → ∀ j, j < sz → (flat n sz el)[i * sz + j]? = some (.d (el i j)) := by
  induction n with
  | zero => intro i hi; omega
  | succ n ih =>
    intro i hi j hj
    have hs : flat (n + 1) sz el = flat n sz el ++ ((List.range sz).map fun j => SV.d (el n j)) := by simp [flat, List.range_succ]
    have hlen : (flat n sz el).length = n * sz := by
      have : ∀ n, (flat n sz el).length = n * sz := by
        intro n
        induction n with
        | zero => simp [flat]
        | succ n ih =>
          have hs : flat (n + 1) sz el = flat n sz el ++ ((List.range sz).map fun j => SV.d (el n j)) := by simp [flat, List.range_succ]
          rw [hs, List.length_append, ih, Nat.add_mul]
          simp
      exact this n
    rw [hs]
    by_cases h : i < n
    · have hlt : i * sz + j < n * sz := by
        calc i * sz + j < i * sz + sz := by omega
          _ = (i + 1) * sz := by rw [Nat.add_mul, Nat.one_mul]
          _ ≤ n * sz := Nat.mul_le_mul_right _ h
      rw [List.getElem?_append_left (by omega)]
      exact ih i h j hj
    · have : i = n := by omega
      subst this
      rw [List.getElem?_append_right (by omega), hlen, show i * sz + j - i * sz = j by omega]
      simp [hj]

theorem r_buildSliceW {d l e sz len : Nat} {zs : List Value} {ps : List Part} {el : Nat → Nat → DV} {cs : List SV} {xs : Array (Nat × Operand)} {t ty : TypeId} {pos : String} {af : Array Edge} {gd : Option (Nat × Bool)} (ht : P.underlying t = some (.slice e)) {inf : TypeInfo} (hi : P.info? e = some inf) (hsz : inf.size = sz) (hz : Zero P e zs) (hzl : zs.length = sz) (hpos : 0 < sz) (hx : xs = (ps.map fun p => (p.i, p.x)).toArray) (hle : len * sz ≤ 16777216) (h63 : len ≤ maxLen)
    (hok : partsOk (fun i => some (i * sz, sz)) (len * sz) ps) (hcs : fillS ((List.range (len * sz)).map fun k => .d (.val (zs.getD (k % sz) undef))) (partsFill ps) = cs) (hwk : all2 wkS cs (flat len sz el)) (hN : d < bs.N) (hc : cOk (partsOps ps)) :
    ORule P bs ⟨some d, .buildSlice t len xs, ty, pos, af, gd⟩ ⟨rtOf (partsOps ps), [(l, .free)], [(d, sv (.own l sz 0 len))], [(l, .live (.arr e sz len el))]⟩ :=
  .heap rfl hN hc fun B S U s a w g hh he => by
    obtain ⟨i, z, h1, h2, h3⟩ := hz
    rw [hi] at h1
    cases h1
    subst hsz
    have hzsz : z.cells.size = inf.size := by rw [← hzl, ← h3]; simp
    let base : Array Value := (Array.range (len * inf.size)).map (z.cells[· % inf.size]!)
    have hbase : base = (Array.range (len * inf.size)).map (z.cells[· % z.cells.size]!) := by simp [base, hzsz]
    have hbsz : base.size = len * inf.size := by simp [base]
    have hb : all2 (svOk B S U w) ((List.range (len * inf.size)).map fun k => SV.d (.val (zs.getD (k % inf.size) undef))) base.toList := by
      refine all2_of_get (by simp [base]) fun k x v hx hv => ?_
      rw [List.getElem?_map] at hx
      have hk : k < len * inf.size := by
        have := (List.getElem?_eq_some_iff.1 hv).1
        simpa [base] using this
      rw [List.getElem?_range hk] at hx
      simp only [Option.map_some, Option.some.injEq] at hx
      subst hx
      have hmod : k % inf.size < z.cells.size := by rw [hzsz]; exact Nat.mod_lt _ hpos
      have hv' : v = z.cells[k % inf.size]! := by
        simp only [base, Array.toList_map, Array.toList_range, List.getElem?_map, List.getElem?_range hk, Option.map_some, Option.some.injEq] at hv
        exact hv.symm
      show v = zs.getD (k % inf.size) undef
      rw [hv', ← h3]
      simp [hmod]
    obtain ⟨out, ho, hall⟩ := fill_ok (fun i => some (i * inf.size, inf.size)) ps _ base he (by rw [hbsz]; exact hok) hb
    rw [hcs] at hall
    replace hall := all2_wk hwk hall
    have hosz : out.size = len * inf.size := by
      have := all2_len hall
      have hl : (flat len inf.size el).length = len * inf.size := by
        have : ∀ n, (flat n inf.size el).length = n * inf.size := by
          intro n
          induction n with
          | zero => simp [flat]
          | succ n ih =>
            have hs : flat (n + 1) inf.size el = flat n inf.size el ++ ((List.range inf.size).map fun j => SV.d (el n j)) := by simp [flat, List.range_succ]
            rw [hs, List.length_append, ih, Nat.add_mul]
            simp
        exact this len
      rw [hl] at this
      simpa using this.symm
    have hlf := hh.1
    have hm := svOk_alloc (B := B) (S := S) (U := U) (w := w) (l := l) (p := some (w.heap.size, len)) (o := .cells out e) (g.fr l hlf) fun b hb => hb.elim (fun h => g.ub b (g.su b h)) (g.ub b)
    refine ⟨.slice (some ⟨w.heap.size, 0, none⟩) len len, w.alloc (.cells out e), bset B l (some (w.heap.size, len)), S, U, ?_, g.alloc hlf _ _ len (.inr ⟨w.heap.size, len, out, by simp [bset], heap_alloc_new w _, hosz, Nat.le_refl _, h63, fun i hi j hj => ?_⟩), .inr ⟨w.heap.size, len, 0, len, by simp [bset], rfl, by omega, Nat.le_refl _, fun _ => by simp⟩⟩
    · subst hx
      have hps : (((ps.map fun p => (p.i, p.x)).toArray.map fun (q : Nat × Operand) => (q.1, a.eval q.2)).toList : List (Nat × Value)) = ps.map fun p => (p.i, a.eval p.x) := by simp
      have hn : ¬ (16777216 < len * inf.size) := by omega
      by_cases h0 : len * inf.size = 0
      · have hlen0 : len = 0 := by
          rcases Nat.mul_eq_zero.1 h0 with h | h
          · exact h
          · omega
        subst hlen0
        have hbe : base = #[] := by simp [base, Array.range_zero']
        rw [hbe] at ho
        simp only [execOp, Instr.buildSlice, Sem.run_bind, run_underlying' ht, Result.andThen_ok, run_sizeOf hi, hps]
        simp [ho, newRow, newObj, Sem.run, Array.range_zero']
      · simp only [execOp, Instr.buildSlice, Sem.run_bind, run_underlying' ht, Result.andThen_ok, run_sizeOf hi, hps]
        simp only [hbase] at ho
        simp [hn, h0, run_zeroValue hi h2, ho, newRow, newObj, Sem.run]
    · obtain ⟨u, hu, hd⟩ := all2_get hall (flat_get (n := len) (sz := inf.size) (el := el) i hi j hj)
      refine ⟨u, by simpa using hu, ?_⟩
      exact hm (.d (el i j)) u hd

/-- 'make([]T, n)'; 'make([]T, 0, n)': k elements are told. -/
theorem r_buildSlice {d l e sz len : Nat} {zs : List Value} {ps : List Part} {el : Nat → Nat → DV} {xs : Array (Nat × Operand)} {t ty : TypeId} {pos : String} {af : Array Edge} {gd : Option (Nat × Bool)} (ht : P.underlying t = some (.slice e)) {inf : TypeInfo} (hi : P.info? e = some inf) (hsz : inf.size = sz) (hz : Zero P e zs) (hzl : zs.length = sz) (hpos : 0 < sz) (hx : xs = (ps.map fun p => (p.i, p.x)).toArray) (hle : len * sz ≤ 16777216) (h63 : len ≤ maxLen)
    (hok : partsOk (fun i => some (i * sz, sz)) (len * sz) ps) (hcs : fillS ((List.range (len * sz)).map fun k => .d (.val (zs.getD (k % sz) undef))) (partsFill ps) = flat len sz el) (hN : d < bs.N) (hc : cOk (partsOps ps)) :
    ORule P bs ⟨some d, .buildSlice t len xs, ty, pos, af, gd⟩ ⟨rtOf (partsOps ps), [(l, .free)], [(d, sv (.own l sz 0 len))], [(l, .live (.arr e sz len el))]⟩ :=
  r_buildSliceW ht hi hsz hz hzl hpos hx hle h63 hok hcs (wk_refl _) hN hc

theorem r_make {d l e sz bytes k n : Nat} {zs : List Value} {el : Nat → Nat → DV} {x y : Operand} {p q : Int} {t ty : TypeId} {pos : String} {af : Array Edge} {gd : Option (Nat × Bool)} (hE : Elem P t e sz bytes) (hz : Zero P e zs) (hp : p = k) (hq : q = n) (hkn : k ≤ n) (hb : bytes * n ≤ 281474976710656) (h63 : n ≤ maxLen) (hel : ∀ i j, i < k → j < sz → el i j = .val (zs.getD j undef)) (hN : d < bs.N) (hc : cOk [(x, dv (.int .i64 p)), (y, dv (.int .i64 q))]) :
    ORule P bs ⟨some d, .makeSlice t x y, ty, pos, af, gd⟩ ⟨rtOf [(x, dv (.int .i64 p)), (y, dv (.int .i64 q))], [(l, .free)], [(d, sv (.own l sz 0 k))], [(l, .live (.arr e sz k el))]⟩ :=
  .heap rfl hN hc fun B S U s a w g hh he => by
    have hx : a.eval x = .int .i64 p := he.1
    have hy : a.eval y = .int .i64 q := he.2.1
    obtain ⟨ht, i, z, hi, hz1, hs, hby, hzs, hpos⟩ := hE
    obtain ⟨i', z', hi', hz2, hz3⟩ := hz
    rw [hi] at hi'
    cases hi'
    rw [hz1] at hz2
    cases hz2
    subst hp
    subst hq
    have hr := run_make (P := P) w t e i z ht hi hz1 .i64 .i64 (k : Int) (n : Int) (by omega) (by omega) (by rw [hby, ← Int.natCast_mul]; omega) (by simp only [maxLen] at h63; omega)
    have hlf := hh.1
    simp only [Int.toNat_natCast, hs] at hr
    refine ⟨.slice (some ⟨w.heap.size, 0, none⟩) k n, _, bset B l (some (w.heap.size, n)), S, U, ?_, g.alloc hlf _ _ n (.inr ⟨w.heap.size, n, madeCells z.cells (n * sz), by simp [bset], heap_alloc_new w _, by simp [madeCells], hkn, h63, fun i' hi' j hj => ?_⟩), .inr ⟨w.heap.size, n, 0, n, by simp [bset], rfl, by omega, hkn, fun _ => by simp⟩⟩
    · simp only [execOp, hx, hy, Sem.run_bind, hr, Result.andThen_ok, Sem.run_pure]
    · refine ⟨zs.getD j undef, ?_, ?_⟩
      · have hlt : i' * sz + j < n * sz := by
          calc i' * sz + j < i' * sz + sz := by omega
            _ = (i' + 1) * sz := by rw [Nat.add_mul, Nat.one_mul]
            _ ≤ n * sz := Nat.mul_le_mul_right _ (by omega)
        have hmod : (i' * sz + j) % z.cells.size = j := by rw [hzs, Nat.mul_comm, Nat.mul_add_mod, Nat.mod_eq_of_lt hj]
        have hjl : j < z.cells.size := by omega
        rw [← hz3]
        simp [madeCells, hlt, hmod, hjl]
      · rw [hel i' j hi' hj]
        exact rfl

/-! ### An object's elements -/

theorem r_indexO {d l sz off n : Nat} {k : IntKind} {i : Int} {m : Nat} {x y : Operand} {t e ty : TypeId} {pos : String} {af : Array Edge} {gd : Option (Nat × Bool)} {inf : TypeInfo} (ht : P.underlying t = some (.slice e)) (hi : P.info? e = some inf) (hsz : inf.size = sz) (hm : i = m) (h1 : m < n) {o' : Nat} (ho' : (off + m) * sz = o') (hN : d < bs.N) (hc : cOk [(x, sv (.own l sz off n)), (y, dv (.int k i))]) :
    ORule P bs ⟨some d, .indexAddr t x y, ty, pos, af, gd⟩ ⟨rtOf [(x, sv (.own l sz off n)), (y, dv (.int k i))], [], [(d, pv l o')], []⟩ :=
  .val rfl hN hc fun B S U s a w g _ he => by
    have hy : a.eval y = .int k i := he.2.1
    subst hm
    rcases he.1 with ⟨_, _, hn0, hv⟩ | ⟨b, κ, o, cap, hb, hv, hcap, hle, ho⟩
    · omega
    · refine ⟨.pointer (some ⟨b, o', none⟩), ?_, b, κ, hb, rfl⟩
      have h0 : (0 : Int) ≤ m := by omega
      have h2 : (m : Int) < n := by omega
      simp only [execOp, Instr.indexAt, hv, hy, Sem.run_bind, asIntOf, Sem.run_pure, Result.andThen_ok, run_underlying' ht, h0, h2, and_self, if_true, run_sizeOf hi, hsz, add_eq, Int.toNat_natCast]
      rw [ho (.inl (by omega)), ← Nat.add_mul, ho']

theorem r_loadA {d l off i j : Nat} {x : Operand} {T sz n : Nat} {el : Nat → Nat → DV} {c : DV} {t ty : TypeId} {pos : String} {af : Array Edge} {gd : Option (Nat × Bool)} (hw : Wide P t none) (ho : off = i * sz + j) (hi : i < n) (hj : j < sz) (hcc : el i j = c) (hN : d < bs.N) (hc : cOk [(x, pv l off)]) : ORule P bs ⟨some d, .load t x, ty, pos, af, gd⟩ ⟨rtOf [(x, pv l off)], [(l, .live (.arr T sz n el))], [(d, sv (.d c))], []⟩ :=
  .val rfl hN hc fun B S U s a w g hh he => by
    obtain ⟨b, κ, hb, h1⟩ := he.1
    rcases g.ob l _ hh.1 with ⟨hb', _⟩ | ⟨b', κ', cur, hb', hcur, hsz, hnk, hkm, hel⟩
    · rw [hb] at hb'; cases hb'
    · rw [hb] at hb'
      cases hb'
      obtain ⟨u, hu, hd⟩ := hel i hi j hj
      refine ⟨u, ?_, by rw [← hcc]; exact hd⟩
      have hcell : w.cell? ⟨b, off, none⟩ = some u := cell_of_block hcur (by rw [ho]; exact hu)
      simp only [execOp, h1, Sem.run_bind, run_loadAt_one hw hcell]
      rfl

theorem r_loadAs {d l off i j m : Nat} {x : Operand} {T sz n : Nat} {el : Nat → Nat → DV} {ds : List SV} {t ty : TypeId} {pos : String} {af : Array Edge} {gd : Option (Nat × Bool)} (hw : Wide P t (some m)) (ho : off = i * sz + j) (hi : i < n) (hj : j + m ≤ sz) (hds : dvs m (fun k => el i (j + k)) = ds) (hN : d < bs.N) (hc : cOk [(x, pv l off)]) : ORule P bs ⟨some d, .load t x, ty, pos, af, gd⟩ ⟨rtOf [(x, pv l off)], [(l, .live (.arr T sz n el))], [(d, .tv (.agg ds))], []⟩ :=
  .val rfl hN hc fun B S U s a w g hh he => by
    obtain ⟨b, κ, hb, h1⟩ := he.1
    rcases g.ob l _ hh.1 with ⟨hb', _⟩ | ⟨b', κ', cur, hb', hcur, hsz, hnk, hkm, hel⟩
    · rw [hb] at hb'; cases hb'
    · rw [hb] at hb'
      cases hb'
      subst hds
      have hex : ∀ m', m' ≤ m → ∃ cs : List Value, cs.length = m' ∧ (∀ k u, cs[k]? = some u → w.cell? ⟨b, off + k, none⟩ = some u) ∧ all2 (svOk B S U w) (dvs m' fun k => el i (j + k)) cs := by
        intro m'
        induction m' with
        | zero => intro _; exact ⟨[], rfl, by simp, trivial⟩
        | succ m' ih =>
          intro hle
          obtain ⟨cs, h1, h2, h3⟩ := ih (by omega)
          obtain ⟨u, hu, hd⟩ := hel i hi (j + m') (by omega)
          refine ⟨cs ++ [u], by simp [h1], fun k v hk => ?_, ?_⟩
          · rw [List.getElem?_append] at hk
            split at hk
            · exact h2 k v hk
            · have : k = m' := by
                rcases Nat.lt_or_ge (k - cs.length) 1 with h | h
                · omega
                · simp [List.getElem?_eq_none (show [u].length ≤ k - cs.length by simpa using h)] at hk
              subst this
              simp [h1] at hk
              rw [← hk]
              exact cell_of_block hcur (by rw [ho, Nat.add_assoc]; exact hu)
          · have : dvs (m' + 1) (fun k => el i (j + k)) = dvs m' (fun k => el i (j + k)) ++ [.d (el i (j + m'))] := by simp [dvs, List.range_succ]
            rw [this]
            exact all2_append h3 ⟨hd, trivial⟩
      obtain ⟨cs, hl, hc2, hok⟩ := hex m (Nat.le_refl _)
      refine ⟨.agg cs.toArray, ?_, cs, rfl, hok⟩
      simp only [execOp, h1, Sem.run_bind, run_loadAt_agg hw (ad := ⟨b, off, none⟩) rfl hl hc2]
      rfl

/-- A store into an object's array. -/
theorem r_storeAW {l off i j m : Nat} {x y : Operand} {T sz n : Nat} {el el' : Nat → Nat → DV} {ds : List DV} {tv : TV} {t ty : TypeId} {pos : String} {af : Array Edge} {gd : Option (Nat × Bool)} (hn : Cells P t m) (hds : all2 wkS (tvCells tv) (ds.map SV.d)) (hl : ds.length = m) (ho : off = i * sz + j) (hi : i < n) (hj : j + m ≤ sz) (hok : (tvCells tv).all cellS = true)
    (hel : ∀ i' j', i' < n → j' < sz → el' i' j' = if i' = i ∧ j ≤ j' ∧ j' < j + m then ds.getD (j' - j) .any else el i' j') (hc : cOk [(x, pv l off), (y, .tv tv)]) :
    ORule P bs ⟨none, .store t x y, ty, pos, af, gd⟩ ⟨rtOf [(x, pv l off), (y, .tv tv)], [(l, .live (.arr T sz n el))], [], [(l, .live (.arr T sz n el'))]⟩ :=
  .unit rfl hc fun B S U s a w g hh he => by
    obtain ⟨b, κ, hb, h1⟩ := he.1
    rcases g.ob l _ hh.1 with ⟨hb', _⟩ | ⟨b', κ', cur, hb', hcur, hsz, hnk, hkm, hold⟩
    · rw [hb] at hb'; cases hb'
    · rw [hb] at hb'
      cases hb'
      have hone : ∀ s, tv = .one s → cellS s = true := fun s e => by subst e; simpa [tvCells] using hok
      have hv := tv_cells he.2.1 hone
      have hv2 := all2_wk hds hv
      have hvl := all2_len hv2
      have hvm : (a.eval y).cells.toList.length = m := by rw [← hvl]; simp [hl]
      have hcv : ∀ v, v ∈ (a.eval y).cells.toList → cellV v = true := all2_mem (p := cellS) (q := fun v => cellV v = true) (fun _ _ h h' => cellS_spec h h') hv hok
      have hfit : off + m ≤ cur.size := by
        rw [hsz, ho]
        calc i * sz + j + m ≤ i * sz + sz := by omega
          _ = (i + 1) * sz := by rw [Nat.add_mul, Nat.one_mul]
          _ ≤ κ * sz := Nat.mul_le_mul_right _ (by omega)
      obtain ⟨cur', hr, hsz', hget⟩ := run_storeCells (P := P) (b := b) (T := T) (a.eval y).cells.toList cur off 0 w hcur (by omega) hcv
      obtain ⟨inf, hinf, hin⟩ := hn
      have hblt : b < w.heap.size := (Array.getElem?_eq_some_iff.1 hcur).1
      have hP : Pres (fun b => S b ∨ U b) w { w with heap := w.heap.setIfInBounds b (.cells cur' T (0, 0)) } := fun c hc' => by
        have hU : U c := hc'.elim (g.su c) id
        have : c ≠ b := fun e => g.sp l _ (b, κ) hh.1 hb (e ▸ hU)
        simp [Array.getElem?_setIfInBounds, Ne.symm this]
      refine ⟨{ w with heap := w.heap.setIfInBounds b (.cells cur' T (0, 0)) }, B, S, U, ?_, ?_⟩
      · simp only [execOp, h1, Instr.storeAt, Instr.sureAddr, storeVar, Sem.run_bind, Sem.run_pure, Result.andThen_ok, run_sizeOf hinf]
        have : (a.eval y).cells.size = inf.size := by rw [hin, ← hvm]; simp
        rw [if_neg (by simp [this])]
        simp only [Sem.run_bind, Sem.run_pure, Result.andThen_ok, hr]
      · refine g.upd (fun k => k = l) _ (fun k hk => by simp [hsets, hget_hset, hk]) (fun _ _ h => h) (fun _ _ => rfl) (fun _ h => h) (fun _ h => h) g.su (fun b hb => by simpa using g.ub b hb) (fun _ h => .inl h) (fun _ h => .inl h)
          (fun k y' hk hy' => ?_) (fun k k' _ _ _ _ h h' _ _ hne => absurd (h.trans h'.symm) hne) (fun c hc hne => ?_) (fun k hk h => ?_) (fun k y q _ hk hq => g.sp k y q hk hq) (by simp) rfl rfl rfl
        · subst hk
          simp only [hsets, hget_hset, if_true] at hy'
          cases hy'
          refine ⟨.inr ⟨b, κ, cur', hb, by simp [hblt], by rw [hsz', hsz], hnk, hkm, fun i' hi' j' hj' => ?_⟩, fun p hp => ⟨g.sp k _ p hh.1 hp, g.cf k _ p hh.1 hp, fun k' o' q hk' ho' hq => g.nj k' k o' _ ho' hh.1 hk' q p hq hp⟩⟩
          rw [hel i' j' hi' hj', hget]
          have hm := dOk_mono (S := S) (S' := S) (U := U) (U' := U) (fun _ h => h) (fun _ h => h) hP
          by_cases hcase : i' = i ∧ j ≤ j' ∧ j' < j + m
          · obtain ⟨rfl, hj1, hj2⟩ := hcase
            have hin1 : off + 0 ≤ i' * sz + j' ∧ i' * sz + j' < off + 0 + (a.eval y).cells.toList.length := by rw [hvm]; omega
            rw [if_pos hin1, if_pos (show i' = i' ∧ j ≤ j' ∧ j' < j + m from ⟨rfl, hj1, hj2⟩)]
            have hidx : i' * sz + j' - (off + 0) = j' - j := by omega
            rw [hidx]
            have hds' : (ds.map SV.d)[j' - j]? = some (.d (ds.getD (j' - j) .any)) := by
              rw [List.getElem?_map]
              simp [List.getElem?_eq_getElem (show j' - j < ds.length by omega)]
            obtain ⟨u, hu, hd⟩ := all2_get hv2 hds'
            exact ⟨u, hu, hm _ _ hd⟩
          · rw [if_neg hcase]
            have hout : ¬ (off + 0 ≤ i' * sz + j' ∧ i' * sz + j' < off + 0 + (a.eval y).cells.toList.length) := by
              rintro ⟨hA, hB⟩
              rw [hvm] at hB
              apply hcase
              have hii : i' = i := by
                rcases Nat.lt_trichotomy i' i with h | h | h
                · have : (i' + 1) * sz ≤ i * sz := Nat.mul_le_mul_right _ h
                  rw [Nat.add_mul, Nat.one_mul] at this
                  omega
                · exact h
                · have : (i + 1) * sz ≤ i' * sz := Nat.mul_le_mul_right _ h
                  rw [Nat.add_mul, Nat.one_mul] at this
                  omega
              subst hii
              exact ⟨rfl, by omega, by omega⟩
            rw [if_neg hout]
            obtain ⟨u, hu, hd⟩ := hold i' hi' j' hj'
            exact ⟨u, hu, hm _ _ hd⟩
        · have : c ≠ b := hne l _ (b, κ) rfl hh.1 hb
          simp [Array.getElem?_setIfInBounds, Ne.symm this]
        · subst hk; simp [hsets, hget_hset] at h
end Go.Proofs.Ytacikihlgpnjhaa.Q
