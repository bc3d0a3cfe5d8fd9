import Derived.Test.YtacikihlgpnjhaaQ13
namespace Go.Proofs.Ytacikihlgpnjhaa.Q
open Go Go.RowKit
set_option linter.unusedVariables false
set_option linter.unusedSimpArgs false

variable {P : Program} {bs : Base}

/-- A nil slice in a box is a slice of an object that has no block yet. -/
theorem Gs.absentB {α : Type} {s : St} {a : Act} {w : World} (l i j T : Nat) (K : Kd α) {Tb : Nat} {cs : List SV} (hl : hget s.h l = .free) (hi : hget s.h i = .live (.box Tb cs)) (hj : cs[j]? = some (.d (.val (.slice none 0 0)))) (hG : Gs bs s a w) : Gs bs ⟨s.t, hset (hset s.h l (.live (arrK T K []))) i (.live (.box Tb (cs.set j (.own l K.sz 0 0))))⟩ a w := by
  obtain ⟨B, S, U, g⟩ := hG
  have hBl := g.fr l hl
  have hil : i ≠ l := fun h => by rw [h, hl] at hi; cases hi
  have hB : ∀ k p, B k = some p → bset B l none k = some p := fun k p hp => by
    unfold bset
    split
    · rename_i h; subst h; rw [hBl] at hp; cases hp
    · exact hp
  have mono := avOk_mono (B := B) (B' := bset B l none) (S := S) (S' := S) (U := U) (U' := U) (w := w) (w' := w) hB (fun _ h => h) (fun _ h => h) (Pres.refl _ _)
  have monoS := svOk_mono (B := B) (B' := bset B l none) (S := S) (S' := S) (U := U) (U' := U) (w := w) (w' := w) hB (fun _ h => h) (fun _ h => h) (Pres.refl _ _)
  have hgt : ∀ k, hget (hset (hset s.h l (.live (arrK T K []))) i (.live (.box Tb (cs.set j (.own l K.sz 0 0))))) k = if k = i then .live (.box Tb (cs.set j (.own l K.sz 0 0))) else if k = l then .live (arrK T K []) else hget s.h k := fun k => by rw [hget_hset, hget_hset]
  have hlv : ∀ k' o, hget (hset (hset s.h l (.live (arrK T K []))) i (.live (.box Tb (cs.set j (.own l K.sz 0 0))))) k' = .live o → k' ≠ l → ∃ o', hget s.h k' = .live o' := fun k' o e hne => by
    rw [hgt] at e
    split at e
    · rename_i h; exact ⟨_, h ▸ hi⟩
    · first | exact ⟨o, e⟩ | (rw [if_neg hne] at e; exact ⟨o, e⟩)
  refine ⟨bset B l none, S, U, { df := g.df, sz := g.sz, tm := fun j => mono _ _ (g.tm j), ob := fun k' o e => ?_, nj := fun k1 k2 o o' e e' hne p p' hp hp' => ?_, sp := fun k' o p e hp => ?_, cf := fun k' o p e hp => ?_, fr := fun k' e => ?_, su := g.su, ub := g.ub, s0 := g.s0, u0 := g.u0, sn := g.sn, un := g.un, ps := g.ps, hs := g.hs, os := g.os, tp := g.tp, op := g.op, bl := fun k' p e => hB k' p (g.bl k' p e), bk := g.bk }⟩
  · rw [hgt] at e
    split at e
    · rename_i h
      subst h
      cases e
      obtain ⟨b, κ, cur, h1, h2, h3⟩ := g.ob k' _ hi
      refine ⟨b, κ, cur, hB _ _ h1, h2, ?_⟩
      have h4 := all2_mono (fun a v h => monoS a v h) h3
      obtain ⟨v, hv, hok⟩ := all2_get h3 hj
      have hv' : v = .slice none 0 0 := hok
      subst hv'
      have h5 := all2_set (R := svOk (bset B l none) S U w) (a := .own l K.sz 0 0) (b := .slice none 0 0) (.inl ⟨by simp [bset], rfl, rfl, rfl⟩) j h4
      have h6 : cur.toList.set j (.slice none 0 0) = cur.toList := by
        apply List.ext_getElem?
        intro x
        rw [List.getElem?_set]
        split
        · rename_i h; subst h; rw [hv]; have := (List.getElem?_eq_some_iff.1 hv).1; simp [show j < cur.size by simpa using this]
        · rfl
      rw [h6] at h5
      exact h5
    · split at e
      · rename_i h
        subst h
        cases e
        exact .inl ⟨by simp [bset], rfl⟩
      · exact obOk_mono hB (fun _ h => h) (fun _ h => h) (Pres.refl _ _) (fun _ _ => rfl) (g.ob k' o e)
  · have n1 : k1 ≠ l := fun h => by rw [h] at hp; simp [bset] at hp
    have n2 : k2 ≠ l := fun h => by rw [h] at hp'; simp [bset] at hp'
    simp only [bset, if_neg n1] at hp
    simp only [bset, if_neg n2] at hp'
    obtain ⟨o1, h1⟩ := hlv _ _ e n1
    obtain ⟨o2, h2⟩ := hlv _ _ e' n2
    exact g.nj k1 k2 o1 o2 h1 h2 hne p p' hp hp'
  · have n1 : k' ≠ l := fun h => by rw [h] at hp; simp [bset] at hp
    simp only [bset, if_neg n1] at hp
    obtain ⟨o1, h1⟩ := hlv _ _ e n1
    exact g.sp k' o1 p h1 hp
  · have n1 : k' ≠ l := fun h => by rw [h] at hp; simp [bset] at hp
    simp only [bset, if_neg n1] at hp
    obtain ⟨o1, h1⟩ := hlv _ _ e n1
    exact g.cf k' o1 p h1 hp
  · rw [hgt] at e
    split at e
    · cases e
    · split at e
      · cases e
      · rename_i h
        simp only [bset, if_neg h]
        exact g.fr k' e

/-- Elements at the end of an array forgotten. -/
theorem Gs.trunc {α : Type} {s : St} {a : Act} {w : World} (l T : Nat) (K : Kd α) (xs ys : List α) (n : Nat) (hl : hget s.h l = .live (arrK T K xs)) (hys : xs.take n = ys) (hG : Gs bs s a w) : Gs bs ⟨s.t, hset s.h l (.live (arrK T K ys))⟩ a w := by
  obtain ⟨B, S, U, g⟩ := hG
  have hlv : ∀ k o, hget (hset s.h l (.live (arrK T K ys))) k = .live o → ∃ o', hget s.h k = .live o' := fun k o e => by
    rw [hget_hset] at e
    split at e
    · rename_i h; exact ⟨_, h ▸ hl⟩
    · exact ⟨o, e⟩
  refine ⟨B, S, U, { g with ob := fun k o e => ?_, nj := fun k k' o o' e e' => ?_, sp := fun k o p e => ?_, cf := fun k o p e => ?_, fr := fun k e => ?_ }⟩
  · rw [hget_hset] at e
    split at e
    · rename_i h
      subst h
      cases e
      subst hys
      have hlen : (xs.take n).length ≤ xs.length := by simp; omega
      rcases g.ob k _ hl with ⟨h1, h2⟩ | ⟨b, κ, cur, h1, h2, h3, h4, h5, h6⟩
      · exact .inl ⟨h1, by omega⟩
      · refine .inr ⟨b, κ, cur, h1, h2, h3, Nat.le_trans hlen h4, h5, fun i hi j hj => ?_⟩
        obtain ⟨u, hu, hd⟩ := h6 i (by omega) j hj
        refine ⟨u, hu, ?_⟩
        have : elOf K (xs.take n) i j = elOf K xs i j := by
          unfold elOf
          congr 1
          simp only [List.length_take] at hi
          simp only [List.getD_eq_getElem?_getD, List.getElem?_take]
          rw [if_pos (by omega)]
        rw [this]
        exact hd
    · exact g.ob k o e
  · obtain ⟨o1, h1⟩ := hlv k o e
    obtain ⟨o2, h2⟩ := hlv k' o' e'
    exact g.nj k k' o1 o2 h1 h2
  · obtain ⟨o1, h1⟩ := hlv k o e
    exact g.sp k o1 p h1
  · obtain ⟨o1, h1⟩ := hlv k o e
    exact g.cf k o1 p h1
  · rw [hget_hset] at e
    split at e
    · cases e
    · exact g.fr k e

/-- 'copy', onto a part of an object's array, out of another part of it. -/
theorem q_copyO {α : Type} (l T : Nat) (K : Kd α) (hK : KOk K) (xs ys : List α) (d0 dn s0 sn m : Nat) {d : Nat} {x y : Operand} {t e bytes ty : TypeId} {pos : String} {af : Array Edge} {gd : Option (Nat × Bool)} (hE : Elem P t e K.sz bytes) (hd : d0 + dn ≤ xs.length) (hs : s0 + sn ≤ xs.length) (hm : Nat.min sn dn = m) (hys : xs.take d0 ++ (xs.drop s0).take m ++ xs.drop (d0 + m) = ys) (hN : d < bs.N) (hc : cOk [(x, ownV l K d0 dn), (y, ownV l K s0 sn)]) :
    ORule P bs ⟨some d, .call { callee := .builtin .copy, args := #[x, y], argTypes := #[t, t] }, ty, pos, af, gd⟩
      ⟨rtOf [(x, ownV l K d0 dn), (y, ownV l K s0 sn)], [(l, .live (arrK T K xs))], [(d, dv (.int .i64 (m : Nat)))], [(l, .live (arrK T K ys))]⟩ :=
  .heap rfl hN hc fun B S U s a w g hh he => by
    have hm1 : m ≤ sn := by rw [← hm]; exact Nat.min_le_left _ _
    have hm2 : m ≤ dn := by rw [← hm]; exact Nat.min_le_right _ _
    have hylen : ys.length = xs.length := by rw [← hys]; simp; omega
    obtain ⟨ht, inf, z, hi, hz, hsz, hby, hzs, hpos⟩ := hE
    have elY : ∀ i j, i < xs.length → elOf K ys i j = if d0 ≤ i ∧ i < d0 + m then elOf K xs (s0 + (i - d0)) j else elOf K xs i j := by
      intro i j hi
      unfold elOf
      rw [← hys]
      by_cases h1 : i < d0
      · rw [if_neg (by omega)]
        congr 1
        simp only [List.getD_eq_getElem?_getD, List.append_assoc]
        rw [List.getElem?_append_left (by simp; omega), List.getElem?_take, if_pos h1]
      · by_cases h2 : i < d0 + m
        · rw [if_pos (by omega)]
          congr 1
          simp only [List.getD_eq_getElem?_getD, List.append_assoc]
          rw [List.getElem?_append_right (by simp; omega), List.getElem?_append_left (by simp; omega)]
          simp only [List.length_take, List.getElem?_take, List.getElem?_drop]
          rw [if_pos (by omega)]
          congr 2
          omega
        · rw [if_neg (by omega)]
          congr 1
          simp only [List.getD_eq_getElem?_getD, List.append_assoc]
          rw [List.getElem?_append_right (by simp; omega), List.getElem?_append_right (by simp; omega)]
          simp only [List.length_take, List.length_drop, List.getElem?_drop]
          congr 2
          omega
    have g0 : ∀ (w' : World) (b κ : Nat) (cur' : Array Value), B l = some (some (b, κ)) → (∀ c, c ≠ b → w'.heap[c]? = w.heap[c]?) → w'.heap.size = w.heap.size → w'.heap[b]? = some (.cells cur' T (0, 0)) → cur'.size = κ * K.sz → xs.length ≤ κ → κ ≤ maxLen → w'.os = w.os → w'.tape = w.tape → w'.output = w.output →
        (∀ i, i < ys.length → ∀ j, j < K.sz → ∃ u, cur'[i * K.sz + j]? = some u ∧ dOk S U w (elOf K ys i j) u) → G bs B S U ⟨s.t, hset s.h l (.live (arrK T K ys))⟩ a w' := by
      intro w' b κ cur' hb hoth hsz' hcur' hcs hxk hkm hos htp hop hel
      have hP : Pres (fun b => S b ∨ U b) w w' := fun c hc' => by
        have hU : U c := hc'.elim (g.su c) id
        exact hoth c fun e => g.sp l _ (b, κ) hh.1 hb (e ▸ hU)
      refine g.upd (fun k => k = l) _ (fun k hk => by simp [hget_hset, hk]) (fun _ _ h => h) (fun _ _ => rfl) (fun _ h => h) (fun _ h => h) g.su (fun b hb => by rw [hsz']; exact g.ub b hb) (fun _ h => .inl h) (fun _ h => .inl h)
        (fun k y' hk hy' => ?_) (fun k k' _ _ _ _ h h' _ _ hne => absurd (h.trans h'.symm) hne) (fun c hc hne => hoth c (hne l _ (b, κ) rfl hh.1 hb)) (fun k hk h => ?_) (fun k y q _ hk hq => g.sp k y q hk hq) (by omega) hos htp hop
      · subst hk
        rw [hget_hset, if_pos rfl] at hy'
        cases hy'
        refine ⟨.inr ⟨b, κ, cur', hb, hcur', hcs, by omega, hkm, fun i hi j hj => ?_⟩, fun p hp => ⟨g.sp k _ p hh.1 hp, g.cf k _ p hh.1 hp, fun k' o' q hk' ho' hq => g.nj k' k o' _ ho' hh.1 hk' q p hq hp⟩⟩
        obtain ⟨u, hu, hd⟩ := hel i hi j hj
        exact ⟨u, hu, dOk_mono (fun _ h => h) (fun _ h => h) hP _ _ hd⟩
      · subst hk; rw [hget_hset, if_pos rfl] at h; cases h
    have hx : svOk B S U w (.own l K.sz d0 dn) (a.eval x) := he.1
    have hy : svOk B S U w (.own l K.sz s0 sn) (a.eval y) := he.2.1
    rcases hx with ⟨hb, h0, hn0, hv⟩ | ⟨b, κ, o, cap, hb, hv, hcap, hle, ho⟩
    · rcases hy with ⟨_, h1, hn1, hv1⟩ | ⟨b', _, _, _, hb', _⟩
      · have hm0 : m = 0 := by omega
        have hysx : ys = xs := by rw [← hys, hm0, h0]; simp
        refine ⟨.int .i64 (m : Nat), w, B, S, U, ?_, ?_, rfl⟩
        · rw [hm0]
          simp [execOp, resolve, invoke, builtin, hv, hv1, Builtin.copy_, run_underlying ht, Builtin.lenOf, Builtin.firstCells, sizeOf, typeInfo, hi, goInt, storeCells]
        · rw [hysx]
          have hsame : ∀ k, hget (hsets s.h [(l, .live (arrK T K xs))]) k = hget s.h k := fun k => by
            show hget (hset s.h l (.live (arrK T K xs))) k = _
            rw [hget_hset]
            split
            · rename_i h; rw [h]; exact hh.1.symm
            · rfl
          exact { g with ob := fun k o' e => g.ob k o' (by rw [← hsame k]; exact e), nj := fun k k' o1 o2 e e' => g.nj k k' o1 o2 (by rw [← hsame k]; exact e) (by rw [← hsame k']; exact e'), sp := fun k o' p e => g.sp k o' p (by rw [← hsame k]; exact e), cf := fun k o' p e => g.cf k o' p (by rw [← hsame k]; exact e), fr := fun k e => g.fr k (by rw [← hsame k]; exact e) }
      · rw [hb] at hb'; cases hb'
    · rcases hy with ⟨hb', _⟩ | ⟨b', κ', o', cap', hb', hv', hcap', hle', ho'⟩
      · rw [hb] at hb'; cases hb'
      · rw [hb] at hb'
        cases hb'
        rcases g.ob l _ hh.1 with ⟨hob, _⟩ | ⟨b', κ', cur, hb', hcur, hcsz, hnk, hkm, hel⟩
        · rw [hb] at hob; cases hob
        · rw [hb] at hb'
          cases hb'
          have hblt : b < w.heap.size := (Array.getElem?_eq_some_iff.1 hcur).1
          obtain ⟨cs, hr, hg⟩ := mk_row (S := S) (U := U) (w := w) (sz := K.sz) (n := m) (el := fun i j => elOf K xs (s0 + i) j) (fun k => cur[s0 * K.sz + k]?) fun i hi j hj => by
            obtain ⟨u, hu, hd⟩ := hel (s0 + i) (by omega) j hj
            exact ⟨u, by rw [← Nat.add_assoc, ← Nat.add_mul]; exact hu, hd⟩
          have hcv : ∀ v, v ∈ cs → cellV v = true := fun v hv => by
            have := row_cell hr (fun i j _ hj => hK.2 _ j hj) v hv
            cases v <;> first | rfl | cases this
          have hcl : cs.length = m * K.sz := hr.1
          have hfit : d0 * K.sz + cs.length ≤ cur.size := by
            rw [hcl, hcsz, ← Nat.add_mul]
            exact Nat.mul_le_mul_right _ (by omega)
          by_cases hm0 : m = 0
          · have hysx : ys = xs := by rw [← hys, hm0]; simp
            have hcs0 : cs = [] := List.eq_nil_of_length_eq_zero (by rw [hcl, hm0]; simp)
            refine ⟨.int .i64 (m : Nat), w, B, S, U, ?_, g0 w b κ cur hb (fun _ _ => rfl) rfl hcur hcsz hnk hkm rfl rfl rfl (fun i hi j hj => by rw [hysx] at hi ⊢; exact hel i hi j hj), rfl⟩
            have hmin : Nat.min sn dn = 0 := by omega
            simp [execOp, resolve, invoke, builtin, hv, hv', Builtin.copy_, run_underlying ht, Builtin.lenOf, Builtin.firstCells, sizeOf, typeInfo, hi, goInt, storeCells, hmin, loadCells, loadCellsFrom, hm0]
          · have hod : o = d0 * K.sz := ho (.inl (by omega))
            have hos' : o' = s0 * K.sz := ho' (.inl (by omega))
            subst hod
            subst hos'
            obtain ⟨cur', hrun, hsz', hget⟩ := run_storeCells (P := P) (b := b) (T := T) cs cur (d0 * K.sz) 0 w hcur (by omega) hcv
            have hload := run_loadCells_list (P := P) w ⟨b, s0 * K.sz, none⟩ cs fun k u hk => by rw [add_eq]; exact cell_of_block hcur (hg k u hk)
            rw [hcl] at hload
            refine ⟨.int .i64 (m : Nat), { w with heap := w.heap.setIfInBounds b (.cells cur' T (0, 0)) }, B, S, U, ?_, g0 _ b κ cur' hb (fun c hc => by simp [Array.getElem?_setIfInBounds, Ne.symm hc]) (by simp) (by simp [hblt]) (by rw [hsz', hcsz]) hnk hkm rfl rfl rfl (fun i hi j hj => ?_), rfl⟩
            · simp only [execOp, resolve, hv, hv', invoke, builtin, Sem.run_bind, Sem.run_pure, Result.andThen_ok, List.map_toArray, List.map_cons, List.map_nil]
              have hcopy : (Builtin.copy_ #[t, t] ty #[.slice (some ⟨b, d0 * K.sz, none⟩) dn cap, .slice (some ⟨b, s0 * K.sz, none⟩) sn cap']).run P w = .ok (.int .i64 (m : Nat)) { w with heap := w.heap.setIfInBounds b (.cells cur' T (0, 0)) } := by
                simp [Builtin.copy_, run_underlying ht, Builtin.lenOf, Builtin.firstCells, sizeOf, typeInfo, hi, hm, hsz, hload, hrun, goInt]
              rw [hcopy]
              rfl
            · rw [hget, elY i j (by omega)]
              by_cases hcase : d0 ≤ i ∧ i < d0 + m
              · rw [if_pos hcase]
                have hij : i * K.sz + j - (d0 * K.sz + 0) = (i - d0) * K.sz + j := by
                  have : i * K.sz = d0 * K.sz + (i - d0) * K.sz := by rw [← Nat.add_mul]; congr 1; omega
                  omega
                obtain ⟨u, hu, hd⟩ := hr.2 (i - d0) (by omega) j hj
                have hlt := (List.getElem?_eq_some_iff.1 hu).1
                have hi2 : i * K.sz = d0 * K.sz + (i - d0) * K.sz := by rw [← Nat.add_mul]; congr 1; omega
                rw [if_pos (by omega), hij]
                exact ⟨u, hu, hd⟩
              · rw [if_neg hcase]
                have hout : ¬ (d0 * K.sz + 0 ≤ i * K.sz + j ∧ i * K.sz + j < d0 * K.sz + 0 + cs.length) := by
                  rintro ⟨hA, hB⟩
                  rw [hcl, Nat.add_zero, ← Nat.add_mul] at hB
                  apply hcase
                  constructor
                  · rcases Nat.lt_or_ge i d0 with h | h
                    · have : (i + 1) * K.sz ≤ d0 * K.sz := Nat.mul_le_mul_right _ h
                      rw [Nat.add_mul, Nat.one_mul] at this
                      omega
                    · exact h
                  · rcases Nat.lt_or_ge i (d0 + m) with h | h
                    · exact h
                    · have : (d0 + m) * K.sz ≤ i * K.sz := Nat.mul_le_mul_right _ h
                      omega
                rw [if_neg hout]
                exact hel i (by omega) j hj

/-! ### Less is said -/

def wkA (x y : AV) : Prop := x = y ∨
  match x, y with
  | .tv (.one x), .tv (.one y) => weakS x y
  | .tv (.agg x), .tv (.agg y) => all2 wkS x y
  | _, _ => False
def wkH (x y : HS) : Prop := x = y ∨
  match x, y with
  | .live (.box T x), .live (.box T' y) => T' = T ∧ all2 wkS x y
  | _, _ => False
theorem hget_all2 {R : HS → HS → Prop} (h0 : R .free .free) : ∀ {a b : List HS}, all2 R a b → ∀ i, R (hget a i) (hget b i)
  | [], [], _, _ => h0
  | _ :: _, _ :: _, h, 0 => h.1
  | _ :: a, _ :: b, h, i + 1 => hget_all2 h0 (a := a) (b := b) h.2 i
  | [], _ :: _, h, _ => h.elim
  | _ :: _, [], h, _ => h.elim
theorem Gs.less {s s' : St} {a : Act} {w : World} (ht : all2 wkA s.t s'.t) (hh : all2 wkH s.h s'.h) (hG : Gs bs s a w) : Gs bs s' a w := by
  obtain ⟨B, S, U, g⟩ := hG
  have hk : ∀ k, wkH (hget s.h k) (hget s'.h k) := hget_all2 (.inl rfl) hh
  have hlv : ∀ k o', hget s'.h k = .live o' → ∃ o, hget s.h k = .live o ∧ (obOk B S U w k o → obOk B S U w k o') := by
    intro k o' ho'
    rcases hk k with h | h
    · exact ⟨o', by rw [h]; exact ho', id⟩
    · rw [ho'] at h
      match hs : hget s.h k, o', h with
      | .live (.box T x), .box T' y, h =>
        obtain ⟨rfl, h⟩ := h
        exact ⟨_, rfl, fun ⟨b, κ, cur, h1, h2, h3⟩ => ⟨b, κ, cur, h1, h2, all2_wk h h3⟩⟩
  refine ⟨B, S, U, { g with tm := fun k => ?_, ob := fun k o' e => ?_, nj := fun k k' o o' e e' => ?_, sp := fun k o' p e => ?_, cf := fun k o' p e => ?_, fr := fun k e => ?_ }⟩
  · have h := g.tm k
    rcases tget_all2 (R := wkA) (.inl rfl) ht k with e | e
    · rw [← e]; exact h
    · match hx : tget s.t k, hy : tget s'.t k with
      | .tv (.one x), .tv (.one y) => rw [hx, hy] at e; rw [hx] at h; exact weakS_ok (x := x) (y := y) e h
      | .tv (.agg x), .tv (.agg y) => rw [hx, hy] at e; rw [hx] at h; obtain ⟨cs, h1, h2⟩ := h; exact ⟨cs, h1, all2_wk e h2⟩
      | .tv (.one x), .tv (.agg y) => rw [hx, hy] at e; exact e.elim
      | .tv (.agg x), .tv (.one y) => rw [hx, hy] at e; exact e.elim
      | .tv (.one x), .tup y => rw [hx, hy] at e; exact e.elim
      | .tv (.agg x), .tup y => rw [hx, hy] at e; exact e.elim
      | .tup x, .tv (.one y) => rw [hx, hy] at e; exact e.elim
      | .tup x, .tv (.agg y) => rw [hx, hy] at e; exact e.elim
      | .tup x, .tup y => rw [hx, hy] at e; exact e.elim
  · obtain ⟨o, ho, f⟩ := hlv k o' e
    exact f (g.ob k o ho)
  · obtain ⟨o1, ho1, _⟩ := hlv k o e
    obtain ⟨o2, ho2, _⟩ := hlv k' o' e'
    exact g.nj k k' o1 o2 ho1 ho2
  · obtain ⟨o, ho, _⟩ := hlv k o' e
    exact g.sp k o p ho
  · obtain ⟨o, ho, _⟩ := hlv k o' e
    exact g.cf k o p ho
  · rcases hk k with h | h
    · exact g.fr k (by rw [h]; exact e)
    · rw [e] at h
      match hs : hget s.h k, h with
      | .live (.box T x), h => exact h.elim
      | .live (.arr ..), h => exact h.elim
      | .live (.mp ..), h => exact h.elim
      | .free, h => exact h.elim
      | .dead, h => exact h.elim

/-! ### An object under a new number -/

def mvr (l m k : Nat) : Nat := if k = l then m else k
def mvS (l m : Nat) (x y : SV) : Prop := x = y ∨ renS (mvr l m) x = y
def mvA (l m : Nat) (x y : AV) : Prop := x = y ∨
  match x, y with
  | .tv (.one x), .tv (.one y) => mvS l m x y
  | .tv (.agg x), .tv (.agg y) => all2 (mvS l m) x y
  | _, _ => False
def mvO (l m : Nat) (x y : HS) : Prop := x = y ∨
  match x, y with
  | .live (.box T x), .live (.box T' y) => T' = T ∧ all2 (mvS l m) x y
  | _, _ => False
def mvH (l m : Nat) (o : HObj) : Nat → List HS → List HS → Prop
  | _, [], [] => True
  | i, x :: r, y :: r' => ((i = l ∧ y = .dead) ∨ (i = m ∧ y = .live o) ∨ (i ≠ l ∧ i ≠ m ∧ mvO l m x y)) ∧ mvH l m o (i + 1) r r'
  | _, _, _ => False
theorem mvH_get {l m : Nat} {o : HObj} : ∀ {a b : List HS} {i : Nat}, mvH l m o i a b → ∀ k, (k < b.length → ((i + k = l ∧ hget b k = .dead) ∨ (i + k = m ∧ hget b k = .live o) ∨ (i + k ≠ l ∧ i + k ≠ m ∧ mvO l m (hget a k) (hget b k)))) ∧ (b.length ≤ k → hget a k = .free ∧ hget b k = .free)
  | [], [], _, _, k => ⟨fun h => absurd h (Nat.not_lt_zero _), fun _ => ⟨rfl, rfl⟩⟩
  | x :: r, y :: r', i, h, 0 => ⟨fun _ => h.1, fun h => absurd h (by simp)⟩
  | x :: r, y :: r', i, h, k + 1 => by
    have := mvH_get h.2 k
    rw [show i + (k + 1) = i + 1 + k from by omega]
    exact ⟨fun hk => this.1 (by simpa using hk), fun hk => this.2 (by simpa using hk)⟩
  | [], _ :: _, _, h, _ => h.elim
  | _ :: _, [], _, h, _ => h.elim
theorem svOk_ren {B B' : Bk} {S U : Nat → Prop} {w : World} {r : Nat → Nat} (h : ∀ k p, B k = some p → B' (r k) = some p) : ∀ {x : SV} {v : Value}, svOk B S U w x v → svOk B' S U w (renS r x) v
  | .d _, _, hv => hv
  | .ptr l off, v, ⟨b, κ, e, hv⟩ => ⟨b, κ, h _ _ e, hv⟩
  | .own l sz off n, v, hv => by
    rcases hv with ⟨e, hv⟩ | ⟨b, κ, o, cap, e, hv⟩
    · exact .inl ⟨h _ _ e, hv⟩
    · exact .inr ⟨b, κ, o, cap, h _ _ e, hv⟩
  | .ep .., _, hv => hv
  | .mref l, v, ⟨b, κ, e, hv⟩ => ⟨b, κ, h _ _ e, hv⟩
  | .cl .., _, hv => hv
theorem all2_rel {B B' : Bk} {S U : Nat → Prop} {w : World} {R : SV → SV → Prop} (f : ∀ x y v, R x y → svOk B S U w x v → svOk B' S U w y v) : ∀ {x y : List SV} {vs : List Value}, all2 R x y → all2 (svOk B S U w) x vs → all2 (svOk B' S U w) y vs
  | [], [], [], _, _ => trivial
  | x :: xs, y :: ys, v :: vs, h, h' => ⟨f _ _ _ h.1 h'.1, all2_rel f h.2 h'.2⟩
  | [], [], _ :: _, _, h => h.elim
  | _ :: _, _ :: _, [], _, h => h.elim
  | [], _ :: _, _, h, _ => h.elim
  | _ :: _, [], _, h, _ => h.elim
theorem Gs.move {s s' : St} {a : Act} {w : World} (l m : Nat) {o : HObj} (hl : hget s.h l = .live o) (hm : hget s.h m = .free) (hs' : hget s'.h m = .live o) (ht : all2 (mvA l m) s.t s'.t) (hh : mvH l m o 0 (s.h ++ [.free]) s'.h) (hG : Gs bs s a w) : Gs bs s' a w := by
  obtain ⟨B, S, U, g⟩ := hG
  have happ : ∀ k, hget (s.h ++ [.free]) k = hget s.h k := by
    intro k
    generalize s.h = h
    induction h generalizing k with
    | nil => cases k with
      | zero => rfl
      | succ k => rfl
    | cons x r ih => cases k with
      | zero => rfl
      | succ k => exact ih k
  have hlm : l ≠ m := fun e => by rw [e, hm] at hl; cases hl
  have hBm := g.fr m hm
  have hBl : ∃ q, B l = some q := by
    match o, g.ob l _ hl with
    | .box .., ⟨b, κ, cur, h, _⟩ => exact ⟨_, h⟩
    | .arr .., .inl ⟨h, _⟩ => exact ⟨_, h⟩
    | .arr .., .inr ⟨b, κ, cur, h, _⟩ => exact ⟨_, h⟩
    | .mp .., ⟨b, κ, e, c, h, _⟩ => exact ⟨_, h⟩
  obtain ⟨q, hq⟩ := hBl
  have hB : ∀ k p, B k = some p → bset B m q k = some p := fun k p hp => by
    unfold bset
    split
    · rename_i h; subst h; rw [hBm] at hp; cases hp
    · exact hp
  have hBr : ∀ k p, B k = some p → bset B m q (mvr l m k) = some p := fun k p hp => by
    unfold mvr
    split
    · rename_i h; subst h; rw [hq] at hp; simp [bset, hp]
    · exact hB k p hp
  have mono := avOk_mono (B := B) (B' := bset B m q) (S := S) (S' := S) (U := U) (U' := U) (w := w) (w' := w) hB (fun _ h => h) (fun _ h => h) (Pres.refl _ _)
  have monoS := svOk_mono (B := B) (B' := bset B m q) (S := S) (S' := S) (U := U) (U' := U) (w := w) (w' := w) hB (fun _ h => h) (fun _ h => h) (Pres.refl _ _)
  have hsv : ∀ x y v, mvS l m x y → svOk B S U w x v → svOk (bset B m q) S U w y v := fun x y v h hv => by
    rcases h with rfl | rfl
    · exact monoS _ _ hv
    · exact svOk_ren hBr hv
  have hk := fun k => mvH_get hh k
  simp only [Nat.zero_add] at hk
  have hlv : ∀ k o', hget s'.h k = .live o' → ∃ k0 o0, hget s.h k0 = .live o0 ∧ (∀ p, bset B m q k = some p → B k0 = some p) ∧ k0 = (if k = m then l else k) ∧ k ≠ l ∧ obOk (bset B m q) S U w k o' := by
    intro k o' e
    rcases Nat.lt_or_ge k s'.h.length with hlt | hge
    · rcases (hk k).1 hlt with ⟨_, h⟩ | ⟨h1, h2⟩ | ⟨h1, h2, h3⟩
      · rw [e] at h; cases h
      · subst h1
        have h2' : o' = o := by rw [e] at h2; cases h2; rfl
        rw [h2']
        refine ⟨l, o, hl, fun p hp => ?_, by simp, Ne.symm hlm, ?_⟩
        · simp [bset] at hp; rw [hq, hp]
        · have hob := g.ob l _ hl
          match o, hob with
          | .box T cs, ⟨b, κ, cur, h1, h2, h3⟩ =>
            rw [hq] at h1; cases h1
            exact ⟨b, κ, cur, by simp [bset], h2, all2_mono (fun a v h => monoS a v h) h3⟩
          | .arr T sz n el, .inl ⟨h1, h2⟩ =>
            rw [hq] at h1; cases h1
            exact .inl ⟨by simp [bset], h2⟩
          | .arr T sz n el, .inr ⟨b, κ, cur, h1, h2⟩ =>
            rw [hq] at h1; cases h1
            exact .inr ⟨b, κ, cur, by simp [bset], h2⟩
          | .mp es, ⟨b, κ, en, cl, h1, h2⟩ =>
            rw [hq] at h1; cases h1
            exact ⟨b, κ, en, cl, by simp [bset], h2⟩
      · have hkm : ∀ p, bset B m q k = some p → B k = some p := fun p hp => by simpa [bset, if_neg h2] using hp
        rw [happ] at h3
        rcases h3 with h | h
        · exact ⟨k, o', by rw [h]; exact e, hkm, (if_neg h2).symm, h1, obOk_mono hB (fun _ h => h) (fun _ h => h) (Pres.refl _ _) (fun _ _ => rfl) (g.ob k o' (by rw [h]; exact e))⟩
        · rw [e] at h
          match hs : hget s.h k, o', h with
          | .live (.box T x), .box T' y, h =>
            obtain ⟨rfl, h⟩ := h
            obtain ⟨b, κ, cur, e1, e2, e3⟩ := g.ob k _ hs
            exact ⟨k, _, hs, hkm, (if_neg h2).symm, h1, b, κ, cur, hB _ _ e1, e2, all2_rel hsv h e3⟩
    · rw [((hk k).2 hge).2] at e; cases e
  refine ⟨bset B m q, S, U, { df := g.df, sz := g.sz, tm := fun k => ?_, ob := fun k o' e => ?_, nj := fun k1 k2 o1 o2 e1 e2 hne p p' hp hp' => ?_, sp := fun k o' p e hp => ?_, cf := fun k o' p e hp => ?_, fr := fun k e => ?_, su := g.su, ub := g.ub, s0 := g.s0, u0 := g.u0, sn := g.sn, un := g.un, ps := g.ps, hs := g.hs, os := g.os, tp := g.tp, op := g.op, bl := fun k' p e => hB k' p (g.bl k' p e), bk := g.bk }⟩
  · have h := g.tm k
    rcases tget_all2 (R := mvA l m) (.inl rfl) ht k with e | e
    · rw [← e]; exact mono _ _ h
    · match hx : tget s.t k, hy : tget s'.t k with
      | .tv (.one x), .tv (.one y) => rw [hx, hy] at e; rw [hx] at h; exact hsv x y _ e h
      | .tv (.agg x), .tv (.agg y) => rw [hx, hy] at e; rw [hx] at h; obtain ⟨cs, h1, h2⟩ := h; exact ⟨cs, h1, all2_rel hsv e h2⟩
      | .tv (.one x), .tv (.agg y) => rw [hx, hy] at e; exact e.elim
      | .tv (.agg x), .tv (.one y) => rw [hx, hy] at e; exact e.elim
      | .tv (.one x), .tup y => rw [hx, hy] at e; exact e.elim
      | .tv (.agg x), .tup y => rw [hx, hy] at e; exact e.elim
      | .tup x, .tv (.one y) => rw [hx, hy] at e; exact e.elim
      | .tup x, .tv (.agg y) => rw [hx, hy] at e; exact e.elim
      | .tup x, .tup y => rw [hx, hy] at e; exact e.elim
  · obtain ⟨_, _, _, _, _, _, h⟩ := hlv k o' e
    exact h
  · obtain ⟨j1, y1, h1, f1, g1, n1, _⟩ := hlv k1 o1 e1
    obtain ⟨j2, y2, h2, f2, g2, n2, _⟩ := hlv k2 o2 e2
    refine g.nj j1 j2 y1 y2 h1 h2 (fun e => hne ?_) p p' (f1 _ hp) (f2 _ hp')
    rw [g1, g2] at e
    split at e <;> split at e
    · rename_i a b; rw [a, b]
    · exact absurd e.symm n2
    · exact absurd e n1
    · exact e
  · obtain ⟨j1, y1, h1, f1, _⟩ := hlv k o' e
    exact g.sp j1 y1 p h1 (f1 _ hp)
  · obtain ⟨j1, y1, h1, f1, _⟩ := hlv k o' e
    exact g.cf j1 y1 p h1 (f1 _ hp)
  · rcases Nat.lt_or_ge k s'.h.length with hlt | hge
    · rcases (hk k).1 hlt with ⟨_, h⟩ | ⟨h1, h2⟩ | ⟨h1, h2, h3⟩
      · rw [e] at h; cases h
      · rw [e] at h2; cases h2
      · simp only [bset, if_neg h2]
        rw [happ] at h3
        rcases h3 with h | h
        · exact g.fr k (by rw [h]; exact e)
        · rw [e] at h
          match hs : hget s.h k, h with
          | .live (.box T x), h => exact h.elim
          | .live (.arr ..), h => exact h.elim
          | .live (.mp ..), h => exact h.elim
          | .free, h => exact h.elim
          | .dead, h => exact h.elim
    · have h := ((hk k).2 hge).1
      rw [happ] at h
      have : k ≠ m := fun e' => by
        subst e'
        rw [e] at hs'; cases hs'
      simp only [bset, if_neg this]
      exact g.fr k h
theorem kU8_sz : kU8.sz = 1 := rfl
theorem kSl_sz {α : Type} (t : Bool) (K : Kd α) : (kSl t K).sz = 1 := rfl
theorem kInt_sz (k : IntKind) : (kInt k).sz = 1 := rfl
theorem kBool_sz : kBool.sz = 1 := rfl
theorem kStr_sz : kStr.sz = 1 := rfl

/-! ### Another numbering, by whole lists -/

def pickH (rl : List Nat) (h : List HS) : Nat → List HS → List HS
  | _, [] => []
  | i, .dead :: l => .dead :: pickH rl h (i + 1) l
  | i, _ :: l => hget h (rl.getD i 0) :: pickH rl h (i + 1) l
theorem renS_any {r : Nat → Nat} : ∀ {x : SV}, renS r x = .d .any → x = .d .any
  | .d x, h => h
theorem renA_any {r : Nat → Nat} : ∀ {x : AV}, renA r x = .any → x = .any
  | .tv (.one x), h => by
    have : renS r x = .d .any := by injection h with h; injection h
    rw [renS_any this]
  | .tv (.agg l), h => by injection h with h; cases h
theorem tget_map {r : Nat → Nat} : ∀ (l : List AV) (i : Nat), i < l.length → tget (l.map (renA r)) i = renA r (tget l i)
  | [], _, h => absurd h (Nat.not_lt_zero _)
  | _ :: _, 0, _ => rfl
  | _ :: l, i + 1, h => tget_map l i (by simpa using h)
theorem tget_any : ∀ {l : List AV} {i : Nat}, l.length ≤ i → tget l i = .any
  | [], _, _ => rfl
  | _ :: _, 0, h => absurd h (by simp)
  | _ :: l, i + 1, h => tget_any (l := l) (by simpa using h)
theorem tget_all {p : AV → Bool} : ∀ {l : List AV} {i : Nat}, l.all p = true → i < l.length → p (tget l i) = true
  | [], _, _, h => absurd h (Nat.not_lt_zero _)
  | x :: l, 0, h, _ => by simp only [List.all_cons, Bool.and_eq_true] at h; exact h.1
  | x :: l, i + 1, h, hi => by simp only [List.all_cons, Bool.and_eq_true] at h; exact tget_all (l := l) h.2 (by simpa using hi)
theorem pick_get {r : Nat → Nat} {rl : List Nat} {h : List HS} : ∀ {l : List HS} {i : Nat}, l.map (renH r) = pickH rl h i l → ∀ k o, hget l k = .live o → hget h (rl.getD (i + k) 0) = .live (renO r o)
  | [], _, _, k, o, e => by cases e
  | .live x :: l, i, hh, 0, o, e => by
    cases e
    simp only [List.map_cons, pickH, List.cons.injEq] at hh
    exact hh.1.symm
  | .dead :: l, i, hh, 0, o, e => by cases e
  | .free :: l, i, hh, 0, o, e => by cases e
  | .live x :: l, i, hh, k + 1, o, e => by
    simp only [List.map_cons, pickH, List.cons.injEq] at hh
    rw [show i + (k + 1) = i + 1 + k from by omega]
    exact pick_get hh.2 k o e
  | .dead :: l, i, hh, k + 1, o, e => by
    simp only [List.map_cons, pickH, List.cons.injEq] at hh
    rw [show i + (k + 1) = i + 1 + k from by omega]
    exact pick_get hh.2 k o e
  | .free :: l, i, hh, k + 1, o, e => by
    simp only [List.map_cons, pickH, List.cons.injEq] at hh
    rw [show i + (k + 1) = i + 1 + k from by omega]
    exact pick_get hh.2 k o e
theorem hget_all {m : Nat} : ∀ {l : List HS} {k : Nat} {o : HObj}, l.all (idsH m) = true → hget l k = .live o → idsO m o = true
  | [], _, _, _, e => by cases e
  | x :: l, 0, o, h, e => by
    simp only [List.all_cons, Bool.and_eq_true] at h
    have e : x = .live o := e
    subst e
    exact h.1
  | x :: l, k + 1, o, h, e => by
    simp only [List.all_cons, Bool.and_eq_true] at h
    exact hget_all (l := l) (k := k) h.2 e
/-- A state that is another one, its objects numbered anew. -/
theorem Gs.into2 {N k : Nat} {w0 : World} {S0 U0 : Nat → Prop} {B0 : Bk} {s s' : St} {a : Act} {w : World} (rl : List Nat) (m : List Bool) {t1 t2 : List AV} {h1 h2 : List HS} (et : t1 = t2) (eh : h1 = h2) (hrl : Nat.beq s'.h.length rl.length = true) (hk : Nat.ble k rl.length = true) (hfix : fixB k (fun i => rl.getD i 0) = true) (hnd : nodupB rl = true)
    (hnf : noFree s'.h = true) (hidt : s'.t.all (idsA rl.length) = true) (hidh : s'.h.all (idsH rl.length) = true)
    (ht1 : s'.t.map (renA fun i => rl.getD i 0) = t1) (ht2 : maskT m s.t = t2) (hh1 : s'.h.map (renH fun i => rl.getD i 0) = h1) (hh2 : pickH rl s.h 0 s'.h = h2)
    (hG : Gs (mkBase N k w0 S0 U0 B0) s a w) : Gs (mkBase N k w0 S0 U0 B0) s' a w := by
  have hrl' : s'.h.length = rl.length := Nat.eq_of_beq_eq_true hrl
  have hT : s'.t.map (renA fun i => rl.getD i 0) = maskT m s.t := ht1.trans (et.trans ht2.symm)
  have hH : s'.h.map (renH fun i => rl.getD i 0) = pickH rl s.h 0 s'.h := hh1.trans (eh.trans hh2.symm)
  refine hG.ren (fun i => rl.getD i 0) (by rw [hrl']; exact Nat.le_of_ble_eq_true hk) (fun l hl => ?_) (fun l l' h1 h2 e => nodupB_spec hnd l l' (by omega) (by omega) e) (fun l hl => noFree_spec hnf l hl) (fun l hl => hget_ge hl) (fun i => ?_) (fun l o e => ?_)
  · simp only [fixB, List.all_eq_true, List.mem_range] at hfix
    exact Nat.eq_of_beq_eq_true (hfix l hl)
  · rcases Nat.lt_or_ge i s'.t.length with hi | hi
    · have h3 := tget_map (r := fun i => rl.getD i 0) s'.t i hi
      rw [hT] at h3
      rcases maskT_spec m s.t i with h | h
      · rw [h] at h3
        exact .inl (renA_any h3.symm)
      · rw [h] at h3
        exact .inr ⟨by rw [hrl']; exact tget_all hidt hi, h3.symm⟩
    · exact .inl (tget_any hi)
  · have := pick_get hH l o e
    rw [Nat.zero_add] at this
    exact ⟨by rw [hrl']; exact hget_all hidh e, this⟩
end Go.Proofs.Ytacikihlgpnjhaa.Q
