import Derived.Test.YtioenfjcbikbcaaQb
import Derived.Below
import Derived.ChangeOld
import Derived.ChangeArms
import Derived.MapKept
namespace Go.Proofs.Ytioenfjcbikbcaa.Q
open Go Go.RowKit
set_option linter.unusedVariables false
set_option linter.unusedSimpArgs false

variable {P : Program} {bs : Base}

/-- A nil slice in a box is a slice of an object that has no block yet. -/
theorem Gs.absentB {α : Type} {s : St} {a : Act} {w : World} (l i j T : Nat) (K : Kd α) {Tb : Nat} {cs : List SV} (hl : hget s.h l = .free) (hi : hget s.h i = .live (.box Tb cs)) (hj : cs[j]? = some (.d (.val (.slice none 0 0)))) (hG : Gs bs s a w) : Gs bs ⟨s.t, hset (hset s.h l (.live (arrK T K []))) i (.live (.box Tb (cs.set j (.own l K.sz 0 0))))⟩ a w := by
  obtain ⟨B, S, U, g⟩ := hG
  have hBl := g.fr l hl
  have hil : i ≠ l := fun h => by rw [h, hl] at hi; cases hi
  have hB : ∀ k p, B k = some p → bset B l none k = some p := fun k p hp => by
    unfold bset
    split
    · rename_i h; subst h; rw [hBl] at hp; cases hp
    · exact hp
  have mono := avOk_mono (B := B) (B' := bset B l none) (S := S) (S' := S) (U := U) (U' := U) (w := w) (w' := w) hB (fun _ h => h) (fun _ h => h) (Pres.refl _ _)
  have monoS := svOk_mono (B := B) (B' := bset B l none) (S := S) (S' := S) (U := U) (U' := U) (w := w) (w' := w) hB (fun _ h => h) (fun _ h => h) (Pres.refl _ _)
  have hgt : ∀ k, hget (hset (hset s.h l (.live (arrK T K []))) i (.live (.box Tb (cs.set j (.own l K.sz 0 0))))) k = if k = i then .live (.box Tb (cs.set j (.own l K.sz 0 0))) else if k = l then .live (arrK T K []) else hget s.h k := fun k => by rw [hget_hset, hget_hset]
  have hlv : ∀ k' o, hget (hset (hset s.h l (.live (arrK T K []))) i (.live (.box Tb (cs.set j (.own l K.sz 0 0))))) k' = .live o → k' ≠ l → ∃ o', hget s.h k' = .live o' := fun k' o e hne => by
    rw [hgt] at e
    split at e
    · rename_i h; exact ⟨_, h ▸ hi⟩
    · first | exact ⟨o, e⟩ | (rw [if_neg hne] at e; exact ⟨o, e⟩)
  refine ⟨bset B l none, S, U, { df := g.df, sz := g.sz, tm := fun j => mono _ _ (g.tm j), ob := fun k' o e => ?_, nj := fun k1 k2 o o' e e' hne p p' hp hp' => ?_, sp := fun k' o p e hp => ?_, cf := fun k' o p e hp => ?_, fr := fun k' e => ?_, su := g.su, ub := g.ub, s0 := g.s0, u0 := g.u0, sn := g.sn, un := g.un, ps := g.ps, hs := g.hs, os := g.os, tp := g.tp, op := g.op, bl := fun k' p e => hB k' p (g.bl k' p e), bk := g.bk, uf := g.uf }⟩
  · rw [hgt] at e
    split at e
    · rename_i h
      subst h
      cases e
      obtain ⟨b, κ, cur, h1, h2, h3⟩ := g.ob k' _ hi
      refine ⟨b, κ, cur, hB _ _ h1, h2, ?_⟩
      have h4 := all2_mono (fun a v h => monoS a v h) h3
      obtain ⟨v, hv, hok⟩ := all2_get h3 hj
      have hv' : v = .slice none 0 0 := hok
      subst hv'
      have h5 := all2_set (R := svOk (bset B l none) S U w) (a := .own l K.sz 0 0) (b := .slice none 0 0) (.inl ⟨by simp [bset], rfl, rfl, rfl⟩) j h4
      have h6 : cur.toList.set j (.slice none 0 0) = cur.toList := by
        apply List.ext_getElem?
        intro x
        rw [List.getElem?_set]
        split
        · rename_i h; subst h; rw [hv]; have := (List.getElem?_eq_some_iff.1 hv).1; simp [show j < cur.size by simpa using this]
        · rfl
      rw [h6] at h5
      exact h5
    · split at e
      · rename_i h
        subst h
        cases e
        exact .inl ⟨by simp [bset], rfl⟩
      · exact obOk_mono hB (fun _ h => h) (fun _ h => h) (Pres.refl _ _) (fun _ _ => rfl) (g.ob k' o e)
  · have n1 : k1 ≠ l := fun h => by rw [h] at hp; simp [bset] at hp
    have n2 : k2 ≠ l := fun h => by rw [h] at hp'; simp [bset] at hp'
    simp only [bset, if_neg n1] at hp
    simp only [bset, if_neg n2] at hp'
    obtain ⟨o1, h1⟩ := hlv _ _ e n1
    obtain ⟨o2, h2⟩ := hlv _ _ e' n2
    exact g.nj k1 k2 o1 o2 h1 h2 hne p p' hp hp'
  · have n1 : k' ≠ l := fun h => by rw [h] at hp; simp [bset] at hp
    simp only [bset, if_neg n1] at hp
    obtain ⟨o1, h1⟩ := hlv _ _ e n1
    exact g.sp k' o1 p h1 hp
  · have n1 : k' ≠ l := fun h => by rw [h] at hp; simp [bset] at hp
    simp only [bset, if_neg n1] at hp
    obtain ⟨o1, h1⟩ := hlv _ _ e n1
    exact g.cf k' o1 p h1 hp
  · rw [hgt] at e
    split at e
    · cases e
    · split at e
      · cases e
      · rename_i h
        simp only [bset, if_neg h]
        exact g.fr k' e

/-- Elements at the end of an array forgotten. -/
theorem Gs.trunc {α : Type} {s : St} {a : Act} {w : World} (l T : Nat) (K : Kd α) (xs ys : List α) (n : Nat) (hl : hget s.h l = .live (arrK T K xs)) (hys : xs.take n = ys) (hG : Gs bs s a w) : Gs bs ⟨s.t, hset s.h l (.live (arrK T K ys))⟩ a w := by
  obtain ⟨B, S, U, g⟩ := hG
  have hlv : ∀ k o, hget (hset s.h l (.live (arrK T K ys))) k = .live o → ∃ o', hget s.h k = .live o' := fun k o e => by
    rw [hget_hset] at e
    split at e
    · rename_i h; exact ⟨_, h ▸ hl⟩
    · exact ⟨o, e⟩
  refine ⟨B, S, U, { g with ob := fun k o e => ?_, nj := fun k k' o o' e e' => ?_, sp := fun k o p e => ?_, cf := fun k o p e => ?_, fr := fun k e => ?_ }⟩
  · rw [hget_hset] at e
    split at e
    · rename_i h
      subst h
      cases e
      subst hys
      have hlen : (xs.take n).length ≤ xs.length := by simp; omega
      rcases g.ob k _ hl with ⟨h1, h2⟩ | ⟨b, κ, cur, h1, h2, h3, h4, h5, h6⟩
      · exact .inl ⟨h1, by omega⟩
      · refine .inr ⟨b, κ, cur, h1, h2, h3, Nat.le_trans hlen h4, h5, fun i hi j hj => ?_⟩
        obtain ⟨u, hu, hd⟩ := h6 i (by omega) j hj
        refine ⟨u, hu, ?_⟩
        have : elOf K (xs.take n) i j = elOf K xs i j := by
          unfold elOf
          congr 1
          simp only [List.length_take] at hi
          simp only [List.getD_eq_getElem?_getD, List.getElem?_take]
          rw [if_pos (by omega)]
        rw [this]
        exact hd
    · exact g.ob k o e
  · obtain ⟨o1, h1⟩ := hlv k o e
    obtain ⟨o2, h2⟩ := hlv k' o' e'
    exact g.nj k k' o1 o2 h1 h2
  · obtain ⟨o1, h1⟩ := hlv k o e
    exact g.sp k o1 p h1
  · obtain ⟨o1, h1⟩ := hlv k o e
    exact g.cf k o1 p h1
  · rw [hget_hset] at e
    split at e
    · cases e
    · exact g.fr k e

/-- 'copy', onto a part of an object's array, out of another part of it. -/
theorem q_copyO {α : Type} (l T : Nat) (K : Kd α) (hK : KOk K) (xs ys : List α) (d0 dn s0 sn m : Nat) {d : Nat} {x y : Operand} {t e bytes ty : TypeId} {pos : String} {af : Array Edge} {gd : Option (Nat × Bool)} (hE : Elem P t e K.sz bytes) (hd : d0 + dn ≤ xs.length) (hs : s0 + sn ≤ xs.length) (hm : Nat.min sn dn = m) (hys : xs.take d0 ++ (xs.drop s0).take m ++ xs.drop (d0 + m) = ys) (hN : d < bs.N) (hc : cOk [(x, ownV l K d0 dn), (y, ownV l K s0 sn)]) :
    ORule P bs ⟨some d, .call { callee := .builtin .copy, args := #[x, y], argTypes := #[t, t] }, ty, pos, af, gd⟩
      ⟨rtOf [(x, ownV l K d0 dn), (y, ownV l K s0 sn)], [(l, .live (arrK T K xs))], [(d, dv (.int .i64 (m : Nat)))], [(l, .live (arrK T K ys))]⟩ :=
  .heap rfl hN hc fun B S U s a w g hh he => by
    have hm1 : m ≤ sn := by rw [← hm]; exact Nat.min_le_left _ _
    have hm2 : m ≤ dn := by rw [← hm]; exact Nat.min_le_right _ _
    have hylen : ys.length = xs.length := by rw [← hys]; simp; omega
    obtain ⟨ht, inf, z, hi, hz, hsz, hby, hzs, hpos⟩ := hE
    have elY : ∀ i j, i < xs.length → elOf K ys i j = if d0 ≤ i ∧ i < d0 + m then elOf K xs (s0 + (i - d0)) j else elOf K xs i j := by
      intro i j hi
      unfold elOf
      rw [← hys]
      by_cases h1 : i < d0
      · rw [if_neg (by omega)]
        congr 1
        simp only [List.getD_eq_getElem?_getD, List.append_assoc]
        rw [List.getElem?_append_left (by simp; omega), List.getElem?_take, if_pos h1]
      · by_cases h2 : i < d0 + m
        · rw [if_pos (by omega)]
          congr 1
          simp only [List.getD_eq_getElem?_getD, List.append_assoc]
          rw [List.getElem?_append_right (by simp; omega), List.getElem?_append_left (by simp; omega)]
          simp only [List.length_take, List.getElem?_take, List.getElem?_drop]
          rw [if_pos (by omega)]
          congr 2
          omega
        · rw [if_neg (by omega)]
          congr 1
          simp only [List.getD_eq_getElem?_getD, List.append_assoc]
          rw [List.getElem?_append_right (by simp; omega), List.getElem?_append_right (by simp; omega)]
          simp only [List.length_take, List.length_drop, List.getElem?_drop]
          congr 2
          omega
    have g0 : ∀ (w' : World) (b κ : Nat) (cur' : Array Value), B l = some (some (b, κ)) → (∀ c, c ≠ b → w'.heap[c]? = w.heap[c]?) → w'.heap.size = w.heap.size → w'.heap[b]? = some (.cells cur' T (0, 0)) → cur'.size = κ * K.sz → xs.length ≤ κ → κ ≤ maxLen → w'.os = w.os → w'.tape = w.tape → w'.output = w.output →
        (∀ i, i < ys.length → ∀ j, j < K.sz → ∃ u, cur'[i * K.sz + j]? = some u ∧ dOk S U w (elOf K ys i j) u) → G bs B S U ⟨s.t, hset s.h l (.live (arrK T K ys))⟩ a w' := by
      intro w' b κ cur' hb hoth hsz' hcur' hcs hxk hkm hos htp hop hel
      have hP : Pres (fun b => S b ∨ U b) w w' := fun c hc' => by
        have hU : U c := hc'.elim (g.su c) id
        exact hoth c fun e => g.sp l _ (b, κ) hh.1 hb (e ▸ hU)
      refine g.upd (fun k => k = l) _ (fun k hk => by simp [hget_hset, hk]) (fun _ _ h => h) (fun _ _ => rfl) (fun _ h => h) (fun _ h => h) g.su (fun b hb => by rw [hsz']; exact g.ub b hb) (fun _ h => .inl h) (fun _ h => .inl h)
        (fun k y' hk hy' => ?_) (fun k k' _ _ _ _ h h' _ _ hne => absurd (h.trans h'.symm) hne) (fun c hc hne => hoth c (hne l _ (b, κ) rfl hh.1 hb)) (fun k hk h => ?_) (fun k y q _ hk hq => g.sp k y q hk hq) (by omega) hos htp hop (fun _ h hn => absurd h hn)
      · subst hk
        rw [hget_hset, if_pos rfl] at hy'
        cases hy'
        refine ⟨.inr ⟨b, κ, cur', hb, hcur', hcs, by omega, hkm, fun i hi j hj => ?_⟩, fun p hp => ⟨g.sp k _ p hh.1 hp, g.cf k _ p hh.1 hp, fun k' o' q hk' ho' hq => g.nj k' k o' _ ho' hh.1 hk' q p hq hp⟩⟩
        obtain ⟨u, hu, hd⟩ := hel i hi j hj
        exact ⟨u, hu, dOk_mono (fun _ h => h) (fun _ h => h) hP _ _ hd⟩
      · subst hk; rw [hget_hset, if_pos rfl] at h; cases h
    have hx : svOk B S U w (.own l K.sz d0 dn) (a.eval x) := he.1
    have hy : svOk B S U w (.own l K.sz s0 sn) (a.eval y) := he.2.1
    rcases hx with ⟨hb, h0, hn0, hv⟩ | ⟨b, κ, o, cap, hb, hv, hcap, hle, ho⟩
    · rcases hy with ⟨_, h1, hn1, hv1⟩ | ⟨b', _, _, _, hb', _⟩
      · have hm0 : m = 0 := by omega
        have hysx : ys = xs := by rw [← hys, hm0, h0]; simp
        refine ⟨.int .i64 (m : Nat), w, B, S, U, ?_, ?_, rfl⟩
        · rw [hm0]
          simp [execOp, resolve, invoke, builtin, hv, hv1, Builtin.copy_, run_underlying ht, Builtin.lenOf, Builtin.firstCells, sizeOf, typeInfo, hi, goInt, storeCells]
        · rw [hysx]
          have hsame : ∀ k, hget (hsets s.h [(l, .live (arrK T K xs))]) k = hget s.h k := fun k => by
            show hget (hset s.h l (.live (arrK T K xs))) k = _
            rw [hget_hset]
            split
            · rename_i h; rw [h]; exact hh.1.symm
            · rfl
          exact { g with ob := fun k o' e => g.ob k o' (by rw [← hsame k]; exact e), nj := fun k k' o1 o2 e e' => g.nj k k' o1 o2 (by rw [← hsame k]; exact e) (by rw [← hsame k']; exact e'), sp := fun k o' p e => g.sp k o' p (by rw [← hsame k]; exact e), cf := fun k o' p e => g.cf k o' p (by rw [← hsame k]; exact e), fr := fun k e => g.fr k (by rw [← hsame k]; exact e) }
      · rw [hb] at hb'; cases hb'
    · rcases hy with ⟨hb', _⟩ | ⟨b', κ', o', cap', hb', hv', hcap', hle', ho'⟩
      · rw [hb] at hb'; cases hb'
      · rw [hb] at hb'
        cases hb'
        rcases g.ob l _ hh.1 with ⟨hob, _⟩ | ⟨b', κ', cur, hb', hcur, hcsz, hnk, hkm, hel⟩
        · rw [hb] at hob; cases hob
        · rw [hb] at hb'
          cases hb'
          have hblt : b < w.heap.size := (Array.getElem?_eq_some_iff.1 hcur).1
          obtain ⟨cs, hr, hg⟩ := mk_row (S := S) (U := U) (w := w) (sz := K.sz) (n := m) (el := fun i j => elOf K xs (s0 + i) j) (fun k => cur[s0 * K.sz + k]?) fun i hi j hj => by
            obtain ⟨u, hu, hd⟩ := hel (s0 + i) (by omega) j hj
            exact ⟨u, by rw [← Nat.add_assoc, ← Nat.add_mul]; exact hu, hd⟩
          have hcv : ∀ v, v ∈ cs → cellV v = true := fun v hv => by
            have := row_cell hr (fun i j _ hj => hK.2 _ j hj) v hv
            cases v <;> first | rfl | cases this
          have hcl : cs.length = m * K.sz := hr.1
          have hfit : d0 * K.sz + cs.length ≤ cur.size := by
            rw [hcl, hcsz, ← Nat.add_mul]
            exact Nat.mul_le_mul_right _ (by omega)
          by_cases hm0 : m = 0
          · have hysx : ys = xs := by rw [← hys, hm0]; simp
            have hcs0 : cs = [] := List.eq_nil_of_length_eq_zero (by rw [hcl, hm0]; simp)
            refine ⟨.int .i64 (m : Nat), w, B, S, U, ?_, g0 w b κ cur hb (fun _ _ => rfl) rfl hcur hcsz hnk hkm rfl rfl rfl (fun i hi j hj => by rw [hysx] at hi ⊢; exact hel i hi j hj), rfl⟩
            have hmin : Nat.min sn dn = 0 := by omega
            simp [execOp, resolve, invoke, builtin, hv, hv', Builtin.copy_, run_underlying ht, Builtin.lenOf, Builtin.firstCells, sizeOf, typeInfo, hi, goInt, storeCells, hmin, loadCells, loadCellsFrom, hm0]
          · have hod : o = d0 * K.sz := ho (.inl (by omega))
            have hos' : o' = s0 * K.sz := ho' (.inl (by omega))
            subst hod
            subst hos'
            obtain ⟨cur', hrun, hsz', hget⟩ := run_storeCells (P := P) (b := b) (T := T) cs cur (d0 * K.sz) 0 w hcur (by omega) hcv
            have hload := run_loadCells_list (P := P) w ⟨b, s0 * K.sz, none⟩ cs fun k u hk => by rw [add_eq]; exact cell_of_block hcur (hg k u hk)
            rw [hcl] at hload
            refine ⟨.int .i64 (m : Nat), { w with heap := w.heap.setIfInBounds b (.cells cur' T (0, 0)) }, B, S, U, ?_, g0 _ b κ cur' hb (fun c hc => by simp [Array.getElem?_setIfInBounds, Ne.symm hc]) (by simp) (by simp [hblt]) (by rw [hsz', hcsz]) hnk hkm rfl rfl rfl (fun i hi j hj => ?_), rfl⟩
            · simp only [execOp, resolve, hv, hv', invoke, builtin, Sem.run_bind, Sem.run_pure, Result.andThen_ok, List.map_toArray, List.map_cons, List.map_nil]
              have hcopy : (Builtin.copy_ #[t, t] ty #[.slice (some ⟨b, d0 * K.sz, none⟩) dn cap, .slice (some ⟨b, s0 * K.sz, none⟩) sn cap']).run P w = .ok (.int .i64 (m : Nat)) { w with heap := w.heap.setIfInBounds b (.cells cur' T (0, 0)) } := by
                simp [Builtin.copy_, run_underlying ht, Builtin.lenOf, Builtin.firstCells, sizeOf, typeInfo, hi, hm, hsz, hload, hrun, goInt]
              rw [hcopy]
              rfl
            · rw [hget, elY i j (by omega)]
              by_cases hcase : d0 ≤ i ∧ i < d0 + m
              · rw [if_pos hcase]
                have hij : i * K.sz + j - (d0 * K.sz + 0) = (i - d0) * K.sz + j := by
                  have : i * K.sz = d0 * K.sz + (i - d0) * K.sz := by rw [← Nat.add_mul]; congr 1; omega
                  omega
                obtain ⟨u, hu, hd⟩ := hr.2 (i - d0) (by omega) j hj
                have hlt := (List.getElem?_eq_some_iff.1 hu).1
                have hi2 : i * K.sz = d0 * K.sz + (i - d0) * K.sz := by rw [← Nat.add_mul]; congr 1; omega
                rw [if_pos (by omega), hij]
                exact ⟨u, hu, hd⟩
              · rw [if_neg hcase]
                have hout : ¬ (d0 * K.sz + 0 ≤ i * K.sz + j ∧ i * K.sz + j < d0 * K.sz + 0 + cs.length) := by
                  rintro ⟨hA, hB⟩
                  rw [hcl, Nat.add_zero, ← Nat.add_mul] at hB
                  apply hcase
                  constructor
                  · rcases Nat.lt_or_ge i d0 with h | h
                    · have : (i + 1) * K.sz ≤ d0 * K.sz := Nat.mul_le_mul_right _ h
                      rw [Nat.add_mul, Nat.one_mul] at this
                      omega
                    · exact h
                  · rcases Nat.lt_or_ge i (d0 + m) with h | h
                    · exact h
                    · have : (d0 + m) * K.sz ≤ i * K.sz := Nat.mul_le_mul_right _ h
                      omega
                rw [if_neg hout]
                exact hel i (by omega) j hj

/-! ### Less is said -/

def wkA (x y : AV) : Prop := x = y ∨
  match x, y with
  | .tv (.one x), .tv (.one y) => weakS x y
  | .tv (.agg x), .tv (.agg y) => all2 wkS x y
  | _, _ => False
def wkH (x y : HS) : Prop := x = y ∨
  match x, y with
  | .live (.box T x), .live (.box T' y) => T' = T ∧ all2 wkS x y
  | _, _ => False
theorem hget_all2 {R : HS → HS → Prop} (h0 : R .free .free) : ∀ {a b : List HS}, all2 R a b → ∀ i, R (hget a i) (hget b i)
  | [], [], _, _ => h0
  | _ :: _, _ :: _, h, 0 => h.1
  | _ :: a, _ :: b, h, i + 1 => hget_all2 h0 (a := a) (b := b) h.2 i
  | [], _ :: _, h, _ => h.elim
  | _ :: _, [], h, _ => h.elim
theorem Gs.less {s s' : St} {a : Act} {w : World} (ht : all2 wkA s.t s'.t) (hh : all2 wkH s.h s'.h) (hG : Gs bs s a w) : Gs bs s' a w := by
  obtain ⟨B, S, U, g⟩ := hG
  have hk : ∀ k, wkH (hget s.h k) (hget s'.h k) := hget_all2 (.inl rfl) hh
  have hlv : ∀ k o', hget s'.h k = .live o' → ∃ o, hget s.h k = .live o ∧ (obOk B S U w k o → obOk B S U w k o') := by
    intro k o' ho'
    rcases hk k with h | h
    · exact ⟨o', by rw [h]; exact ho', id⟩
    · rw [ho'] at h
      match hs : hget s.h k, o', h with
      | .live (.box T x), .box T' y, h =>
        obtain ⟨rfl, h⟩ := h
        exact ⟨_, rfl, fun ⟨b, κ, cur, h1, h2, h3⟩ => ⟨b, κ, cur, h1, h2, all2_wk h h3⟩⟩
  refine ⟨B, S, U, { g with tm := fun k => ?_, ob := fun k o' e => ?_, nj := fun k k' o o' e e' => ?_, sp := fun k o' p e => ?_, cf := fun k o' p e => ?_, fr := fun k e => ?_ }⟩
  · have h := g.tm k
    rcases tget_all2 (R := wkA) (.inl rfl) ht k with e | e
    · rw [← e]; exact h
    · match hx : tget s.t k, hy : tget s'.t k with
      | .tv (.one x), .tv (.one y) => rw [hx, hy] at e; rw [hx] at h; exact weakS_ok (x := x) (y := y) e h
      | .tv (.agg x), .tv (.agg y) => rw [hx, hy] at e; rw [hx] at h; obtain ⟨cs, h1, h2⟩ := h; exact ⟨cs, h1, all2_wk e h2⟩
      | .tv (.one x), .tv (.agg y) => rw [hx, hy] at e; exact e.elim
      | .tv (.agg x), .tv (.one y) => rw [hx, hy] at e; exact e.elim
      | .tv (.one x), .tup y => rw [hx, hy] at e; exact e.elim
      | .tv (.agg x), .tup y => rw [hx, hy] at e; exact e.elim
      | .tup x, .tv (.one y) => rw [hx, hy] at e; exact e.elim
      | .tup x, .tv (.agg y) => rw [hx, hy] at e; exact e.elim
      | .tup x, .tup y => rw [hx, hy] at e; exact e.elim
  · obtain ⟨o, ho, f⟩ := hlv k o' e
    exact f (g.ob k o ho)
  · obtain ⟨o1, ho1, _⟩ := hlv k o e
    obtain ⟨o2, ho2, _⟩ := hlv k' o' e'
    exact g.nj k k' o1 o2 ho1 ho2
  · obtain ⟨o, ho, _⟩ := hlv k o' e
    exact g.sp k o p ho
  · obtain ⟨o, ho, _⟩ := hlv k o' e
    exact g.cf k o p ho
  · rcases hk k with h | h
    · exact g.fr k (by rw [h]; exact e)
    · rw [e] at h
      match hs : hget s.h k, h with
      | .live (.box T x), h => exact h.elim
      | .live (.arr ..), h => exact h.elim
      | .live (.mp ..), h => exact h.elim
      | .free, h => exact h.elim
      | .dead, h => exact h.elim

/-! ### An object under a new number -/

def mvr (l m k : Nat) : Nat := if k = l then m else k
def mvS (l m : Nat) (x y : SV) : Prop := x = y ∨ renS (mvr l m) x = y
def mvA (l m : Nat) (x y : AV) : Prop := x = y ∨
  match x, y with
  | .tv (.one x), .tv (.one y) => mvS l m x y
  | .tv (.agg x), .tv (.agg y) => all2 (mvS l m) x y
  | _, _ => False
def mvO (l m : Nat) (x y : HS) : Prop := x = y ∨
  match x, y with
  | .live (.box T x), .live (.box T' y) => T' = T ∧ all2 (mvS l m) x y
  | _, _ => False
def mvH (l m : Nat) (o : HObj) : Nat → List HS → List HS → Prop
  | _, [], [] => True
  | i, x :: r, y :: r' => ((i = l ∧ y = .dead) ∨ (i = m ∧ y = .live o) ∨ (i ≠ l ∧ i ≠ m ∧ mvO l m x y)) ∧ mvH l m o (i + 1) r r'
  | _, _, _ => False
theorem mvH_get {l m : Nat} {o : HObj} : ∀ {a b : List HS} {i : Nat}, mvH l m o i a b → ∀ k, (k < b.length → ((i + k = l ∧ hget b k = .dead) ∨ (i + k = m ∧ hget b k = .live o) ∨ (i + k ≠ l ∧ i + k ≠ m ∧ mvO l m (hget a k) (hget b k)))) ∧ (b.length ≤ k → hget a k = .free ∧ hget b k = .free)
  | [], [], _, _, k => ⟨fun h => absurd h (Nat.not_lt_zero _), fun _ => ⟨rfl, rfl⟩⟩
  | x :: r, y :: r', i, h, 0 => ⟨fun _ => h.1, fun h => absurd h (by simp)⟩
  | x :: r, y :: r', i, h, k + 1 => by
    have := mvH_get h.2 k
    rw [show i + (k + 1) = i + 1 + k from by omega]
    exact ⟨fun hk => this.1 (by simpa using hk), fun hk => this.2 (by simpa using hk)⟩
  | [], _ :: _, _, h, _ => h.elim
  | _ :: _, [], _, h, _ => h.elim
theorem svOk_ren {B B' : Bk} {S U : Nat → Prop} {w : World} {r : Nat → Nat} (h : ∀ k p, B k = some p → B' (r k) = some p) : ∀ {x : SV} {v : Value}, svOk B S U w x v → svOk B' S U w (renS r x) v
  | .d _, _, hv => hv
  | .ptr l off, v, ⟨b, κ, e, hv⟩ => ⟨b, κ, h _ _ e, hv⟩
  | .own l sz off n, v, hv => by
    rcases hv with ⟨e, hv⟩ | ⟨b, κ, o, cap, e, hv⟩
    · exact .inl ⟨h _ _ e, hv⟩
    · exact .inr ⟨b, κ, o, cap, h _ _ e, hv⟩
  | .ep .., _, hv => hv
  | .mref l, v, ⟨b, κ, e, hv⟩ => ⟨b, κ, h _ _ e, hv⟩
  | .clo f ls, v, hv => by
    obtain ⟨ps, e, h2⟩ := hv
    exact ⟨ps, e, (all2_map r).2 (all2_mono (R := fun (l : Nat) (p : Value) => ∃ b κ, B l = some (some (b, κ)) ∧ p = .pointer (some ⟨b, 0, none⟩)) (fun l p hq => by obtain ⟨b, κ, q, hv⟩ := hq; exact ⟨b, κ, h _ _ q, hv⟩) h2)⟩
  | .cl .., _, hv => hv
theorem all2_rel {B B' : Bk} {S U : Nat → Prop} {w : World} {R : SV → SV → Prop} (f : ∀ x y v, R x y → svOk B S U w x v → svOk B' S U w y v) : ∀ {x y : List SV} {vs : List Value}, all2 R x y → all2 (svOk B S U w) x vs → all2 (svOk B' S U w) y vs
  | [], [], [], _, _ => trivial
  | x :: xs, y :: ys, v :: vs, h, h' => ⟨f _ _ _ h.1 h'.1, all2_rel f h.2 h'.2⟩
  | [], [], _ :: _, _, h => h.elim
  | _ :: _, _ :: _, [], _, h => h.elim
  | [], _ :: _, _, h, _ => h.elim
  | _ :: _, [], _, h, _ => h.elim
theorem Gs.move {s s' : St} {a : Act} {w : World} (l m : Nat) {o : HObj} (hl : hget s.h l = .live o) (hm : hget s.h m = .free) (hs' : hget s'.h m = .live o) (ht : all2 (mvA l m) s.t s'.t) (hh : mvH l m o 0 (s.h ++ [.free]) s'.h) (hG : Gs bs s a w) : Gs bs s' a w := by
  obtain ⟨B, S, U, g⟩ := hG
  have happ : ∀ k, hget (s.h ++ [.free]) k = hget s.h k := by
    intro k
    generalize s.h = h
    induction h generalizing k with
    | nil => cases k with
      | zero => rfl
      | succ k => rfl
    | cons x r ih => cases k with
      | zero => rfl
      | succ k => exact ih k
  have hlm : l ≠ m := fun e => by rw [e, hm] at hl; cases hl
  have hBm := g.fr m hm
  have hBl : ∃ q, B l = some q := by
    match o, g.ob l _ hl with
    | .box .., ⟨b, κ, cur, h, _⟩ => exact ⟨_, h⟩
    | .arr .., .inl ⟨h, _⟩ => exact ⟨_, h⟩
    | .arr .., .inr ⟨b, κ, cur, h, _⟩ => exact ⟨_, h⟩
    | .mp .., ⟨b, κ, e, c, h, _⟩ => exact ⟨_, h⟩
  obtain ⟨q, hq⟩ := hBl
  have hB : ∀ k p, B k = some p → bset B m q k = some p := fun k p hp => by
    unfold bset
    split
    · rename_i h; subst h; rw [hBm] at hp; cases hp
    · exact hp
  have hBr : ∀ k p, B k = some p → bset B m q (mvr l m k) = some p := fun k p hp => by
    unfold mvr
    split
    · rename_i h; subst h; rw [hq] at hp; simp [bset, hp]
    · exact hB k p hp
  have mono := avOk_mono (B := B) (B' := bset B m q) (S := S) (S' := S) (U := U) (U' := U) (w := w) (w' := w) hB (fun _ h => h) (fun _ h => h) (Pres.refl _ _)
  have monoS := svOk_mono (B := B) (B' := bset B m q) (S := S) (S' := S) (U := U) (U' := U) (w := w) (w' := w) hB (fun _ h => h) (fun _ h => h) (Pres.refl _ _)
  have hsv : ∀ x y v, mvS l m x y → svOk B S U w x v → svOk (bset B m q) S U w y v := fun x y v h hv => by
    rcases h with rfl | rfl
    · exact monoS _ _ hv
    · exact svOk_ren hBr hv
  have hk := fun k => mvH_get hh k
  simp only [Nat.zero_add] at hk
  have hlv : ∀ k o', hget s'.h k = .live o' → ∃ k0 o0, hget s.h k0 = .live o0 ∧ (∀ p, bset B m q k = some p → B k0 = some p) ∧ k0 = (if k = m then l else k) ∧ k ≠ l ∧ obOk (bset B m q) S U w k o' := by
    intro k o' e
    rcases Nat.lt_or_ge k s'.h.length with hlt | hge
    · rcases (hk k).1 hlt with ⟨_, h⟩ | ⟨h1, h2⟩ | ⟨h1, h2, h3⟩
      · rw [e] at h; cases h
      · subst h1
        have h2' : o' = o := by rw [e] at h2; cases h2; rfl
        rw [h2']
        refine ⟨l, o, hl, fun p hp => ?_, by simp, Ne.symm hlm, ?_⟩
        · simp [bset] at hp; rw [hq, hp]
        · have hob := g.ob l _ hl
          match o, hob with
          | .box T cs, ⟨b, κ, cur, h1, h2, h3⟩ =>
            rw [hq] at h1; cases h1
            exact ⟨b, κ, cur, by simp [bset], h2, all2_mono (fun a v h => monoS a v h) h3⟩
          | .arr T sz n el, .inl ⟨h1, h2⟩ =>
            rw [hq] at h1; cases h1
            exact .inl ⟨by simp [bset], h2⟩
          | .arr T sz n el, .inr ⟨b, κ, cur, h1, h2⟩ =>
            rw [hq] at h1; cases h1
            exact .inr ⟨b, κ, cur, by simp [bset], h2⟩
          | .mp es, ⟨b, κ, en, cl, h1, h2⟩ =>
            rw [hq] at h1; cases h1
            exact ⟨b, κ, en, cl, by simp [bset], h2⟩
      · have hkm : ∀ p, bset B m q k = some p → B k = some p := fun p hp => by simpa [bset, if_neg h2] using hp
        rw [happ] at h3
        rcases h3 with h | h
        · exact ⟨k, o', by rw [h]; exact e, hkm, (if_neg h2).symm, h1, obOk_mono hB (fun _ h => h) (fun _ h => h) (Pres.refl _ _) (fun _ _ => rfl) (g.ob k o' (by rw [h]; exact e))⟩
        · rw [e] at h
          match hs : hget s.h k, o', h with
          | .live (.box T x), .box T' y, h =>
            obtain ⟨rfl, h⟩ := h
            obtain ⟨b, κ, cur, e1, e2, e3⟩ := g.ob k _ hs
            exact ⟨k, _, hs, hkm, (if_neg h2).symm, h1, b, κ, cur, hB _ _ e1, e2, all2_rel hsv h e3⟩
    · rw [((hk k).2 hge).2] at e; cases e
  refine ⟨bset B m q, S, U, { df := g.df, sz := g.sz, tm := fun k => ?_, ob := fun k o' e => ?_, nj := fun k1 k2 o1 o2 e1 e2 hne p p' hp hp' => ?_, sp := fun k o' p e hp => ?_, cf := fun k o' p e hp => ?_, fr := fun k e => ?_, su := g.su, ub := g.ub, s0 := g.s0, u0 := g.u0, sn := g.sn, un := g.un, ps := g.ps, hs := g.hs, os := g.os, tp := g.tp, op := g.op, bl := fun k' p e => hB k' p (g.bl k' p e), bk := g.bk, uf := g.uf }⟩
  · have h := g.tm k
    rcases tget_all2 (R := mvA l m) (.inl rfl) ht k with e | e
    · rw [← e]; exact mono _ _ h
    · match hx : tget s.t k, hy : tget s'.t k with
      | .tv (.one x), .tv (.one y) => rw [hx, hy] at e; rw [hx] at h; exact hsv x y _ e h
      | .tv (.agg x), .tv (.agg y) => rw [hx, hy] at e; rw [hx] at h; obtain ⟨cs, h1, h2⟩ := h; exact ⟨cs, h1, all2_rel hsv e h2⟩
      | .tv (.one x), .tv (.agg y) => rw [hx, hy] at e; exact e.elim
      | .tv (.agg x), .tv (.one y) => rw [hx, hy] at e; exact e.elim
      | .tv (.one x), .tup y => rw [hx, hy] at e; exact e.elim
      | .tv (.agg x), .tup y => rw [hx, hy] at e; exact e.elim
      | .tup x, .tv (.one y) => rw [hx, hy] at e; exact e.elim
      | .tup x, .tv (.agg y) => rw [hx, hy] at e; exact e.elim
      | .tup x, .tup y => rw [hx, hy] at e; exact e.elim
  · obtain ⟨_, _, _, _, _, _, h⟩ := hlv k o' e
    exact h
  · obtain ⟨j1, y1, h1, f1, g1, n1, _⟩ := hlv k1 o1 e1
    obtain ⟨j2, y2, h2, f2, g2, n2, _⟩ := hlv k2 o2 e2
    refine g.nj j1 j2 y1 y2 h1 h2 (fun e => hne ?_) p p' (f1 _ hp) (f2 _ hp')
    rw [g1, g2] at e
    split at e <;> split at e
    · rename_i a b; rw [a, b]
    · exact absurd e.symm n2
    · exact absurd e n1
    · exact e
  · obtain ⟨j1, y1, h1, f1, _⟩ := hlv k o' e
    exact g.sp j1 y1 p h1 (f1 _ hp)
  · obtain ⟨j1, y1, h1, f1, _⟩ := hlv k o' e
    exact g.cf j1 y1 p h1 (f1 _ hp)
  · rcases Nat.lt_or_ge k s'.h.length with hlt | hge
    · rcases (hk k).1 hlt with ⟨_, h⟩ | ⟨h1, h2⟩ | ⟨h1, h2, h3⟩
      · rw [e] at h; cases h
      · rw [e] at h2; cases h2
      · simp only [bset, if_neg h2]
        rw [happ] at h3
        rcases h3 with h | h
        · exact g.fr k (by rw [h]; exact e)
        · rw [e] at h
          match hs : hget s.h k, h with
          | .live (.box T x), h => exact h.elim
          | .live (.arr ..), h => exact h.elim
          | .live (.mp ..), h => exact h.elim
          | .free, h => exact h.elim
          | .dead, h => exact h.elim
    · have h := ((hk k).2 hge).1
      rw [happ] at h
      have : k ≠ m := fun e' => by
        subst e'
        rw [e] at hs'; cases hs'
      simp only [bset, if_neg this]
      exact g.fr k h
theorem kU8_sz : kU8.sz = 1 := rfl
theorem kSl_sz {α : Type} (t : Bool) (K : Kd α) : (kSl t K).sz = 1 := rfl
theorem kInt_sz (k : IntKind) : (kInt k).sz = 1 := rfl
theorem kBool_sz : kBool.sz = 1 := rfl
theorem kStr_sz : kStr.sz = 1 := rfl

/-! ### Another numbering, by whole lists -/

def pickH (rl : List Nat) (h : List HS) : Nat → List HS → List HS
  | _, [] => []
  | i, .dead :: l => .dead :: pickH rl h (i + 1) l
  | i, _ :: l => hget h (rl.getD i 0) :: pickH rl h (i + 1) l
theorem renS_any {r : Nat → Nat} : ∀ {x : SV}, renS r x = .d .any → x = .d .any
  | .d x, h => h
theorem renA_any {r : Nat → Nat} : ∀ {x : AV}, renA r x = .any → x = .any
  | .tv (.one x), h => by
    have : renS r x = .d .any := by injection h with h; injection h
    rw [renS_any this]
  | .tv (.agg l), h => by injection h with h; cases h
theorem tget_map {r : Nat → Nat} : ∀ (l : List AV) (i : Nat), i < l.length → tget (l.map (renA r)) i = renA r (tget l i)
  | [], _, h => absurd h (Nat.not_lt_zero _)
  | _ :: _, 0, _ => rfl
  | _ :: l, i + 1, h => tget_map l i (by simpa using h)
theorem tget_any : ∀ {l : List AV} {i : Nat}, l.length ≤ i → tget l i = .any
  | [], _, _ => rfl
  | _ :: _, 0, h => absurd h (by simp)
  | _ :: l, i + 1, h => tget_any (l := l) (by simpa using h)
theorem tget_all {p : AV → Bool} : ∀ {l : List AV} {i : Nat}, l.all p = true → i < l.length → p (tget l i) = true
  | [], _, _, h => absurd h (Nat.not_lt_zero _)
  | x :: l, 0, h, _ => by simp only [List.all_cons, Bool.and_eq_true] at h; exact h.1
  | x :: l, i + 1, h, hi => by simp only [List.all_cons, Bool.and_eq_true] at h; exact tget_all (l := l) h.2 (by simpa using hi)
theorem pick_get {r : Nat → Nat} {rl : List Nat} {h : List HS} : ∀ {l : List HS} {i : Nat}, l.map (renH r) = pickH rl h i l → ∀ k o, hget l k = .live o → hget h (rl.getD (i + k) 0) = .live (renO r o)
  | [], _, _, k, o, e => by cases e
  | .live x :: l, i, hh, 0, o, e => by
    cases e
    simp only [List.map_cons, pickH, List.cons.injEq] at hh
    exact hh.1.symm
  | .dead :: l, i, hh, 0, o, e => by cases e
  | .free :: l, i, hh, 0, o, e => by cases e
  | .live x :: l, i, hh, k + 1, o, e => by
    simp only [List.map_cons, pickH, List.cons.injEq] at hh
    rw [show i + (k + 1) = i + 1 + k from by omega]
    exact pick_get hh.2 k o e
  | .dead :: l, i, hh, k + 1, o, e => by
    simp only [List.map_cons, pickH, List.cons.injEq] at hh
    rw [show i + (k + 1) = i + 1 + k from by omega]
    exact pick_get hh.2 k o e
  | .free :: l, i, hh, k + 1, o, e => by
    simp only [List.map_cons, pickH, List.cons.injEq] at hh
    rw [show i + (k + 1) = i + 1 + k from by omega]
    exact pick_get hh.2 k o e
theorem hget_all {m : Nat} : ∀ {l : List HS} {k : Nat} {o : HObj}, l.all (idsH m) = true → hget l k = .live o → idsO m o = true
  | [], _, _, _, e => by cases e
  | x :: l, 0, o, h, e => by
    simp only [List.all_cons, Bool.and_eq_true] at h
    have e : x = .live o := e
    subst e
    exact h.1
  | x :: l, k + 1, o, h, e => by
    simp only [List.all_cons, Bool.and_eq_true] at h
    exact hget_all (l := l) (k := k) h.2 e
/-- A state that is another one, its objects numbered anew. -/
theorem Gs.into2 {N k : Nat} {w0 : World} {S0 U0 : Nat → Prop} {B0 : Bk} {s s' : St} {a : Act} {w : World} (rl : List Nat) (m : List Bool) {t1 t2 : List AV} {h1 h2 : List HS} (et : t1 = t2) (eh : h1 = h2) (hrl : Nat.beq s'.h.length rl.length = true) (hk : Nat.ble k rl.length = true) (hfix : fixB k (fun i => rl.getD i 0) = true) (hnd : nodupB rl = true)
    (hnf : noFree s'.h = true) (hidt : s'.t.all (idsA rl.length) = true) (hidh : s'.h.all (idsH rl.length) = true)
    (ht1 : s'.t.map (renA fun i => rl.getD i 0) = t1) (ht2 : maskT m s.t = t2) (hh1 : s'.h.map (renH fun i => rl.getD i 0) = h1) (hh2 : pickH rl s.h 0 s'.h = h2)
    (hG : Gs (mkBase N k w0 S0 U0 B0) s a w) : Gs (mkBase N k w0 S0 U0 B0) s' a w := by
  have hrl' : s'.h.length = rl.length := Nat.eq_of_beq_eq_true hrl
  have hT : s'.t.map (renA fun i => rl.getD i 0) = maskT m s.t := ht1.trans (et.trans ht2.symm)
  have hH : s'.h.map (renH fun i => rl.getD i 0) = pickH rl s.h 0 s'.h := hh1.trans (eh.trans hh2.symm)
  refine hG.ren (fun i => rl.getD i 0) (by rw [hrl']; exact Nat.le_of_ble_eq_true hk) (fun l hl => ?_) (fun l l' h1 h2 e => nodupB_spec hnd l l' (by omega) (by omega) e) (fun l hl => noFree_spec hnf l hl) (fun l hl => hget_ge hl) (fun i => ?_) (fun l o e => ?_)
  · simp only [fixB, List.all_eq_true, List.mem_range] at hfix
    exact Nat.eq_of_beq_eq_true (hfix l hl)
  · rcases Nat.lt_or_ge i s'.t.length with hi | hi
    · have h3 := tget_map (r := fun i => rl.getD i 0) s'.t i hi
      rw [hT] at h3
      rcases maskT_spec m s.t i with h | h
      · rw [h] at h3
        exact .inl (renA_any h3.symm)
      · rw [h] at h3
        exact .inr ⟨by rw [hrl']; exact tget_all hidt hi, h3.symm⟩
    · exact .inl (tget_any hi)
  · have := pick_get hH l o e
    rw [Nat.zero_add] at this
    exact ⟨by rw [hrl']; exact hget_all hidh e, this⟩
end Go.Proofs.Ytioenfjcbikbcaa.Q

namespace Go.Proofs.Ytioenfjcbikbcaa.Q
open Go Go.RowKit
set_option linter.unusedVariables false

variable {P : Program}

/-- A law without arguments. -/
theorem law0 {f : Nat} (h : Holds P f ⟨[], [], dv (.bool true), []⟩) (W : World) : Calls P f #[] W fun e w' => e = .returned (.bool true) ∧ Below W.heap.size W w' := by
  refine (h W (fun _ => none) (fun _ => False) (fun _ => False) [] rfl ?_).mono ?_
  · exact { df := rfl, sz := rfl, tm := fun k => by cases k <;> exact trivial, ob := fun l o e => (by cases l <;> cases e), nj := fun l l' o o' e => (by cases l <;> cases e), sp := fun l o p e => (by cases l <;> cases e), cf := fun l o p e => (by cases l <;> cases e), fr := fun _ _ => rfl, su := fun _ h => h, ub := fun _ h => h.elim, s0 := fun _ h => h, u0 := fun _ h => h, sn := fun _ h => h.elim, un := fun _ h => h.elim, ps := fun _ _ _ => rfl, hs := Nat.le_refl _, os := rfl, tp := rfl, op := rfl, bl := fun _ _ h => h, bk := fun _ _ => rfl, uf := fun _ h _ => h.elim }
  · rintro e w' ⟨v, B', S', U', rfl, g⟩
    have hv : v = .bool true := g.tm 0
    subst hv
    exact ⟨rfl, ⟨g.os, g.tp, g.op, g.hs, fun k hk => g.ps k hk fun ⟨i, κ, hi, _⟩ => absurd hi (Nat.not_lt_zero _)⟩⟩
end Go.Proofs.Ytioenfjcbikbcaa.Q

namespace Go.Proofs.Ytioenfjcbikbcaa.Q
open Go Go.RowKit
set_option linter.unusedVariables false

/-! ### What the arguments of a law hold -/

variable {P : Program}

def inW (w : World) (b : Nat) : Prop := b < w.heap.size
def cellsOk {α : Type} (w : World) (K : Kd α) (a : α) (cs : List Value) : Prop := cs.length = K.sz ∧ ∀ j, j < K.sz → ∃ u, cs[j]? = some u ∧ dOk (inW w) (inW w) w (K.cell a j) u
/-- Cells of a type that are read hold some data of a kind. -/
def Rd {α : Type} (P : Program) (t : TypeId) (K : Kd α) (ok : α → Prop) : Prop :=
  ∀ (H : Type) (enc : TypeId × Value → H) (w : World) (base : Nat) (sp : Nat → Bool) (held : Bool) (fuel : Nat) (cs : List Value) (x : DataW H × List MemPlace), DataW.trod enc P w base sp held fuel t cs = some x → ∃ a : α, ok a ∧ cellsOk w K a cs

theorem rd_int {t : TypeId} {k : IntKind} (ht : P.underlying t = some (.int k)) : Rd P t (kInt k) (fun n => (Lit.int k n).wf = true) := fun H enc w base sp held fuel cs x h => by
  obtain ⟨n, rfl, _, hw⟩ := DataW.trod_int ht h
  refine ⟨n, hw, rfl, fun j hj => ?_⟩
  have hj : j < 1 := hj
  obtain rfl : j = 0 := by omega
  exact ⟨_, rfl, rfl⟩
theorem rd_bool {t : TypeId} (ht : P.underlying t = some .bool) : Rd P t kBool (fun _ => True) := fun H enc w base sp held fuel cs x h => by
  obtain ⟨n, rfl, _⟩ := DataW.trod_bool ht h
  refine ⟨n, trivial, rfl, fun j hj => ?_⟩
  have hj : j < 1 := hj
  obtain rfl : j = 0 := by omega
  exact ⟨_, rfl, rfl⟩
theorem rd_u8 {t : TypeId} (ht : P.underlying t = some (.int .u8)) : Rd P t kU8 (fun _ => True) := fun H enc w base sp held fuel cs x h => by
  obtain ⟨n, rfl, _, hw⟩ := DataW.trod_int ht h
  have hw : 0 ≤ n ∧ n < 256 := by
    have h1 : IntKind.u8.min ≤ n ∧ n ≤ IntKind.u8.max := by simpa [Lit.wf] using hw
    have h2 : IntKind.u8.min = 0 := by decide
    have h3 : IntKind.u8.max = 255 := by decide
    omega
  refine ⟨UInt8.ofNat n.toNat, trivial, rfl, fun j hj => ?_⟩
  have hj : j < 1 := hj
  obtain rfl : j = 0 := by omega
  refine ⟨_, rfl, ?_⟩
  show Value.int .u8 n = .int .u8 ((UInt8.ofNat n.toNat).toNat : Int)
  congr 1
  rw [UInt8.toNat_ofNat']
  omega
theorem rd_str {t : TypeId} (ht : P.underlying t = some .string) : Rd P t kStr (fun l => l.length ≤ maxLen) := fun H enc w base sp held fuel cs x h => by
  obtain ⟨s, rfl, _, hw⟩ := DataW.trod_string ht h
  refine ⟨s.data.toList, by simpa using hw, rfl, fun j hj => ?_⟩
  have hj : j < 1 := hj
  obtain rfl : j = 0 := by omega
  exact ⟨_, rfl, rfl⟩
theorem list_choose {α : Type} {R : Nat → α → Prop} : ∀ (n : Nat), (∀ i, i < n → ∃ a, R i a) → ∃ xs : List α, xs.length = n ∧ ∀ i a, xs[i]? = some a → R i a
  | 0, _ => ⟨[], rfl, fun _ _ h => by simp at h⟩
  | n + 1, h => by
    obtain ⟨xs, h1, h2⟩ := list_choose n fun i hi => h i (by omega)
    obtain ⟨a, ha⟩ := h n (by omega)
    refine ⟨xs ++ [a], by simp [h1], fun i b hb => ?_⟩
    rcases Nat.lt_or_ge i n with hi | hi
    · rw [List.getElem?_append_left (by omega)] at hb; exact h2 i b hb
    · have hlt := (List.getElem?_eq_some_iff.1 hb).1
      simp only [List.length_append, List.length_cons, List.length_nil] at hlt
      obtain rfl : i = n := by omega
      rw [List.getElem?_append_right (by omega), h1] at hb
      simp at hb
      subst hb
      exact ha
theorem rd_slice {α : Type} {t e : TypeId} {K : Kd α} {ok : α → Prop} (ht : P.underlying t = some (.slice e)) (hc : P.cellsOf e = K.sz) (hK : 0 < K.sz) (h : Rd P e K ok) : Rd P t (kSl false K) (fun xs => xs.length ≤ maxLen ∧ ∀ x, x ∈ xs → ok x) := fun H enc w base sp held fuel cs x hx => by
  have mk : ∀ (xs : List α) (u : Value), cs = [u] → dOk (inW w) (inW w) w (dsl false false K xs) u → cellsOk w (kSl false K) xs cs := fun xs u e hd => ⟨by rw [e]; rfl, fun j hj => by
    have hj : j < 1 := hj
    obtain rfl : j = 0 := by omega
    exact ⟨u, by rw [e]; rfl, hd⟩⟩
  rcases DataW.trod_slice ht hx with ⟨hcs, _⟩ | ⟨a, len, cap, elems, rest, n, _, hcs, _, hb, hl, hm, hlen, hel, _, _⟩
  · exact ⟨[], ⟨by simp, fun x hx => by cases hx⟩, mk [] _ hcs ⟨none, 0, rfl, Nat.le_refl _, fun _ => rfl, (fun h => by cases h), fun i hi => absurd hi (Nat.not_lt_zero _)⟩⟩
  · have hr : ∀ i, i < len → ∃ b : α, ok b ∧ ∃ cs', w.cells? base (a.add (i * P.cellsOf e)) (P.cellsOf e) = some cs' ∧ cellsOk w K b cs' := fun i hi => by
      have h1 := hel i hi
      rw [List.getElem?_eq_getElem (by omega), Option.bind_eq_some_iff] at h1
      obtain ⟨cs', h2, h3⟩ := h1
      obtain ⟨b, hb1, hb2⟩ := h H enc w base sp held n cs' _ h3
      exact ⟨b, hb1, cs', h2, hb2⟩
    obtain ⟨xs, hxl, hxs⟩ := list_choose len hr
    refine ⟨xs, ⟨by omega, fun x hx => ?_⟩, mk xs _ hcs ⟨some a, cap, by rw [hxl], by rw [hxl]; exact hl, by simp, by simp, fun i hi => ?_⟩⟩
    · obtain ⟨i, hi, rfl⟩ := List.getElem_of_mem hx
      exact (hxs i _ (List.getElem?_eq_getElem hi)).1
    · have hi0 : 0 < xs.length := by omega
      obtain ⟨_, cs0, hc0, ho0⟩ := hxs 0 _ (List.getElem?_eq_getElem hi0)
      obtain ⟨_, hl0, hg0⟩ := World.cells?_some hc0
      have h00 := hg0 0 (by rw [hc]; exact hK)
      obtain ⟨u0, hu0, _⟩ := ho0.2 0 hK
      rw [hu0] at h00
      have hcell : w.cell? a = some u0 := by simpa [Addr.add] using h00
      have hspot : a.spot = none := by
        unfold World.cell? at hcell
        split at hcell
        · cases hs : a.spot with
          | none => rfl
          | some q => rw [hs] at hcell; simp at hcell
        · cases hcell
      have hblk : a.block < w.heap.size := World.cells?_block (a := a.add (0 * P.cellsOf e)) hc0 (by rw [hc]; exact hK) |> fun h => by simpa [Addr.add] using h
      refine ⟨a, rfl, hspot, hblk, fun j hj => ?_⟩
      obtain ⟨_, cs', hc', ho'⟩ := hxs i _ (List.getElem?_eq_getElem hi)
      obtain ⟨_, hl', hg'⟩ := World.cells?_some hc'
      have hij := hg' j (by rw [hc]; exact hj)
      obtain ⟨u, hu, hd⟩ := ho'.2 j hj
      rw [hu, hc] at hij
      refine ⟨u, ?_, ?_⟩
      · rw [← hij]
        congr 1
        obtain ⟨b, o, s⟩ := a
        simp only at hspot
        subst hspot
        simp only [Addr.add]
        split <;> split <;> simp_all
        · omega
      · show dOk _ _ w (K.cell (xs.getD i K.z) j) u
        rw [List.getD_eq_getElem?_getD, List.getElem?_eq_getElem hi]
        exact hd

/-- One field of a struct that is read. -/
theorem rd_field {α : Type} {K : Kd α} {ok : α → Prop} {H : Type} {enc : TypeId × Value → H} {w : World} {base : Nat} {sp : Nat → Bool} {held : Bool} {n : Nat} {cs : List Value} {xs : List (DataW H × List MemPlace)} {fs : Array Field} (hx : xs.length = fs.size)
    (h : ∀ (i : Nat) (f : Field), fs[i]? = some f → DataW.trod enc P w base sp held n f.type ((cs.drop f.offset).take (P.cellsOf f.type)) = xs[i]?) (i : Nat) {f : Field} (hf : fs[i]? = some f) {t : TypeId} {off : Nat} (ht : f.type = t) (ho : f.offset = off) (hr : Rd P t K ok) :
    ∃ a : α, ok a ∧ ∀ j, j < K.sz → ∃ u, cs[off + j]? = some u ∧ dOk (inW w) (inW w) w (K.cell a j) u := by
  subst ht ho
  have hi : i < xs.length := by rw [hx]; exact (Array.getElem?_eq_some_iff.1 hf).1
  have h1 := h i f hf
  rw [List.getElem?_eq_getElem hi] at h1
  obtain ⟨a, h2, h3, h4⟩ := hr H enc w base sp held n _ _ h1
  refine ⟨a, h2, fun j hj => ?_⟩
  obtain ⟨u, hu, hd⟩ := h4 j hj
  refine ⟨u, ?_, hd⟩
  rw [List.getElem?_take] at hu
  split at hu
  · rwa [List.getElem?_drop] at hu
  · cases hu

theorem G0 {W : World} {vs : List Value} {l : List AV} (hl : vs.length = l.length) (h : ∀ i av, l[i]? = some av → avOk (fun _ => none) (inW W) (inW W) W av (vs.getD i undef)) :
    G (mkBase vs.length 0 W (inW W) (inW W) fun _ => none) (fun _ => none) (inW W) (inW W) ⟨l, []⟩ ⟨vs.toArray, []⟩ W :=
  { df := rfl, sz := by simp [mkBase], tm := fun k => by
      rcases Nat.lt_or_ge k l.length with hk | hk
      · have h1 := h k l[k] (List.getElem?_eq_getElem hk)
        have h2 : tget l k = l[k] := by
          clear h h1 hl
          induction l generalizing k with
          | nil => exact absurd hk (Nat.not_lt_zero _)
          | cons x r ih => cases k with
            | zero => rfl
            | succ k => exact ih k (by simpa using hk)
        show avOk _ _ _ _ (tget l k) (vs.toArray.getD k undef)
        rw [h2]
        simpa using h1
      · show avOk _ _ _ _ (tget l k) _
        rw [tget_ge l k hk]
        exact trivial,
    ob := fun l o e => (by cases l <;> cases e), nj := fun l l' o o' e => (by cases l <;> cases e), sp := fun l o p e => (by cases l <;> cases e), cf := fun l o p e => (by cases l <;> cases e), fr := fun _ _ => rfl, su := fun _ h => h, ub := fun _ h => h, s0 := fun _ h => h, u0 := fun _ h => h, sn := fun _ h => .inl h, un := fun _ h => .inl h, ps := fun _ _ _ => rfl, hs := Nat.le_refl _, os := rfl, tp := rfl, op := rfl, bl := fun _ _ h => h, bk := fun _ _ => rfl, uf := fun _ h hn => absurd h hn }
/-- A law. -/
theorem lawN {f : Nat} {l : List AV} (h : Holds P f ⟨l, [], dv (.bool true), []⟩) (W : World) {vs : List Value} (hl : vs.length = l.length) (ha : ∀ i av, l[i]? = some av → avOk (fun _ => none) (inW W) (inW W) W av (vs.getD i undef)) : Calls P f vs.toArray W fun e w' => e = .returned (.bool true) ∧ Below W.heap.size W w' := by
  refine (h W (fun _ => none) (inW W) (inW W) vs hl (G0 hl ha)).mono ?_
  rintro e w' ⟨v, B', S', U', rfl, g⟩
  have hv : v = .bool true := g.tm 0
  subst hv
  exact ⟨rfl, ⟨g.os, g.tp, g.op, g.hs, fun k hk => g.ps k hk fun ⟨i, κ, hi, _⟩ => absurd hi (Nat.not_lt_zero _)⟩⟩
/-- An argument that is a struct. -/
theorem arg_agg {α : Type} {W : World} {K : Kd α} {a : α} {cs : Array Value} {l : List SV} (h : cellsOk W K a cs.toList) (hl : (dvs K.sz (K.cell a)) = l) : avOk (fun _ => none) (inW W) (inW W) W (.tv (.agg l)) (.agg cs) := by
  refine ⟨cs.toList, by simp, ?_⟩
  subst hl
  rw [dvs_eq]
  refine all2_of_get (by simp; exact h.1.symm) fun i x y hx hy => ?_
  have hi : i < K.sz := by have := (List.getElem?_eq_some_iff.1 hx).1; simpa using this
  rw [List.getElem?_map, List.getElem?_range hi] at hx
  cases hx
  obtain ⟨u, hu, hd⟩ := h.2 i hi
  rw [hu] at hy
  cases hy
  exact hd
/-- An argument of one cell. -/
theorem arg_one {α : Type} {W : World} {K : Kd α} {a : α} {v : Value} {d : DV} (h : cellsOk W K a [v]) (hs : K.sz = 1) (hd : K.cell a 0 = d) : avOk (fun _ => none) (inW W) (inW W) W (sv (.d d)) v := by
  obtain ⟨u, hu, h1⟩ := h.2 0 (by omega)
  cases hu
  subst hd
  exact h1
end Go.Proofs.Ytioenfjcbikbcaa.Q

namespace Go.Proofs.Ytioenfjcbikbcaa.Q
open Go Go.RowKit
set_option linter.unusedVariables false
set_option linter.unusedSimpArgs false

/-! ### Maps -/

section
variable {K V : Type} [DecidableEq K]
def mput : List (K × V) → K → V → List (K × V)
  | [], k, v => [(k, v)]
  | e :: r, k, v => if e.1 = k then (k, v) :: r else e :: mput r k v
def mget : List (K × V) → K → V → V
  | [], _, z => z
  | e :: r, k, z => if e.1 = k then e.2 else mget r k z
def mhas : List (K × V) → K → Bool
  | [], _ => false
  | e :: r, k => if e.1 = k then true else mhas r k
def mdel : List (K × V) → K → List (K × V)
  | [], _ => []
  | e :: r, k => if e.1 = k then r else e :: mdel r k

/-- Where a key stands first. -/
def firstAt (l : List (K × V)) (k : K) (j : Nat) : Prop := ∃ e, l[j]? = some e ∧ e.1 = k ∧ ∀ i, i < j → ∀ e', l[i]? = some e' → e'.1 ≠ k

theorem map_none {l : List (K × V)} {k : K} (v : V) (h : ∀ e, e ∈ l → e.1 ≠ k) : mput l k v = l ++ [(k, v)] ∧ mget l k v = v ∧ mhas l k = false ∧ mdel l k = l := by
  induction l with
  | nil => exact ⟨rfl, rfl, rfl, rfl⟩
  | cons e r ih =>
    have h1 := h e (List.mem_cons_self ..)
    obtain ⟨i1, i2, i3, i4⟩ := ih fun x hx => h x (List.mem_cons_of_mem _ hx)
    refine ⟨?_, ?_, ?_, ?_⟩ <;> simp only [mput, mget, mhas, mdel, if_neg h1, i1, i2, i3, i4, List.cons_append]

theorem map_some {l : List (K × V)} {k : K} (v : V) : ∀ {j : Nat} {e : K × V}, l[j]? = some e → e.1 = k → (∀ i, i < j → ∀ e', l[i]? = some e' → e'.1 ≠ k) → mput l k v = l.set j (k, v) ∧ mget l k v = e.2 ∧ mhas l k = true ∧ mdel l k = l.eraseIdx j := by
  induction l with
  | nil => intro j e h; simp at h
  | cons x r ih =>
    intro j e h hk hf
    cases j with
    | zero =>
      simp only [List.getElem?_cons_zero, Option.some.injEq] at h
      subst h
      refine ⟨?_, ?_, ?_, ?_⟩ <;> simp [mput, mget, mhas, mdel, hk]
    | succ j =>
      have h1 : x.1 ≠ k := hf 0 (Nat.succ_pos _) x rfl
      obtain ⟨i1, i2, i3, i4⟩ := ih (j := j) (e := e) (by simpa using h) hk (fun i hi e' he' => hf (i + 1) (by omega) e' (by simpa using he'))
      refine ⟨?_, ?_, ?_, ?_⟩ <;> simp [mput, mget, mhas, mdel, if_neg h1, i1, i2, i3, i4]
end

/-- How keys of a type are found. -/
structure MKey (P : Program) (kt : TypeId) {K : Type} (f : K → Value) : Prop where
  check : ∀ (w : World) (em : Bool) (k : K), (Instr.checkKey em 10000 kt (f k)).run P w = .ok () w
  inj : ∀ a b, f a = f b → a = b
  find : ∀ (w : World) (k : K) (es : List MapEntry), (∀ e, e ∈ es → ∃ k', e.key = f k') →
    ((Instr.findKey kt (f k) es).run P w = .ok none w ∧ ∀ e, e ∈ es → e.key ≠ f k) ∨
    ∃ j e, (Instr.findKey kt (f k) es).run P w = .ok (some (j, e.val)) w ∧ es[j]? = some e ∧ e.key = f k ∧ ∀ i, i < j → ∀ e', es[i]? = some e' → e'.key ≠ f k
  stays : ∀ (w : World) (k : K), (Instr.keyThatStays (f k) (f k)).run P w = .ok (f k) w

theorem findNow_first {d : TypeDesc} {k : Value} (hk : MapKept.IsKey d k) : ∀ (l : List MapEntry) (i : Nat), (∀ x ∈ l, MapKept.IsKey d x.key) →
    (Instr.findNow d k l i = some none ∧ ∀ x ∈ l, x.key ≠ k) ∨ ∃ j e, Instr.findNow d k l i = some (some (i + j, e.val)) ∧ l[j]? = some e ∧ e.key = k ∧ ∀ i', i' < j → ∀ e', l[i']? = some e' → e'.key ≠ k
  | [], _, _ => .inl ⟨rfl, by simp⟩
  | e :: es, i, h => by
    obtain ⟨r, hr, hiff⟩ := MapKept.sameNow_of_keys hk (h e (.head _))
    cases r with
    | true => exact .inr ⟨0, e, by simp [Instr.findNow, hr], rfl, (hiff.1 rfl).symm, fun i' hi' => absurd hi' (Nat.not_lt_zero _)⟩
    | false =>
      have hne : e.key ≠ k := fun q => by have := hiff.2 q.symm; cases this
      rcases findNow_first hk es (i + 1) (fun x hx => h x (.tail _ hx)) with ⟨h1, h2⟩ | ⟨j, e', h1, h2, h3, h4⟩
      · exact .inl ⟨by simp [Instr.findNow, hr, h1], fun x hx => by
          cases hx with
          | head => exact hne
          | tail _ hx => exact h2 x hx⟩
      · refine .inr ⟨j + 1, e', by simp [Instr.findNow, hr, h1]; omega, by simpa using h2, h3, fun i' hi' x hx => ?_⟩
        cases i' with
        | zero => simp only [List.getElem?_cons_zero, Option.some.injEq] at hx; subst hx; exact hne
        | succ i' => exact h4 i' (by omega) x (by simpa using hx)

theorem mkey_plain {P : Program} {kt : TypeId} {d : TypeDesc} {K : Type} {f : K → Value} (hd : P.underlying kt = some d) (hf : ∀ k, MapKept.IsKey d (f k)) (hinj : ∀ a b, f a = f b → a = b) : MKey P kt f where
  check w em k := MapKept.run_checkKey hd (hf k) em 9999
  inj := hinj
  find w k es hes := by
    have hks : ∀ x ∈ es, MapKept.IsKey d x.key := fun x hx => by obtain ⟨k', e⟩ := hes x hx; rw [e]; exact hf k'
    rcases findNow_first (hf k) es 0 hks with ⟨h1, h2⟩ | ⟨j, e0, h1, h2, h3, h4⟩
    · exact .inl ⟨MapKept.run_findKey hd h1, h2⟩
    · exact .inr ⟨j, e0, by simpa using MapKept.run_findKey hd h1, h2, h3, h4⟩
  stays w k := MapKept.run_keyThatStays (hf k)

abbrev fInt (k : IntKind) : Int → Value := fun n => .int k n
theorem mkey_int {P : Program} {kt : TypeId} {k : IntKind} (h : P.underlying kt = some (.int k)) : MKey P kt (fInt k) :=
  mkey_plain h (fun _ => rfl) (fun a b e => by cases e; rfl)
abbrev fStr : List UInt8 → Value := fun s => strV s
theorem mkey_str {P : Program} {kt : TypeId} (h : P.underlying kt = some .string) : MKey P kt fStr :=
  mkey_plain h (fun _ => trivial) (fun a b e => by simpa [strV] using e)

def cellsL {α : Type} (k : Kd α) (x : α) : List DV := (List.range k.sz).map (k.cell x)
def mpK {K V : Type} (f : K → Value) (kd : Kd V) (l : List (K × V)) : HObj := .mp (l.map fun e => (f e.1, cellsL kd e.2))
def mkTV : List DV → TV
  | [c] => .one (.d c)
  | l => .agg (l.map .d)

theorem mp_nt {K V : Type} {f : K → Value} {kd : Kd V} {l : List (K × V)} (h : ∀ x j, noTag (kd.cell x j)) : noTagO (mpK f kd l) := by
  have h1 : ∀ x, allP noTag (cellsL kd x) := fun x => by
    unfold cellsL
    induction List.range kd.sz with
    | nil => exact trivial
    | cons a r ih => exact ⟨h x a, ih⟩
  show allP (fun (e : Value × List DV) => allP noTag e.2) (l.map _)
  induction l with
  | nil => exact trivial
  | cons a r ih => exact ⟨h1 a.2, ih⟩

/-- An operand's value, if it is one of values alone. -/
def isKeyA : AV → Value → Prop
  | .tv (.one (.d (.val u))), v => u = v
  | .tv (.agg l), v => ∃ us : List Value, l = us.map (fun u => .d (.val u)) ∧ v = .agg us.toArray
  | _, _ => False

theorem isKeyA_spec {B : Bk} {S U : Nat → Prop} {w : World} {av : AV} {v u : Value} (h : isKeyA av v) (hv : avOk B S U w av u) : u = v := by
  match av, h with
  | .tv (.one (.d (.val x))), h => exact (show u = x from hv).trans h
  | .tv (.agg l), h =>
    obtain ⟨us, rfl, rfl⟩ := h
    obtain ⟨cs, rfl, h2⟩ := hv
    have : ∀ (us cs : List Value), all2 (svOk B S U w) (us.map fun u => .d (.val u)) cs → cs = us := by
      intro us
      induction us with
      | nil => intro cs h; match cs, h with | [], _ => rfl
      | cons a r ih => intro cs h; match cs, h with | c :: cs, h => rw [ih cs h.2, show c = a from h.1]
    rw [this us cs h2]

section
variable {P : Program} {bs : Base} {K V : Type} {f : K → Value} {kd : Kd V}

theorem r_makeMap (l : Nat) (f : K → Value) (kd : Kd V) {d : Nat} {t ty : TypeId} {pos : String} {af : Array Edge} {gd : Option (Nat × Bool)} (hN : d < bs.N) :
    ORule P bs ⟨some d, .makeMap t none, ty, pos, af, gd⟩ ⟨[], [(l, .free)], [(d, sv (.mref l))], [(l, .live (mpK f kd []))]⟩ :=
  .heap (l := []) rfl hN trivial fun B S U s a w g hh he => by
    have hl := hh.1
    refine ⟨.map (some w.heap.size), w.alloc (.map #[] 0), bset B l (some (w.heap.size, 0)), S, U, ?_, g.alloc hl _ _ 0 ⟨w.heap.size, 0, #[], 0, by simp [bset], heap_alloc_new w _, trivial⟩, w.heap.size, 0, by simp [bset], rfl⟩
    simp [execOp, Instr.makeMap, newObj, Sem.run]

/-- What an object that is a map is in memory. -/
theorem mp_open {B : Bk} {S U : Nat → Prop} {w : World} {l : Nat} {rows : List (K × V)} (h : obOk B S U w l (mpK f kd rows)) : ∃ b κ ents clock, B l = some (some (b, κ)) ∧ w.heap[b]? = some (.map ents clock) ∧ ents.size = rows.length ∧
    all2 (entOk S U w) (rows.map fun e => (f e.1, cellsL kd e.2)) ents.toList ∧ (∀ e, e ∈ ents.toList → ∃ k', e.key = f k') ∧ ∀ (j : Nat) (e : MapEntry), ents.toList[j]? = some e → ∃ x : K × V, rows[j]? = some x ∧ e.key = f x.1 ∧ ((cellsL kd x.2).length = 1 → e.val.cells = #[e.val]) ∧ all2 (dOk S U w) (cellsL kd x.2) e.val.cells.toList := by
  obtain ⟨b, κ, ents, clock, h1, h2, h3⟩ := h
  have hlen : ents.size = rows.length := by have := all2_len h3; simpa using this.symm
  have hget : ∀ (j : Nat) (e : MapEntry), ents.toList[j]? = some e → ∃ x : K × V, rows[j]? = some x ∧ e.key = f x.1 ∧ ((cellsL kd x.2).length = 1 → e.val.cells = #[e.val]) ∧ all2 (dOk S U w) (cellsL kd x.2) e.val.cells.toList := fun j e he => by
    have hj : j < rows.length := by have := (List.getElem?_eq_some_iff.1 he).1; simp at this; omega
    have hr : rows[j]? = some rows[j] := List.getElem?_eq_getElem hj
    have hm : (rows.map fun e => (f e.1, cellsL kd e.2))[j]? = some (f rows[j].1, cellsL kd rows[j].2) := by rw [List.getElem?_map, hr]; rfl
    obtain ⟨e', he', h4⟩ := all2_get h3 hm
    rw [he] at he'
    cases he'
    exact ⟨rows[j], hr, h4.1, h4.2.1, h4.2.2⟩
  refine ⟨b, κ, ents, clock, h1, h2, hlen, h3, fun e he => ?_, hget⟩
  obtain ⟨j, hj, rfl⟩ := List.getElem_of_mem he
  obtain ⟨x, _, hx, _⟩ := hget j _ (List.getElem?_eq_getElem hj)
  exact ⟨x.1, hx⟩

/-- The key's place in memory is its place in the row. -/
theorem mp_find {kt : TypeId} (M : MKey P kt f) {S U : Nat → Prop} {w : World} {rows : List (K × V)} {ents : Array MapEntry} (hlen : ents.size = rows.length) (hall : ∀ e, e ∈ ents.toList → ∃ k', e.key = f k')
    (hget : ∀ (j : Nat) (e : MapEntry), ents.toList[j]? = some e → ∃ x : K × V, rows[j]? = some x ∧ e.key = f x.1 ∧ ((cellsL kd x.2).length = 1 → e.val.cells = #[e.val]) ∧ all2 (dOk S U w) (cellsL kd x.2) e.val.cells.toList) (w' : World) (k : K) :
    ((Instr.findKey kt (f k) ents.toList).run P w' = .ok none w' ∧ ∀ e, e ∈ rows → e.1 ≠ k) ∨
    ∃ j e x, (Instr.findKey kt (f k) ents.toList).run P w' = .ok (some (j, e.val)) w' ∧ ents[j]? = some e ∧ e.key = f k ∧ rows[j]? = some x ∧ x.1 = k ∧ (∀ i, i < j → ∀ e', rows[i]? = some e' → e'.1 ≠ k) ∧ ((cellsL kd x.2).length = 1 → e.val.cells = #[e.val]) ∧ all2 (dOk S U w) (cellsL kd x.2) e.val.cells.toList := by
  have hrow : ∀ (j : Nat) (x : K × V), rows[j]? = some x → ∃ e, ents.toList[j]? = some e ∧ e.key = f x.1 := fun j x hx => by
    have hj : j < ents.toList.length := by have := (List.getElem?_eq_some_iff.1 hx).1; simp; omega
    obtain ⟨x', hx', hk, _⟩ := hget j _ (List.getElem?_eq_getElem hj)
    rw [hx] at hx'
    cases hx'
    exact ⟨_, List.getElem?_eq_getElem hj, hk⟩
  rcases M.find w' k ents.toList hall with ⟨h1, h2⟩ | ⟨j, e, h1, h2, h3, h4⟩
  · left
    refine ⟨h1, fun x hx e => ?_⟩
    obtain ⟨j, hj, rfl⟩ := List.getElem_of_mem hx
    obtain ⟨e', he', hk⟩ := hrow j _ (List.getElem?_eq_getElem hj)
    exact h2 e' (List.mem_of_getElem? he') (by rw [hk, e])
  · right
    obtain ⟨x, hx, hk, hc1, hc2⟩ := hget j e h2
    refine ⟨j, e, x, h1, by simpa using h2, h3, hx, M.inj _ _ (hk.symm.trans h3), fun i hi e' he' e1 => ?_, hc1, hc2⟩
    obtain ⟨e2, he2, hk2⟩ := hrow i _ he'
    exact h4 i hi e2 he2 (by rw [hk2, e1])

/-- A rule of an operation that turns memory and whose value nobody takes. -/
theorem ORule.unitV {o : Oper} {l : List (Operand × AV)} {rh wh : List (Nat × HS)} (hd : o.dst = none) (hc : cOk l)
    (h : ∀ B S U s a w, G bs B S U s a w → satH rh s.h → evs B S U a w l → ∃ v w' B' S' U', (execOp a.eval o).run P w = .ok (.value v) w' ∧ G bs B' S' U' ⟨s.t, hsets s.h wh⟩ a w') :
    ORule P bs o ⟨rtOf l, rh, [], wh⟩ := by
  intro Q K s a w hG hs hK
  obtain ⟨B, S, U, g⟩ := hG
  obtain ⟨v, w', B', S', U', hr, g'⟩ := h B S U s a w g hs.2 (evals g hs.1 hc)
  unfold Oper.wp
  rw [hr, Oper.upon_value, hd]
  exact hK _ _ ⟨B', S', U', g'⟩

theorem all2_erase {α β : Type} {R : α → β → Prop} : ∀ {l : List α} {k : List β} (j : Nat), all2 R l k → all2 R (l.eraseIdx j) (k.eraseIdx j)
  | [], [], _, _ => trivial
  | _ :: _, _ :: _, 0, h => h.2
  | _ :: _, _ :: _, j + 1, h => ⟨h.1, all2_erase j h.2⟩
  | [], _ :: _, _, h => h.elim
  | _ :: _, [], _, h => h.elim


/-- A map's block written anew. -/
theorem G.setMap {B : Bk} {S U : Nat → Prop} {s : St} {a : Act} {w : World} (g : G bs B S U s a w) {l b κ : Nat} {x : HObj} {ents ents' : Array MapEntry} {clock clock' : Nat} {es : List (Value × List DV)} (hl : hget s.h l = .live x) (hb : B l = some (some (b, κ))) (hcur : w.heap[b]? = some (.map ents clock))
    (hnew : ∀ w', Pres (fun b => S b ∨ U b) w w' → all2 (entOk S U w') es ents'.toList) :
    G bs B S U ⟨s.t, hset s.h l (.live (.mp es))⟩ a { w with heap := w.heap.setIfInBounds b (.map ents' clock') } := by
  have hblt : b < w.heap.size := (Array.getElem?_eq_some_iff.1 hcur).1
  have hP : Pres (fun b => S b ∨ U b) w { w with heap := w.heap.setIfInBounds b (.map ents' clock') } := fun c hc' => by
    have hU : U c := hc'.elim (g.su c) id
    have : c ≠ b := fun e => g.sp l _ (b, κ) hl hb (e ▸ hU)
    simp [Array.getElem?_setIfInBounds, Ne.symm this]
  refine g.upd (fun k => k = l) _ (fun k hk => by simp [hget_hset, hk]) (fun _ _ h => h) (fun _ _ => rfl) (fun _ h => h) (fun _ h => h) g.su (fun b hb => by simpa using g.ub b hb) (fun _ h => .inl h) (fun _ h => .inl h)
    (fun k y hk hy => ?_) (fun k k' _ _ _ _ h h' _ _ hne => absurd (h.trans h'.symm) hne) (fun c hc hne => ?_) (fun k hk h => ?_) (fun k y q _ hk hq => g.sp k y q hk hq) (by simp) rfl rfl rfl (fun _ h hn => absurd h hn)
  · subst hk
    simp only [hget_hset, if_true] at hy
    cases hy
    refine ⟨⟨b, κ, ents', clock', hb, by simp [hblt], hnew _ hP⟩, ?_⟩
    exact (fun p hp => ⟨g.sp k _ p hl hp, g.cf k _ p hl hp, fun k' o' q hk' ho hq => g.nj k' k o' _ ho hl hk' q p hq hp⟩)
  · have : c ≠ b := hne l _ (b, κ) rfl hl hb
    simp [Array.getElem?_setIfInBounds, Ne.symm this]
  · subst hk; simp [hget_hset] at h

/-- Is a value of one cell no struct? -/
def shapeB : TV → Bool
  | .one s => cellS s
  | .agg l => !(l.length == 1)

theorem all2_d {B : Bk} {S U : Nat → Prop} {w : World} : ∀ {cs : List DV} {vs : List Value}, all2 (svOk B S U w) (cs.map .d) vs → all2 (dOk S U w) cs vs
  | [], [], _ => trivial
  | _ :: _, _ :: _, h => ⟨h.1, all2_d h.2⟩
  | [], _ :: _, h => h.elim
  | _ :: _, [], h => h.elim

theorem ent_mono {S U : Nat → Prop} {w w' : World} (hP : Pres (fun b => S b ∨ U b) w w') (e : Value × List DV) (x : MapEntry) (h : entOk S U w e x) : entOk S U w' e x :=
  ⟨h.1, h.2.1, all2_mono (dOk_mono (fun _ h => h) (fun _ h => h) hP) h.2.2⟩

theorem r_mapUpdate [DecidableEq K] (l : Nat) (rows : List (K × V)) (key : K) (v : V) {m kx x : Operand} {ak : AV} {tv : TV} {t kt et ty : TypeId} {pos : String} {af : Array Edge} {gd : Option (Nat × Bool)}
    (ht : P.underlying t = some (.map kt et)) (M : MKey P kt f) (hka : isKeyA ak (f key)) (hsh : shapeB tv = true) (hw : all2 wkS (tvCells tv) ((cellsL kd v).map .d)) (hc : cOk [(m, sv (.mref l)), (kx, ak), (x, .tv tv)]) :
    ORule P bs ⟨none, .mapUpdate t m kx x, ty, pos, af, gd⟩ ⟨rtOf [(m, sv (.mref l)), (kx, ak), (x, .tv tv)], [(l, .live (mpK f kd rows))], [], [(l, .live (mpK f kd (mput rows key v)))]⟩ :=
  .unit rfl hc fun B S U s a w g hh he => by
    obtain ⟨b, κ, hb, h1⟩ := he.1
    have h2 : a.eval kx = f key := isKeyA_spec hka he.2.1
    obtain ⟨b', κ', ents, clock, hb', hcur, hlen, hall2, hall, hget⟩ := mp_open (g.ob l _ hh.1)
    rw [hb] at hb'
    cases hb'
    have hcells : all2 (dOk S U w) (cellsL kd v) (a.eval x).cells.toList := all2_d (all2_wk hw (tv_cells he.2.2.1 (fun s e => by subst e; exact hsh)))
    have hone : (cellsL kd v).length = 1 → (a.eval x).cells = #[a.eval x] := fun h => by
      cases tv with
      | one s => exact cells_of_cellV (cellS_spec hsh he.2.2.1)
      | agg q =>
        exfalso
        have e1 : q.length = ((cellsL kd v).map SV.d).length := by have := all2_len hw; simpa [tvCells] using this
        rw [List.length_map, h] at e1
        simp [shapeB, e1] at hsh
    rcases mp_find M hlen hall hget w key with ⟨f1, f2⟩ | ⟨j, e, x0, f1, f2, f3, f4, f5, f6, _, _⟩
    · refine ⟨{ w with heap := w.heap.setIfInBounds b (.map (ents.push { key := f key, val := a.eval x, born := clock }) (clock + 1)) }, B, S, U, ?_, ?_⟩
      · simp [execOp, h1, h2, Instr.mapUpdate, run_underlying ht, MapKept.run_getObj_map hcur, M.check w false key, f1, MapKept.run_setObj_map _ hcur, Result.andThen]
      · refine G.setMap g hh.1 hb hcur fun w' hP => ?_
        rw [(map_none v f2).1, List.map_append, Array.toList_push]
        exact all2_append (all2_mono (ent_mono hP) hall2) ⟨ent_mono hP _ _ ⟨rfl, hone, hcells⟩, trivial⟩
    · refine ⟨{ w with heap := w.heap.setIfInBounds b (.map (ents.modify j fun e => { e with key := f key, val := a.eval x }) clock) }, B, S, U, ?_, ?_⟩
      · simp [execOp, h1, h2, Instr.mapUpdate, run_underlying ht, MapKept.run_getObj_map hcur, M.check w false key, f1, f2, f3, M.stays w key, MapKept.run_setObj_map _ hcur, Result.andThen]
      · refine G.setMap g hh.1 hb hcur fun w' hP => ?_
        rw [(map_some v f4 f5 f6).1, List.map_set]
        refine all2_of_get ?_ fun i p q hp hq => ?_
        · have := all2_len hall2; simpa using this
        · rw [List.getElem?_set] at hp
          simp only [Array.getElem?_toList, Array.getElem?_modify] at hq
          by_cases hij : j = i
          · subst hij
            rw [if_pos rfl, f2] at hq
            simp only [Option.map_some, Option.some.injEq] at hq
            subst hq
            rw [if_pos rfl] at hp
            split at hp
            · cases hp
              exact ent_mono hP _ _ ⟨rfl, hone, hcells⟩
            · cases hp
          · rw [if_neg hij] at hp hq
            obtain ⟨q', hq', hr⟩ := all2_get hall2 hp
            rw [Array.getElem?_toList, hq] at hq'
            cases hq'
            exact ent_mono hP _ _ hr

/-- A zero value of a map's elements. -/
def ZeroM (P : Program) (T : TypeId) (zs : List Value) : Prop := ∃ i z, P.info? T = some i ∧ i.zero = some z ∧ z.cells.toList = zs ∧ (zs.length = 1 → z.cells = #[z])

theorem mkTV_ok {B : Bk} {S U : Nat → Prop} {w : World} {cs : List DV} {v : Value} (h : all2 (dOk S U w) cs v.cells.toList) (h1 : cs.length = 1 → v.cells = #[v]) : tvOk B S U w (mkTV cs) v := by
  have ag : ∀ {v : Value}, v.cells.toList.length ≠ 1 → ∃ c, v = .agg c := fun {v} h => by cases v <;> first | exact ⟨_, rfl⟩ | simp [Value.cells] at h
  have hd : ∀ {cs : List DV} {vs : List Value}, all2 (dOk S U w) cs vs → all2 (svOk B S U w) (cs.map .d) vs := by
    intro cs
    induction cs with
    | nil => intro vs h; match vs, h with | [], _ => exact trivial
    | cons c r ih => intro vs h; match vs, h with | u :: vs, h => exact ⟨h.1, ih h.2⟩
  have hlen := all2_len h
  match cs, h, h1, hlen with
  | [c], h, h1, _ =>
    rw [h1 rfl] at h
    exact h.1
  | [], h, _, hlen =>
    obtain ⟨c, rfl⟩ := ag (v := v) (by rw [← hlen]; simp)
    exact ⟨c.toList, by simp, hd h⟩
  | c1 :: c2 :: r, h, _, hlen =>
    obtain ⟨c, rfl⟩ := ag (v := v) (by rw [← hlen]; simp)
    exact ⟨c.toList, by simp, hd h⟩

theorem look_run [DecidableEq K] {l : Nat} {rows : List (K × V)} {key : K} {m kx : Operand} {ak : AV} {t kt et : TypeId} {zs : List Value}
    (ht : P.underlying t = some (.map kt et)) (M : MKey P kt f) (hka : isKeyA ak (f key)) (hz : ZeroM P et zs) (hzw : all2 wkS (zs.map fun u => .d (.val u)) ((cellsL kd kd.z).map .d)) {B : Bk} {S U : Nat → Prop} {s : St} {a : Act} {w : World} (g : G bs B S U s a w) (hh : hget s.h l = .live (mpK f kd rows))
    (he : evs B S U a w [(m, sv (.mref l)), (kx, ak)]) :
    ∃ v, (∀ c, (Instr.lookup t (a.eval m) (a.eval kx) c).run P w = .ok (if c then .tuple #[v, .bool (mhas rows key)] else v) w) ∧ tvOk B S U w (mkTV (cellsL kd (mget rows key kd.z))) v := by
  obtain ⟨b, κ, hb, h1⟩ := he.1
  have h2 : a.eval kx = f key := isKeyA_spec hka he.2.1
  obtain ⟨b', κ', ents, clock, hb', hcur, hlen, hall2, hall, hget⟩ := mp_open (g.ob l _ hh)
  rw [hb] at hb'
  cases hb'
  rcases mp_find M hlen hall hget w key with ⟨f1, f2⟩ | ⟨j, e, x0, f1, f2, f3, f4, f5, f6, f7, f8⟩
  · obtain ⟨i, z, z1, z2, z3, z4⟩ := hz
    obtain ⟨_, m2, m3, _⟩ := map_none kd.z f2
    refine ⟨z, fun c => ?_, ?_⟩
    · rw [m3]
      cases c <;> simp [h1, h2, Instr.lookup, run_underlying ht, MapKept.run_getObj_map hcur, M.check w _ key, f1, run_zeroValue z1 z2, Result.andThen]
    · rw [m2]
      have hv : all2 (svOk B S U w) (zs.map fun u => .d (.val u)) z.cells.toList := by
        rw [z3, all2_map]
        refine all2_of_get rfl fun i a b hi hj => ?_
        rw [hi] at hj
        cases hj
        exact rfl
      have hd := all2_d (all2_wk hzw hv)
      exact mkTV_ok hd fun h => z4 (by have := all2_len hd; rw [z3] at this; omega)
  · obtain ⟨_, m2, m3, _⟩ := map_some kd.z f4 f5 f6
    refine ⟨e.val, fun c => ?_, ?_⟩
    · rw [m3]
      cases c <;> simp [h1, h2, Instr.lookup, run_underlying ht, MapKept.run_getObj_map hcur, M.check w _ key, f1, Result.andThen]
    · rw [m2]
      exact mkTV_ok f8 f7

theorem r_lookup [DecidableEq K] (l : Nat) (rows : List (K × V)) (key : K) (tv : TV) {d : Nat} {m kx : Operand} {ak : AV} {t kt et ty : TypeId} {zs : List Value} {pos : String} {af : Array Edge} {gd : Option (Nat × Bool)}
    (ht : P.underlying t = some (.map kt et)) (M : MKey P kt f) (hka : isKeyA ak (f key)) (hz : ZeroM P et zs) (hzw : all2 wkS (zs.map fun u => .d (.val u)) ((cellsL kd kd.z).map .d)) (htv : mkTV (cellsL kd (mget rows key kd.z)) = tv) (hN : d < bs.N) (hc : cOk [(m, sv (.mref l)), (kx, ak)]) :
    ORule P bs ⟨some d, .lookup t m kx false, ty, pos, af, gd⟩ ⟨rtOf [(m, sv (.mref l)), (kx, ak)], [(l, .live (mpK f kd rows))], [(d, .tv tv)], []⟩ :=
  .val rfl hN hc fun B S U s a w g hh he => by
    obtain ⟨v, h1, h2⟩ := look_run ht M hka hz hzw g hh.1 he
    exact ⟨v, by have h3 := h1 false; simp only [Bool.false_eq_true, if_false] at h3; simp [execOp, h3, Result.andThen], htv ▸ h2⟩

theorem r_lookup2 [DecidableEq K] (l : Nat) (rows : List (K × V)) (key : K) (tv : TV) {d : Nat} {m kx : Operand} {ak : AV} {t kt et ty : TypeId} {zs : List Value} {pos : String} {af : Array Edge} {gd : Option (Nat × Bool)}
    (ht : P.underlying t = some (.map kt et)) (M : MKey P kt f) (hka : isKeyA ak (f key)) (hz : ZeroM P et zs) (hzw : all2 wkS (zs.map fun u => .d (.val u)) ((cellsL kd kd.z).map .d)) (htv : mkTV (cellsL kd (mget rows key kd.z)) = tv) (hN : d < bs.N) (hc : cOk [(m, sv (.mref l)), (kx, ak)]) :
    ORule P bs ⟨some d, .lookup t m kx true, ty, pos, af, gd⟩ ⟨rtOf [(m, sv (.mref l)), (kx, ak)], [(l, .live (mpK f kd rows))], [(d, .tup [tv, .one (.d (.val (.bool (mhas rows key))))])], []⟩ :=
  .val rfl hN hc fun B S U s a w g hh he => by
    obtain ⟨v, h1, h2⟩ := look_run ht M hka hz hzw g hh.1 he
    exact ⟨_, by have h3 := h1 true; simp only [if_true] at h3; simp [execOp, h3, Result.andThen], [v, .bool (mhas rows key)], rfl, htv ▸ h2, rfl, trivial⟩

theorem r_lenM (l : Nat) (rows : List (K × V)) {d : Nat} {m : Operand} {t kt et ty : TypeId} {pos : String} {af : Array Edge} {gd : Option (Nat × Bool)} (ht : P.underlying t = some (.map kt et)) (hN : d < bs.N) (hc : cOk [(m, sv (.mref l))]) :
    ORule P bs ⟨some d, .call { callee := .builtin .len, args := #[m], argTypes := #[t] }, ty, pos, af, gd⟩ ⟨rtOf [(m, sv (.mref l))], [(l, .live (mpK f kd rows))], [(d, dv (.int .i64 (rows.length : Nat)))], []⟩ :=
  .val rfl hN hc fun B S U s a w g hh he => by
    obtain ⟨b, κ, hb, h1⟩ := he.1
    obtain ⟨b', κ', ents, clock, hb', hcur, hlen, hall2, hall, hget⟩ := mp_open (g.ob l _ hh.1)
    rw [hb] at hb'
    cases hb'
    exact ⟨.int .i64 (rows.length : Nat), by simp [execOp, resolve, invoke, builtin, Builtin.len_, h1, run_underlying' ht, MapKept.run_getObj_map hcur, hlen, goInt, Sem.run_bind], rfl⟩

theorem r_delete [DecidableEq K] (l : Nat) (rows : List (K × V)) (key : K) {m kx : Operand} {ak : AV} {t kt et ty : TypeId} {pos : String} {af : Array Edge} {gd : Option (Nat × Bool)}
    (ht : P.underlying t = some (.map kt et)) (M : MKey P kt f) (hka : isKeyA ak (f key)) (hc : cOk [(m, sv (.mref l)), (kx, ak)]) :
    ORule P bs ⟨none, .call { callee := .builtin .delete, args := #[m, kx], argTypes := #[t, kt] }, ty, pos, af, gd⟩ ⟨rtOf [(m, sv (.mref l)), (kx, ak)], [(l, .live (mpK f kd rows))], [], [(l, .live (mpK f kd (mdel rows key)))]⟩ :=
  .unitV rfl hc fun B S U s a w g hh he => by
    obtain ⟨b, κ, hb, h1⟩ := he.1
    have h2 : a.eval kx = f key := isKeyA_spec hka he.2.1
    obtain ⟨b', κ', ents, clock, hb', hcur, hlen, hall2, hall, hget⟩ := mp_open (g.ob l _ hh.1)
    rw [hb] at hb'
    cases hb'
    rcases mp_find M hlen hall hget w key with ⟨f1, f2⟩ | ⟨j, e, x0, f1, f2, f3, f4, f5, f6, _, _⟩
    · refine ⟨.tuple #[], { w with heap := w.heap.setIfInBounds b (.map ents clock) }, B, S, U, ?_, ?_⟩
      · simp [execOp, resolve, invoke, builtin, Builtin.delete_, h1, h2, run_underlying' ht, MapKept.run_getObj_map hcur, M.check w _ key, f1, MapKept.run_setObj_map _ hcur, Sem.run_bind]
      · refine G.setMap g hh.1 hb hcur fun w' hP => ?_
        rw [(map_none kd.z f2).2.2.2]
        exact all2_mono (ent_mono hP) hall2
    · refine ⟨.tuple #[], { w with heap := w.heap.setIfInBounds b (.map (ents.eraseIdxIfInBounds j) clock) }, B, S, U, ?_, ?_⟩
      · simp [execOp, resolve, invoke, builtin, Builtin.delete_, h1, h2, run_underlying' ht, MapKept.run_getObj_map hcur, M.check w _ key, f1, MapKept.run_setObj_map _ hcur, Sem.run_bind]
      · refine G.setMap g hh.1 hb hcur fun w' hP => ?_
        have hj : j < ents.size := (Array.getElem?_eq_some_iff.1 f2).1
        have he' : (ents.eraseIdxIfInBounds j).toList = ents.toList.eraseIdx j := by
          unfold Array.eraseIdxIfInBounds
          rw [dif_pos hj]
          simp
        rw [(map_some kd.z f4 f5 f6).2.2.2, he']
        have hm : (rows.eraseIdx j).map (fun e => (f e.1, cellsL kd e.2)) = (rows.map fun e => (f e.1, cellsL kd e.2)).eraseIdx j := by
          simp only [List.eraseIdx_eq_take_drop_succ, List.map_append, List.map_take, List.map_drop]
        rw [hm]
        exact all2_erase j (all2_mono (ent_mono hP) hall2)
end
end Go.Proofs.Ytioenfjcbikbcaa.Q

namespace Go.Proofs.Ytioenfjcbikbcaa.Q
open Go Go.RowKit
set_option linter.unusedVariables false
set_option linter.unusedSimpArgs false

/-! ### More of numbers; keys that are structs -/

section
variable {P : Program} {bs : Base}

theorem r_max {d : Nat} {x y : Operand} {k : IntKind} {a b : Int} {t t' ty : TypeId} {pos : String} {af : Array Edge} {gd : Option (Nat × Bool)} (hN : d < bs.N) (hc : cOk [(x, dv (.int k a)), (y, dv (.int k b))]) :
    ORule P bs ⟨some d, .call { callee := .builtin .max, args := #[x, y], argTypes := #[t, t'] }, ty, pos, af, gd⟩ ⟨rtOf [(x, dv (.int k a)), (y, dv (.int k b))], [], [(d, dv (.int k (max a b)))], []⟩ :=
  .val rfl hN hc fun B S U s a' w g _ he => by
    have h1 : a'.eval x = .int k a := he.1
    have h2 : a'.eval y = .int k b := he.2.1
    refine ⟨.int k (max a b), ?_, rfl⟩
    have : (if b > a then b else a) = max a b := by rw [Int.max_def]; split <;> split <;> omega
    simp [execOp, resolve, invoke, builtin, Builtin.max_, Builtin.max2, h1, h2, Sem.run_bind, this]

theorem r_min {d : Nat} {x y : Operand} {k : IntKind} {a b : Int} {t t' ty : TypeId} {pos : String} {af : Array Edge} {gd : Option (Nat × Bool)} (hN : d < bs.N) (hc : cOk [(x, dv (.int k a)), (y, dv (.int k b))]) :
    ORule P bs ⟨some d, .call { callee := .builtin .min, args := #[x, y], argTypes := #[t, t'] }, ty, pos, af, gd⟩ ⟨rtOf [(x, dv (.int k a)), (y, dv (.int k b))], [], [(d, dv (.int k (min a b)))], []⟩ :=
  .val rfl hN hc fun B S U s a' w g _ he => by
    have h1 : a'.eval x = .int k a := he.1
    have h2 : a'.eval y = .int k b := he.2.1
    refine ⟨.int k (min a b), ?_, rfl⟩
    have : (if b < a then b else a) = min a b := by rw [Int.min_def]; split <;> split <;> omega
    simp [execOp, resolve, invoke, builtin, Builtin.min_, Builtin.min2, h1, h2, Sem.run_bind, this]

theorem b_quoP {k : IntKind} {t : TypeId} {a b : Int} (h1 : 0 ≤ a) (h0 : 0 < b) (h : k.wrap (a / b) = a / b) : BinR P .quo t (.int k a) (.int k b) (.int k (a / b)) :=
  b_quo (by omega) (by rw [Int.tdiv_eq_ediv_of_nonneg h1]; exact h)
theorem b_remP {k : IntKind} {t : TypeId} {a b : Int} (h1 : 0 ≤ a) (h0 : 0 < b) : BinR P .rem t (.int k a) (.int k b) (.int k (a % b)) :=
  b_rem (by omega) (Int.tmod_eq_emod_of_nonneg h1)
end

theorem findAsking_first {P : Program} {kt : TypeId} {K : Type} [DecidableEq K] {f : K → Value} {w : World} {k : K} (heq : ∀ k', (Op.equal kt (f k) (f k')).run P w = .ok (decide (k = k')) w) (hinj : ∀ a b, f a = f b → a = b) : ∀ (l : List MapEntry) (i : Nat), (∀ x ∈ l, ∃ k', x.key = f k') →
    ((Instr.findAsking kt (f k) l i).run P w = .ok none w ∧ ∀ x ∈ l, x.key ≠ f k) ∨ ∃ j e, (Instr.findAsking kt (f k) l i).run P w = .ok (some (i + j, e.val)) w ∧ l[j]? = some e ∧ e.key = f k ∧ ∀ i', i' < j → ∀ e', l[i']? = some e' → e'.key ≠ f k
  | [], _, _ => .inl ⟨rfl, by simp⟩
  | e :: es, i, h => by
    obtain ⟨k', hk'⟩ := h e (.head _)
    by_cases hkk : k = k'
    · subst hkk
      refine .inr ⟨0, e, ?_, rfl, hk', fun i' hi' => absurd hi' (Nat.not_lt_zero _)⟩
      simp [Instr.findAsking, hk', heq k, Sem.run_bind]
    · have hne : e.key ≠ f k := fun q => hkk (hinj _ _ (q.symm.trans hk'))
      have hf : (Instr.findAsking kt (f k) (e :: es) i).run P w = (Instr.findAsking kt (f k) es (i + 1)).run P w := by
        simp [Instr.findAsking, hk', heq k', hkk, Sem.run_bind]
      rw [hf]
      rcases findAsking_first heq hinj es (i + 1) (fun x hx => h x (.tail _ hx)) with ⟨h1, h2⟩ | ⟨j, e', h1, h2, h3, h4⟩
      · exact .inl ⟨h1, fun x hx => by
          cases hx with
          | head => exact hne
          | tail _ hx => exact h2 x hx⟩
      · refine .inr ⟨j + 1, e', by rw [h1, Nat.add_assoc, Nat.add_comm 1 j], by simpa using h2, h3, fun i' hi' x hx => ?_⟩
        cases i' with
        | zero => simp only [List.getElem?_cons_zero, Option.some.injEq] at hx; subst hx; exact hne
        | succ i' => exact h4 i' (by omega) x (by simpa using hx)

/-- Keys that are structs. -/
theorem mkey_wide {P : Program} {kt : TypeId} {fs : Array Field} {K : Type} [DecidableEq K] {f : K → Value} (hd : P.underlying kt = some (.struct fs)) (hinj : ∀ a b, f a = f b → a = b) (hcheck : ∀ (w : World) (em : Bool) (k : K), (Instr.checkKey em 10000 kt (f k)).run P w = .ok () w)
    (heq : ∀ (w : World) (k k' : K), (Op.equal kt (f k) (f k')).run P w = .ok (decide (k = k')) w) (hbits : ∀ k, Instr.sameBits 10000 (f k) (f k) = true) : MKey P kt f where
  check := hcheck
  inj := hinj
  find w k es hes := by
    have key : (Instr.findKey kt (f k) es).run P w = (Instr.findAsking kt (f k) es 0).run P w := by
      have hn : Instr.findNow (.struct fs) (f k) es 0 = none ∨ es = [] := by
        cases es with
        | nil => exact .inr rfl
        | cons e r => left; simp [Instr.findNow, Instr.sameNow]
      rcases hn with hn | rfl
      · simp [Instr.findKey, MapKept.run_setObj_map, run_underlying' hd, hn, Sem.run_bind]
      · simp [Instr.findKey, run_underlying' hd, Instr.findNow, Instr.findAsking, Sem.run_bind]
    rw [key]
    rcases findAsking_first (heq w k) hinj es 0 hes with h | ⟨j, e, h1, h2⟩
    · exact .inl h
    · exact .inr ⟨j, e, by simpa using h1, h2⟩
  stays w k := by simp [Instr.keyThatStays, hbits]

theorem bytes_beq' (l l' : List UInt8) : ((⟨l.toArray⟩ : ByteArray) == (⟨l'.toArray⟩ : ByteArray)) = decide (l = l') := by
  rw [Bool.eq_iff_iff, MapKept.bytes_beq]
  simp

section
variable {P : Program} {kt : TypeId} {f0 f1 : Field} {k : IntKind}

theorem check_is {em : Bool} {n : Nat} {w : World} {x : Int} {y : Value} (hd : P.underlying kt = some (.struct #[f0, f1])) (h0 : f0.name ≠ "_") (h1 : f1.name ≠ "_") (o0 : f0.offset = 0) (o1 : f1.offset = 1) (ha : P.underlying f0.type = some (.int k)) (hb : P.underlying f1.type = some .string) :
    (Instr.checkKey em (n + 1 + 1) kt (.agg #[.int k x, y])).run P w = .ok () w := by
  have e0 : ∀ v, (Instr.checkKey em (n + 1) f0.type v).run P w = .ok () w := fun v => by
    simp only [Instr.checkKey, Sem.run_bind, run_underlying' ha, Result.andThen_ok]
    cases v <;> rfl
  have e1 : ∀ v, (Instr.checkKey em (n + 1) f1.type v).run P w = .ok () w := fun v => by
    simp only [Instr.checkKey, Sem.run_bind, run_underlying' hb, Result.andThen_ok]
    cases v <;> rfl
  rw [Instr.checkKey]
  simp [run_underlying' hd, run_underlying' ha, run_underlying' hb, h0, h1, o0, o1, part, isAgg, e0, e1, Sem.run_bind]

theorem equal_is {n : Nat} {w : World} {x x' : Int} {y y' : ByteArray} (hd : P.underlying kt = some (.struct #[f0, f1])) (h0 : f0.name ≠ "_") (h1 : f1.name ≠ "_") (o0 : f0.offset = 0) (o1 : f1.offset = 1) (ha : P.underlying f0.type = some (.int k)) (hb : P.underlying f1.type = some .string) (hst : P.stoodInHeld kt = false) :
    (Op.equalIn (n + 1 + 1) kt (.agg #[.int k x, .string y]) (.agg #[.int k x', .string y'])).run P w = .ok (x == x' && y == y') w := by
  have e0 : (Op.equalIn (n + 1) f0.type (.int k x) (.int k x')).run P w = .ok (x == x') w := by
    simp only [Op.equalIn, Sem.run_bind, run_underlying' ha, Result.andThen_ok, if_true]
    rfl
  have e1 : (Op.equalIn (n + 1) f1.type (.string y) (.string y')).run P w = .ok (y == y') w := by
    simp only [Op.equalIn, Sem.run_bind, run_underlying' hb, Result.andThen_ok]
    rfl
  rw [Op.equalIn]
  by_cases hx : x = x'
  · subst hx
    simp only [beq_self_eq_true] at e0
    by_cases hy : (y == y') = true
    · simp [run_underlying' hd, run_underlying' ha, run_underlying' hb, h0, h1, o0, o1, part, isAgg, e0, e1, Sem.run_bind, hst, hy]
    · simp [run_underlying' hd, run_underlying' ha, run_underlying' hb, h0, h1, o0, o1, part, isAgg, e0, e1, Sem.run_bind, hst, hy]
  · simp [run_underlying' hd, run_underlying' ha, run_underlying' hb, h0, h1, o0, o1, part, isAgg, e0, e1, Sem.run_bind, hst, hx]

theorem bits_is {n : Nat} {x : Int} {y : List UInt8} : Instr.sameBits (n + 1 + 1) (.agg #[.int k x, strV y]) (.agg #[.int k x, strV y]) = true := by
  have : ((⟨y.toArray⟩ : ByteArray) == (⟨y.toArray⟩ : ByteArray)) = true := by rw [bytes_beq']; simp
  simp [Instr.sameBits, strV, this]

/-- A struct of a number and a string. -/
theorem mkey_is {K : Type} [DecidableEq K] (a : K → Int) (b : K → List UInt8) (hk : ∀ x y, a x = a y → b x = b y → x = y)
    (hd : P.underlying kt = some (.struct #[f0, f1])) (h0 : f0.name ≠ "_") (h1 : f1.name ≠ "_") (o0 : f0.offset = 0) (o1 : f1.offset = 1) (ha : P.underlying f0.type = some (.int k)) (hb : P.underlying f1.type = some .string) (hst : P.stoodInHeld kt = false) :
    MKey P kt (fun x : K => .agg #[.int k (a x), strV (b x)]) := by
  refine mkey_wide hd (fun x y e => ?_) (fun w em x => check_is (n := 9998) hd h0 h1 o0 o1 ha hb) (fun w x y => ?_) (fun x => bits_is (n := 9998))
  · simp [strV] at e
    exact hk x y e.1 e.2
  · have hxy : decide (x = y) = (a x == a y && decide (b x = b y)) := by
      rw [Bool.eq_iff_iff]
      simp
      exact ⟨fun h => by rw [h]; exact ⟨rfl, rfl⟩, fun h => hk x y h.1 h.2⟩
    rw [hxy, ← bytes_beq']
    exact equal_is (n := 9998) hd h0 h1 o0 o1 ha hb hst
end

theorem wf_i64 {n : Int} (h : (Lit.int .i64 n).wf = true) : -9223372036854775808 ≤ n ∧ n ≤ 9223372036854775807 := by
  simp only [Lit.wf, Bool.and_eq_true, decide_eq_true_eq] at h
  exact ⟨Int.le_trans (by decide) h.1, Int.le_trans h.2 (by decide)⟩
end Go.Proofs.Ytioenfjcbikbcaa.Q

namespace Go.Proofs.Ytioenfjcbikbcaa.Q
open Go Go.RowKit
set_option linter.unusedVariables false
set_option linter.unusedSimpArgs false

/-! ### A literal of bytes out of a string: the row is marked, and shared from then on -/

section
variable {P : Program} {bs : Base}

end
theorem mp_ntH {K V : Type} {f : K → Value} {kd : Kd V} {l : List (K × V)} (h : ∀ x j, noTag (kd.cell x j)) : noTagH (.live (mpK f kd l)) := mp_nt h
end Go.Proofs.Ytioenfjcbikbcaa.Q

namespace Go.Proofs.Ytioenfjcbikbcaa.Q
open Go Go.RowKit
set_option linter.unusedVariables false
set_option linter.unusedSimpArgs false

/-! ### A loop whose first round is told apart -/

section
variable {P : Program} {bs : Base}

/-- At the head of a loop that runs. -/
def TL (P : Program) (bs : Base) (s : St) (c : Code) (Q : Exit → Act → World → Prop) : Prop := ∀ a w, Gs bs s a w → ∀ (b : Frame) (k : List Item) (cs : List Frame),
  ∃ e a' w', Q e a' w' ∧ Arrives P (lone (b.at a (.code c :: .inLoop c :: k)) cs w) b k cs e a' w'

theorem TL.turn {s s' : St} {c : Code} {Q : Exit → Act → World → Prop} (h : ∀ a w, Gs bs s a w → Gs bs s' a w) (h' : TL P bs s' c Q) : TL P bs s c Q := fun a w hG => h' a w (h a w hG)

theorem TL.loop {s : St} {c : Code} {Q : Exit → Act → World → Prop} {ι : Type} (st : ι → St) (pre : ι → Prop) (μ : ι → Nat) (x0 : ι) (h0 : pre x0) (hs : ∀ a w, Gs bs s a w → Gs bs (st x0) a w)
    (round : ∀ x, pre x → T P bs (st x) c (Exit.then (fun a w => ∃ x', pre x' ∧ μ x' < μ x ∧ Gs bs (st x') a w) Q)) : TL P bs s c Q := by
  intro a w hG
  have key : ∀ n x a w, μ x = n → pre x → Gs bs (st x) a w → ∀ (b : Frame) (k : List Item) (cs : List Frame),
      ∃ e a' w', Q e a' w' ∧ Arrives P (lone (b.at a (.code c :: .inLoop c :: k)) cs w) b k cs e a' w' := by
    intro n
    induction n using Nat.strongRecOn with
    | _ n ih =>
      intro x a w hn hx hG b k cs
      obtain ⟨e, a₁, w₁, hq, harr⟩ := round x hx a w hG b (.inLoop c :: k) cs
      cases e with
      | normal =>
        obtain ⟨x', hx', hlt, hG'⟩ := hq
        obtain ⟨e₂, a₂, w₂, hq₂, harr₂⟩ := ih (μ x') (hn ▸ hlt) x' a₁ w₁ rfl hx' hG' b k cs
        exact ⟨e₂, a₂, w₂, hq₂, .of_steps (Steps.trans harr (.one step_inLoop)) harr₂⟩
      | exit id => exact ⟨_, a₁, w₁, hq, .pass (x := .inLoop c) rfl (fun _ _ => .inl (by simp)) harr⟩
      | goto l => exact ⟨_, a₁, w₁, hq, .pass (x := .inLoop c) rfl (fun _ _ => .inl (by simp)) harr⟩
      | ret => exact ⟨_, a₁, w₁, hq, .pass (x := .inLoop c) rfl (fun _ _ => .inl (by simp)) harr⟩
      | panic ch => exact ⟨_, a₁, w₁, hq, .pass (x := .inLoop c) rfl (fun _ _ => .inl (by simp)) harr⟩
      | outgrown => exact ⟨_, a₁, w₁, hq, .pass (x := .inLoop c) rfl (fun _ _ => .inl (by simp)) harr⟩
  exact key _ x0 a w rfl h0 (hs a w hG)

/-- What is to hold at a round's end. -/
def LR (P : Program) (c : Code) (Q : Exit → Act → World → Prop) (a : Act) (w : World) : Prop := ∀ (b : Frame) (k : List Item) (cs : List Frame), ∃ e a' w', Q e a' w' ∧ Arrives P (lone (b.at a (.code c :: .inLoop c :: k)) cs w) b k cs e a' w'

theorem TL.peel {s : St} {c : Code} {Q : Exit → Act → World → Prop} (h : T P bs s c (Exit.then (LR P c Q) Q)) : TL P bs s c Q := by
  intro a w hG b k cs
  obtain ⟨e, a₁, w₁, hq, harr⟩ := h a w hG b (.inLoop c :: k) cs
  cases e with
  | normal =>
    obtain ⟨e₂, a₂, w₂, hq₂, harr₂⟩ := hq b k cs
    exact ⟨e₂, a₂, w₂, hq₂, .of_steps (Steps.trans harr (.one step_inLoop)) harr₂⟩
  | exit id => exact ⟨_, a₁, w₁, hq, .pass (x := .inLoop c) rfl (fun _ _ => .inl (by simp)) harr⟩
  | goto l => exact ⟨_, a₁, w₁, hq, .pass (x := .inLoop c) rfl (fun _ _ => .inl (by simp)) harr⟩
  | ret => exact ⟨_, a₁, w₁, hq, .pass (x := .inLoop c) rfl (fun _ _ => .inl (by simp)) harr⟩
  | panic ch => exact ⟨_, a₁, w₁, hq, .pass (x := .inLoop c) rfl (fun _ _ => .inl (by simp)) harr⟩
  | outgrown => exact ⟨_, a₁, w₁, hq, .pass (x := .inLoop c) rfl (fun _ _ => .inl (by simp)) harr⟩

theorem T.ofTL {s : St} {c : Code} {Q : Exit → Act → World → Prop} (h : TL P bs s c Q) : T P bs s (.loop c) Q := by
  intro a w hG b k cs
  obtain ⟨e, a', w', hq, harr⟩ := h a w hG b k cs
  exact ⟨e, a', w', hq, .of_steps (.one step_loop) harr⟩

theorem nP {s : St} {c : Code} {Q Q' : Exit → Act → World → Prop} (h : TL P bs s c Q) : Ends bs s .normal (Exit.then (LR P c Q) Q') := h
end

/-! ### Bits and floats -/

section
variable {P : Program} {bs : Base}

theorem b_orU {t : TypeId} {a b : Nat} (ha : a < 18446744073709551616) (hb : b < 18446744073709551616) : BinR P .or t (.int .u64 (a : Int)) (.int .u64 (b : Int)) (.int .u64 ((a ||| b : Nat) : Int)) := bin_of (.inl fun _ => by simp) (.inl (by simp)) fun w => by
  have e1 : (BitVec.ofInt 64 (a : Int)).toNat = a := by rw [BitVec.ofInt_natCast, BitVec.toNat_ofNat]; exact Nat.mod_eq_of_lt ha
  have e2 : (BitVec.ofInt 64 (b : Int)).toNat = b := by rw [BitVec.ofInt_natCast, BitVec.toNat_ofNat]; exact Nat.mod_eq_of_lt hb
  have h : (BitVec.ofInt 64 (a : Int) ||| BitVec.ofInt 64 (b : Int)).toNat = a ||| b := by rw [BitVec.toNat_or, e1, e2]
  have hl : a ||| b < 18446744073709551616 := by rw [← h]; exact (BitVec.ofInt 64 (a : Int) ||| BitVec.ofInt 64 (b : Int)).isLt
  have hw : IntKind.u64.wrap ((a ||| b : Nat) : Int) = ((a ||| b : Nat) : Int) := by rw [IntKind.wrap_u64]; omega
  show (Op.intBits .or .u64 a b).run P w = _
  unfold Op.intBits
  simp only [IntKind.bits] at *
  show Result.ok (Value.int .u64 (IntKind.u64.wrap ((BitVec.ofInt 64 (a : Int) ||| BitVec.ofInt 64 (b : Int)).toNat : Int))) w = _
  rw [h, hw]

theorem b_shrN {k k' : IntKind} {t : TypeId} {a n : Nat} {b : Int} (hb : b = n) (hn : n ≤ k.bits) : BinR P .shr t (.int k (a : Int)) (.int k' b) (.int k ((a / 2 ^ n : Nat) : Int)) :=
  b_shr hb hn (by
    have : ((2 : Int) ^ n) = ((2 ^ n : Nat) : Int) := by simp
    rw [this, Int.fdiv_eq_ediv_of_nonneg _ (Int.natCast_nonneg _)]
    rfl)
theorem b_shlN {k k' : IntKind} {t : TypeId} {a n : Nat} {b : Int} (hb : b = n) (hn : n ≤ k.bits) (h : k.wrap ((a * 2 ^ n : Nat) : Int) = ((a * 2 ^ n : Nat) : Int)) : BinR P .shl t (.int k (a : Int)) (.int k' b) (.int k ((a * 2 ^ n : Nat) : Int)) :=
  b_shl hb hn (by simpa using h)

theorem wrap_byte (n : Nat) : IntKind.u8.wrap (n : Int) = ((UInt8.ofNat n).toNat : Int) := by
  rw [IntKind.wrap_u8]
  simp
/-- A number's last byte. -/
theorem c_byte {s d : TypeId} {ds : TypeDesc} {k' : IntKind} {n : Nat} (hs : P.underlying s = some ds) (hd : P.underlying d = some (.int .u8)) : ConvR P s d (.int k' (n : Int)) (.int .u8 ((UInt8.ofNat n).toNat : Int)) := c_int hs hd (wrap_byte n)

def u64 (n : Int) : Nat := (n % 18446744073709551616).toNat
theorem c_u64 {s d : TypeId} {ds : TypeDesc} {k' : IntKind} {n : Int} (hs : P.underlying s = some ds) (hd : P.underlying d = some (.int .u64)) : ConvR P s d (.int k' n) (.int .u64 ((u64 n : Nat) : Int)) := c_int hs hd (by rw [IntKind.wrap_u64]; unfold u64; omega)
def toI64 (n : Nat) : Int := if n < 9223372036854775808 then (n : Int) else (n : Int) - 18446744073709551616
theorem c_i64 {s d : TypeId} {ds : TypeDesc} {k' : IntKind} {n : Nat} (h : n < 18446744073709551616) (hs : P.underlying s = some ds) (hd : P.underlying d = some (.int .i64)) : ConvR P s d (.int k' (n : Int)) (.int .i64 (toI64 n)) := c_int hs hd (by rw [IntKind.wrap_i64]; unfold toI64; split <;> omega)
theorem toI64_u64 {n : Int} (h : -9223372036854775808 ≤ n ∧ n ≤ 9223372036854775807) : toI64 (u64 n) = n := by unfold toI64 u64; split <;> omega
theorem u64_lt (n : Int) : u64 n < 18446744073709551616 := by unfold u64; omega

def nanB (b : Nat) : Bool := !(Op.floatEq .f64 b b)
def kF64 : Kd Nat := ⟨1, fun x _ => .val (.float .f64 x), 0⟩
theorem kF64_ok : KOk kF64 := ⟨by decide, fun _ _ _ => rfl⟩
theorem kF64_nt : ∀ x j, noTag (kF64.cell x j) := fun _ _ => trivial
theorem b_nan {t : TypeId} {a : Nat} : BinR P .neq t (.float .f64 a) (.float .f64 a) (.bool (nanB a)) := bin_of (.inl fun _ => by simp) (.inl (by simp)) fun w => by
  simp [binOp, Op.floatCmp, nanB, Op.floatEq]
  rfl
theorem rd_f64 {t : TypeId} (ht : P.underlying t = some (.float .f64)) : Rd P t kF64 (fun n => n < 18446744073709551616) := fun H enc w base sp held fuel cs x h => by
  have hx : ∃ n, cs = [.float .f64 n] ∧ (Lit.float .f64 n).wf = true := by
    cases fuel with
    | zero => simp [DataW.trod] at h
    | succ n =>
      unfold DataW.trod at h
      rw [ht] at h
      split at h <;> simp_all
  obtain ⟨n, rfl, hw⟩ := hx
  refine ⟨n, by simpa [Lit.wf] using hw, rfl, fun j hj => ?_⟩
  have hj : j < 1 := hj
  obtain rfl : j = 0 := by omega
  exact ⟨_, rfl, rfl⟩

/-- A function of the model's own, of one argument, that asks nothing of the world. -/
theorem r_ext1 {d f : Nat} {fn : Func} {e : Array Value → Sem Value} {u v : Value} {x : Operand} {ts : Array TypeId} {ty : TypeId} {pos : String} {af : Array Edge} {gd : Option (Nat × Bool)} (hf : P.funcs[f]? = some fn) (hb : fn.body.isNone = true) (hn : (Extern.findNext fn).isNone = true) (he : Extern.find fn = some e) (hname : (fn.name == "runtime.NumGoroutine") = false)
    (hr : ∀ w, (e #[u]).run P w = .ok v w) (hN : d < bs.N) (hc : cOk [(x, dv u)]) :
    ORule P bs ⟨some d, .call { callee := .value (.func f), args := #[x], argTypes := ts }, ty, pos, af, gd⟩ ⟨rtOf [(x, dv u)], [], [(d, dv v)], []⟩ :=
  .val rfl hN hc fun B S U s a w g _ he' => by
    have h1 : a.eval x = u := he'.1
    have hn' := Option.isNone_iff_eq_none.1 hn
    have hcall : (callFunc f #[u]).run P w = .ok (.value v) w := by
      unfold callFunc
      simp only [Sem.run_bind, run_program, Result.andThen_ok, hf, hname, hb, hn', he, if_true, Bool.false_eq_true, if_false]
      have hm : (mark (.extern f)).run P w = .ok () w := rfl
      simp only [Sem.run_bind, hm, Result.andThen_ok, hr, Sem.run_pure]
    have hf0 : a.eval (.func f) = .func (.func f) #[] #[] := rfl
    exact ⟨v, by simpa [execOp, resolve, invoke, h1, hf0, Sem.run_bind, Deferred.ofValue] using hcall, rfl⟩
end
end Go.Proofs.Ytioenfjcbikbcaa.Q
