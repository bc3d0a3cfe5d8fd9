import Derived.Test.YtacikihlgpnjhaaQ20
namespace Go.Proofs.Ytacikihlgpnjhaa.Q
open Go Go.RowKit
set_option linter.unusedVariables false
set_option linter.unusedSimpArgs false

/-! ### An operand's own slice is shared as the operation takes it -/

theorem frA_tset {l sz n : Nat} {el : Nat → Nat → DV} {av av' : AV} (hf : frA l sz n el av av') (hne : av ≠ AV.any) : ∀ (ts : List AV) (t : Nat), tget ts t = av → all2 (frA l sz n el) ts (tset ts t av')
  | [], t, h => absurd h.symm (by simpa [tget] using hne)
  | x :: r, 0, h => by
    have h : x = av := h
    subst h
    exact ⟨hf, all2_of_get rfl fun i a b hi hj => by rw [hi] at hj; cases hj; exact .inl rfl⟩
  | x :: r, t + 1, h => ⟨.inl rfl, frA_tset hf hne r t h⟩

theorem frH_hset {l sz n : Nat} {el : Nat → Nat → DV} {o : HObj} : ∀ (hs : List HS) (i k : Nat), i + k = l → hget hs k = .live o → frH l sz n el i hs (hset hs k .dead)
  | [], i, k, _, h => by simp [hget] at h
  | x :: r, i, 0, e, h => by
    refine ⟨.inl ⟨e, rfl⟩, ?_⟩
    have : ∀ (r : List HS) (j : Nat), l < j → frH l sz n el j r r := by
      intro r
      induction r with
      | nil => intro j _; exact trivial
      | cons x r ih => intro j hj; exact ⟨.inr ⟨by omega, .inl rfl⟩, ih (j + 1) (by omega)⟩
    exact this r (i + 1) (by omega)
  | x :: r, i, k + 1, e, h => ⟨.inr ⟨by omega, .inl rfl⟩, frH_hset r (i + 1) k (by omega) h⟩

section
variable {P : Program} {bs : Base}
theorem ORule.frz {o : Oper} {rt : List (Nat × AV)} {rh : List (Nat × HS)} {wt : List (Nat × AV)} {wh : List (Nat × HS)} {α : Type} (i t l Ty : Nat) (K : Kd α) (xs : List α) {av av' : AV} (hr : ORule P bs o ⟨rt, rh, wt, wh⟩) (hi : rt[i]? = some (t, av')) (hfr : frA l K.sz xs.length (elOf K xs) av av') (hne : av ≠ AV.any)
    (hk : (keysT (rt.eraseIdx i)).all (fun k => !(Nat.beq k t)) = true) (hl : (keysH rh).all (fun k => !(Nat.beq k l)) = true) :
    ORule P bs o ⟨rt.set i (t, av), (l, .live (arrK Ty K xs)) :: rh, (t, av') :: wt, (l, .dead) :: wh⟩ := by
  intro Q C s a w hG hs hK
  obtain ⟨hs1, hs2, hs3⟩ := hs
  have hil : i < rt.length := (List.getElem?_eq_some_iff.1 hi).1
  have hsat : ∀ {m : List (Nat × AV)} {ts : List AV}, satT m ts ↔ ∀ p, p ∈ m → tget ts p.1 = p.2 := by
    intro m ts
    induction m with
    | nil => exact ⟨fun _ p hp => (by cases hp), fun _ => trivial⟩
    | cons x m ih =>
      constructor
      · rintro ⟨h1, h2⟩ p hp
        cases hp with
        | head => exact h1
        | tail _ hp => exact ih.1 h2 p hp
      · exact fun h => ⟨h x (List.mem_cons_self ..), ih.2 fun p hp => h p (List.mem_cons_of_mem _ hp)⟩
  have ht : tget s.t t = av := hsat.1 hs1 (t, av) (by
    have : (rt.set i (t, av))[i]? = some (t, av) := by simp [hil]
    exact List.mem_of_getElem? this)
  have hG' : Gs bs ⟨tset s.t t av', hset s.h l .dead⟩ a w := Gs.freeze l (el := elOf K xs) (sz := K.sz) (n := xs.length) (Ty := Ty) hs2 (frA_tset hfr hne s.t t ht) (frH_hset s.h 0 l (Nat.zero_add l) hs2) hG
  refine hr Q C ⟨tset s.t t av', hset s.h l .dead⟩ a w hG' ⟨hsat.2 fun p hp => ?_, ?_⟩ hK
  · show tget (tset s.t t av') p.1 = p.2
    rw [tget_tset]
    obtain ⟨j, hj, rfl⟩ := List.getElem_of_mem hp
    by_cases hji : j = i
    · subst hji
      rw [List.getElem?_eq_getElem hj, Option.some.injEq] at hi
      rw [hi, if_pos rfl]
    · have hmem : rt[j] ∈ rt.eraseIdx i := by
        rw [List.mem_eraseIdx_iff_getElem]
        exact ⟨j, hj, hji, rfl⟩
      have hne' : rt[j].1 ≠ t := fun e => by
        have := List.all_eq_true.1 hk rt[j].1 (List.mem_map.2 ⟨_, hmem, rfl⟩)
        rw [e] at this
        simp at this
      rw [if_neg hne']
      refine hsat.1 hs1 rt[j] ?_
      have : (rt.set i (t, av))[j]? = some rt[j] := by rw [List.getElem?_set_ne (Ne.symm hji)]; exact List.getElem?_eq_getElem hj
      exact List.mem_of_getElem? this
  · have hsh : ∀ {m : List (Nat × HS)} {ts : List HS}, satH m ts → (keysH m).all (fun k => !(Nat.beq k l)) = true → satH m (hset ts l .dead) := by
      intro m
      induction m with
      | nil => intro ts _ _; exact trivial
      | cons x m ih =>
        intro ts h1 h2
        simp only [keysH, List.map_cons, List.all_cons, Bool.and_eq_true, Bool.not_eq_true'] at h2
        refine ⟨?_, ih h1.2 (by simpa [keysH] using h2.2)⟩
        rw [hget_hset, if_neg (fun e => by rw [e] at h2; simp at h2)]
        exact h1.1
    exact hsh hs3 hl
end
end Go.Proofs.Ytacikihlgpnjhaa.Q
