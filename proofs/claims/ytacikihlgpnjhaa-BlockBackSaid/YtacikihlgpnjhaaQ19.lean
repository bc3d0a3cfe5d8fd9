import Derived.Test.YtacikihlgpnjhaaQ18
namespace Go.Proofs.Ytacikihlgpnjhaa.Q
open Go Go.RowKit
set_option linter.unusedVariables false
set_option linter.unusedSimpArgs false

/-! ### A literal of bytes out of a string: the row is marked, and shared from then on -/

section
variable {P : Program} {bs : Base}

theorem r_convLit {α : Type} (l T : Nat) (K : Kd α) (xs : List α) {d : Nat} {x : Operand} {t e ty : TypeId} {pos : String} {af : Array Edge} {gd : Option (Nat × Bool)} (ht : P.underlying t = some (.slice e)) (he' : P.underlying e = some (.int .u8)) (hpos : 0 < xs.length) (hN : d < bs.N) (hc : cOk [(x, ownV l K 0 xs.length)]) :
    ORule P bs ⟨some d, .convert t t x, ty, pos, af, gd⟩ ⟨rtOf [(x, ownV l K 0 xs.length)], [(l, .live (arrK T K xs))], [(d, slV false true K xs)], [(l, .dead)]⟩ :=
  .heap rfl hN hc fun B S U s a w g hh he => by
    have hl := hh.1
    rcases he.1 with ⟨_, _, hn0, _⟩ | ⟨b, κ, o, cap, hb, hv, hcap, hle, ho⟩
    · omega
    · rcases g.ob l _ hl with ⟨hob, _⟩ | ⟨b', κ', cur, hb', hcur, hsz, hnk, hkm', hel⟩
      · rw [hb] at hob; cases hob
      · rw [hb] at hb'
        cases hb'
        have ho0 : o = 0 := by have := ho (.inr rfl); omega
        subst ho0
        have hblt : b < w.heap.size := (Array.getElem?_eq_some_iff.1 hcur).1
        let F : Nat → Prop := fun c => c = b
        let w' : World := { w with heap := w.heap.setIfInBounds b (.cells cur T (cur.size, cur.size + 1)) }
        have hw' : w'.heap[b]? = some (.cells cur T (cur.size, cur.size + 1)) := by simp [w', hblt]
        have hwne : ∀ c, c ≠ b → w'.heap[c]? = w.heap[c]? := fun c hc => by simp [w', Array.getElem?_setIfInBounds, Ne.symm hc]
        have hshape : w.shape? b = some (T, cur.size) := by simp [World.shape?, hcur]
        have hfreeze : w.freeze ⟨b, cur.size, none⟩ 1 = w' := by
          unfold World.freeze
          rw [if_neg (by decide)]
          have hm : ∀ f : Obj → Obj, f (.cells cur T (0, 0)) = .cells cur T (cur.size, cur.size + 1) → w.heap.modify b f = w.heap.setIfInBounds b (.cells cur T (cur.size, cur.size + 1)) := fun f hf => by
            apply Array.ext
            · simp
            · intro i h1 h2
              have hcur' := (Array.getElem?_eq_some_iff.1 hcur).2
              rw [Array.getElem_modify, Array.getElem_setIfInBounds (by simpa using h1)]
              by_cases h : b = i
              · subst h; simp [hcur', hf]
              · simp [h]
          show ({ w with heap := w.heap.modify b _ } : World) = _
          rw [hm _ rfl]
        refine ⟨.slice (some ⟨b, 0, none⟩) xs.length cap, w', B, fun c => S c ∨ F c, fun c => U c ∨ F c, ?_, ?_, ?_⟩
        · have hv' : a.eval x = .slice (some ⟨b, 0, none⟩) xs.length cap := hv
          simp [execOp, hv', convert, run_underlying' ht, run_underlying' he', markStringish, hshape, Sem.run_bind, hfreeze]
        · have hF : bs.C b ∨ bs.w0.heap.size ≤ b := g.cf l _ (b, κ) hl hb
          refine g.upd (fun k => k = l) _ (fun k hk => by simp [hsets, hget_hset, hk]) (fun _ _ h => h) (fun _ _ => rfl) (fun _ h => .inl h) (fun _ h => .inl h) (fun c h => h.imp (g.su c) id) (fun c h => ?_) (fun c h => ?_) (fun c h => ?_)
            (fun k y hk hy => ?_) (fun k k' _ _ _ _ h h' _ _ hne => absurd (h.trans h'.symm) hne) (fun c hc hne => ?_) (fun k hk h => ?_) (fun k y q hk hk' hq h => ?_) (by simp [w']) rfl rfl rfl
          · rcases h with h | h
            · simpa [w'] using g.ub c h
            · have h : c = b := h
              subst h; simpa [w'] using hblt
          · rcases h with h | h
            · exact .inl h
            · have h : c = b := h
              subst h; exact .inr hF
          · rcases h with h | h
            · exact .inl h
            · have h : c = b := h
              subst h; exact .inr hF
          · subst hk
            simp [hsets, hget_hset] at hy
          · exact hwne c (hne l _ (b, κ) rfl hl hb)
          · subst hk; simp [hsets, hget_hset] at h
          · rcases h with h | h
            · exact g.sp k y q hk' hq h
            · exact g.nj k l y _ hk' hl hk q (b, κ) hq hb h
        · refine ⟨some ⟨b, 0, none⟩, cap, rfl, hle, by simp, by simp, fun i hi => ⟨⟨b, 0, none⟩, rfl, rfl, .inr rfl, fun j hj => ?_⟩⟩
          obtain ⟨u, hu, hd⟩ := hel i hi j hj
          refine ⟨u, ?_, ?_⟩
          · simp only [World.cell?, hw']
            simpa using hu
          · refine dOk_mono (w := w) (fun _ h => .inl h) (fun _ h => .inl h) (fun c hc => hwne c fun e => ?_) _ _ hd
            subst e
            exact g.sp l _ (c, κ) hl hb (hc.elim (g.su c) id)
end
theorem mp_ntH {K V : Type} {f : K → Value} {kd : Kd V} {l : List (K × V)} (h : ∀ x j, noTag (kd.cell x j)) : noTagH (.live (mpK f kd l)) := mp_nt h
end Go.Proofs.Ytacikihlgpnjhaa.Q
