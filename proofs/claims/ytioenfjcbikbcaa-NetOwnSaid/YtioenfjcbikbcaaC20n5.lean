import Derived.Test.YtioenfjcbikbcaaC20n4
namespace Go.Proofs.Ytioenfjcbikbcaa.Q
set_option linter.unusedVariables false
set_option linter.unusedSimpArgs false
set_option maxRecDepth 100000

/-! ### Shared bytes that are spoilt -/

def kAny : Kd UInt8 := ⟨1, fun _ _ => .any, 0⟩
def c_splP (x : api_Packet) : Nat → DV
  | 0 => .val (.int .i64 x.f_Id)
  | 1 => .val (.int .i64 x.f_To)
  | 2 => .val (.int .i64 x.f_Env.f_Signer)
  | 3 => dsl false false kAny x.f_Env.f_Body
  | _ => .any
def kSplP : Kd api_Packet := ⟨4, c_splP, z_api_Packet⟩
def spD : DV → Prop
  | .sl tag _ _ _ el => tag = false ∧ ∀ i j, el i j = .any
  | _ => True
def spS : SV → Prop
  | .d x => spD x
  | .ep tag _ el => tag = false ∧ ∀ j, el j = .any
  | .cl .. => False
  | _ => True
def spT : TV → Prop
  | .one s => spS s
  | .agg l => allP spS l
def spA : AV → Prop
  | .tv t => spT t
  | .tup l => allP spT l
def spO : HObj → Prop
  | .box _ cs => allP spS cs
  | .arr _ _ _ el => ∀ i j, spD (el i j)
  | .mp _ => False
def spH : HS → Prop
  | .live o => spO o
  | _ => True
theorem spl_dsl (xs : List UInt8) (nn : Bool) : spD (dsl false nn kAny xs) := ⟨rfl, fun _ _ => rfl⟩
theorem spl_arr (T : Nat) (X : List api_Packet) : spO (arrK T kSplP X) := fun i j => by
  show spD (c_splP (X.getD i kSplP.z) j)
  unfold c_splP
  split
  · exact trivial
  · exact trivial
  · exact trivial
  · exact spl_dsl _ _
  · exact trivial
theorem spl_t : ∀ {l : List AV}, allP spA l → ∀ k, spA (tget l k)
  | [], _, _ => trivial
  | _ :: _, h, 0 => h.1
  | _ :: _, h, k + 1 => spl_t h.2 k
theorem spl_h : ∀ {l : List HS}, allP spH l → ∀ k o, hget l k = .live o → spO o
  | [], _, _, _, e => by cases e
  | x :: _, h, 0, o, e => by
    have e : x = .live o := e
    subst e
    exact h.1
  | _ :: _, h, k + 1, o, e => spl_h h.2 k o e
section
variable {P : Program} {bs : Base}
theorem G.spoil {B : Bk} {S U : Nat → Prop} {s : St} {a : Act} {w : World} (g : G bs B S U s a w) (hs0 : ∀ b, ¬ bs.S0 b) (ht : ∀ k, spA (tget s.t k)) (hh : ∀ l o, hget s.h l = .live o → spO o) {b : Nat} {cur cur' : Array Value} {T : TypeId} (hb : S b) (hc : w.heap[b]? = some (.cells cur T (0, 0))) (hsz : cur'.size = cur.size) :
    G bs B S U s a { w with heap := w.heap.setIfInBounds b (.cells cur' T (0, 0)) } := by
  have hblt : b < w.heap.size := (Array.getElem?_eq_some_iff.1 hc).1
  have hne : ∀ c, c ≠ b → ({ w with heap := w.heap.setIfInBounds b (.cells cur' T (0, 0)) } : World).heap[c]? = w.heap[c]? := fun c h => by simp [Array.getElem?_setIfInBounds, Ne.symm h]
  have hcell : ∀ (ad : Addr) u, w.cell? ad = some u → ∃ u', ({ w with heap := w.heap.setIfInBounds b (.cells cur' T (0, 0)) } : World).cell? ad = some u' := fun ad u hu => by
    by_cases h : ad.block = b
    · unfold World.cell? at hu ⊢
      rw [h, hc] at hu
      have e1 : ({ w with heap := w.heap.setIfInBounds b (.cells cur' T (0, 0)) } : World).heap[b]? = some (.cells cur' T (0, 0)) := by simp [hblt]
      rw [h, e1]
      simp only at hu ⊢
      split at hu
      · cases hu
      · rename_i hsp
        rw [if_neg hsp]
        have hlt : ad.off < cur.size := (Array.getElem?_eq_some_iff.1 hu).1
        exact ⟨_, Array.getElem?_eq_getElem (by omega)⟩
    · exact ⟨u, by rw [← hu]; exact World.cell?_of_block (hne _ h)⟩
  have md : ∀ x v, spD x → dOk S U w x v → dOk S U { w with heap := w.heap.setIfInBounds b (.cells cur' T (0, 0)) } x v := fun x v hx h => by
    match x, hx, h with
    | .any, _, _ => exact trivial
    | .val _, _, h => exact h
    | .sl tag nn sz n el, ⟨e1, e2⟩, ⟨a, cap, h1, h2, h3, h4, h5⟩ =>
      refine ⟨a, cap, h1, h2, h3, h4, fun i hi => ?_⟩
      obtain ⟨ad, q1, q2, q3, q4⟩ := h5 i hi
      refine ⟨ad, q1, q2, q3, fun j hj => ?_⟩
      obtain ⟨u, hu, _⟩ := q4 j hj
      obtain ⟨u', hu'⟩ := hcell _ u hu
      exact ⟨u', hu', by rw [e2]; exact trivial⟩
  have ms : ∀ x v, spS x → svOk B S U w x v → svOk B S U { w with heap := w.heap.setIfInBounds b (.cells cur' T (0, 0)) } x v := fun x v hx h => by
    match x, hx, h with
    | .d x, hx, h => exact md x v hx h
    | .ptr .., _, h => exact h
    | .own .., _, h => exact h
    | .mref .., _, h => exact h
    | .clo .., _, h => exact h
    | .ep tag n el, ⟨e1, e2⟩, ⟨ad, h1, h2, h3, h4⟩ =>
      refine ⟨ad, h1, h2, h3, fun j hj => ?_⟩
      obtain ⟨u, hu, _⟩ := h4 j hj
      obtain ⟨u', hu'⟩ := hcell _ u hu
      exact ⟨u', hu', by rw [e2]; exact trivial⟩
  have mt : ∀ x v, spT x → tvOk B S U w x v → tvOk B S U { w with heap := w.heap.setIfInBounds b (.cells cur' T (0, 0)) } x v := fun x v hx h => by
    match x, hx, h with
    | .one s, hx, h => exact ms s v hx h
    | .agg l, hx, ⟨cs, h1, h2⟩ => exact ⟨cs, h1, all2_allP (p := spS) (fun a v => ms a v) hx h2⟩
  have mu : ∀ c, S c → c ≠ b ∨ c = b := fun c _ => by omega
  refine { g with tm := fun k => ?_, ob := fun l o e => ?_, ub := fun c h => by simpa using g.ub c h, ps := fun c h1 h2 => ?_, hs := by simpa using g.hs, os := g.os, tp := g.tp, op := g.op, uf := fun c h hn => ?_ }
  · have h := g.tm k
    have hx := ht k
    show avOk B S U _ (tget s.t k) _
    revert h hx
    generalize tget s.t k = av
    intro h hx
    cases av with
    | tv x => exact mt x _ hx h
    | tup l =>
      obtain ⟨vs, h1, h2⟩ := h
      exact ⟨vs, h1, all2_allP (p := spT) (fun a v => mt a v) hx h2⟩
  · have hsp := hh l o e
    have hx := g.ob l o e
    have hbl : ∀ p, B l = some (some p) → ({ w with heap := w.heap.setIfInBounds b (.cells cur' T (0, 0)) } : World).heap[p.1]? = w.heap[p.1]? := fun p hp => hne _ fun q => g.sp l o p e hp (q ▸ g.su b hb)
    match o, hsp, hx with
    | .box T cs, hsp, ⟨b', κ, c', h1, h2, h3⟩ => exact ⟨b', κ, c', h1, (hbl _ h1).trans h2, all2_allP (p := spS) (fun a v => ms a v) hsp h3⟩
    | .arr T sz n el, hsp, .inl h => exact .inl h
    | .arr T sz n el, hsp, .inr ⟨b', κ, c', h1, h2, h3, h4, h5, h6⟩ =>
      exact .inr ⟨b', κ, c', h1, (hbl _ h1).trans h2, h3, h4, h5, fun i hi j hj => by obtain ⟨u, hu, hd⟩ := h6 i hi j hj; exact ⟨u, hu, md _ _ (hsp i j) hd⟩⟩
  · have hcb : c ≠ b := fun q => by
      rcases g.sn b hb with h | h | h
      · exact hs0 b h
      · exact h2 (q ▸ h)
      · omega
    rw [hne c hcb]; exact g.ps c h1 h2
  · by_cases hcb : c = b
    · exact ⟨cur', T, by rw [hcb]; simp [hblt]⟩
    · rw [hne c hcb]; exact g.uf c h hn

theorem ops_pre {ops : Array Oper} {Q : Exit → Act → World → Prop} (rest : List Nat) : ∀ (l : List OS) (i : Nat) (s : St) (a : Act) (w : World), (∀ j x, l[j]? = some x → OStep P ops bs (i + j) x) → seqSat s l → Gs bs s a w → (∀ a' w', Gs bs (appAll s l) a' w' → wpOps P ops Q rest a' w') → wpOps P ops Q (List.range' i l.length ++ rest) a w
  | [], _, _, a, w, _, _, hG, hQ => hQ a w hG
  | x :: r, i, s, a, w, h, hs, hG, hQ => by
    simp only [List.length_cons, List.range'_succ, List.cons_append, wpOps_cons]
    exact h 0 x rfl Q _ s a w hG hs.1 fun a' w' hG' => ops_pre rest r (i + 1) (x.app s) a' w' (fun j y hj => by rw [show i + 1 + j = i + (j + 1) by omega]; exact h (j + 1) y hj) hs.2 hG' hQ
theorem OSteps.at {ops : Array Oper} : ∀ {l : List OS} {i : Nat}, OSteps P ops bs i l → ∀ j x, l[j]? = some x → OStep P ops bs (i + j) x
  | [], _, _, _, _, e => by simp at e
  | _ :: _, i, h, 0, x, e => by simp only [List.getElem?_cons_zero, Option.some.injEq] at e; subst e; exact h.1
  | _ :: _, i, h, j + 1, x, e => by rw [show i + (j + 1) = i + 1 + j by omega]; exact OSteps.at h.2 j x (by simpa using e)

/-- The last operation of a region writes a byte that is shared: nothing is known of shared bytes. -/
theorem T.spoil {s : St} {id m x : Nat} {ops : Array Oper} {Q : Exit → Act → World → Prop} {k : IntKind} {c : Int} {t ty : TypeId} {pos : String} {af : Array Edge} {el : Nat → DV} (s1 : St) (hs : List (HX P (ops.toList.take m).toArray bs))
    (hops : ops = (ops.toList.take m ++ [(⟨none, .store t (.tmp x) (.const (.int k c)), ty, pos, af, none⟩ : Oper)]).toArray) (hg : (ops.toList.take m).all (fun o => o.guard.isNone) = true) (hcl : Cells P t 1) (hs0 : ∀ b, ¬ bs.S0 b)
    (hok : (exK P (ops.toList.take m).toArray bs (ops.toList.take m).toArray.toList 0 hs s).ok = true) (hab : (exK P (ops.toList.take m).toArray bs (ops.toList.take m).toArray.toList 0 hs s).a = (exK P (ops.toList.take m).toArray bs (ops.toList.take m).toArray.toList 0 hs s).b)
    (hn : (⟨dropT s1.t (aft P (ops.toList.take m).toArray bs hs s).t, (aft P (ops.toList.take m).toArray bs hs s).h⟩ : St) = s1) (hx : tget s1.t x = sv (.ep false 1 el)) (ht : allP spA s1.t) (hh : allP spH s1.h)
    (h : Ends bs s1 .normal Q) : T P bs s (.region id ops false) Q := by
  obtain ⟨h1, h2⟩ := exK_all hok hab
  have hlen := h1.size
  intro a w hG
  refine wp_region ?_
  generalize hpre : ops.toList.take m = pre at *
  have hsz : ops.size = pre.length + 1 := by rw [hops]; simp
  have hl : (exK P pre.toArray bs pre.toArray.toList 0 hs s).l.length = pre.length := by rw [List.size_toArray, Nat.zero_add] at hlen; exact hlen.symm
  have hget : ∀ j, j < pre.length → ops[j]? = pre[j]? := fun j hj => by rw [hops]; simp [List.getElem?_append_left hj]
  rw [hsz, List.range_eq_range', ← List.range'_append_1 (s := 0) (m := pre.length) (n := 1), ← hl]
  refine ops_pre _ _ 0 s a w (fun j z hz => ?_) h2 hG fun a' w' hG' => ?_
  · have hj : j < pre.length := by have := (List.getElem?_eq_some_iff.1 hz).1; omega
    have h3 := h1.at j z hz
    rw [Nat.zero_add] at h3 ⊢
    intro Q K s a w hG hs hK
    have h4 := h3 Q K s a w hG hs hK
    have hgj : (pre[j]).guard = none := by
      have := List.all_eq_true.1 hg pre[j] (List.getElem_mem hj)
      cases hq : (pre[j]).guard with
      | none => rfl
      | some q => rw [hq] at this; cases this
    simp only [wpOp, List.getElem?_toArray, hget j hj, List.getElem?_eq_getElem hj, Region.wanted, hgj, if_true] at h4 ⊢
    exact h4
  · have hG1 : Gs bs s1 a' w' := Gs.norm hn hG'
    obtain ⟨B, S, U, g⟩ := hG1
    rw [hl, show List.range' (0 + pre.length) 1 = [pre.length] from by simp [List.range']]
    simp only [wpOps_cons]
    have hlast : ops[pre.length]? = some ⟨none, .store t (.tmp x) (.const (.int k c)), ty, pos, af, none⟩ := by rw [hops]; simp
    simp only [wpOp, hlast, Region.wanted, if_true]
    left
    have hp := g.tm x
    rw [hx] at hp
    obtain ⟨ad, e1, e2, e3, e4⟩ := hp
    obtain ⟨u, hu, _⟩ := e4 0 (by decide)
    have hb : S ad.block := e3
    obtain ⟨cur, T, hc⟩ := g.uf _ hb (hs0 _)
    have had : ad = ⟨ad.block, ad.off, none⟩ := by cases ad; simp only at e2; rw [e2]
    have hoff : ad.off < cur.size := by
      rw [Nat.add_zero] at hu
      unfold World.cell? at hu
      simp only [hc] at hu
      exact (Array.getElem?_eq_some_iff.1 hu).1
    obtain ⟨cur', hr, hcs, _⟩ := run_storeCells (P := P) (b := ad.block) (T := T) [.int k c] cur ad.off 0 w' hc (by simp; omega) (fun v hv => by simp at hv; subst hv; rfl)
    obtain ⟨i, hi, hin⟩ := hcl
    unfold Oper.wp
    have h1 : a'.eval (.tmp x) = .pointer (some ⟨ad.block, ad.off, none⟩) := by rw [← had]; exact e1
    have hrun : (execOp a'.eval ⟨none, .store t (.tmp x) (.const (.int k c)), ty, pos, af, none⟩).run P w' = .ok .skip { w' with heap := w'.heap.setIfInBounds ad.block (.cells cur' T (0, 0)) } := by
      have hsz1 : (a'.eval (.const (.int k c))).cells.size = i.size := by rw [eval_const, hin]; rfl
      have hr' : (storeCells ⟨ad.block, ad.off, none⟩ (a'.eval (.const (.int k c))).cells.toList 0).run P w' = .ok () { w' with heap := w'.heap.setIfInBounds ad.block (.cells cur' T (0, 0)) } := by rw [eval_const]; exact hr
      simp only [execOp, h1, Instr.storeAt, Instr.sureAddr, storeVar, Sem.run_bind, Sem.run_pure, Result.andThen_ok, run_sizeOf hi]
      rw [if_neg (by simp [hsz1])]
      simp only [Sem.run_bind, Sem.run_pure, Result.andThen_ok, hr']
    rw [hrun, Oper.upon_skip]
    exact h _ _ ⟨B, S, U, g.spoil hs0 (spl_t ht) (spl_h hh) hb hc hcs⟩

/-! ### A net lent whole: what it gives is apart from it -/
theorem lendP {S U D : Nat → Prop} {w : World} (hS : ∀ b, S b → D b) (x : api_Packet) : ∀ (j : Nat) (u : Value), dOk S U w ((k_api_Packet false).cell x j) u → dOk (fun _ => False) D w ((k_api_Packet true).cell x j) u
  | 0, _, h => h
  | 1, _, h => h
  | 2, _, h => h
  | 3, u, h => by
    obtain ⟨a, cap, h1, h2, h3, h4, h5⟩ := (show dOk S U w (dsl false false kU8 x.f_Env.f_Body) u from h)
    refine (show dOk (fun _ => False) D w (dsl true false kU8 x.f_Env.f_Body) u from ⟨a, cap, h1, h2, h3, h4, fun i hi => ?_⟩)
    obtain ⟨ad, q1, q2, q3, q4⟩ := h5 i hi
    refine ⟨ad, q1, q2, hS _ q3, fun j hj => ?_⟩
    obtain ⟨v, hv, hd⟩ := q4 j hj
    exact ⟨v, hv, hd⟩
  | _ + 4, _, _ => trivial
theorem lendN {B : Bk} {S U : Nat → Prop} {s : St} {a : Act} {w : World} (g : G bs B S U s a w) {l l2 k : Nat} {X : List api_Packet} {n : Int} (hx : tget s.t k = pv l 0) (hb : hget s.h l = .live (.box 54 [.own l2 (k_api_Packet false).sz 0 X.length, .d (.val (.int .i64 n))])) (ha : hget s.h l2 = .live (arrK 35 (k_api_Packet false) X)) :
    svOk (fun _ => none) (fun _ => False) (fun b => b < w.heap.size) w (.ep true 2 ((k_net_Net true).cell ⟨X, n⟩)) (a.tmps.getD k undef) := by
  have h := g.tm k
  rw [hx] at h
  obtain ⟨b, κ, hbl, hv⟩ := h
  obtain ⟨b', κ', cur, hb', hcur, hall⟩ := g.ob l _ hb
  rw [hbl] at hb'
  cases hb'
  obtain ⟨v0, v1, hl, h0, h1⟩ : ∃ v0 v1, cur.toList = [v0, v1] ∧ svOk B S U w (.own l2 (k_api_Packet false).sz 0 X.length) v0 ∧ svOk B S U w (.d (.val (.int .i64 n))) v1 := by
    revert hall
    generalize cur.toList = L
    intro hall
    match L, hall with
    | [v0, v1], ⟨h0, h1, _⟩ => exact ⟨v0, v1, rfl, h0, h1⟩
  have hS : ∀ b, S b → b < w.heap.size := fun b h => g.ub b (g.su b h)
  have hg : ∀ j, cur[j]? = [v0, v1][j]? := fun j => by rw [← hl, Array.getElem?_toList]
  refine ⟨⟨b, 0, none⟩, hv, rfl, (Array.getElem?_eq_some_iff.1 hcur).1, fun j hj => ?_⟩
  rcases j with _ | _ | j
  · refine ⟨v0, cell_of_block hcur (by rw [hg]; rfl), (show dOk _ _ w (dsl true false (k_api_Packet true) X) v0 from ?_)⟩
    rcases h0 with ⟨_, _, hn0, hv0⟩ | ⟨b2, κ2, o, cap, hb2, hv0, hk, hle, ho⟩
    · exact ⟨none, 0, by rw [hv0, hn0], by rw [hn0]; exact Nat.le_refl _, fun _ => rfl, (by simp), fun i hi => absurd hi (by omega)⟩
    · refine ⟨some ⟨b2, o, none⟩, cap, hv0, hle, by simp, by simp, fun i hi => ?_⟩
      rcases g.ob l2 _ ha with ⟨hob, _⟩ | ⟨b3, κ3, cur3, hb3, hcur3, hsz, hnk, hkm', hel⟩
      · rw [hb2] at hob; cases hob
      · rw [hb2] at hb3
        cases hb3
        refine ⟨⟨b2, o, none⟩, rfl, rfl, (Array.getElem?_eq_some_iff.1 hcur3).1, fun j hj => ?_⟩
        obtain ⟨u, hu, hd⟩ := hel i hi j hj
        refine ⟨u, cell_of_block hcur3 ?_, lendP hS _ j u hd⟩
        show cur3[o + (i * 4 + j)]? = some u
        have ho' : o = 0 := by simpa using ho (.inr rfl)
        rw [ho', Nat.zero_add]
        exact hu
  · exact ⟨v1, cell_of_block hcur (by rw [hg]; rfl), h1⟩
  · omega

/-- Operations (of one region) in a base. -/
def NT (P : Program) (bs : Base) (s : St) (r : List Oper) (y : Code) (Q : Exit → Act → World → Prop) : Prop :=
  ∃ hs : List (HX P r.toArray bs), (exK P r.toArray bs r.toArray.toList 0 hs s).ok = true ∧ (exK P r.toArray bs r.toArray.toList 0 hs s).a = (exK P r.toArray bs r.toArray.toList 0 hs s).b ∧ T P bs (aft P r.toArray bs hs s) y Q
theorem nR {s : St} {r : List Oper} {y : Code} {Q : Exit → Act → World → Prop} (hs : List (HX P r.toArray bs)) (h : T P bs (aft P r.toArray bs hs s) y Q) (hok : (exK P r.toArray bs r.toArray.toList 0 hs s).ok = true := by kernel_rfl) (hab : (exK P r.toArray bs r.toArray.toList 0 hs s).a = (exK P r.toArray bs r.toArray.toList 0 hs s).b := by kernel_rfl) : NT P bs s r y Q := ⟨hs, hok, hab, h⟩
def below (w : World) : Nat → Prop := fun b => b < w.heap.size
abbrev nestB (N : Nat) (w : World) : Base := mkBase N 0 w (fun _ => False) (below w) (fun _ => none)
abbrev rawV (a : Act) (k : Nat) : Value := a.tmps.getD k undef
theorem G.nest {B : Bk} {S U : Nat → Prop} {s : St} {a : Act} {w : World} {N : Nat} (g : G bs B S U s a w) (hN : bs.N = N) : G (nestB N w) (fun _ => none) (fun _ => False) (below w) ⟨[.any, .any, .any, dv (rawV a 3), .any, dv (rawV a 5), dv (rawV a 6)], []⟩ a w := by
  refine { df := g.df, sz := g.sz.trans hN, tm := fun k => ?_, ob := fun l o e => ?_, nj := fun l l' o o' e => ?_, sp := fun l o p e => ?_, cf := fun l o p e => ?_, fr := fun _ _ => rfl, su := fun _ h => h.elim, ub := fun _ h => h, s0 := fun _ h => h, u0 := fun _ h => h, sn := fun _ h => h.elim, un := fun _ h => .inl h, ps := fun _ _ _ => rfl, hs := Nat.le_refl _, os := rfl, tp := rfl, op := rfl, bl := fun _ _ h => h, bk := fun _ _ => rfl, uf := fun _ h _ => h.elim }
  · rcases k with _ | _ | _ | _ | _ | _ | _ | k
    · exact trivial
    · exact trivial
    · exact trivial
    · exact rfl
    · exact trivial
    · exact rfl
    · exact rfl
    · exact trivial
  all_goals cases l <;> cases e
theorem ops_shift {o0 : Oper} {r : List Oper} (hg : r.all (fun o => o.guard.isNone) = true) {Q : Exit → Act → World → Prop} : ∀ (n i : Nat) (a : Act) (w : World), i + n = r.length → wpOps P r.toArray Q (List.range' i n) a w → wpOps P (o0 :: r).toArray Q (List.range' (i + 1) n) a w
  | 0, i, a, w, _, h => h
  | n + 1, i, a, w, hl, h => by
    have hlt : i < r.length := by omega
    have hgi : (r[i]).guard = none := by
      have := List.all_eq_true.1 hg r[i] (List.getElem_mem hlt)
      cases hq : (r[i]).guard with
      | none => rfl
      | some q => rw [hq] at this; cases this
    simp only [List.range'_succ, wpOps_cons] at h ⊢
    have e1 : (o0 :: r).toArray[i + 1]? = some r[i] := by simp [List.getElem?_eq_getElem hlt]
    have e2 : r.toArray[i]? = some r[i] := by simp [List.getElem?_eq_getElem hlt]
    unfold wpOp at h ⊢
    simp only [e1, e2, Region.wanted, hgi, if_true] at h ⊢
    rcases h with h | h
    · exact .inl (Oper.wp_mono (fun a w h => ops_shift hg n (i + 1) a w (by omega) h) h)
    · exact .inr h
theorem T.own {s : St} {id d : Nat} {r : List Oper} {ty : TypeId} {pos : String} {af : Array Edge} {y : Code} {Q : Exit → Act → World → Prop} {l l2 N : Nat} {X : List api_Packet} {n : Int} (hg : r.all (fun o => o.guard.isNone) = true) (hN : bs.N = N) (hd : d < N) (hx : tget s.t 5 = pv l 0) (hb : hget s.h l = .live (.box 54 [.own l2 (k_api_Packet false).sz 0 X.length, .d (.val (.int .i64 n))])) (ha : hget s.h l2 = .live (arrK 35 (k_api_Packet false) X))
    (h : ∀ a0 w0, Gs bs s a0 w0 → NT P (nestB N w0) ⟨tset [.any, .any, .any, dv (rawV a0 3), .any, dv (rawV a0 5), dv (rawV a0 6)] d (sv (.ep true 2 ((k_net_Net true).cell ⟨X, n⟩))), []⟩ r y Q) :
    T P bs s (.seq (.region id (List.toArray (⟨some d, .move (.tmp 5), ty, pos, af, none⟩ :: r)) false) y) Q := by
  refine T.seq fun a0 w0 hG => wp_region ?_
  obtain ⟨hs, hok, hab, hT⟩ := h a0 w0 hG
  obtain ⟨B, S, U, g⟩ := hG
  obtain ⟨h1, h2⟩ := exK_all hok hab
  have g1 := (g.nest hN).put (d := d) (v := rawV a0 5) (show d < (nestB N w0).N from hd) (show avOk _ _ _ _ (sv (.ep true 2 ((k_net_Net true).cell ⟨X, n⟩))) _ from lendN g hx hb ha)
  have hlen := h1.size
  have hl : (exK P r.toArray (nestB N w0) r.toArray.toList 0 hs ⟨tset [.any, .any, .any, dv (rawV a0 3), .any, dv (rawV a0 5), dv (rawV a0 6)] d (sv (.ep true 2 ((k_net_Net true).cell ⟨X, n⟩))), []⟩).l.length = r.length := by rw [List.size_toArray, Nat.zero_add] at hlen; exact hlen.symm
  rw [List.size_toArray, List.length_cons, List.range_eq_range', List.range'_succ, wpOps_cons]
  simp only [wpOp, List.getElem?_toArray, List.getElem?_cons_zero, Region.wanted, if_true]
  left
  unfold Oper.wp
  have hrun : (execOp a0.eval ⟨some d, .move (.tmp 5), ty, pos, af, none⟩).run P w0 = .ok (.value (rawV a0 5)) w0 := by simp [execOp, Act.eval, rawV]
  rw [hrun, Oper.upon_value]
  refine ops_shift hg r.length 0 _ _ (by omega) ?_
  have hq := ops_seq (P := P) (Q := Exit.then (y.wp P Q) Q) _ 0 _ _ _ h1 h2 ⟨_, _, _, g1⟩ fun a' w' hG' => hT a' w' hG'
  rw [hl] at hq
  exact hq
theorem T.back {s s' : St} {y : Code} {Q : Exit → Act → World → Prop} {a0 : Act} {w0 : World} {N : Nat} (hG0 : Gs bs s a0 w0) (hN : bs.N = N) (h3 : tget s'.t 3 = dv (rawV a0 3)) (h5 : tget s'.t 5 = dv (rawV a0 5)) (h6 : tget s'.t 6 = dv (rawV a0 6))
    (h : T P bs ⟨[.any, .any, .any, tget s.t 3, .any, tget s.t 5, tget s.t 6], s.h⟩ y Q) : T P (nestB N w0) s' y Q := by
  rintro a w ⟨B', S', U', g'⟩
  obtain ⟨B, S, U, g⟩ := hG0
  have hh : ∀ b, b < w0.heap.size → w.heap[b]? = w0.heap[b]? := fun b hb => g'.ps b hb fun ⟨i, κ, hi, _⟩ => absurd hi (Nat.not_lt_zero _)
  have hP : Pres (fun b => S b ∨ U b) w0 w := fun b hb => hh b (hb.elim (fun h => g.ub b (g.su b h)) (g.ub b))
  have hle : w0.heap.size ≤ w.heap.size := g'.hs
  have m : ∀ x v, avOk B S U w0 x v → avOk B S U w x v := avOk_mono (fun _ _ h => h) (fun _ h => h) (fun _ h => h) hP
  have hv : ∀ k, tget s'.t k = dv (rawV a0 k) → avOk B S U w (tget s.t k) (a.tmps.getD k undef) := fun k hk => by
    have h1 := g'.tm k
    rw [hk] at h1
    have h2 : a.tmps.getD k undef = rawV a0 k := h1
    rw [h2]
    exact m _ _ (g.tm k)
  refine h a w ⟨B, S, U, { df := g'.df, sz := g'.sz.trans hN.symm, tm := fun k => ?_, ob := fun l o e => ?_, nj := g.nj, sp := g.sp, cf := g.cf, fr := g.fr, su := g.su, ub := fun b hb => Nat.lt_of_lt_of_le (g.ub b hb) hle, s0 := g.s0, u0 := g.u0, sn := g.sn, un := g.un, ps := fun b h1 h2 => ?_, hs := Nat.le_trans g.hs hle, os := g'.os.trans g.os, tp := g'.tp.trans g.tp, op := g'.op.trans g.op, bl := g.bl, bk := g.bk, uf := fun b h hn => ?_ }⟩
  · rcases k with _ | _ | _ | _ | _ | _ | _ | k
    · exact trivial
    · exact trivial
    · exact trivial
    · exact hv 3 h3
    · exact trivial
    · exact hv 5 h5
    · exact hv 6 h6
    · exact trivial
  · exact obOk_mono (fun _ _ h => h) (fun _ h => h) (fun _ h => h) hP (fun p hp => hh _ (obOk_lt (g.ob l o e) hp)) (g.ob l o e)
  · rw [hh b (Nat.lt_of_lt_of_le h1 g.hs)]; exact g.ps b h1 h2
  · rw [hh b (g.ub b (g.su b h))]; exact g.uf b h hn
theorem spl_cell {S U : Nat → Prop} {w : World} (x : api_Packet) : ∀ (j : Nat) (u : Value), dOk S U w ((k_api_Packet false).cell x j) u → dOk S U w (kSplP.cell x j) u
  | 0, _, h => h
  | 1, _, h => h
  | 2, _, h => h
  | 3, u, h => by
    obtain ⟨a, cap, h1, h2, h3, h4, h5⟩ := (show dOk S U w (dsl false false kU8 x.f_Env.f_Body) u from h)
    refine (show dOk S U w (dsl false false kAny x.f_Env.f_Body) u from ⟨a, cap, h1, h2, h3, h4, fun i hi => ?_⟩)
    obtain ⟨ad, q1, q2, q3, q4⟩ := h5 i hi
    refine ⟨ad, q1, q2, q3, fun j hj => ?_⟩
    obtain ⟨v, hv, _⟩ := q4 j hj
    exact ⟨v, hv, trivial⟩
  | _ + 4, _, _ => trivial
theorem T.spl {t : List AV} {X : List api_Packet} {y : Code} {Q : Exit → Act → World → Prop} (h : T P bs ⟨t, [.live (arrK 35 kSplP X)]⟩ y Q) : T P bs ⟨t, [.live (arrK 35 (k_api_Packet false) X)]⟩ y Q := by
  rintro a w ⟨B, S, U, g⟩
  have hl : ∀ l o, hget [HS.live (arrK 35 kSplP X)] l = .live o → l = 0 ∧ o = arrK 35 kSplP X := fun l o e => by
    cases l with
    | zero => exact ⟨rfl, by cases e; rfl⟩
    | succ l => cases e
  refine h a w ⟨B, S, U, { g with ob := fun l o e => ?_, nj := fun l l' o o' e e' hne => ?_, sp := fun l o p e => ?_, cf := fun l o p e => ?_, fr := fun l e => ?_ }⟩
  · obtain ⟨rfl, rfl⟩ := hl l o e
    rcases g.ob 0 _ rfl with h | ⟨b, κ, cur, h1, h2, h3, h4, h5, h6⟩
    · exact .inl h
    · exact .inr ⟨b, κ, cur, h1, h2, h3, h4, h5, fun i hi j hj => by
        obtain ⟨u, hu, hd⟩ := h6 i hi j hj
        exact ⟨u, hu, spl_cell _ j u hd⟩⟩
  · obtain ⟨rfl, _⟩ := hl l o e
    obtain ⟨rfl, _⟩ := hl l' o' e'
    exact absurd rfl hne
  · obtain ⟨rfl, _⟩ := hl l o e
    exact g.sp 0 _ p rfl
  · obtain ⟨rfl, _⟩ := hl l o e
    exact g.cf 0 _ p rfl
  · cases l with
    | zero => cases e
    | succ l => exact g.fr (l + 1) rfl
end

theorem send_len (s : NetS) (to : Int) (e : api_Envelope) : (netSend s to e).l.length ≤ s.l.length + 1 := by
  unfold netSend
  split
  · omega
  · simp
theorem step_len (s : NetS) (x : quaestorlaw20_Act) : (stepN s x).l.length ≤ s.l.length + 1 := by
  unfold stepN
  have h0 := send_len s x.f_N x.f_E
  have h1 : (netTake s x.f_N).l.length ≤ s.l.length + 1 := by
    unfold netTake
    split
    · have := List.length_eraseIdx_le s.l x.f_N.toNat
      show (s.l.eraseIdx x.f_N.toNat).length ≤ _
      omega
    · omega
  have h2 : (netTwice s x.f_N).l.length ≤ s.l.length + 1 := by
    unfold netTwice
    split
    · exact send_len _ _ _
    · omega
  repeat' split
  all_goals first | exact h0 | exact h1 | exact h2 | omega
theorem run_len (l : List quaestorlaw20_Act) : ∀ k, (runN l k).l.length ≤ k := fun k => by
  have key : ∀ (l : List quaestorlaw20_Act) (s : NetS), (l.foldl stepN s).l.length ≤ s.l.length + l.length := fun l => by
    induction l with
    | nil => intro s; simp
    | cons x l ih =>
      intro s
      have h1 := ih (stepN s x)
      have h2 := step_len s x
      simp only [List.foldl_cons, List.length_cons]
      omega
  have h := key (l.take k) ⟨[], 0⟩
  have h2 := List.length_take_le k l
  show ((l.take k).foldl stepN ⟨[], 0⟩).l.length ≤ k
  simp only [List.length_nil, Nat.zero_add] at h
  omega
theorem sendX_len {s : NetS} (h : s.l.length < 2000) (to : Int) (e : api_Envelope) : (netSend s to e).l.length = s.l.length + 1 := by
  rw [send_yes (by omega)]
  simp
theorem sendX {s : NetS} (h : s.l.length < 2000) (to : Int) (e : api_Envelope) : ((netSend s to e).l.getD ((netSend s to e).l.length - 1) z_api_Packet).f_Env = e := by
  rw [sendX_len h, send_yes (by omega)]
  simp
end Go.Proofs.Ytioenfjcbikbcaa.Q
