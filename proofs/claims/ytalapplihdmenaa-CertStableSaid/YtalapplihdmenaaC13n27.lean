import Derived.Test.YtalapplihdmenaaC13n26
import Derived.SizedLaws
namespace Go.Proofs.Ytalapplihdmenaa.Q
set_option linter.unusedVariables false
set_option linter.unusedSimpArgs false
set_option maxRecDepth 100000
theorem env_app {e e' : aE} {p q : List UInt8} (h : i64R e.f_Signer) (h' : i64R e'.f_Signer) (hb : e.f_Body.length ≤ 4294967295) (hb' : e'.f_Body.length ≤ 4294967295) (q0 : envB e ++ p = envB e' ++ q) : e = e' ∧ p = q := by
  unfold envB at q0
  rw [List.append_assoc, List.append_assoc] at q0
  obtain ⟨a1, a2, _⟩ := back_intX h (bytesB e.f_Body ++ p)
  obtain ⟨b1, b2, _⟩ := back_intX h' (bytesB e'.f_Body ++ q)
  have h1 : e.f_Signer = e'.f_Signer := by rw [← a1, ← b1, q0]
  have h2 : bytesB e.f_Body ++ p = bytesB e'.f_Body ++ q := by rw [← a2, ← b2, q0]
  obtain ⟨h3, h4⟩ := bytesB_app hb hb' h2
  exact ⟨by cases e; cases e'; simp_all, h4⟩
theorem env_inj {e e' : aE} (h : i64R e.f_Signer) (h' : i64R e'.f_Signer) (hb : e.f_Body.length ≤ 4294967295) (hb' : e'.f_Body.length ≤ 4294967295) (q : envB e = envB e') : e = e' :=
  (env_app (p := []) (q := []) h h' hb hb' (by rw [List.append_nil, List.append_nil]; exact q)).1
theorem map_env_inj : ∀ {l m : List aE}, (∀ e, e ∈ l → i64R e.f_Signer ∧ e.f_Body.length ≤ 4294967295) → (∀ e, e ∈ m → i64R e.f_Signer ∧ e.f_Body.length ≤ 4294967295) → l.map envB = m.map envB → l = m
  | [], [], _, _, _ => rfl
  | [], _ :: _, _, _, q => by cases q
  | _ :: _, [], _, _, q => by cases q
  | a :: l, b :: m, hl, hm, q => by
    rw [List.map_cons, List.map_cons, List.cons.injEq] at q
    have ha := hl a (List.mem_cons_self ..)
    have hb := hm b (List.mem_cons_self ..)
    rw [env_inj ha.1 hb.1 ha.2 hb.2 q.1, map_env_inj (fun e he => hl e (List.mem_cons_of_mem _ he)) (fun e he => hm e (List.mem_cons_of_mem _ he)) q.2]
theorem bch_inj {l m : List aE} {n : Nat} (hn : n ≤ 1000000) (hl : l.length ≤ 100 ∧ ∀ e, e ∈ l → i64R e.f_Signer ∧ e.f_Body.length ≤ n) (hm : m.length ≤ 100 ∧ ∀ e, e ∈ m → i64R e.f_Signer ∧ e.f_Body.length ≤ n) : bchB l = bchB m ↔ l = m := by
  have a := envs_le fun e he => (hl.2 e he).2
  have b := envs_le fun e he => (hm.2 e he).2
  have a2 : l.length * (12 + n) ≤ 100 * (12 + 1000000) := Nat.mul_le_mul hl.1 (by omega)
  have b2 : m.length * (12 + n) ≤ 100 * (12 + 1000000) := Nat.mul_le_mul hm.1 (by omega)
  have hl1 := hl.1
  have hm1 := hm.1
  unfold bchB
  rw [ofB_inj (by rw [szP_envs]; omega) (by rw [szP_envs]; omega)]
  exact ⟨fun q => map_env_inj (fun e he => ⟨(hl.2 e he).1, by have := (hl.2 e he).2; omega⟩) (fun e he => ⟨(hm.2 e he).1, by have := (hm.2 e he).2; omega⟩) q.2, fun q => by rw [q]; exact ⟨rfl, rfl⟩⟩
theorem op_back {C : aE → Int} {s k : Int} {m : aM} (hl : (encJ m 9).length ≤ 16777216) (hr : wellM m → rngM (((encJ m 9).length : Nat) : Int) 16777216 m) (h : ¬ opE C ⟨s, encB m⟩ k ≠ 0) : decV (encB m) = m ∧ wellM m := by
  have h := Classical.not_not.1 h
  have hd : decE (encB m) = 0 := by
    unfold opE at h
    split at h
    · rename_i q; exact absurd h q
    · split at h
      · cases h
      · rename_i q; exact Classical.not_not.1 q
  by_cases hw : wellM m
  · exact ⟨(dec_back hw hl (hr hw)).1, hw⟩
  · rw [(enc_bad hw).1] at hd; cases hd
theorem pp_open {C : aE → Int} {f : Int} {e : aE} (h : ¬ ppE C f e ≠ 0) : ¬ opE C e 2 ≠ 0 := fun q => h (by unfold ppE; rw [if_pos q]; exact q)
def binM (v s : Int) (l : List aE) : aM := ⟨2, v, s, 0, 0, bchB l, [], z_api_Result, l, [], []⟩
theorem bin_len {v s : Int} {l : List aE} (h : l.length ≤ 4 ∧ ∀ e, e ∈ l → i64R e.f_Signer ∧ e.f_Body.length ≤ 30000) : (bchB l).length ≤ 130000 ∧ (encJ (binM v s l) 9).length ≤ 300000 := by
  have a := envs_le fun e he => (h.2 e he).2
  have a2 : l.length * (12 + 30000) ≤ 4 * (12 + 30000) := Nat.mul_le_mul_right _ h.1
  have hd : (bchB l).length ≤ 130000 := by unfold bchB; rw [ofB_len, szP_envs]; have := h.1; omega
  have e := enc_len_le (binM v s l)
  have e1 : (binM v s l).f_Digest = bchB l := rfl
  have e2 : (binM v s l).f_Data = [] := rfl
  have e3 : (binM v s l).f_Batch = l := rfl
  have e4 : (listB (binM v s l).f_Pres).length = 4 := rfl
  have e5 : (certsB (binM v s l).f_Certs).length = 4 := rfl
  have e6 := list_len l
  rw [e1, e2, e3, e4, e5, e6, List.length_nil] at e
  exact ⟨hd, by omega⟩
theorem bin_pp {C : aE → Int} {f s v n : Int} {l : List aE} (h : l.length ≤ 4 ∧ ∀ e, e ∈ l → i64R e.f_Signer ∧ e.f_Body.length ≤ 30000) (hp : ¬ ppE C f ⟨s, encB (binM v n l)⟩ ≠ 0) : ppV C f ⟨s, encB (binM v n l)⟩ = binM v n l := by
  rw [pp_val hp]
  obtain ⟨a, b⟩ := bin_len (v := v) (s := n) h
  refine (op_back (by omega) (fun hw => rng_of hw (show i64R 0 by unfold i64R; decide) (show i64R 0 by unfold i64R; decide) (by omega) (fun e he => ⟨(h.2 e he).1, Nat.le_trans (h.2 e he).2 (by decide)⟩) (fun e he => by cases he) (fun c hc => by cases hc)) (pp_open hp)).1
theorem binds {C C' : aE → Int} {f s s' v v' n n' : Int} {l m : List aE} (hl : l.length ≤ 4 ∧ ∀ e, e ∈ l → i64R e.f_Signer ∧ e.f_Body.length ≤ 30000) (hm : m.length ≤ 4 ∧ ∀ e, e ∈ m → i64R e.f_Signer ∧ e.f_Body.length ≤ 30000) (hp : ¬ ppE C f ⟨s, encB (binM v n l)⟩ ≠ 0) (hq : ¬ ppE C' f ⟨s', encB (binM v' n' m)⟩ ≠ 0) :
    (decide ((ppV C f ⟨s, encB (binM v n l)⟩).f_Digest = (ppV C' f ⟨s', encB (binM v' n' m)⟩).f_Digest) = decide ((ppV C f ⟨s, encB (binM v n l)⟩).f_Batch = (ppV C' f ⟨s', encB (binM v' n' m)⟩).f_Batch)) ∧ (ppV C f ⟨s, encB (binM v n l)⟩).f_Batch = l := by
  rw [bin_pp hl hp, bin_pp hm hq]
  refine ⟨?_, rfl⟩
  rw [decide_eq_decide]
  exact bch_inj (n := 30000) (by decide) ⟨by have := hl.1; omega, hl.2⟩ ⟨by have := hm.1; omega, hm.2⟩
end Go.Proofs.Ytalapplihdmenaa.Q
namespace Go.Proofs.Ytalapplihdmenaa.Q
set_option linter.unusedVariables false
set_option linter.unusedSimpArgs false
section
variable {P : Program}
def fitsW {H : Type} (P : Program) (t : TypeId) (d : DataW H) : Prop := ∀ n, n ∈ d.weights P t → n ≤ reachBytes
def RdS {α : Type} (P : Program) (t : TypeId) (K : Kd α) (ok : α → Prop) : Prop :=
  ∀ (H : Type) (enc : TypeId × Value → H) (w : World) (base : Nat) (sp : Nat → Bool) (held : Bool) (fuel : Nat) (cs : List Value) (x : DataW H × List MemPlace), DataW.trod enc P w base sp held fuel t cs = some x → fitsW P t x.1 → ∃ a : α, ok a ∧ cellsOk w K a cs
theorem Rd.s {α : Type} {t : TypeId} {K : Kd α} {ok : α → Prop} (h : Rd P t K ok) : RdS P t K ok := fun H enc w base sp held fuel cs x hx _ => h H enc w base sp held fuel cs x hx
theorem mem_weightsAll {H : Type} {e : TypeId} {n : Nat} : ∀ {l : List (DataW H)} {i : Nat} {d : DataW H}, l[i]? = some d → n ∈ d.weights P e → n ∈ DataW.weightsAll P e l
  | a :: l, 0, d, h, hn => by
    simp only [List.getElem?_cons_zero, Option.some.injEq] at h
    subst h
    simp only [DataW.weightsAll, List.mem_append]
    exact .inl hn
  | a :: l, i + 1, d, h, hn => by
    simp only [List.getElem?_cons_succ] at h
    simp only [DataW.weightsAll, List.mem_append]
    exact .inr (mem_weightsAll h hn)
  | [], _, _, h, _ => by simp at h
theorem rds_slice {α : Type} {t e : TypeId} {K : Kd α} {ok : α → Prop} (ht : P.underlying t = some (.slice e)) (hc : P.cellsOf e = K.sz) (hK : 0 < K.sz) (hb : 0 < P.bytesOf e) (h : RdS P e K ok) : RdS P t (kSl false K) (fun xs => xs.length ≤ reachBytes ∧ ∀ x, x ∈ xs → ok x) := fun H enc w base sp held fuel cs x hx hfit => by
  have mk : ∀ (xs : List α) (u : Value), cs = [u] → dOk (inW w) (inW w) w (dsl false false K xs) u → cellsOk w (kSl false K) xs cs := fun xs u e hd => ⟨by rw [e]; rfl, fun j hj => by
    have hj : j < 1 := hj
    obtain rfl : j = 0 := by omega
    exact ⟨u, by rw [e]; rfl, hd⟩⟩
  rcases DataW.trod_slice ht hx with ⟨hcs, _⟩ | ⟨a, len, cap, elems, rest, n, _, hcs, hxx, hb2, hl, hm, hlen, hel, _, _⟩
  · exact ⟨[], ⟨by simp, fun x hx => by cases hx⟩, mk [] _ hcs ⟨none, 0, rfl, Nat.le_refl _, fun _ => rfl, (fun h => by cases h), fun i hi => absurd hi (Nat.not_lt_zero _)⟩⟩
  · have hw : ∀ n, n ∈ ((elems.map (·.1)).length + (rest.map (·.1)).length) * P.bytesOf e :: (DataW.weightsAll P e (elems.map (·.1)) ++ DataW.weightsAll P e (rest.map (·.1))) → n ≤ reachBytes := fun n hn => hfit n (by
      rw [hxx]
      simp only [DataW.weights, ht]
      exact hn)
    have hlenR : len ≤ reachBytes := by
      have h1 := hw _ (List.mem_cons_self ..)
      simp only [List.length_map, hlen] at h1
      have h2 : len * 1 ≤ (len + rest.length) * P.bytesOf e := Nat.mul_le_mul (Nat.le_add_right _ _) hb
      omega
    have hr : ∀ i, i < len → ∃ b : α, ok b ∧ ∃ cs', w.cells? base (a.add (i * P.cellsOf e)) (P.cellsOf e) = some cs' ∧ cellsOk w K b cs' := fun i hi => by
      have h1 := hel i hi
      rw [List.getElem?_eq_getElem (by omega), Option.bind_eq_some_iff] at h1
      obtain ⟨cs', h2, h3⟩ := h1
      obtain ⟨b, hb1, hb2⟩ := h H enc w base sp held n cs' _ h3 fun n hn => hw n (List.mem_cons_of_mem _ (List.mem_append_left _ (mem_weightsAll (i := i) (by rw [List.getElem?_map, List.getElem?_eq_getElem (by omega)]; rfl) hn)))
      exact ⟨b, hb1, cs', h2, hb2⟩
    obtain ⟨xs, hxl, hxs⟩ := list_choose len hr
    refine ⟨xs, ⟨by omega, fun x hx => ?_⟩, mk xs _ hcs ⟨some a, cap, by rw [hxl], by rw [hxl]; exact hl, by simp, by simp, fun i hi => ?_⟩⟩
    · obtain ⟨i, hi, rfl⟩ := List.getElem_of_mem hx
      exact (hxs i _ (List.getElem?_eq_getElem hi)).1
    · have hi0 : 0 < xs.length := by omega
      obtain ⟨_, cs0, hc0, ho0⟩ := hxs 0 _ (List.getElem?_eq_getElem hi0)
      obtain ⟨_, hl0, hg0⟩ := World.cells?_some hc0
      have h00 := hg0 0 (by rw [hc]; exact hK)
      obtain ⟨u0, hu0, _⟩ := ho0.2 0 hK
      rw [hu0] at h00
      have hcell : w.cell? a = some u0 := by simpa [Addr.add] using h00
      have hspot : a.spot = none := by
        unfold World.cell? at hcell
        split at hcell
        · cases hs : a.spot with
          | none => rfl
          | some q => rw [hs] at hcell; simp at hcell
        · cases hcell
      have hblk : a.block < w.heap.size := World.cells?_block (a := a.add (0 * P.cellsOf e)) hc0 (by rw [hc]; exact hK) |> fun h => by simpa [Addr.add] using h
      refine ⟨a, rfl, hspot, hblk, fun j hj => ?_⟩
      obtain ⟨_, cs', hc', ho'⟩ := hxs i _ (List.getElem?_eq_getElem hi)
      obtain ⟨_, hl', hg'⟩ := World.cells?_some hc'
      have hij := hg' j (by rw [hc]; exact hj)
      obtain ⟨u, hu, hd⟩ := ho'.2 j hj
      rw [hu, hc] at hij
      refine ⟨u, ?_, ?_⟩
      · rw [← hij]
        congr 1
        obtain ⟨b, o, s⟩ := a
        simp only at hspot
        subst hspot
        simp only [Addr.add]
        split <;> split <;> simp_all
        · omega
      · show dOk _ _ w (K.cell (xs.getD i K.z) j) u
        rw [List.getD_eq_getElem?_getD, List.getElem?_eq_getElem hi]
        exact hd
theorem rds_struct {H : Type} {enc : TypeId × Value → H} {w : World} {base : Nat} {sp : Nat → Bool} {held : Bool} {fuel : Nat} {cs : List Value} {x : DataW H × List MemPlace} {t : TypeId} {fs : Array Field} (ht : P.underlying t = some (.struct fs)) (h : DataW.trod enc P w base sp held fuel t cs = some x) (hfit : fitsW P t x.1) :
    ∃ (xs : List (DataW H × List MemPlace)) (n : Nat), cs.length = P.cellsOf t ∧ xs.length = fs.size ∧ (∀ (i : Nat) (f : Field), fs[i]? = some f → DataW.trod enc P w base sp held n f.type ((cs.drop f.offset).take (P.cellsOf f.type)) = xs[i]?) ∧ ∀ (i : Nat) (f : Field) (y : DataW H × List MemPlace), fs[i]? = some f → xs[i]? = some y → fitsW P f.type y.1 := by
  obtain ⟨xs, n, _, hx, hl, hxl, hf⟩ := DataW.trod_struct ht h
  refine ⟨xs, n, hl, hxl, hf, fun i f y h1 h2 k hk => hfit k ?_⟩
  rw [hx]
  simp only [DataW.weights, ht]
  exact DataW.weights_mem_each (j := i) (t := f.type) (d := y.1) (by rw [List.getElem?_map, Array.getElem?_toList, h1]; rfl) (by rw [List.getElem?_map, h2]; rfl) k hk
theorem rds_field {α : Type} {K : Kd α} {ok : α → Prop} {H : Type} {enc : TypeId × Value → H} {w : World} {base : Nat} {sp : Nat → Bool} {held : Bool} {n : Nat} {cs : List Value} {xs : List (DataW H × List MemPlace)} {fs : Array Field} (hx : xs.length = fs.size)
    (h : ∀ (i : Nat) (f : Field), fs[i]? = some f → DataW.trod enc P w base sp held n f.type ((cs.drop f.offset).take (P.cellsOf f.type)) = xs[i]?) (hw : ∀ (i : Nat) (f : Field) (y : DataW H × List MemPlace), fs[i]? = some f → xs[i]? = some y → fitsW P f.type y.1) (i : Nat) {f : Field} (hf : fs[i]? = some f) {t : TypeId} {off : Nat} (ht : f.type = t) (ho : f.offset = off) (hr : RdS P t K ok) :
    ∃ a : α, ok a ∧ ∀ j, j < K.sz → ∃ u, cs[off + j]? = some u ∧ dOk (inW w) (inW w) w (K.cell a j) u := by
  subst ht ho
  have hi : i < xs.length := by rw [hx]; exact (Array.getElem?_eq_some_iff.1 hf).1
  have h1 := h i f hf
  have hi2 := List.getElem?_eq_getElem hi
  rw [hi2] at h1
  obtain ⟨a, h2, h3, h4⟩ := hr H enc w base sp held n _ _ h1 (hw i f _ hf hi2)
  refine ⟨a, h2, fun j hj => ?_⟩
  obtain ⟨u, hu, hd⟩ := h4 j hj
  refine ⟨u, ?_, hd⟩
  rw [List.getElem?_take] at hu
  split at hu
  · rwa [List.getElem?_drop] at hu
  · cases hu
theorem fits_arg {H : Type} {ts : List TypeId} {ds : List (DataW H)} (h : (DataW.weightsEach P ts ds).all (· ≤ reachBytes) = true) {j : Nat} {t : TypeId} {d : DataW H} (ht : ts[j]? = some t) (hd : ds[j]? = some d) : fitsW P t d := fun n hn => by
  have := List.all_eq_true.1 h _ (DataW.weights_mem_each ht hd n hn)
  simpa using this
end
end Go.Proofs.Ytalapplihdmenaa.Q
namespace Go.Proofs.Ytalapplihdmenaa.Q
open Go Go.RowKit
set_option linter.unusedVariables false
set_option linter.unusedSimpArgs false
set_option maxRecDepth 100000
set_option maxHeartbeats 4000000
def okS_quaestorlaw03_Size (x : quaestorlaw03_Size) : Prop := (fun (n : Int) => (Lit.int .i64 n).wf = true) x.f_F ∧ (fun (n : Int) => (Lit.int .i64 n).wf = true) x.f_Clients
theorem rds_quaestorlaw03_Size : RdS Try.prog 23 (k_quaestorlaw03_Size false) okS_quaestorlaw03_Size := fun H enc w base sp held fuel cs x h hfit => by
  obtain ⟨xs, n, hl, hxl, hf, hw⟩ := rds_struct Try.underlying23 h hfit
  obtain ⟨a0, o0, c0⟩ := rds_field hxl hf hw 0 rfl (t := 3) (off := 0) rfl rfl (Rd.s (rd_int Try.underlying3))
  obtain ⟨a1, o1, c1⟩ := rds_field hxl hf hw 1 rfl (t := 3) (off := 1) rfl rfl (Rd.s (rd_int Try.underlying3))
  refine ⟨⟨a0, a1⟩, ⟨o0, o1⟩, by rw [hl]; kernel_rfl, fun j hj => ?_⟩
  replace hj : j < 2 := hj
  rcases j with _ | _ | j
  · exact c0 0 (by decide)
  · exact c1 0 (by decide)
  · omega
def okS_api_Result (x : api_Result) : Prop := (fun (n : Int) => (Lit.int .i64 n).wf = true) x.f_Code ∧ (fun (n : Int) => (Lit.int .i64 n).wf = true) x.f_Stage
theorem rds_api_Result : RdS Try.prog 48 (k_api_Result false) okS_api_Result := fun H enc w base sp held fuel cs x h hfit => by
  obtain ⟨xs, n, hl, hxl, hf, hw⟩ := rds_struct Try.underlying48 h hfit
  obtain ⟨a0, o0, c0⟩ := rds_field hxl hf hw 0 rfl (t := 36) (off := 0) rfl rfl (Rd.s (rd_int Try.underlying36))
  obtain ⟨a1, o1, c1⟩ := rds_field hxl hf hw 1 rfl (t := 3) (off := 1) rfl rfl (Rd.s (rd_int Try.underlying3))
  refine ⟨⟨a0, a1⟩, ⟨o0, o1⟩, by rw [hl]; kernel_rfl, fun j hj => ?_⟩
  replace hj : j < 2 := hj
  rcases j with _ | _ | j
  · exact c0 0 (by decide)
  · exact c1 0 (by decide)
  · omega
def okS_api_Envelope (x : aE) : Prop := (fun (n : Int) => (Lit.int .i64 n).wf = true) x.f_Signer ∧ (fun (xs : List UInt8) => xs.length ≤ reachBytes ∧ ∀ x, x ∈ xs → (fun (_ : UInt8) => True) x) x.f_Body
theorem rds_api_Envelope : RdS Try.prog 40 (kE false) okS_api_Envelope := fun H enc w base sp held fuel cs x h hfit => by
  obtain ⟨xs, n, hl, hxl, hf, hw⟩ := rds_struct Try.underlying40 h hfit
  obtain ⟨a0, o0, c0⟩ := rds_field hxl hf hw 0 rfl (t := 3) (off := 0) rfl rfl (Rd.s (rd_int Try.underlying3))
  obtain ⟨a1, o1, c1⟩ := rds_field hxl hf hw 1 rfl (t := 33) (off := 1) rfl rfl (rds_slice Try.underlying33 (by kernel_rfl) (by decide) (of_decide_eq_true (by kernel_rfl)) (Rd.s (rd_u8 Try.underlying5)))
  refine ⟨⟨a0, a1⟩, ⟨o0, o1⟩, by rw [hl]; kernel_rfl, fun j hj => ?_⟩
  replace hj : j < 2 := hj
  rcases j with _ | _ | j
  · exact c0 0 (by decide)
  · exact c1 0 (by decide)
  · omega
def okS_api_Cert (x : aC) : Prop := okS_api_Envelope x.f_Pre ∧ (fun (xs : List aE) => xs.length ≤ reachBytes ∧ ∀ x, x ∈ xs → okS_api_Envelope x) x.f_Votes
theorem rds_api_Cert : RdS Try.prog 63 (kC false) okS_api_Cert := fun H enc w base sp held fuel cs x h hfit => by
  obtain ⟨xs, n, hl, hxl, hf, hw⟩ := rds_struct Try.underlying63 h hfit
  obtain ⟨a0, o0, c0⟩ := rds_field hxl hf hw 0 rfl (t := 40) (off := 0) rfl rfl rds_api_Envelope
  obtain ⟨a1, o1, c1⟩ := rds_field hxl hf hw 1 rfl (t := 31) (off := 2) rfl rfl (rds_slice Try.underlying31 (by kernel_rfl) (by decide) (of_decide_eq_true (by kernel_rfl)) rds_api_Envelope)
  refine ⟨⟨a0, a1⟩, ⟨o0, o1⟩, by rw [hl]; kernel_rfl, fun j hj => ?_⟩
  replace hj : j < 3 := hj
  rcases j with _ | _ | _ | j
  · exact c0 0 (by decide)
  · exact c0 1 (by decide)
  · exact c1 0 (by decide)
  · omega
def okS_api_Message (x : aM) : Prop := (fun (n : Int) => (Lit.int .i64 n).wf = true) x.f_Kind ∧ (fun (n : Int) => (Lit.int .i64 n).wf = true) x.f_View ∧ (fun (n : Int) => (Lit.int .i64 n).wf = true) x.f_Seq ∧ (fun (n : Int) => (Lit.int .i64 n).wf = true) x.f_Client ∧ (fun (n : Int) => (Lit.int .i64 n).wf = true) x.f_Stamp ∧ (fun (l : List UInt8) => l.length ≤ maxLen) x.f_Digest ∧ (fun (xs : List UInt8) => xs.length ≤ reachBytes ∧ ∀ x, x ∈ xs → (fun (_ : UInt8) => True) x) x.f_Data ∧ okS_api_Result x.f_Result ∧ (fun (xs : List aE) => xs.length ≤ reachBytes ∧ ∀ x, x ∈ xs → okS_api_Envelope x) x.f_Batch ∧ (fun (xs : List aE) => xs.length ≤ reachBytes ∧ ∀ x, x ∈ xs → okS_api_Envelope x) x.f_Pres ∧ (fun (xs : List aC) => xs.length ≤ reachBytes ∧ ∀ x, x ∈ xs → okS_api_Cert x) x.f_Certs
theorem rds_api_Message : RdS Try.prog 51 (k_api_Message false) okS_api_Message := fun H enc w base sp held fuel cs x h hfit => by
  obtain ⟨xs, n, hl, hxl, hf, hw⟩ := rds_struct Try.underlying51 h hfit
  obtain ⟨a0, o0, c0⟩ := rds_field hxl hf hw 0 rfl (t := 3) (off := 0) rfl rfl (Rd.s (rd_int Try.underlying3))
  obtain ⟨a1, o1, c1⟩ := rds_field hxl hf hw 1 rfl (t := 3) (off := 1) rfl rfl (Rd.s (rd_int Try.underlying3))
  obtain ⟨a2, o2, c2⟩ := rds_field hxl hf hw 2 rfl (t := 3) (off := 2) rfl rfl (Rd.s (rd_int Try.underlying3))
  obtain ⟨a3, o3, c3⟩ := rds_field hxl hf hw 3 rfl (t := 3) (off := 3) rfl rfl (Rd.s (rd_int Try.underlying3))
  obtain ⟨a4, o4, c4⟩ := rds_field hxl hf hw 4 rfl (t := 3) (off := 4) rfl rfl (Rd.s (rd_int Try.underlying3))
  obtain ⟨a5, o5, c5⟩ := rds_field hxl hf hw 5 rfl (t := 46) (off := 5) rfl rfl (Rd.s (rd_str Try.underlying46))
  obtain ⟨a6, o6, c6⟩ := rds_field hxl hf hw 6 rfl (t := 33) (off := 6) rfl rfl (rds_slice Try.underlying33 (by kernel_rfl) (by decide) (of_decide_eq_true (by kernel_rfl)) (Rd.s (rd_u8 Try.underlying5)))
  obtain ⟨a7, o7, c7⟩ := rds_field hxl hf hw 7 rfl (t := 48) (off := 7) rfl rfl rds_api_Result
  obtain ⟨a8, o8, c8⟩ := rds_field hxl hf hw 8 rfl (t := 31) (off := 9) rfl rfl (rds_slice Try.underlying31 (by kernel_rfl) (by decide) (of_decide_eq_true (by kernel_rfl)) rds_api_Envelope)
  obtain ⟨a9, o9, c9⟩ := rds_field hxl hf hw 9 rfl (t := 31) (off := 10) rfl rfl (rds_slice Try.underlying31 (by kernel_rfl) (by decide) (of_decide_eq_true (by kernel_rfl)) rds_api_Envelope)
  obtain ⟨a10, o10, c10⟩ := rds_field hxl hf hw 10 rfl (t := 49) (off := 11) rfl rfl (rds_slice Try.underlying49 (by kernel_rfl) (by decide) (of_decide_eq_true (by kernel_rfl)) rds_api_Cert)
  refine ⟨⟨a0, a1, a2, a3, a4, a5, a6, a7, a8, a9, a10⟩, ⟨o0, o1, o2, o3, o4, o5, o6, o7, o8, o9, o10⟩, by rw [hl]; kernel_rfl, fun j hj => ?_⟩
  replace hj : j < 12 := hj
  rcases j with _ | _ | _ | _ | _ | _ | _ | _ | _ | _ | _ | _ | j
  · exact c0 0 (by decide)
  · exact c1 0 (by decide)
  · exact c2 0 (by decide)
  · exact c3 0 (by decide)
  · exact c4 0 (by decide)
  · exact c5 0 (by decide)
  · exact c6 0 (by decide)
  · exact c7 0 (by decide)
  · exact c7 1 (by decide)
  · exact c8 0 (by decide)
  · exact c9 0 (by decide)
  · exact c10 0 (by decide)
  · omega
def okS_quaestorlaw13_Word (x : aW) : Prop := (fun (n : Int) => (Lit.int .i64 n).wf = true) x.f_Signer ∧ (fun (_ : Bool) => True) x.f_Signed ∧ okS_api_Message x.f_M
theorem rds_quaestorlaw13_Word : RdS Try.prog 73 (k_quaestorlaw13_Word false) okS_quaestorlaw13_Word := fun H enc w base sp held fuel cs x h hfit => by
  obtain ⟨xs, n, hl, hxl, hf, hw⟩ := rds_struct Try.underlying73 h hfit
  obtain ⟨a0, o0, c0⟩ := rds_field hxl hf hw 0 rfl (t := 3) (off := 0) rfl rfl (Rd.s (rd_int Try.underlying3))
  obtain ⟨a1, o1, c1⟩ := rds_field hxl hf hw 1 rfl (t := 4) (off := 1) rfl rfl (Rd.s (rd_bool Try.underlying4))
  obtain ⟨a2, o2, c2⟩ := rds_field hxl hf hw 2 rfl (t := 51) (off := 2) rfl rfl rds_api_Message
  refine ⟨⟨a0, a1, a2⟩, ⟨o0, o1, o2⟩, by rw [hl]; kernel_rfl, fun j hj => ?_⟩
  replace hj : j < 14 := hj
  rcases j with _ | _ | _ | _ | _ | _ | _ | _ | _ | _ | _ | _ | _ | _ | j
  · exact c0 0 (by decide)
  · exact c1 0 (by decide)
  · exact c2 0 (by decide)
  · exact c2 1 (by decide)
  · exact c2 2 (by decide)
  · exact c2 3 (by decide)
  · exact c2 4 (by decide)
  · exact c2 5 (by decide)
  · exact c2 6 (by decide)
  · exact c2 7 (by decide)
  · exact c2 8 (by decide)
  · exact c2 9 (by decide)
  · exact c2 10 (by decide)
  · exact c2 11 (by decide)
  · omega
def okS_quaestorlaw13_Vote (x : quaestorlaw13_Vote) : Prop := (fun (n : Int) => (Lit.int .i64 n).wf = true) x.f_Signer ∧ (fun (n : Int) => (Lit.int .i64 n).wf = true) x.f_Kind ∧ (fun (n : Int) => (Lit.int .i64 n).wf = true) x.f_View ∧ (fun (n : Int) => (Lit.int .i64 n).wf = true) x.f_Seq ∧ (fun (_ : Bool) => True) x.f_Other ∧ (fun (_ : Bool) => True) x.f_Unsigned
theorem rds_quaestorlaw13_Vote : RdS Try.prog 87 (k_quaestorlaw13_Vote false) okS_quaestorlaw13_Vote := fun H enc w base sp held fuel cs x h hfit => by
  obtain ⟨xs, n, hl, hxl, hf, hw⟩ := rds_struct Try.underlying87 h hfit
  obtain ⟨a0, o0, c0⟩ := rds_field hxl hf hw 0 rfl (t := 3) (off := 0) rfl rfl (Rd.s (rd_int Try.underlying3))
  obtain ⟨a1, o1, c1⟩ := rds_field hxl hf hw 1 rfl (t := 3) (off := 1) rfl rfl (Rd.s (rd_int Try.underlying3))
  obtain ⟨a2, o2, c2⟩ := rds_field hxl hf hw 2 rfl (t := 3) (off := 2) rfl rfl (Rd.s (rd_int Try.underlying3))
  obtain ⟨a3, o3, c3⟩ := rds_field hxl hf hw 3 rfl (t := 3) (off := 3) rfl rfl (Rd.s (rd_int Try.underlying3))
  obtain ⟨a4, o4, c4⟩ := rds_field hxl hf hw 4 rfl (t := 4) (off := 4) rfl rfl (Rd.s (rd_bool Try.underlying4))
  obtain ⟨a5, o5, c5⟩ := rds_field hxl hf hw 5 rfl (t := 4) (off := 5) rfl rfl (Rd.s (rd_bool Try.underlying4))
  refine ⟨⟨a0, a1, a2, a3, a4, a5⟩, ⟨o0, o1, o2, o3, o4, o5⟩, by rw [hl]; kernel_rfl, fun j hj => ?_⟩
  replace hj : j < 6 := hj
  rcases j with _ | _ | _ | _ | _ | _ | j
  · exact c0 0 (by decide)
  · exact c1 0 (by decide)
  · exact c2 0 (by decide)
  · exact c3 0 (by decide)
  · exact c4 0 (by decide)
  · exact c5 0 (by decide)
  · omega
def okS_quaestorlaw13_Case (x : quaestorlaw13_Case) : Prop := (fun (n : Int) => (Lit.int .i64 n).wf = true) x.f_View ∧ (fun (n : Int) => (Lit.int .i64 n).wf = true) x.f_Seq ∧ (fun (n : Int) => (Lit.int .i64 n).wf = true) x.f_Primary ∧ (fun (xs : List quaestorlaw13_Vote) => xs.length ≤ reachBytes ∧ ∀ x, x ∈ xs → okS_quaestorlaw13_Vote x) x.f_Votes
theorem rds_quaestorlaw13_Case : RdS Try.prog 61 (k_quaestorlaw13_Case false) okS_quaestorlaw13_Case := fun H enc w base sp held fuel cs x h hfit => by
  obtain ⟨xs, n, hl, hxl, hf, hw⟩ := rds_struct Try.underlying61 h hfit
  obtain ⟨a0, o0, c0⟩ := rds_field hxl hf hw 0 rfl (t := 3) (off := 0) rfl rfl (Rd.s (rd_int Try.underlying3))
  obtain ⟨a1, o1, c1⟩ := rds_field hxl hf hw 1 rfl (t := 3) (off := 1) rfl rfl (Rd.s (rd_int Try.underlying3))
  obtain ⟨a2, o2, c2⟩ := rds_field hxl hf hw 2 rfl (t := 3) (off := 2) rfl rfl (Rd.s (rd_int Try.underlying3))
  obtain ⟨a3, o3, c3⟩ := rds_field hxl hf hw 3 rfl (t := 59) (off := 3) rfl rfl (rds_slice Try.underlying59 (by kernel_rfl) (by decide) (of_decide_eq_true (by kernel_rfl)) rds_quaestorlaw13_Vote)
  refine ⟨⟨a0, a1, a2, a3⟩, ⟨o0, o1, o2, o3⟩, by rw [hl]; kernel_rfl, fun j hj => ?_⟩
  replace hj : j < 4 := hj
  rcases j with _ | _ | _ | _ | j
  · exact c0 0 (by decide)
  · exact c1 0 (by decide)
  · exact c2 0 (by decide)
  · exact c3 0 (by decide)
  · omega
end Go.Proofs.Ytalapplihdmenaa.Q
namespace Go.Proofs.Ytalapplihdmenaa.Q
set_option linter.unusedVariables false
theorem len_big {n : Nat} (h : n ≤ reachBytes) : n ≤ 9223372036854775807 := Nat.le_trans h (by decide)
theorem word_few {w : aW} (h : okS_quaestorlaw13_Word w) : w.f_M.f_Batch.length ≤ 1000000000000000 ∧ w.f_M.f_Pres.length ≤ 1000000000000000 := by
  obtain ⟨_, _, _, _, _, _, _, _, _, _, hb, hp, _⟩ := h
  exact ⟨Nat.le_trans hb.1 (by decide), Nat.le_trans hp.1 (by decide)⟩
theorem case_rng {c : quaestorlaw13_Case} (h : okS_quaestorlaw13_Case c) : rngC c := by
  obtain ⟨h1, h2, h3, h4⟩ := h
  refine ⟨wf_i64 h1, wf_i64 h2, wf_i64 h3, fun v hv => ?_⟩
  obtain ⟨a1, a2, a3, a4, _⟩ := h4.2 v hv
  exact ⟨wf_i64 a1, wf_i64 a2, wf_i64 a3, wf_i64 a4⟩
end Go.Proofs.Ytalapplihdmenaa.Q
namespace Go.Proofs.Ytalapplihdmenaa.Q
open Go Go.RowKit
set_option linter.unusedVariables false
set_option linter.unusedSimpArgs false
set_option maxRecDepth 100000
set_option maxHeartbeats 4000000
section
variable (l : List aW) (k : Nat) (k2 : Nat) (k3 : Nat)
abbrev Zfm : AV := slV false false (k_quaestorlaw13_Word false) l
abbrev Zfn : TV := .one (dB false)
abbrev Zfo : AV := vI ((k : Nat) : Int)
abbrev Zfp : AV := vB (decide (((l.length : Nat) : Int) > 30))
abbrev Zfr : AV := vI ((k2 : Nat) : Int)
abbrev Zfs : AV := vB (decide (((k : Nat) : Int) < ((l.length : Nat) : Int)))
abbrev Zft : AV := vB (decide ((((l.getD k zW).f_M.f_Data.length : Nat) : Int) > 2000))
abbrev Zfu : List HS := [.live (.box 51 [dI (l.getD k zW).f_M.f_Kind, dI (l.getD k zW).f_M.f_View, dI (l.getD k zW).f_M.f_Seq, dI (l.getD k zW).f_M.f_Client, dI (l.getD k zW).f_M.f_Stamp, dS (l.getD k zW).f_M.f_Digest, dU (l.getD k zW).f_M.f_Data, dI (l.getD k zW).f_M.f_Result.f_Code, dI (l.getD k zW).f_M.f_Result.f_Stage, .d (dsl false false (kE false) (l.getD k zW).f_M.f_Batch), .d (dsl false false (kE false) (l.getD k zW).f_M.f_Pres), .d (dsl false false (kC false) (l.getD k zW).f_M.f_Certs)])]
abbrev Zfv : St := ⟨[(Zfm l), aa, vB false, (Zfo k), pv 0 0, (Zfr k2), aa, aa, aa, (Zfp l), aa, aa, aa, (Zfs l k), aa, aa, aa, aa, aa, aa, aa, aa, aa, aa, aa, aa, aa, aa, aa, aa, aa, aa, aa, aa, aa, aa, aa, aa, aa, aa, aa, aa, aa, aa, aa, aa, (Zft l k)], (Zfu l k)⟩
abbrev Zfy : AV := vB (decide (((k2 : Nat) : Int) < (((l.getD k zW).f_M.f_Batch.length : Nat) : Int)))
abbrev Zfz : St := ⟨[(Zfm l), aa, vB false, (Zfo k), pv 0 0, (Zfr k2), vI ((k3 : Nat) : Int), aa, aa, (Zfp l), aa, aa, aa, (Zfs l k), aa, aa, aa, aa, aa, aa, aa, aa, aa, aa, aa, aa, aa, aa, aa, aa, aa, aa, aa, aa, aa, aa, aa, aa, aa, aa, aa, aa, aa, aa, aa, aa, (Zft l k), aa, aa, aa, aa, (Zfy l k k2)], (Zfu l k)⟩
end
theorem law_few (l : List aW) (hl : l.length ≤ 9223372036854775807) (hr : ∀ w, w ∈ l → w.f_M.f_Batch.length ≤ 1000000000000000 ∧ w.f_M.f_Pres.length ≤ 1000000000000000) : Holds Try.prog 7 ⟨[slV false false (k_quaestorlaw13_Word false) l], [], vB (decide (fewS l)), []⟩ := by
 refine Holds.of Try.func7 rfl (N := 77) Try.ntmps7 rfl fun w0 B0 S0 U0 => ?_
 show T _ (mkBase 77 0 w0 S0 U0 B0) ⟨[(Zfm l)], []⟩ _ _
 refine sR [] ?_
 refine T.seq ?_
 refine sR [] ?_
 by_cases hq1 : ((l.length : Nat) : Int) > 30
 ·have hno : ¬ fewS l := (fun w => by have h9 := w.1; omega)
  refine cT (dT hq1) ?_
  refine sR [] ?_
  refine T.ret (rT ?_)
  exact eRt 2 (Zfn) [] (cB (by exact dF hno)) trivial
 have hl30 := hq1
 refine cF (dF hq1) ?_
 refine T.skip (nT (T.seq ?_))
 refine sR [] ?_
 refine T.block ?_
 refine T.loop (ι := Nat) (fun (k : Nat) => ⟨[(Zfm l), aa, vB false, (Zfo k), aa, aa, aa, aa, aa, (Zfp l)], []⟩) (fun (k : Nat) => (k ≤ l.length) ∧ (∀ j, j < k → fewM (l.getD j zW).f_M)) (fun (k : Nat) => l.length - k) (0) ⟨(Nat.zero_le _), (fun j hj => absurd hj (Nat.not_lt_zero _))⟩ (fun _ _ hG => Gs.iI [] (bm 10 525) rfl rfl hG) ?_
 rintro k ⟨hk, hb⟩
 show T _ _ ⟨[(Zfm l), aa, vB false, (Zfo k), aa, aa, aa, aa, aa, (Zfp l)], []⟩ _ _
 replace hk : k ≤ l.length := hk
 replace hb : ∀ j, j < k → fewM (l.getD j zW).f_M := hb
 refine T.seq ?_
 refine sR [] ?_
 by_cases hq2 : ((k : Nat) : Int) < ((l.length : Nat) : Int)
 ·have hr9 := hr _ (getD_mem (z := zW) (show k < l.length by omega)); have hr91 := hr9.1; have hr92 := hr9.2
  refine cT (dT hq2) ?_
  refine T.skip (nT (T.seq ?_))
  refine T.block ?_
  refine sR [hR 2 rfl rfl (q_index false false (k_quaestorlaw13_Word false) l k (k := .i64) (i := ((k : Nat) : Int)) Try.underlying24 iat_73 rfl rfl (by omega) (lt_of rfl) trivial)] ?_
  refine T.seq ?_
  by_cases hq3 : (((l.getD k zW).f_M.f_Batch.length + (l.getD k zW).f_M.f_Pres.length : Nat) : Int) > 10
  ·have hno := few_at (l := l) (k := k) (by omega) (fun w => by have h9 := w.1; omega)
   refine sR [hR 6 rfl rfl (r_bin (u1 := .int .i64 (((l.getD k zW).f_M.f_Batch.length : Nat) : Int)) (u2 := .int .i64 (((l.getD k zW).f_M.f_Pres.length : Nat) : Int)) (v := .int .i64 (((l.getD k zW).f_M.f_Batch.length + (l.getD k zW).f_M.f_Pres.length : Nat) : Int)) (b_add (by rw [IntKind.wrap_i64]; omega)) (lt_of rfl) trivial),
     hN 9 false (dT hq3),
     hN 10 false (dT hq3),
     hN 11 false (dT hq3),
     hN 12 false (dT hq3),
     hP 13 (dT hq3),
     hN0 15,
     hN0 16,
     hN0 17,
     hN0 18,
     hP1 19,
     hN0 21,
     hN0 22,
     hN0 23,
     hN0 24,
     hP1 25] ?_
   refine cT (b := true) rfl ?_
   refine sR [] ?_
   refine T.ret (rT (rB (rT (rT (rB (rT ?_))))))
   exact eRt 2 (Zfn) [] (cB (by exact dF hno)) trivial
  have h10 := hq3
  by_cases hq4 : (((l.getD k zW).f_M.f_Certs.length : Nat) : Int) > 0
  ·have hno := few_at (l := l) (k := k) (by omega) (fun w => by have h9 := hq4; rw [w.2.1] at h9; exact absurd h9 (by decide))
   refine sR [hR 6 rfl rfl (r_bin (u1 := .int .i64 (((l.getD k zW).f_M.f_Batch.length : Nat) : Int)) (u2 := .int .i64 (((l.getD k zW).f_M.f_Pres.length : Nat) : Int)) (v := .int .i64 (((l.getD k zW).f_M.f_Batch.length + (l.getD k zW).f_M.f_Pres.length : Nat) : Int)) (b_add (by rw [IntKind.wrap_i64]; omega)) (lt_of rfl) trivial),
     hY 9 (dF hq3),
     hY 10 (dF hq3),
     hY 11 (dF hq3),
     hY 12 (dF hq3),
     hP 13 (dF hq3),
     hN 15 false (dT hq4),
     hN 16 false (dT hq4),
     hN 17 false (dT hq4),
     hN 18 false (dT hq4),
     hP 19 (dT hq4),
     hN0 21,
     hN0 22,
     hN0 23,
     hN0 24,
     hP1 25] ?_
   refine cT (b := true) rfl ?_
   refine sR [] ?_
   refine T.ret (rT (rB (rT (rT (rB (rT ?_))))))
   exact eRt 2 (Zfn) [] (cB (by exact dF hno)) trivial
  have hc9 : (l.getD k zW).f_M.f_Certs = [] := List.eq_nil_of_length_eq_zero (by omega)
  by_cases hq5 : (((l.getD k zW).f_M.f_Digest.length : Nat) : Int) > 3000
  ·have hno := few_at (l := l) (k := k) (by omega) (fun w => by have h9 := w.2.2.1; omega)
   refine sR [hR 6 rfl rfl (r_bin (u1 := .int .i64 (((l.getD k zW).f_M.f_Batch.length : Nat) : Int)) (u2 := .int .i64 (((l.getD k zW).f_M.f_Pres.length : Nat) : Int)) (v := .int .i64 (((l.getD k zW).f_M.f_Batch.length + (l.getD k zW).f_M.f_Pres.length : Nat) : Int)) (b_add (by rw [IntKind.wrap_i64]; omega)) (lt_of rfl) trivial),
     hY 9 (dF hq3),
     hY 10 (dF hq3),
     hY 11 (dF hq3),
     hY 12 (dF hq3),
     hP 13 (dF hq3),
     hY 15 (dF hq4),
     hY 16 (dF hq4),
     hY 17 (dF hq4),
     hY 18 (dF hq4),
     hP 19 (dF hq4),
     hN 21 false (dT hq5),
     hN 22 false (dT hq5),
     hN 23 false (dT hq5),
     hN 24 false (dT hq5),
     hP 25 (dT hq5)] ?_
   refine cT (b := true) rfl ?_
   refine sR [] ?_
   refine T.ret (rT (rB (rT (rT (rB (rT ?_))))))
   exact eRt 2 (Zfn) [] (cB (by exact dF hno)) trivial
  refine sR [hR 6 rfl rfl (r_bin (u1 := .int .i64 (((l.getD k zW).f_M.f_Batch.length : Nat) : Int)) (u2 := .int .i64 (((l.getD k zW).f_M.f_Pres.length : Nat) : Int)) (v := .int .i64 (((l.getD k zW).f_M.f_Batch.length + (l.getD k zW).f_M.f_Pres.length : Nat) : Int)) (b_add (by rw [IntKind.wrap_i64]; omega)) (lt_of rfl) trivial),
    hY 9 (dF hq3),
    hY 10 (dF hq3),
    hY 11 (dF hq3),
    hY 12 (dF hq3),
    hP 13 (dF hq3),
    hY 15 (dF hq4),
    hY 16 (dF hq4),
    hY 17 (dF hq4),
    hY 18 (dF hq4),
    hP 19 (dF hq4),
    hY 21 (dF hq5),
    hY 22 (dF hq5),
    hY 23 (dF hq5),
    hY 24 (dF hq5),
    hP 25 (dF hq5)] ?_
  by_cases hq6 : (((l.getD k zW).f_M.f_Data.length : Nat) : Int) > 2000
  ·have hno := few_at (l := l) (k := k) (by omega) (fun w => by have h9 := w.2.2.2.1; omega)
   refine cT (dT hq6) ?_
   refine sR [] ?_
   refine T.ret (rT (rB (rT (rT (rB (rT ?_))))))
   exact eRt 2 (Zfn) [] (cB (by exact dF hno)) trivial
  refine cF (dF hq6) ?_
  refine T.skip (nT (T.seq ?_))
  refine sR [] ?_
  refine T.block ?_
  refine T.loop (ι := Nat) (fun (k2 : Nat) => (Zfv l k k2)) (fun (k2 : Nat) => (k2 ≤ (l.getD k zW).f_M.f_Batch.length) ∧ (∀ j, j < k2 → ((l.getD k zW).f_M.f_Batch.getD j zE).f_Body.length ≤ 2000)) (fun (k2 : Nat) => (l.getD k zW).f_M.f_Batch.length - k2) (0) ⟨(Nat.zero_le _), (fun j hj => absurd hj (Nat.not_lt_zero _))⟩ (fun _ _ hG => Gs.iI [0] (bm 47 70368744186429) rfl rfl hG) ?_
  rintro k2 ⟨hk2, hb2⟩
  show T _ _ (Zfv l k k2) _ _
  replace hk2 : k2 ≤ (l.getD k zW).f_M.f_Batch.length := hk2
  replace hb2 : ∀ j, j < k2 → ((l.getD k zW).f_M.f_Batch.getD j zE).f_Body.length ≤ 2000 := hb2
  refine T.seq ?_
  refine sR [] ?_
  by_cases hq7 : ((k2 : Nat) : Int) < (((l.getD k zW).f_M.f_Batch.length : Nat) : Int)
  ·refine cT (dT hq7) ?_
   refine T.skip (nT (T.seq ?_))
   refine T.block ?_
   refine sR [hR 3 rfl rfl (q_index false false (kE false) (l.getD k zW).f_M.f_Batch k2 (k := .i64) (i := ((k2 : Nat) : Int)) Try.underlying31 iat_40 rfl rfl (by omega) (lt_of rfl) trivial)] ?_
   by_cases hq8 : ((((l.getD k zW).f_M.f_Batch.getD k2 zE).f_Body.length : Nat) : Int) > 2000
   ·have hno := few_at (l := l) (k := k) (by omega) (fun w => body_at (k := k2) (by omega) hq8 w.2.2.2.2.1)
    refine cT (dT hq8) ?_
    refine sR [] ?_
    refine T.ret (rB (rT (rT (rB (rT (rB (rT (rT (rB (rT ?_))))))))))
    exact eRt 2 (Zfn) [] (cB (by exact dF hno)) trivial
   refine cF (dF hq8) ?_
   refine T.skip ?_
   refine nB ?_
   refine nT ?_
   refine xK [hR 1 rfl rfl (r_bin (u1 := .int .i64 ((k2 : Nat) : Int)) (u2 := .int .i64 1) (v := .int .i64 ((k2 + 1 : Nat) : Int)) (b_add (by rw [IntKind.wrap_i64]; omega)) (lt_of rfl) ⟨rfl, trivial⟩)] ?_
   refine nL (k2 + 1) ⟨(show (k2 + 1) ≤ (l.getD k zW).f_M.f_Batch.length from (by omega)), (show ∀ j, j < (k2 + 1) → ((l.getD k zW).f_M.f_Batch.getD j zE).f_Body.length ≤ 2000 from (all_succ hb2 (by omega)))⟩ (show ((l.getD k zW).f_M.f_Batch.length - (k2 + 1) : Nat) < (l.getD k zW).f_M.f_Batch.length - k2 from (by omega)) (fun _ _ hG => Gs.iI [0] (bm 47 70368744186429) rfl rfl hG)
  have hB9 := body_all hb2 (by omega)
  refine cF (dF hq7) ?_
  refine T.exit ?_
  refine xT ?_
  refine xT ?_
  refine xH ?_
  refine nT ?_
  refine sR [] ?_
  refine T.block ?_
  refine T.loop (ι := Nat) (fun (k3 : Nat) => (Zfz l k k2 k3)) (fun (k3 : Nat) => (k3 ≤ (l.getD k zW).f_M.f_Pres.length) ∧ (∀ j, j < k3 → ((l.getD k zW).f_M.f_Pres.getD j zE).f_Body.length ≤ 2000)) (fun (k3 : Nat) => (l.getD k zW).f_M.f_Pres.length - k3) (0) ⟨(Nat.zero_le _), (fun j hj => absurd hj (Nat.not_lt_zero _))⟩ (fun _ _ hG => Gs.iI [0] (bm 52 2322168557871741) rfl rfl hG) ?_
  rintro k3 ⟨hk3, hb3⟩
  show T _ _ (Zfz l k k2 k3) _ _
  replace hk3 : k3 ≤ (l.getD k zW).f_M.f_Pres.length := hk3
  replace hb3 : ∀ j, j < k3 → ((l.getD k zW).f_M.f_Pres.getD j zE).f_Body.length ≤ 2000 := hb3
  refine T.seq ?_
  refine sR [] ?_
  by_cases hq9 : ((k3 : Nat) : Int) < (((l.getD k zW).f_M.f_Pres.length : Nat) : Int)
  ·refine cT (dT hq9) ?_
   refine T.skip (nT (T.seq ?_))
   refine T.block ?_
   refine sR [hR 3 rfl rfl (q_index false false (kE false) (l.getD k zW).f_M.f_Pres k3 (k := .i64) (i := ((k3 : Nat) : Int)) Try.underlying31 iat_40 rfl rfl (by omega) (lt_of rfl) trivial)] ?_
   by_cases hq10 : ((((l.getD k zW).f_M.f_Pres.getD k3 zE).f_Body.length : Nat) : Int) > 2000
   ·have hno := few_at (l := l) (k := k) (by omega) (fun w => body_at (k := k3) (by omega) hq10 w.2.2.2.2.2)
    refine cT (dT hq10) ?_
    refine sR [] ?_
    refine T.ret (rB (rT (rT (rB (rB (rT (rT (rB (rT ?_)))))))))
    exact eRt 2 (Zfn) [] (cB (by exact dF hno)) trivial
   refine cF (dF hq10) ?_
   refine T.skip ?_
   refine nB ?_
   refine nT ?_
   refine xK [hR 1 rfl rfl (r_bin (u1 := .int .i64 ((k3 : Nat) : Int)) (u2 := .int .i64 1) (v := .int .i64 ((k3 + 1 : Nat) : Int)) (b_add (by rw [IntKind.wrap_i64]; omega)) (lt_of rfl) ⟨rfl, trivial⟩)] ?_
   refine nL (k3 + 1) ⟨(show (k3 + 1) ≤ (l.getD k zW).f_M.f_Pres.length from (by omega)), (show ∀ j, j < (k3 + 1) → ((l.getD k zW).f_M.f_Pres.getD j zE).f_Body.length ≤ 2000 from (all_succ hb3 (by omega)))⟩ (show ((l.getD k zW).f_M.f_Pres.length - (k3 + 1) : Nat) < (l.getD k zW).f_M.f_Pres.length - k3 from (by omega)) (fun _ _ hG => Gs.iI [0] (bm 52 2322168557871741) rfl rfl hG)
  have hP9 := body_all hb3 (by omega)
  refine cF (dF hq9) ?_
  refine T.exit ?_
  refine xT ?_
  refine xT ?_
  refine xH ?_
  refine nB ?_
  refine nT ?_
  refine xK [hR 1 rfl rfl (r_bin (u1 := .int .i64 ((k : Nat) : Int)) (u2 := .int .i64 1) (v := .int .i64 ((k + 1 : Nat) : Int)) (b_add (by rw [IntKind.wrap_i64]; omega)) (lt_of rfl) ⟨rfl, trivial⟩)] ?_
  refine nL (k + 1) ⟨(show (k + 1) ≤ l.length from (by omega)), (show ∀ j, j < (k + 1) → fewM (l.getD j zW).f_M from (all_succ hb ⟨by omega, hc9, by omega, by omega, hB9, hP9⟩))⟩ (show (l.length - (k + 1) : Nat) < l.length - k from (by omega)) (fun _ _ hG => Gs.iI [] (bm 10 525) rfl rfl hG)
 have hyes : fewS l := few_all hl30 hb (by omega)
 refine cF (dF hq2) ?_
 refine T.exit ?_
 refine xT ?_
 refine xT ?_
 refine xH ?_
 refine nT ?_
 refine sR [] ?_
 refine T.ret ?_
 exact eRt 2 (.one (dB true)) [] (cB (by exact dT hyes)) trivial
theorem law_begun (x : quaestorlaw03_Size) : Holds Try.prog 8 ⟨[.tv (.agg [dI x.f_F, dI x.f_Clients])], [], .tv (.agg [.ptr 0 0, .ptr 2 0]), [.live (.box 94 [dI (3 * (fOf x.f_F) + 1), dI (cOf x.f_Clients), .mref 1]), .live (mpK f_authn_pair kBool ([] : List (authn_pair × Bool))), .live (.box 83 [dB true, dI (fOf x.f_F), dI (cOf x.f_Clients), .own 3 (kE false).sz 0 ([] : List aE).length]), .live (arrK 40 (kE false) ([] : List aE))]⟩ := by
 refine Holds.of Try.func8 rfl (N := 14) Try.ntmps8 rfl fun w0 B0 S0 U0 => ?_
 show T _ (mkBase 14 0 w0 S0 U0 B0) ⟨[.tv (.agg [dI x.f_F, dI x.f_Clients])], []⟩ _ _
 refine sR [] ?_
 refine sD [[], [0], [], [2], [0, 1, 2, 3], [], [5], [], [7], [0, 1, 2, 3, 4, 5, 6, 7, 8], [0, 1, 2, 3, 4, 5, 6, 7, 8, 9], [0, 1, 2, 3, 4, 5, 6, 7, 8, 9, 10]] [hR 4 rfl rfl (rCa (authn_New x.f_F x.f_Clients ) Try.func24 [2, 3] [(.tmp 4, vI x.f_F), (.tmp 6, vI x.f_Clients)] 0 2),
   hR 9 rfl rfl (rCa (ref03_New x.f_F x.f_Clients ) Try.func27 [4, 5] [(.tmp 9, vI x.f_F), (.tmp 11, vI x.f_Clients)] 0 2)] ?_
 refine T.ret ?_
 exact eX [.c 2 1 29 0 29 [.ptr 2 0, .ptr 4 0] (.agg [.ptr 2 0, .ptr 4 0])] ⟨⟨rfl, rfl, by kernel_rfl, by kernel_rfl, .inl ⟨2, wide_29, rfl, Nat.le_of_ble_eq_true rfl⟩⟩, trivial⟩ [2, 3, 4, 5] rfl (ix (ix (ix (ix trivial))))
theorem law_sign (f : Int) (u : Int) (rows : List (authn_pair × Bool)) (l : List aE) (s : Int) (tm : Bool) (m : aM) (hf : 0 ≤ f ∧ f ≤ 2) (hu : 0 ≤ u ∧ u ≤ 8) (hrl : rows = tabM l) (hl : l.length ≤ 1000000) (hs : -9223372036854775808 ≤ s ∧ s ≤ 9223372036854775807) (hm : okM m) : Holds Try.prog 17 ⟨[.tv (.agg [.ptr 0 0, .ptr 2 0]), vI s, .tv (.agg [dI m.f_Kind, dI m.f_View, dI m.f_Seq, dI m.f_Client, dI m.f_Stamp, dS m.f_Digest, .d (dsl tm false kU8 m.f_Data), dI m.f_Result.f_Code, dI m.f_Result.f_Stage, .d (dsl tm false (kE tm) m.f_Batch), .d (dsl tm false (kE tm) m.f_Pres), .d (dsl tm false (kC tm) m.f_Certs)])], [.box 94 [dI (3 * f + 1), dI u, .mref 1], mpK f_authn_pair kBool rows, .box 83 [dB true, dI f, dI u, .own 3 (kE false).sz 0 l.length], arrK 40 (kE false) l], .tv (.agg [dI (saidE (aW.mk s true m)).f_Signer, dU (saidE (aW.mk s true m)).f_Body]), [.live (.box 94 [dI (3 * f + 1), dI u, .mref 1]), .live (mpK f_authn_pair kBool (tabM (saidL f u l (aW.mk s true m)))), .live (.box 83 [dB true, dI f, dI u, .own 4 (kE false).sz 0 (saidL f u l (aW.mk s true m)).length]), .dead, .live (arrK 40 (kE false) (saidL f u l (aW.mk s true m)))]⟩ := by
 refine Holds.of Try.func17 rfl (N := 12) Try.ntmps17 rfl fun w0 B0 S0 U0 => ?_
 show T _ (mkBase 12 4 w0 S0 U0 B0) ⟨[.tv (.agg [.ptr 0 0, .ptr 2 0]), vI s, .tv (.agg [dI m.f_Kind, dI m.f_View, dI m.f_Seq, dI m.f_Client, dI m.f_Stamp, dS m.f_Digest, .d (dsl tm false kU8 m.f_Data), dI m.f_Result.f_Code, dI m.f_Result.f_Stage, .d (dsl tm false (kE tm) m.f_Batch), .d (dsl tm false (kE tm) m.f_Pres), .d (dsl tm false (kC tm) m.f_Certs)])], [.live (.box 94 [dI (3 * f + 1), dI u, .mref 1]), .live (mpK f_authn_pair kBool rows), .live (.box 83 [dB true, dI f, dI u, .own 3 (kE false).sz 0 l.length]), .live (arrK 40 (kE false) l)]⟩ _ _
 refine sR [] ?_
 refine sR [hR 4 rfl rfl (rCa (law_said f u rows l tm (aW.mk s true m) ‹_› ‹_› ‹_› ‹_› ‹_› ‹_›) Try.func28 [0, 1, 2, 3, 7] [(.tmp 7, .tv (.agg [.ptr 0 0, .ptr 2 0])), (.tmp 10, .tv (.agg [dI s, dB true, dI m.f_Kind, dI m.f_View, dI m.f_Seq, dI m.f_Client, dI m.f_Stamp, dS m.f_Digest, .d (dsl tm false kU8 m.f_Data), dI m.f_Result.f_Code, dI m.f_Result.f_Stage, .d (dsl tm false (kE tm) m.f_Batch), .d (dsl tm false (kE tm) m.f_Pres), .d (dsl tm false (kC tm) m.f_Certs)]))] 4 5)] ?_
 refine T.ret ?_
 exact eX [.c 6 6 40 0 40 [dI (saidE (aW.mk s true m)).f_Signer, dU (saidE (aW.mk s true m)).f_Body] (.agg [dI (saidE (aW.mk s true m)).f_Signer, dU (saidE (aW.mk s true m)).f_Body])] ⟨⟨rfl, rfl, by kernel_rfl, by kernel_rfl, .inl ⟨2, wide_40, rfl, Nat.le_of_ble_eq_true rfl⟩⟩, trivial⟩ [0, 1, 2, 3, 7] rfl (ix (ix (ix (ix trivial))))
end Go.Proofs.Ytalapplihdmenaa.Q
