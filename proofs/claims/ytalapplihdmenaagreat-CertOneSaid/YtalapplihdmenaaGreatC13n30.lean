import Derived.Test.YtalapplihdmenaaGreatC13n29
import Derived.SizedLaws
namespace Go.Proofs.YtalapplihdmenaaGreat.Q
set_option linter.unusedVariables false
set_option linter.unusedSimpArgs false
section
variable {P : Program}
def fitsW {H : Type} (P : Program) (t : TypeId) (d : DataW H) : Prop := ∀ n, n ∈ d.weights P t → n ≤ reachBytes
def RdS {α : Type} (P : Program) (t : TypeId) (K : Kd α) (ok : α → Prop) : Prop :=
  ∀ (H : Type) (enc : TypeId × Value → H) (w : World) (base : Nat) (sp : Nat → Bool) (held : Bool) (fuel : Nat) (cs : List Value) (x : DataW H × List MemPlace), DataW.trod enc P w base sp held fuel t cs = some x → fitsW P t x.1 → ∃ a : α, ok a ∧ cellsOk w K a cs
theorem Rd.s {α : Type} {t : TypeId} {K : Kd α} {ok : α → Prop} (h : Rd P t K ok) : RdS P t K ok := fun H enc w base sp held fuel cs x hx _ => h H enc w base sp held fuel cs x hx
theorem mem_weightsAll {H : Type} {e : TypeId} {n : Nat} : ∀ {l : List (DataW H)} {i : Nat} {d : DataW H}, l[i]? = some d → n ∈ d.weights P e → n ∈ DataW.weightsAll P e l
  | a :: l, 0, d, h, hn => by
    simp only [List.getElem?_cons_zero, Option.some.injEq] at h
    subst h
    simp only [DataW.weightsAll, List.mem_append]
    exact .inl hn
  | a :: l, i + 1, d, h, hn => by
    simp only [List.getElem?_cons_succ] at h
    simp only [DataW.weightsAll, List.mem_append]
    exact .inr (mem_weightsAll h hn)
  | [], _, _, h, _ => by simp at h
theorem rds_slice {α : Type} {t e : TypeId} {K : Kd α} {ok : α → Prop} (ht : P.underlying t = some (.slice e)) (hc : P.cellsOf e = K.sz) (hK : 0 < K.sz) (hb : 0 < P.bytesOf e) (h : RdS P e K ok) : RdS P t (kSl false K) (fun xs => xs.length ≤ reachBytes ∧ ∀ x, x ∈ xs → ok x) := fun H enc w base sp held fuel cs x hx hfit => by
  have mk : ∀ (xs : List α) (u : Value), cs = [u] → dOk (inW w) (inW w) w (dsl false false K xs) u → cellsOk w (kSl false K) xs cs := fun xs u e hd => ⟨by rw [e]; rfl, fun j hj => by
    have hj : j < 1 := hj
    obtain rfl : j = 0 := by omega
    exact ⟨u, by rw [e]; rfl, hd⟩⟩
  rcases DataW.trod_slice ht hx with ⟨hcs, _⟩ | ⟨a, len, cap, elems, rest, n, _, hcs, hxx, hb2, hl, hm, hlen, hel, _, _⟩
  · exact ⟨[], ⟨by simp, fun x hx => by cases hx⟩, mk [] _ hcs ⟨none, 0, rfl, Nat.le_refl _, fun _ => rfl, (fun h => by cases h), fun i hi => absurd hi (Nat.not_lt_zero _)⟩⟩
  · have hw : ∀ n, n ∈ ((elems.map (·.1)).length + (rest.map (·.1)).length) * P.bytesOf e :: (DataW.weightsAll P e (elems.map (·.1)) ++ DataW.weightsAll P e (rest.map (·.1))) → n ≤ reachBytes := fun n hn => hfit n (by
      rw [hxx]
      simp only [DataW.weights, ht]
      exact hn)
    have hlenR : len ≤ reachBytes := by
      have h1 := hw _ (List.mem_cons_self ..)
      simp only [List.length_map, hlen] at h1
      have h2 : len * 1 ≤ (len + rest.length) * P.bytesOf e := Nat.mul_le_mul (Nat.le_add_right _ _) hb
      omega
    have hr : ∀ i, i < len → ∃ b : α, ok b ∧ ∃ cs', w.cells? base (a.add (i * P.cellsOf e)) (P.cellsOf e) = some cs' ∧ cellsOk w K b cs' := fun i hi => by
      have h1 := hel i hi
      rw [List.getElem?_eq_getElem (by omega), Option.bind_eq_some_iff] at h1
      obtain ⟨cs', h2, h3⟩ := h1
      obtain ⟨b, hb1, hb2⟩ := h H enc w base sp held n cs' _ h3 fun n hn => hw n (List.mem_cons_of_mem _ (List.mem_append_left _ (mem_weightsAll (i := i) (by rw [List.getElem?_map, List.getElem?_eq_getElem (by omega)]; rfl) hn)))
      exact ⟨b, hb1, cs', h2, hb2⟩
    obtain ⟨xs, hxl, hxs⟩ := list_choose len hr
    refine ⟨xs, ⟨by omega, fun x hx => ?_⟩, mk xs _ hcs ⟨some a, cap, by rw [hxl], by rw [hxl]; exact hl, by simp, by simp, fun i hi => ?_⟩⟩
    · obtain ⟨i, hi, rfl⟩ := List.getElem_of_mem hx
      exact (hxs i _ (List.getElem?_eq_getElem hi)).1
    · have hi0 : 0 < xs.length := by omega
      obtain ⟨_, cs0, hc0, ho0⟩ := hxs 0 _ (List.getElem?_eq_getElem hi0)
      obtain ⟨_, hl0, hg0⟩ := World.cells?_some hc0
      have h00 := hg0 0 (by rw [hc]; exact hK)
      obtain ⟨u0, hu0, _⟩ := ho0.2 0 hK
      rw [hu0] at h00
      have hcell : w.cell? a = some u0 := by simpa [Addr.add] using h00
      have hspot : a.spot = none := by
        unfold World.cell? at hcell
        split at hcell
        · cases hs : a.spot with
          | none => rfl
          | some q => rw [hs] at hcell; simp at hcell
        · cases hcell
      have hblk : a.block < w.heap.size := World.cells?_block (a := a.add (0 * P.cellsOf e)) hc0 (by rw [hc]; exact hK) |> fun h => by simpa [Addr.add] using h
      refine ⟨a, rfl, hspot, hblk, fun j hj => ?_⟩
      obtain ⟨_, cs', hc', ho'⟩ := hxs i _ (List.getElem?_eq_getElem hi)
      obtain ⟨_, hl', hg'⟩ := World.cells?_some hc'
      have hij := hg' j (by rw [hc]; exact hj)
      obtain ⟨u, hu, hd⟩ := ho'.2 j hj
      rw [hu, hc] at hij
      refine ⟨u, ?_, ?_⟩
      · rw [← hij]
        congr 1
        obtain ⟨b, o, s⟩ := a
        simp only at hspot
        subst hspot
        simp only [Addr.add]
        split <;> split <;> simp_all
        · omega
      · show dOk _ _ w (K.cell (xs.getD i K.z) j) u
        rw [List.getD_eq_getElem?_getD, List.getElem?_eq_getElem hi]
        exact hd
theorem rds_struct {H : Type} {enc : TypeId × Value → H} {w : World} {base : Nat} {sp : Nat → Bool} {held : Bool} {fuel : Nat} {cs : List Value} {x : DataW H × List MemPlace} {t : TypeId} {fs : Array Field} (ht : P.underlying t = some (.struct fs)) (h : DataW.trod enc P w base sp held fuel t cs = some x) (hfit : fitsW P t x.1) :
    ∃ (xs : List (DataW H × List MemPlace)) (n : Nat), cs.length = P.cellsOf t ∧ xs.length = fs.size ∧ (∀ (i : Nat) (f : Field), fs[i]? = some f → DataW.trod enc P w base sp held n f.type ((cs.drop f.offset).take (P.cellsOf f.type)) = xs[i]?) ∧ ∀ (i : Nat) (f : Field) (y : DataW H × List MemPlace), fs[i]? = some f → xs[i]? = some y → fitsW P f.type y.1 := by
  obtain ⟨xs, n, _, hx, hl, hxl, hf⟩ := DataW.trod_struct ht h
  refine ⟨xs, n, hl, hxl, hf, fun i f y h1 h2 k hk => hfit k ?_⟩
  rw [hx]
  simp only [DataW.weights, ht]
  exact DataW.weights_mem_each (j := i) (t := f.type) (d := y.1) (by rw [List.getElem?_map, Array.getElem?_toList, h1]; rfl) (by rw [List.getElem?_map, h2]; rfl) k hk
theorem rds_field {α : Type} {K : Kd α} {ok : α → Prop} {H : Type} {enc : TypeId × Value → H} {w : World} {base : Nat} {sp : Nat → Bool} {held : Bool} {n : Nat} {cs : List Value} {xs : List (DataW H × List MemPlace)} {fs : Array Field} (hx : xs.length = fs.size)
    (h : ∀ (i : Nat) (f : Field), fs[i]? = some f → DataW.trod enc P w base sp held n f.type ((cs.drop f.offset).take (P.cellsOf f.type)) = xs[i]?) (hw : ∀ (i : Nat) (f : Field) (y : DataW H × List MemPlace), fs[i]? = some f → xs[i]? = some y → fitsW P f.type y.1) (i : Nat) {f : Field} (hf : fs[i]? = some f) {t : TypeId} {off : Nat} (ht : f.type = t) (ho : f.offset = off) (hr : RdS P t K ok) :
    ∃ a : α, ok a ∧ ∀ j, j < K.sz → ∃ u, cs[off + j]? = some u ∧ dOk (inW w) (inW w) w (K.cell a j) u := by
  subst ht ho
  have hi : i < xs.length := by rw [hx]; exact (Array.getElem?_eq_some_iff.1 hf).1
  have h1 := h i f hf
  have hi2 := List.getElem?_eq_getElem hi
  rw [hi2] at h1
  obtain ⟨a, h2, h3, h4⟩ := hr H enc w base sp held n _ _ h1 (hw i f _ hf hi2)
  refine ⟨a, h2, fun j hj => ?_⟩
  obtain ⟨u, hu, hd⟩ := h4 j hj
  refine ⟨u, ?_, hd⟩
  rw [List.getElem?_take] at hu
  split at hu
  · rwa [List.getElem?_drop] at hu
  · cases hu
theorem fits_arg {H : Type} {ts : List TypeId} {ds : List (DataW H)} (h : (DataW.weightsEach P ts ds).all (· ≤ reachBytes) = true) {j : Nat} {t : TypeId} {d : DataW H} (ht : ts[j]? = some t) (hd : ds[j]? = some d) : fitsW P t d := fun n hn => by
  have := List.all_eq_true.1 h _ (DataW.weights_mem_each ht hd n hn)
  simpa using this
end
end Go.Proofs.YtalapplihdmenaaGreat.Q
namespace Go.Proofs.YtalapplihdmenaaGreat.Q
open Go Go.RowKit
set_option linter.unusedVariables false
set_option linter.unusedSimpArgs false
set_option maxRecDepth 100000
set_option maxHeartbeats 4000000
def okS_quaestorlaw03_Size (x : quaestorlaw03_Size) : Prop := (fun (n : Int) => (Lit.int .i64 n).wf = true) x.f_F ∧ (fun (n : Int) => (Lit.int .i64 n).wf = true) x.f_Clients
theorem rds_quaestorlaw03_Size : RdS Tryz.prog 23 (k_quaestorlaw03_Size false) okS_quaestorlaw03_Size := fun H enc w base sp held fuel cs x h hfit => by
  obtain ⟨xs, n, hl, hxl, hf, hw⟩ := rds_struct Tryz.underlying23 h hfit
  obtain ⟨a0, o0, c0⟩ := rds_field hxl hf hw 0 rfl (t := 3) (off := 0) rfl rfl (Rd.s (rd_int Tryz.underlying3))
  obtain ⟨a1, o1, c1⟩ := rds_field hxl hf hw 1 rfl (t := 3) (off := 1) rfl rfl (Rd.s (rd_int Tryz.underlying3))
  refine ⟨⟨a0, a1⟩, ⟨o0, o1⟩, by rw [hl]; kernel_rfl, fun j hj => ?_⟩
  replace hj : j < 2 := hj
  rcases j with _ | _ | j
  · exact c0 0 (by decide)
  · exact c1 0 (by decide)
  · omega
def okS_quaestorlaw13_Vote (x : quaestorlaw13_Vote) : Prop := (fun (n : Int) => (Lit.int .i64 n).wf = true) x.f_Signer ∧ (fun (n : Int) => (Lit.int .i64 n).wf = true) x.f_Kind ∧ (fun (n : Int) => (Lit.int .i64 n).wf = true) x.f_View ∧ (fun (n : Int) => (Lit.int .i64 n).wf = true) x.f_Seq ∧ (fun (_ : Bool) => True) x.f_Other ∧ (fun (_ : Bool) => True) x.f_Unsigned
theorem rds_quaestorlaw13_Vote : RdS Tryz.prog 68 (k_quaestorlaw13_Vote false) okS_quaestorlaw13_Vote := fun H enc w base sp held fuel cs x h hfit => by
  obtain ⟨xs, n, hl, hxl, hf, hw⟩ := rds_struct Tryz.underlying68 h hfit
  obtain ⟨a0, o0, c0⟩ := rds_field hxl hf hw 0 rfl (t := 3) (off := 0) rfl rfl (Rd.s (rd_int Tryz.underlying3))
  obtain ⟨a1, o1, c1⟩ := rds_field hxl hf hw 1 rfl (t := 3) (off := 1) rfl rfl (Rd.s (rd_int Tryz.underlying3))
  obtain ⟨a2, o2, c2⟩ := rds_field hxl hf hw 2 rfl (t := 3) (off := 2) rfl rfl (Rd.s (rd_int Tryz.underlying3))
  obtain ⟨a3, o3, c3⟩ := rds_field hxl hf hw 3 rfl (t := 3) (off := 3) rfl rfl (Rd.s (rd_int Tryz.underlying3))
  obtain ⟨a4, o4, c4⟩ := rds_field hxl hf hw 4 rfl (t := 4) (off := 4) rfl rfl (Rd.s (rd_bool Tryz.underlying4))
  obtain ⟨a5, o5, c5⟩ := rds_field hxl hf hw 5 rfl (t := 4) (off := 5) rfl rfl (Rd.s (rd_bool Tryz.underlying4))
  refine ⟨⟨a0, a1, a2, a3, a4, a5⟩, ⟨o0, o1, o2, o3, o4, o5⟩, by rw [hl]; kernel_rfl, fun j hj => ?_⟩
  replace hj : j < 6 := hj
  rcases j with _ | _ | _ | _ | _ | _ | j
  · exact c0 0 (by decide)
  · exact c1 0 (by decide)
  · exact c2 0 (by decide)
  · exact c3 0 (by decide)
  · exact c4 0 (by decide)
  · exact c5 0 (by decide)
  · omega
def okS_quaestorlaw13_Case (x : quaestorlaw13_Case) : Prop := (fun (n : Int) => (Lit.int .i64 n).wf = true) x.f_View ∧ (fun (n : Int) => (Lit.int .i64 n).wf = true) x.f_Seq ∧ (fun (n : Int) => (Lit.int .i64 n).wf = true) x.f_Primary ∧ (fun (xs : List quaestorlaw13_Vote) => xs.length ≤ reachBytes ∧ ∀ x, x ∈ xs → okS_quaestorlaw13_Vote x) x.f_Votes
theorem rds_quaestorlaw13_Case : RdS Tryz.prog 26 (k_quaestorlaw13_Case false) okS_quaestorlaw13_Case := fun H enc w base sp held fuel cs x h hfit => by
  obtain ⟨xs, n, hl, hxl, hf, hw⟩ := rds_struct Tryz.underlying26 h hfit
  obtain ⟨a0, o0, c0⟩ := rds_field hxl hf hw 0 rfl (t := 3) (off := 0) rfl rfl (Rd.s (rd_int Tryz.underlying3))
  obtain ⟨a1, o1, c1⟩ := rds_field hxl hf hw 1 rfl (t := 3) (off := 1) rfl rfl (Rd.s (rd_int Tryz.underlying3))
  obtain ⟨a2, o2, c2⟩ := rds_field hxl hf hw 2 rfl (t := 3) (off := 2) rfl rfl (Rd.s (rd_int Tryz.underlying3))
  obtain ⟨a3, o3, c3⟩ := rds_field hxl hf hw 3 rfl (t := 24) (off := 3) rfl rfl (rds_slice Tryz.underlying24 (by kernel_rfl) (by decide) (of_decide_eq_true (by kernel_rfl)) rds_quaestorlaw13_Vote)
  refine ⟨⟨a0, a1, a2, a3⟩, ⟨o0, o1, o2, o3⟩, by rw [hl]; kernel_rfl, fun j hj => ?_⟩
  replace hj : j < 4 := hj
  rcases j with _ | _ | _ | _ | j
  · exact c0 0 (by decide)
  · exact c1 0 (by decide)
  · exact c2 0 (by decide)
  · exact c3 0 (by decide)
  · omega
end Go.Proofs.YtalapplihdmenaaGreat.Q
namespace Go.Proofs.YtalapplihdmenaaGreat.Q
set_option linter.unusedVariables false
theorem case_rng {c : quaestorlaw13_Case} (h : okS_quaestorlaw13_Case c) : rngC c := by
  obtain ⟨h1, h2, h3, h4⟩ := h
  refine ⟨wf_i64 h1, wf_i64 h2, wf_i64 h3, fun v hv => ?_⟩
  obtain ⟨a1, a2, a3, a4, _⟩ := h4.2 v hv
  exact ⟨wf_i64 a1, wf_i64 a2, wf_i64 a3, wf_i64 a4⟩
end Go.Proofs.YtalapplihdmenaaGreat.Q
namespace Go.Proofs.YtalapplihdmenaaGreat.Q
open Go Go.RowKit
set_option linter.unusedVariables false
set_option linter.unusedSimpArgs false
set_option maxRecDepth 100000
set_option maxHeartbeats 4000000
theorem iat_31 : Tryz.prog.info? 31 = some Tryz.t31 := by kernel_rfl
theorem wide_31 : Wide Tryz.prog 31 (some 2) := ⟨_, _, Tryz.underlying31, .inl ⟨_, rfl⟩, iat_31, rfl⟩
theorem law_begun (x : quaestorlaw03_Size) : Holds Tryz.prog 8 ⟨[.tv (.agg [dI x.f_F, dI x.f_Clients])], [], .tv (.agg [.ptr 0 0, .ptr 2 0]), [.live (.box 98 [dI (3 * (fOf x.f_F) + 1), dI (cOf x.f_Clients), .mref 1]), .live (mpK f_authn_pair kBool ([] : List (authn_pair × Bool))), .live (.box 75 [dB true, dI (fOf x.f_F), dI (cOf x.f_Clients), .own 3 (kE false).sz 0 ([] : List aE).length]), .live (arrK 35 (kE false) ([] : List aE))]⟩ := by
 refine Holds.of Tryz.func8 rfl (N := 14) Tryz.ntmps8 rfl fun w0 B0 S0 U0 => ?_
 show T _ (mkBase 14 0 w0 S0 U0 B0) ⟨[.tv (.agg [dI x.f_F, dI x.f_Clients])], []⟩ _ _
 refine sR [] ?_
 refine sD [[], [0], [], [2], [0, 1, 2, 3], [], [5], [], [7], [0, 1, 2, 3, 4, 5, 6, 7, 8], [0, 1, 2, 3, 4, 5, 6, 7, 8, 9], [0, 1, 2, 3, 4, 5, 6, 7, 8, 9, 10]] [hR 4 rfl rfl (rCa (authn_New x.f_F x.f_Clients ) Tryz.func24 [2, 3] [(.tmp 4, vI x.f_F), (.tmp 6, vI x.f_Clients)] 0 2),
   hR 9 rfl rfl (rCa (ref03_New x.f_F x.f_Clients ) Tryz.func25 [4, 5] [(.tmp 9, vI x.f_F), (.tmp 11, vI x.f_Clients)] 0 2)] ?_
 refine T.ret ?_
 exact eX [.c 2 1 31 0 31 [.ptr 2 0, .ptr 4 0] (.agg [.ptr 2 0, .ptr 4 0])] ⟨⟨rfl, rfl, by kernel_rfl, by kernel_rfl, .inl ⟨2, wide_31, rfl, Nat.le_of_ble_eq_true rfl⟩⟩, trivial⟩ [2, 3, 4, 5] rfl (ix (ix (ix (ix trivial))))
theorem law_sign (f : Int) (u : Int) (rows : List (authn_pair × Bool)) (l : List aE) (s : Int) (tm : Bool) (m : aM) (hf : 0 ≤ f ∧ f ≤ 2) (hu : 0 ≤ u ∧ u ≤ 8) (hrl : rows = tabM l) (hl : l.length ≤ 1000000) (hs : -9223372036854775808 ≤ s ∧ s ≤ 9223372036854775807) (hm : okM m) : Holds Tryz.prog 16 ⟨[.tv (.agg [.ptr 0 0, .ptr 2 0]), vI s, .tv (.agg [dI m.f_Kind, dI m.f_View, dI m.f_Seq, dI m.f_Client, dI m.f_Stamp, dS m.f_Digest, .d (dsl tm false kU8 m.f_Data), dI m.f_Result.f_Code, dI m.f_Result.f_Stage, .d (dsl tm false (kE tm) m.f_Batch), .d (dsl tm false (kE tm) m.f_Pres), .d (dsl tm false (kC tm) m.f_Certs)])], [.box 98 [dI (3 * f + 1), dI u, .mref 1], mpK f_authn_pair kBool rows, .box 75 [dB true, dI f, dI u, .own 3 (kE false).sz 0 l.length], arrK 35 (kE false) l], .tv (.agg [dI (saidE (aW.mk s true m)).f_Signer, dU (saidE (aW.mk s true m)).f_Body]), [.live (.box 98 [dI (3 * f + 1), dI u, .mref 1]), .live (mpK f_authn_pair kBool (tabM (saidL f u l (aW.mk s true m)))), .live (.box 75 [dB true, dI f, dI u, .own 4 (kE false).sz 0 (saidL f u l (aW.mk s true m)).length]), .dead, .live (arrK 35 (kE false) (saidL f u l (aW.mk s true m)))]⟩ := by
 refine Holds.of Tryz.func16 rfl (N := 12) Tryz.ntmps16 rfl fun w0 B0 S0 U0 => ?_
 show T _ (mkBase 12 4 w0 S0 U0 B0) ⟨[.tv (.agg [.ptr 0 0, .ptr 2 0]), vI s, .tv (.agg [dI m.f_Kind, dI m.f_View, dI m.f_Seq, dI m.f_Client, dI m.f_Stamp, dS m.f_Digest, .d (dsl tm false kU8 m.f_Data), dI m.f_Result.f_Code, dI m.f_Result.f_Stage, .d (dsl tm false (kE tm) m.f_Batch), .d (dsl tm false (kE tm) m.f_Pres), .d (dsl tm false (kC tm) m.f_Certs)])], [.live (.box 98 [dI (3 * f + 1), dI u, .mref 1]), .live (mpK f_authn_pair kBool rows), .live (.box 75 [dB true, dI f, dI u, .own 3 (kE false).sz 0 l.length]), .live (arrK 35 (kE false) l)]⟩ _ _
 refine sR [] ?_
 refine sR [hR 4 rfl rfl (rCa (law_said f u rows l tm (aW.mk s true m) ‹_› ‹_› ‹_› ‹_› ‹_› ‹_›) Tryz.func26 [0, 1, 2, 3, 7] [(.tmp 7, .tv (.agg [.ptr 0 0, .ptr 2 0])), (.tmp 10, .tv (.agg [dI s, dB true, dI m.f_Kind, dI m.f_View, dI m.f_Seq, dI m.f_Client, dI m.f_Stamp, dS m.f_Digest, .d (dsl tm false kU8 m.f_Data), dI m.f_Result.f_Code, dI m.f_Result.f_Stage, .d (dsl tm false (kE tm) m.f_Batch), .d (dsl tm false (kE tm) m.f_Pres), .d (dsl tm false (kC tm) m.f_Certs)]))] 4 5)] ?_
 refine T.ret ?_
 exact eX [.c 6 6 35 0 35 [dI (saidE (aW.mk s true m)).f_Signer, dU (saidE (aW.mk s true m)).f_Body] (.agg [dI (saidE (aW.mk s true m)).f_Signer, dU (saidE (aW.mk s true m)).f_Body])] ⟨⟨rfl, rfl, by kernel_rfl, by kernel_rfl, .inl ⟨2, wide_35, rfl, Nat.le_of_ble_eq_true rfl⟩⟩, trivial⟩ [0, 1, 2, 3, 7] rfl (ix (ix (ix (ix trivial))))
abbrev Zh3 : TV := .one (dB false)
theorem law_bounds (c : quaestorlaw13_Case) : Holds Tryz.prog 6 ⟨[.tv (.agg [dI c.f_View, dI c.f_Seq, dI c.f_Primary, .d (dsl false false (k_quaestorlaw13_Vote false) c.f_Votes)])], [], vB (decide (bndC c)), []⟩ := by
 refine Holds.of Tryz.func6 rfl (N := 27) Tryz.ntmps6 rfl fun w0 B0 S0 U0 => ?_
 show T _ (mkBase 27 0 w0 S0 U0 B0) ⟨[.tv (.agg [dI c.f_View, dI c.f_Seq, dI c.f_Primary, .d (dsl false false (k_quaestorlaw13_Vote false) c.f_Votes)])], []⟩ _ _
 refine sR [] ?_
 by_cases hq1 : c.f_View ≥ 0
 ·by_cases hq2 : c.f_View < 1073741824
  ·by_cases hq3 : c.f_Seq > 0
   ·by_cases hq4 : c.f_Seq < 1073741824
    ·refine sR [hY 4 (dT hq1),
       hY 5 (dT hq1),
       hY 6 (dT hq1),
       hP 7 (dT hq1),
       hY 9 (dT hq2),
       hY 10 (dT hq2),
       hY 11 (dT hq2),
       hP 12 (dT hq2),
       hY 14 (dT hq3),
       hY 15 (dT hq3),
       hY 16 (dT hq3),
       hP 17 (dT hq3),
       hY 19 (dT hq4),
       hY 20 (dT hq4),
       hY 21 (dT hq4),
       hY 22 (dT hq4),
       hP 23 (dT hq4)] ?_
     refine T.ret ?_
     exact eRt 2 (.one (dB (decide (((c.f_Votes.length : Nat) : Int) ≤ 12)))) [] (cB (by exact decide_eq_decide.2 ⟨fun q => q.2.2.2.2, fun q => ⟨by assumption, by assumption, by assumption, by assumption, q⟩⟩)) trivial
    refine sR [hY 4 (dT hq1),
      hY 5 (dT hq1),
      hY 6 (dT hq1),
      hP 7 (dT hq1),
      hY 9 (dT hq2),
      hY 10 (dT hq2),
      hY 11 (dT hq2),
      hP 12 (dT hq2),
      hY 14 (dT hq3),
      hY 15 (dT hq3),
      hY 16 (dT hq3),
      hP 17 (dT hq3),
      hN 19 true (dF hq4),
      hN 20 true (dF hq4),
      hN 21 true (dF hq4),
      hN 22 true (dF hq4),
      hP 23 (dF hq4)] ?_
    refine T.ret ?_
    exact eRt 2 (Zh3) [] (cB (by exact dF (fun q => by obtain ⟨q1, q2, q3, q4, q5⟩ := q; contradiction))) trivial
   refine sR [hY 4 (dT hq1),
     hY 5 (dT hq1),
     hY 6 (dT hq1),
     hP 7 (dT hq1),
     hY 9 (dT hq2),
     hY 10 (dT hq2),
     hY 11 (dT hq2),
     hP 12 (dT hq2),
     hN 14 true (dF hq3),
     hN 15 true (dF hq3),
     hN 16 true (dF hq3),
     hP 17 (dF hq3),
     hN1 19,
     hN1 20,
     hN1 21,
     hN1 22,
     hP0 23] ?_
   refine T.ret ?_
   exact eRt 2 (Zh3) [] (cB (by exact dF (fun q => by obtain ⟨q1, q2, q3, q4, q5⟩ := q; contradiction))) trivial
  refine sR [hY 4 (dT hq1),
    hY 5 (dT hq1),
    hY 6 (dT hq1),
    hP 7 (dT hq1),
    hN 9 true (dF hq2),
    hN 10 true (dF hq2),
    hN 11 true (dF hq2),
    hP 12 (dF hq2),
    hN1 14,
    hN1 15,
    hN1 16,
    hP0 17,
    hN1 19,
    hN1 20,
    hN1 21,
    hN1 22,
    hP0 23] ?_
  refine T.ret ?_
  exact eRt 2 (Zh3) [] (cB (by exact dF (fun q => by obtain ⟨q1, q2, q3, q4, q5⟩ := q; contradiction))) trivial
 refine sR [hN 4 true (dF hq1),
   hN 5 true (dF hq1),
   hN 6 true (dF hq1),
   hP 7 (dF hq1),
   hN1 9,
   hN1 10,
   hN1 11,
   hP0 12,
   hN1 14,
   hN1 15,
   hN1 16,
   hP0 17,
   hN1 19,
   hN1 20,
   hN1 21,
   hN1 22,
   hP0 23] ?_
 refine T.ret ?_
 exact eRt 2 (Zh3) [] (cB (by exact dF (fun q => by obtain ⟨q1, q2, q3, q4, q5⟩ := q; contradiction))) trivial
end Go.Proofs.YtalapplihdmenaaGreat.Q
