import Derived.Test.YtladnlechpadlaaC03n3
import Derived.Shelf.Sort.Plain
import Derived.Shelf.Slices.In.SortNone
namespace Go.Proofs.Ytladnlechpadlaa.Q
set_option linter.unusedVariables false
set_option linter.unusedSimpArgs false

/-! ### Branches that end alike -/

section
variable {P : Program} {bs : Base}
theorem T.join {s : St} (s' : St) {x y : Code} {Q : Exit → Act → World → Prop} (h1 : T P bs s x (Exit.then (fun a w => Gs bs s' a w) Q)) (h2 : T P bs s' y Q) : T P bs s (.seq x y) Q := by
  refine T.seq fun a w hG b k cs => ?_
  obtain ⟨e, a', w', hq, harr⟩ := h1 a w hG b k cs
  refine ⟨e, a', w', ?_, harr⟩
  cases e with
  | normal => exact h2 a' w' hq
  | _ => exact hq
theorem nJ {s : St} {Q : Exit → Act → World → Prop} : Ends bs s .normal (Exit.then (fun a w => Gs bs s a w) Q) := fun a w h => h
end
end Go.Proofs.Ytladnlechpadlaa.Q
namespace Go.Proofs.Ytladnlechpadlaa.Q
set_option linter.unusedVariables false
set_option linter.unusedSimpArgs false
set_option maxRecDepth 100000

/-! ### slices.Sort of ints: the library's contract in this logic's words -/

def sortI (xs : List Int) : List Int := xs.mergeSort fun x y => decide (x ≤ y)
theorem sort_len (xs : List Int) : (sortI xs).length = xs.length := List.length_mergeSort _
theorem put_get (d : Array Int) (cur : Array Value) {j : Nat} (hj : j < d.size) (hc : j < cur.size) : (Go.Sort.putCells (Value.int .i64) 0 d cur)[j]? = some (.int .i64 d[j]!) := by
  simp only [Go.Sort.putCells, Array.getElem?_mapIdx, Array.getElem?_eq_getElem hc, Option.map_some, Nat.sub_zero]
  rw [if_pos ⟨Nat.zero_le _, by omega⟩]
theorem row_at {w : World} {b n : Nat} {d : Array Int} {cur : Array Value} {T : Nat} {fr : Nat × Nat} {os : Array Obj} (h : w.heap[b]? = some (.cells cur T fr)) : (Go.Sort.grow (Go.Sort.putRow (Value.int .i64) (Go.Sort.ahead w n) b 0 d) os).heap[b]? = some (.cells (Go.Sort.putCells (Value.int .i64) 0 d cur) T fr) := by
  have hb : b < w.heap.size := by
    rcases Nat.lt_or_ge b w.heap.size with q | q
    · exact q
    · rw [Array.getElem?_eq_none (by omega)] at h; cases h
  rw [Go.Sort.heap_grow_old _ _ (by simpa [Go.Sort.ahead] using hb)]
  simp only [Go.Sort.putRow, Go.Sort.mapBlock, Go.Sort.ahead, Array.getElem?_modify, if_true, h, Option.map_some, Go.Sort.onCells]
theorem row_other {w : World} {b n k : Nat} {d : Array Int} {os : Array Obj} (hk : k < w.heap.size) (hne : k ≠ b) : (Go.Sort.grow (Go.Sort.putRow (Value.int .i64) (Go.Sort.ahead w n) b 0 d) os).heap[k]? = w.heap[k]? := by
  rw [Go.Sort.heap_grow_old _ _ (by simpa [Go.Sort.ahead] using hk)]
  simp only [Go.Sort.putRow, Go.Sort.mapBlock, Go.Sort.ahead, Array.getElem?_modify]
  rw [if_neg (Ne.symm hne)]
theorem sort_holds {P : Program} {ρ : Go.Shelf.Ren} (L : Go.Proofs.Lays.n189 P ρ) (T : Nat) (xs : List Int) (hx : xs.length ≤ 1000000000) : Holds P (ρ.f 189) ⟨[ownV 0 (kInt .i64) 0 xs.length], [arrK T (kInt .i64) xs], .tup [], [.live (arrK T (kInt .i64) (sortI xs))]⟩ := by
  intro w B S U vs hl g
  obtain ⟨v, rfl⟩ : ∃ v, vs = [v] := by
    match vs, hl with
    | [v], _ => exact ⟨v, rfl⟩
  have h0 : svOk B S U w (.own 0 1 0 xs.length) v := g.tm 0
  have ho : obOk B S U w 0 (arrK T (kInt .i64) xs) := g.ob 0 _ rfl
  have hone : ∀ {l : Nat} {o : HObj} {h : HS}, hget [h] l = .live o → l = 0 ∧ h = .live o := fun {l o h} e => by
    cases l with
    | zero => exact ⟨rfl, e⟩
    | succ l => cases e
  rcases h0 with ⟨hB, _, hn, rfl⟩ | ⟨b, κ, o, cap, hB, rfl, hoc, hcap, hoo⟩
  · have hx : xs = [] := List.eq_nil_of_length_eq_zero hn
    subst hx
    rw [show sortI [] = [] from List.mergeSort_nil ..]
    refine (Go.Proofs.Any.slices_Sort_int_none L none 0 w).mono fun e w' ⟨he, hw⟩ => ?_
    subst he hw
    refine ⟨_, B, S, U, rfl, ?_⟩
    exact { g with
      df := rfl
      sz := rfl
      tm := fun k => by
        cases k with
        | zero => exact ⟨[], rfl, trivial⟩
        | succ k => exact trivial
      ob := fun l o e => g.ob l o e }
  · rcases ho with ⟨h, _⟩ | ⟨b', κ', cur, hB', hheap, hcs, hnκ, hκm, hel⟩
    · rw [hB] at h; cases h
    · rw [hB] at hB'
      obtain ⟨rfl, rfl⟩ : b = b' ∧ κ = κ' := by
        simp only [Option.some.injEq, Prod.mk.injEq] at hB'; exact hB'
      have ho : o = 0 := by rw [hoo (.inr rfl)]
      subst ho
      have hcs : cur.size = κ := by rw [hcs]; exact Nat.mul_one _
      have hb : b < w.heap.size := by
        rcases Nat.lt_or_ge b w.heap.size with q | q
        · exact q
        · rw [Array.getElem?_eq_none (by omega)] at hheap; cases hheap
      have hH : Go.Sort.Holds (Value.int .i64) w b 0 xs.toArray := fun j hj => by
        have hj : j < xs.length := by simpa using hj
        obtain ⟨u, hu, hd⟩ := hel j hj 0 (by decide)
        have hu : cur[j]? = some u := by rw [← hu]; rw [show j * (kInt .i64).sz + 0 = j from Nat.mul_one j]
        have hd : u = .int .i64 (xs.getD j 0) := hd
        refine ⟨?_, by simp [World.frozen?, hheap]⟩
        rw [show (⟨b, 0 + j, none⟩ : Addr) = ⟨b, j, none⟩ by rw [Nat.zero_add]]
        have : w.cell? ⟨b, j, none⟩ = cur[j]? := by simp [World.cell?, hheap]
        rw [this, hu, hd]
        simp [List.getElem!_eq_getElem?_getD, List.getD_eq_getElem?_getD]
      refine (Go.Proofs.Any.slices_Sort_int L b 0 cap xs w hH hb (by omega)).mono fun e w' ⟨he, n, os, hw⟩ => ?_
      have hw : w' = Go.Sort.grow (Go.Sort.putRow (Value.int .i64) (Go.Sort.ahead w n) b 0 (sortI xs).toArray) os := hw
      subst he hw
      have hat := row_at (n := n) (d := (sortI xs).toArray) (os := os) hheap
      have hC : Cs 1 B b := ⟨0, κ, by decide, hB⟩
      have hsz : (Go.Sort.grow (Go.Sort.putRow (Value.int .i64) (Go.Sort.ahead w n) b 0 (sortI xs).toArray) os).heap.size = w.heap.size + os.size := by
        rw [Go.Sort.size_grow, Go.Sort.size_putRow]; rfl
      refine ⟨_, B, S, U, rfl, ?_⟩
      exact { g with
        df := rfl
        sz := rfl
        tm := fun k => by
          cases k with
          | zero => exact ⟨[], rfl, trivial⟩
          | succ k => exact trivial
        ob := fun l o e => by
          obtain ⟨rfl, e⟩ := hone e
          cases e
          refine .inr ⟨b, κ, _, hB, hat, ?_, ?_, hκm, fun i hi j hj => ?_⟩
          · simp [Go.Sort.putCells, hcs]; exact (Nat.mul_one κ).symm
          · rw [sort_len]; exact hnκ
          · have hj : j < 1 := hj
            have hi : i < (sortI xs).length := hi
            have hi2 := hi
            rw [sort_len] at hi2
            refine ⟨.int .i64 ((sortI xs).getD i 0), ?_, ?_⟩
            · rw [show i * (kInt .i64).sz + j = i by rw [show (kInt .i64).sz = 1 from rfl]; omega, put_get _ _ (by simpa using hi) (by omega)]
              simp [List.getElem!_eq_getElem?_getD, List.getD_eq_getElem?_getD]
            · exact rfl
        nj := fun l l' o o' e e' hne => absurd ((hone e).1.trans (hone e').1.symm) hne
        sp := fun l o p e hp => by
          obtain ⟨rfl, _⟩ := hone e
          exact g.sp 0 _ p rfl hp
        cf := fun l o p e hp => by
          obtain ⟨rfl, _⟩ := hone e
          exact g.cf 0 _ p rfl hp
        fr := fun l e => by
          cases l with
          | zero => cases e
          | succ l => exact g.fr (l + 1) rfl
        ub := fun k hk => by rw [hsz]; exact Nat.lt_of_lt_of_le (g.ub k hk) (Nat.le_add_right _ _)
        ps := fun k hk hc => by
          have hne : k ≠ b := fun q => hc (q ▸ hC)
          have hk : k < w.heap.size := hk
          exact row_other hk hne
        hs := by rw [hsz]; exact Nat.le_add_right _ _
        os := rfl
        tp := rfl
        op := rfl }
end Go.Proofs.Ytladnlechpadlaa.Q
namespace Go.Proofs.Ytladnlechpadlaa.Q
open Go.Shelf
def lays189_ren : Go.Shelf.Ren := ⟨fun | 189 => 47 | 125 => 54 | 257 => 53 | 128 => 64 | 129 => 65 | 294 => 55 | 295 => 56 | 296 => 57 | 297 => 58 | 298 => 59 | 299 => 60 | 216 => 61 | 300 => 62 | 301 => 63 | 328 => 66 | 329 => 67 | 330 => 68 | 331 => 69 | 332 => 70 | 215 => 71 | 343 => 72 | n => n, fun | 28 => 50 | 3 => 3 | 46 => 73 | 0 => 0 | 51 => 84 | 53 => 69 | 4 => 4 | 183 => 76 | 182 => 75 | 131 => 81 | 5 => 5 | 9 => 9 | 218 => 86 | 222 => 90 | 228 => 92 | 229 => 93 | n => n, fun | n => n⟩
theorem lays189 : Go.Proofs.Lays.n189 Try.prog lays189_ren := {
  mixed := by kernel_rfl
  f125 := Try.func54.trans (congrArg some (by kernel_rfl))
  f128 := Try.func64.trans (congrArg some (by kernel_rfl))
  f129 := Try.func65.trans (congrArg some (by kernel_rfl))
  f189 := Try.func47.trans (congrArg some (by kernel_rfl))
  f215 := Try.func71.trans (congrArg some (by kernel_rfl))
  f216 := Try.func61.trans (congrArg some (by kernel_rfl))
  f257 := Try.func53.trans (congrArg some (by kernel_rfl))
  f294 := Try.func55.trans (congrArg some (by kernel_rfl))
  f295 := Try.func56.trans (congrArg some (by kernel_rfl))
  f296 := Try.func57.trans (congrArg some (by kernel_rfl))
  f297 := Try.func58.trans (congrArg some (by kernel_rfl))
  f298 := Try.func59.trans (congrArg some (by kernel_rfl))
  f299 := Try.func60.trans (congrArg some (by kernel_rfl))
  f300 := Try.func62.trans (congrArg some (by kernel_rfl))
  f301 := Try.func63.trans (congrArg some (by kernel_rfl))
  f328 := Try.func66.trans (congrArg some (by kernel_rfl))
  f329 := Try.func67.trans (congrArg some (by kernel_rfl))
  f330 := Try.func68.trans (congrArg some (by kernel_rfl))
  f331 := Try.func69.trans (congrArg some (by kernel_rfl))
  f332 := Try.func70.trans (congrArg some (by kernel_rfl))
  f343 := Try.func72.trans (congrArg some (by kernel_rfl))
  t0 := Try.underlying0
  a0 := Try.isAgg0
  z0 := Try.sizeOf0
  v0 := Try.zeroValue0
  t3 := Try.underlying3
  a3 := Try.isAgg3
  z3 := Try.sizeOf3
  v3 := Try.zeroValue3
  t4 := Try.underlying4
  a4 := Try.isAgg4
  z4 := Try.sizeOf4
  v4 := Try.zeroValue4
  t5 := Try.underlying5
  a5 := Try.isAgg5
  z5 := Try.sizeOf5
  v5 := Try.zeroValue5
  t9 := Try.underlying9
  a9 := Try.isAgg9
  z9 := Try.sizeOf9
  v9 := Try.zeroValue9
  t28 := Try.underlying50
  a28 := Try.isAgg50
  z28 := Try.sizeOf50
  v28 := Try.zeroValue50
  t46 := Try.underlying73
  a46 := Try.isAgg73
  z46 := Try.sizeOf73
  v46 := Try.zeroValue73
  t51 := Try.underlying84
  a51 := Try.isAgg84
  z51 := Try.sizeOf84
  v51 := Try.zeroValue84
  t53 := Try.underlying69
  a53 := Try.isAgg69
  z53 := Try.sizeOf69
  v53 := Try.zeroValue69
  t131 := Try.underlying81
  a131 := Try.isAgg81
  z131 := Try.sizeOf81
  v131 := Try.zeroValue81
  t182 := Try.underlying75
  a182 := Try.isAgg75
  z182 := Try.sizeOf75
  v182 := Try.zeroValue75
  t183 := Try.underlying76
  a183 := Try.isAgg76
  z183 := Try.sizeOf76
  v183 := Try.zeroValue76
  t218 := Try.underlying86
  a218 := Try.isAgg86
  z218 := Try.sizeOf86
  v218 := Try.zeroValue86
  t222 := Try.underlying90
  a222 := Try.isAgg90
  z222 := Try.sizeOf90
  v222 := Try.zeroValue90
  t228 := Try.underlying92
  a228 := Try.isAgg92
  z228 := Try.sizeOf92
  v228 := Try.zeroValue92
  t229 := Try.underlying93
  a229 := Try.isAgg93
  z229 := Try.sizeOf93
  v229 := Try.zeroValue93 }
end Go.Proofs.Ytladnlechpadlaa.Q
namespace Go.Proofs.Ytladnlechpadlaa.Q
set_option linter.unusedVariables false
set_option linter.unusedSimpArgs false
set_option maxRecDepth 100000

/-! ### clear, of a part of an own row of ints -/

theorem zeroCells_int (n : Nat) : (Builtin.zeroCells #[.int .i64 0] n).toList = List.replicate n (Value.int .i64 0) := by
  have e : (fun i : Nat => (#[Value.int .i64 0] : Array Value)[i % (#[Value.int .i64 0] : Array Value).size]!) = fun _ => Value.int .i64 0 := funext fun i => by
    rw [show (#[Value.int .i64 0] : Array Value).size = 1 from rfl, Nat.mod_one]; rfl
  unfold Builtin.zeroCells
  rw [e, Array.toList_map, List.map_const', Array.length_toList]
  simp
section
variable {P : Program} {bs : Base}
theorem q_clearI (l T : Nat) (xs ys : List Int) (d0 dn : Nat) {x : Operand} {t e bytes ty : TypeId} {pos : String} {af : Array Edge} {gd : Option (Nat × Bool)} (hE : Elem P t e 1 bytes) (hz : Zero P e [.int .i64 0]) (hd : d0 + dn ≤ xs.length) (hys : xs.take d0 ++ List.replicate dn 0 ++ xs.drop (d0 + dn) = ys) (hc : cOk [(x, ownV l (kInt .i64) d0 dn)]) :
    ORule P bs ⟨none, .call { callee := .builtin .clear, args := #[x], argTypes := #[t] }, ty, pos, af, gd⟩
      ⟨rtOf [(x, ownV l (kInt .i64) d0 dn)], [(l, .live (arrK T (kInt .i64) xs))], [], [(l, .live (arrK T (kInt .i64) ys))]⟩ :=
  .unitV rfl hc fun B S U s a w g hh he => by
    have hylen : ys.length = xs.length := by rw [← hys]; simp; omega
    obtain ⟨ht, inf, z, hi, hzo, _, _, _, _⟩ := hE
    obtain ⟨inf', z', hi', hzo', hzc⟩ := hz
    rw [hi] at hi'
    cases hi'
    rw [hzo] at hzo'
    cases hzo'
    have hzc : z.cells = #[.int .i64 0] := by rw [← Array.toList_inj]; exact hzc
    have elY : ∀ i, i < xs.length → ys.getD i 0 = if d0 ≤ i ∧ i < d0 + dn then 0 else xs.getD i 0 := by
      intro i hi
      rw [← hys]
      simp only [List.getD_eq_getElem?_getD, List.append_assoc]
      by_cases h1 : i < d0
      · rw [if_neg (by omega), List.getElem?_append_left (by simp; omega), List.getElem?_take, if_pos h1]
      · by_cases h2 : i < d0 + dn
        · rw [if_pos (by omega), List.getElem?_append_right (by simp; omega), List.getElem?_append_left (by simp; omega)]
          simp only [List.length_take, List.getElem?_replicate]
          rw [if_pos (by omega)]; rfl
        · rw [if_neg (by omega), List.getElem?_append_right (by simp; omega), List.getElem?_append_right (by simp; omega)]
          simp only [List.length_take, List.length_replicate, List.getElem?_drop]
          congr 2
          omega
    have g0 : ∀ (w' : World) (b κ : Nat) (cur' : Array Value), B l = some (some (b, κ)) → (∀ c, c ≠ b → w'.heap[c]? = w.heap[c]?) → w'.heap.size = w.heap.size → w'.heap[b]? = some (.cells cur' T (0, 0)) → cur'.size = κ → xs.length ≤ κ → κ ≤ maxLen → w'.os = w.os → w'.tape = w.tape → w'.output = w.output →
        (∀ i, i < ys.length → cur'[i]? = some (.int .i64 (ys.getD i 0))) → G bs B S U ⟨s.t, hset s.h l (.live (arrK T (kInt .i64) ys))⟩ a w' := by
      intro w' b κ cur' hb hoth hsz' hcur' hcs hxk hkm hos htp hop hel
      have hP : Pres (fun b => S b ∨ U b) w w' := fun c hc' => by
        have hU : U c := hc'.elim (g.su c) id
        exact hoth c fun e => g.sp l _ (b, κ) hh.1 hb (e ▸ hU)
      refine g.upd (fun k => k = l) _ (fun k hk => by simp [hget_hset, hk]) (fun _ _ h => h) (fun _ _ => rfl) (fun _ h => h) (fun _ h => h) g.su (fun b hb => by rw [hsz']; exact g.ub b hb) (fun _ h => .inl h) (fun _ h => .inl h)
        (fun k y' hk hy' => ?_) (fun k k' _ _ _ _ h h' _ _ hne => absurd (h.trans h'.symm) hne) (fun c hc hne => hoth c (hne l _ (b, κ) rfl hh.1 hb)) (fun k hk h => ?_) (fun k y q _ hk hq => g.sp k y q hk hq) (by omega) hos htp hop
      · subst hk
        rw [hget_hset, if_pos rfl] at hy'
        cases hy'
        refine ⟨.inr ⟨b, κ, cur', hb, hcur', by rw [hcs]; exact (Nat.mul_one κ).symm, by omega, hkm, fun i hi j hj => ?_⟩, fun p hp => ⟨g.sp k _ p hh.1 hp, g.cf k _ p hh.1 hp, fun k' o' q hk' ho' hq => g.nj k' k o' _ ho' hh.1 hk' q p hq hp⟩⟩
        have hj : j < 1 := hj
        refine ⟨_, ?_, (rfl : Value.int .i64 (ys.getD i 0) = _)⟩
        rw [show i * (kInt .i64).sz + j = i by rw [show (kInt .i64).sz = 1 from rfl]; omega]
        exact hel i hi
      · subst hk; rw [hget_hset, if_pos rfl] at h; cases h
    have hx : svOk B S U w (.own l 1 d0 dn) (a.eval x) := he.1
    have gsame : ys = xs → G bs B S U ⟨s.t, hset s.h l (.live (arrK T (kInt .i64) ys))⟩ a w := fun hysx => by
      rw [hysx]
      have hsame : ∀ k, hget (hsets s.h [(l, .live (arrK T (kInt .i64) xs))]) k = hget s.h k := fun k => by
        show hget (hset s.h l (.live (arrK T (kInt .i64) xs))) k = _
        rw [hget_hset]
        split
        · rename_i h; rw [h]; exact hh.1.symm
        · rfl
      exact { g with ob := fun k o' e => g.ob k o' (by rw [← hsame k]; exact e), nj := fun k k' o1 o2 e e' => g.nj k k' o1 o2 (by rw [← hsame k]; exact e) (by rw [← hsame k']; exact e'), sp := fun k o' p e => g.sp k o' p (by rw [← hsame k]; exact e), cf := fun k o' p e => g.cf k o' p (by rw [← hsame k]; exact e), fr := fun k e => g.fr k (by rw [← hsame k]; exact e) }
    rcases hx with ⟨hb, h0, hn0, hv⟩ | ⟨b, κ, o, cap, hb, hv, hcap, hle, ho⟩
    · have hysx : ys = xs := by rw [← hys, h0, hn0]; simp
      refine ⟨.tuple #[], w, B, S, U, ?_, gsame hysx⟩
      simp [execOp, resolve, invoke, builtin, hv, Builtin.clear_, run_underlying' ht, Sem.run_bind]
    · by_cases hd0 : dn = 0
      · have hysx : ys = xs := by rw [← hys, hd0]; simp
        refine ⟨.tuple #[], w, B, S, U, ?_, gsame hysx⟩
        subst hd0
        simp [execOp, resolve, invoke, builtin, hv, Builtin.clear_, run_underlying' ht, Sem.run_bind]
      · rcases g.ob l _ hh.1 with ⟨hob, _⟩ | ⟨b', κ', cur, hb', hcur, hcsz, hnk, hkm, hel⟩
        · rw [hb] at hob; cases hob
        · rw [hb] at hb'
          cases hb'
          have hblt : b < w.heap.size := (Array.getElem?_eq_some_iff.1 hcur).1
          have hcsz : cur.size = κ := by rw [hcsz]; exact Nat.mul_one κ
          have hod : o = d0 := by rw [ho (.inl (by omega))]; exact Nat.mul_one d0
          subst hod
          obtain ⟨cur', hrun, hsz', hget⟩ := run_storeCells (P := P) (b := b) (T := T) (List.replicate dn (Value.int .i64 0)) cur o 0 w hcur (by simp; omega) (fun v hv => by rw [List.mem_replicate] at hv; rw [hv.2]; rfl)
          refine ⟨.tuple #[], { w with heap := w.heap.setIfInBounds b (.cells cur' T (0, 0)) }, B, S, U, ?_, g0 _ b κ cur' hb (fun c hc => by simp [Array.getElem?_setIfInBounds, Ne.symm hc]) (by simp) (by simp [hblt]) (by rw [hsz', hcsz]) hnk hkm rfl rfl rfl (fun i hi => ?_)⟩
          · obtain ⟨dm, rfl⟩ : ∃ dm, dn = dm + 1 := ⟨dn - 1, by omega⟩
            have hclr : (Builtin.clear_ #[t] ty #[.slice (some ⟨b, o, none⟩) (dm + 1) cap]).run P w = .ok (.tuple #[]) { w with heap := w.heap.setIfInBounds b (.cells cur' T (0, 0)) } := by
              simp [Builtin.clear_, run_underlying' ht, Sem.run_bind, run_zeroValue hi hzo, hzc, zeroCells_int, hrun]
            simp only [execOp, resolve, hv, invoke, builtin, Sem.run_bind, Sem.run_pure, Result.andThen_ok, List.map_toArray, List.map_cons, List.map_nil]
            rw [hclr]
            rfl
          · rw [hget, elY i (by omega)]
            simp only [List.length_replicate, Nat.add_zero]
            by_cases hcase : o ≤ i ∧ i < o + dn
            · rw [if_pos hcase, if_pos hcase, List.getElem?_replicate, if_pos (by omega)]
            · rw [if_neg hcase, if_neg hcase]
              obtain ⟨u, hu, hdd⟩ := hel i (by omega) 0 (by decide)
              have hdd : u = .int .i64 (xs.getD i 0) := hdd
              rw [← hdd, ← hu, show i * (kInt .i64).sz + 0 = i from Nat.mul_one i]
end
end Go.Proofs.Ytladnlechpadlaa.Q
namespace Go.Proofs.Ytladnlechpadlaa.Q
set_option linter.unusedVariables false
set_option linter.unusedSimpArgs false
set_option maxRecDepth 100000

/-! ### How many replicas signers are -/

def filR (f : Int) (l : List Int) : List Int := l.filter fun s => decide (isReplica f s)
def allR (f : Int) (l : List Int) : Prop := ∀ s, s ∈ l → isReplica f s
instance (f : Int) (l : List Int) : Decidable (allR f l) := inferInstanceAs (Decidable (∀ s, s ∈ l → _))
def idxN (f : Int) (l : List Int) : Nat := l.findIdx fun s => decide (¬ isReplica f s)
def idxR (f : Int) (l : List Int) : Int := if allR f l then -1 else ((idxN f l : Nat) : Int)
section
variable {f : Int} {l xs ys : List Int} {i j k p q : Nat}
theorem getI {l : List Int} {j : Nat} (hj : j < l.length) : l.getD j 0 = l[j] := by rw [List.getD_eq_getElem?_getD, List.getElem?_eq_getElem hj]; rfl
theorem idxR_no (hb : ∀ j, j < k → isReplica f (l.getD j 0)) (hk : l.length ≤ k) : idxR f l = -1 := if_pos fun s hs => by
  obtain ⟨j, hj, rfl⟩ := List.getElem_of_mem hs
  rw [← getI hj]; exact hb j (by omega)
theorem idxR_at (hb : ∀ j, j < k → isReplica f (l.getD j 0)) (hk : k < l.length) (h : ¬ isReplica f (l.getD k 0)) : idxR f l = ((k : Nat) : Int) := by
  have hn : ¬ allR f l := fun w => h (w _ (getD_mem (z := 0) hk))
  rw [idxR, if_neg hn, idxN, (List.findIdx_eq hk).2 ⟨?_, fun j hj => ?_⟩]
  · rw [getI hk] at h; exact decide_eq_true h
  · have := hb j hj
    rw [getI (by omega)] at this
    exact decide_eq_false (fun w => w this)
theorem idxR_all (h : idxR f l = -1) : filR f l = l := by
  unfold idxR at h
  split at h
  · rename_i w; exact List.filter_eq_self.2 fun s hs => decide_eq_true (w s hs)
  · omega
theorem idxR_is (h : ¬ idxR f l = -1) : idxR f l = ((idxN f l : Nat) : Int) ∧ idxN f l < l.length ∧ l.take (idxN f l) = filR f (l.take (idxN f l + 1)) := by
  unfold idxR at h ⊢
  split at h
  · exact absurd rfl h
  · rename_i w
    rw [if_neg w]
    have hx : ∃ s, s ∈ l ∧ ¬ isReplica f s := Classical.byContradiction fun v => w fun s hs => Classical.byContradiction fun u => v ⟨s, hs, u⟩
    have hlt : idxN f l < l.length := List.findIdx_lt_length_of_exists (by obtain ⟨s, h1, h2⟩ := hx; exact ⟨s, h1, decide_eq_true h2⟩)
    refine ⟨rfl, hlt, ?_⟩
    have h1 : decide (¬ isReplica f (l[idxN f l]'hlt)) = true := List.findIdx_getElem (w := hlt)
    have h1 : ¬ isReplica f (l[idxN f l]'hlt) := by simpa using h1
    rw [tk_succ (z := 0) hlt, filR, List.filter_append, getI hlt, List.filter_cons_of_neg (by simpa using h1), List.filter_nil, List.append_nil]
    refine (List.filter_eq_self.2 fun s hs => ?_).symm
    obtain ⟨m, hm, rfl⟩ := List.getElem_of_mem hs
    have hm2 : m < idxN f l := by rw [List.length_take] at hm; omega
    have := List.not_of_lt_findIdx (p := fun s => decide (¬ isReplica f s)) (xs := l) hm2
    rw [List.getElem_take]
    simpa using this
theorem set_take (hi : i < ys.length) (v : Int) : (ys.set i v).take (i + 1) = ys.take i ++ [v] := by
  rw [tk_succ (z := 0) (by rw [List.length_set]; exact hi), List.take_set_of_le (Nat.le_refl _), List.getD_eq_getElem?_getD, List.getElem?_set_self hi]; rfl
theorem set_get {m : Nat} (v : Int) (h : m ≠ i) : (ys.set i v).getD m 0 = ys.getD m 0 := by rw [List.getD_eq_getElem?_getD, List.getD_eq_getElem?_getD, List.getElem?_set_ne (Ne.symm h)]
/-- One more is kept. -/
theorem del_yes (hij : i < j) (hj : j < xs.length) (hl : ys.length = xs.length) (h : ys.take i = filR f (xs.take j)) (hd : ∀ m, j ≤ m → ys.getD m 0 = xs.getD m 0) (hr : isReplica f (ys.getD j 0)) : (ys.set i (ys.getD j 0)).take (i + 1) = filR f (xs.take (j + 1)) ∧ ∀ m, j + 1 ≤ m → (ys.set i (ys.getD j 0)).getD m 0 = xs.getD m 0 := by
  refine ⟨?_, fun m hm => by rw [set_get _ (by omega)]; exact hd m (by omega)⟩
  have e := hd j (Nat.le_refl _)
  rw [e] at hr ⊢
  rw [set_take (by omega), h, tk_succ (z := 0) hj, filR, filR, List.filter_append, List.filter_cons_of_pos (by simpa using hr), List.filter_nil]
theorem del_no (hj : j < xs.length) (h : ys.take i = filR f (xs.take j)) (hd : ∀ m, j ≤ m → ys.getD m 0 = xs.getD m 0) (hr : ¬ isReplica f (ys.getD j 0)) : ys.take i = filR f (xs.take (j + 1)) ∧ ∀ m, j + 1 ≤ m → ys.getD m 0 = xs.getD m 0 := by
  refine ⟨?_, fun m hm => hd m (by omega)⟩
  have e := hd j (Nat.le_refl _)
  rw [e] at hr
  rw [h, tk_succ (z := 0) hj, filR, filR, List.filter_append, List.filter_cons_of_neg (by simpa using hr), List.filter_nil, List.append_nil]
theorem cut_end {z : List Int} {n : Nat} (hi : i ≤ ys.length) : (ys.take i ++ List.replicate n 0 ++ z).take i = ys.take i := by
  rw [List.append_assoc, List.take_append_of_le_length (by rw [List.length_take]; omega), List.take_of_length_le (by rw [List.length_take]; omega)]
theorem del_end (hj : xs.length ≤ j) (h : ys.take i = filR f (xs.take j)) : ys.take i = filR f xs := by rw [h, List.take_of_length_le hj]
theorem fil_len (f : Int) (l : List Int) : (filR f l).length ≤ l.length := List.length_filter_le _ _

/-! ### One of each that stand beside each other -/

def cptN (xs : List Int) : Nat → List Int
  | 0 => []
  | n + 1 => if 0 < n ∧ xs.getD n 0 = xs.getD (n - 1) 0 then cptN xs n else cptN xs n ++ [xs.getD n 0]
def cptL (xs : List Int) : List Int := cptN xs xs.length
theorem cpt_one (hn : j < xs.length) (h : ¬ (0 < j ∧ xs.getD j 0 = xs.getD (j - 1) 0)) : cptN xs (j + 1) = cptN xs j ++ [xs.getD j 0] := by rw [cptN, if_neg h]
theorem cpt_take : ∀ {n : Nat}, n ≤ xs.length → (∀ m, 1 ≤ m → m < n → ¬ xs.getD m 0 = xs.getD (m - 1) 0) → cptN xs n = xs.take n
  | 0, _, _ => rfl
  | n + 1, hn, h => by
    rw [cptN, if_neg (fun w => h n w.1 (by omega) w.2), cpt_take (by omega) fun m h1 h2 => h m h1 (by omega), tk_succ (z := 0) (by omega)]
theorem cpt_none (hk : xs.length ≤ k) (h : ∀ m, 1 ≤ m → m < k → ¬ xs.getD m 0 = xs.getD (m - 1) 0) : cptL xs = xs := by
  unfold cptL
  rw [cpt_take (Nat.le_refl _) fun m h1 h2 => h m h1 (by omega), List.take_of_length_le (Nat.le_refl _)]
theorem cpt_short (h : ((xs.length : Nat) : Int) < 2) : cptL xs = xs := cpt_none (k := xs.length) (Nat.le_refl _) fun m h1 h2 => by omega
theorem cpt_start (hk1 : 1 ≤ k) (hk : k < xs.length) (h : ∀ m, 1 ≤ m → m < k → ¬ xs.getD m 0 = xs.getD (m - 1) 0) (he : xs.getD k 0 = xs.getD (k - 1) 0) : xs.take k = cptN xs (k + 1) := by
  rw [cptN, if_pos ⟨by omega, he⟩, cpt_take (by omega) h]
theorem cpt_yes (hp : p < k + q) (hq : 1 ≤ q) (hl : ys.length = xs.length) (hk : k + q < xs.length) (h : ys.take p = cptN xs (k + q)) (hd : ∀ m, k + q - 1 ≤ m → ys.getD m 0 = xs.getD m 0) (hne : ys.getD (k + q) 0 ≠ ys.getD (k + (q - 1)) 0) : (ys.set p (ys.getD (k + q) 0)).take (p + 1) = cptN xs (k + (q + 1)) ∧ ∀ m, k + (q + 1) - 1 ≤ m → (ys.set p (ys.getD (k + q) 0)).getD m 0 = xs.getD m 0 := by
  refine ⟨?_, fun m hm => by rw [set_get _ (by omega)]; exact hd m (by omega)⟩
  rw [hd (k + q) (by omega), hd (k + (q - 1)) (by omega)] at hne
  rw [hd (k + q) (by omega), set_take (by omega), h, ← Nat.add_assoc, cptN, if_neg (fun w => hne (by rw [w.2]; congr 1; omega))]
theorem cpt_no (hp : p < k + q) (hq : 1 ≤ q) (hk : k + q < xs.length) (h : ys.take p = cptN xs (k + q)) (hd : ∀ m, k + q - 1 ≤ m → ys.getD m 0 = xs.getD m 0) (hne : ¬ ys.getD (k + q) 0 ≠ ys.getD (k + (q - 1)) 0) : ys.take p = cptN xs (k + (q + 1)) ∧ ∀ m, k + (q + 1) - 1 ≤ m → ys.getD m 0 = xs.getD m 0 := by
  refine ⟨?_, fun m hm => hd m (by omega)⟩
  have hne := Classical.not_not.1 hne
  rw [hd (k + q) (by omega), hd (k + (q - 1)) (by omega)] at hne
  rw [h, ← Nat.add_assoc, cptN, if_pos ⟨by omega, by rw [hne]; congr 1; omega⟩]
theorem cpt_end (hk : xs.length ≤ k + q) (hk2 : k + q ≤ xs.length) (h : ys.take p = cptN xs (k + q)) : ys.take p = cptL xs := by rw [h, show k + q = xs.length by omega]; rfl
theorem cpt_len (xs : List Int) : ∀ n, (cptN xs n).length ≤ n
  | 0 => Nat.le_refl _
  | n + 1 => by
    have := cpt_len xs n
    rw [cptN]; split
    · omega
    · rw [List.length_append, List.length_singleton]; omega
end

/-! ### How many distinct ones -/

/-- How many replicas are among signers. -/
def cntR (f : Int) (l : List Int) : Nat := ((List.range (3 * f + 1).toNat).filter fun (i : Nat) => decide (((i : Nat) : Int) ∈ l)).length
theorem cpt_last {xs : List Int} : ∀ {n : Nat}, 0 < n → n ≤ xs.length → (cptN xs n).getLast? = some (xs.getD (n - 1) 0)
  | n + 1, _, hn => by
    rw [cptN]
    split
    · rename_i h
      rw [cpt_last h.1 (by omega), Nat.add_sub_cancel, h.2]
    · rw [List.getLast?_append, Nat.add_sub_cancel]; rfl
theorem cpt_mem {xs : List Int} {s : Int} : ∀ {n : Nat}, n ≤ xs.length → (s ∈ cptN xs n ↔ ∃ m, m < n ∧ xs.getD m 0 = s)
  | 0, _ => ⟨(fun h => by cases h), fun ⟨m, h, _⟩ => absurd h (Nat.not_lt_zero _)⟩
  | n + 1, hn => by
    rw [cptN]
    split
    · rename_i h
      rw [cpt_mem (n := n) (by omega)]
      exact ⟨fun ⟨m, h1, h2⟩ => ⟨m, by omega, h2⟩, fun ⟨m, h1, h2⟩ => by
        rcases Nat.lt_or_ge m n with q | q
        · exact ⟨m, q, h2⟩
        · exact ⟨n - 1, by omega, by rw [← h.2, show n = m by omega]; exact h2⟩⟩
    · rw [List.mem_append, List.mem_singleton, cpt_mem (n := n) (by omega)]
      exact ⟨fun w => w.elim (fun ⟨m, h1, h2⟩ => ⟨m, by omega, h2⟩) fun w => ⟨n, by omega, w.symm⟩, fun ⟨m, h1, h2⟩ => by
        rcases Nat.lt_or_ge m n with q | q
        · exact .inl ⟨m, q, h2⟩
        · exact .inr (by rw [← h2, show m = n by omega])⟩
theorem cpt_nodup {xs : List Int} (hs : ∀ i j, i ≤ j → j < xs.length → xs.getD i 0 ≤ xs.getD j 0) : ∀ {n : Nat}, n ≤ xs.length → (cptN xs n).Nodup
  | 0, _ => List.nodup_nil
  | n + 1, hn => by
    have ih := cpt_nodup hs (n := n) (by omega)
    rw [cptN]
    split
    · exact ih
    · rename_i h
      rw [List.nodup_append]
      refine ⟨ih, by simp, fun a ha b hb => ?_⟩
      rw [List.mem_singleton] at hb
      subst hb
      obtain ⟨m, h1, h2⟩ := (cpt_mem (by omega)).1 ha
      intro e
      have hn1 : xs.getD n 0 ≤ xs.getD (n - 1) 0 := by rw [← e, ← h2]; exact hs m (n - 1) (by omega) (by omega)
      have hn2 := hs (n - 1) n (by omega) (by omega)
      exact h ⟨by omega, by omega⟩
theorem sort_le {xs : List Int} : ∀ i j, i ≤ j → j < (sortI xs).length → (sortI xs).getD i 0 ≤ (sortI xs).getD j 0 := fun i j hij hj => by
  rcases Nat.lt_or_ge i j with q | q
  · have h : (sortI xs).Pairwise (fun x y => decide (x ≤ y) = true) := List.pairwise_mergeSort (fun a b c h1 h2 => by simp at h1 h2 ⊢; omega) (fun a b => by simp; omega) xs
    have := List.pairwise_iff_getElem.1 h i j (by omega) hj q
    rw [getI (by omega), getI hj]
    simpa using this
  · rw [show i = j by omega]; exact Int.le_refl _
theorem cnt_is {f : Int} (hf : 0 ≤ f ∧ f ≤ 2) (l : List Int) : (cptL (sortI (filR f l))).length = cntR f l := by
  have h1 : (cptL (sortI (filR f l))).Nodup := cpt_nodup sort_le (Nat.le_refl _)
  have h2 : (((List.range (3 * f + 1).toNat).filter fun (i : Nat) => decide (((i : Nat) : Int) ∈ l)).map Int.ofNat).Nodup := List.pairwise_map.2 ((List.nodup_range.sublist List.filter_sublist).imp fun hab e => hab (Int.ofNat.inj e))
  have hm : ∀ s, s ∈ cptL (sortI (filR f l)) ↔ s ∈ ((List.range (3 * f + 1).toNat).filter fun (i : Nat) => decide (((i : Nat) : Int) ∈ l)).map Int.ofNat := fun s => by
    have e1 : s ∈ cptL (sortI (filR f l)) ↔ s ∈ sortI (filR f l) := by
      unfold cptL
      rw [cpt_mem (Nat.le_refl _)]
      constructor
      · rintro ⟨m, h, rfl⟩; exact getD_mem h
      · intro h
        obtain ⟨m, hm, rfl⟩ := List.getElem_of_mem h
        exact ⟨m, hm, getI hm⟩
    rw [e1, sortI, List.mem_mergeSort, filR, List.mem_filter, List.mem_map]
    constructor
    · rintro ⟨h3, h4⟩
      have h4 : isReplica f s := by simpa using h4
      refine ⟨s.toNat, List.mem_filter.2 ⟨List.mem_range.2 (by have := h4.1; have := h4.2; omega), decide_eq_true ?_⟩, ?_⟩
      · rw [show ((s.toNat : Nat) : Int) = s by have := h4.1; omega]; exact h3
      · show ((s.toNat : Nat) : Int) = s; have := h4.1; omega
    · rintro ⟨i, h3, rfl⟩
      obtain ⟨h4, h5⟩ := List.mem_filter.1 h3
      have h4 := List.mem_range.1 h4
      exact ⟨by simpa using h5, decide_eq_true ⟨Int.natCast_nonneg _, by show ((i : Nat) : Int) < _; omega⟩⟩
  have := ((List.perm_ext_iff_of_nodup h1 h2).2 hm).length_eq
  rw [this, List.length_map]; rfl
end Go.Proofs.Ytladnlechpadlaa.Q
namespace Go.Proofs.Ytladnlechpadlaa.Q
open Go Go.RowKit
set_option linter.unusedVariables false
set_option linter.unusedSimpArgs false
set_option maxRecDepth 100000
set_option maxHeartbeats 4000000
theorem fld_23_0 : FieldAt Try.prog 23 0 0 := ⟨_, _, _, Try.underlying23, rfl, iat_3, by decide, rfl⟩
theorem fld_23_1 : FieldAt Try.prog 23 1 1 := ⟨_, _, _, Try.underlying23, rfl, iat_3, by decide, rfl⟩
theorem fld_27_0 : FieldAt Try.prog 27 0 0 := ⟨_, _, _, Try.underlying27, rfl, iat_3, by decide, rfl⟩
theorem fld_27_2 : FieldAt Try.prog 27 2 2 := ⟨_, _, _, Try.underlying27, rfl, iat_4, by decide, rfl⟩
theorem cells_5 : Cells Try.prog 5 1 := ⟨_, iat_5, rfl⟩
theorem wide_29 : Wide Try.prog 29 none := ⟨_, Try.underlying29, (fun _ h => by cases h), (fun _ _ h => by cases h)⟩
-- (*quaestor/authn.Authority).Count$1
theorem count_not (f : Int) (u : Int) (rows : List (authn_pair × Bool)) (s : Int) (hf : 0 ≤ f ∧ f ≤ 2) (hu : 0 ≤ u ∧ u ≤ 8) : Holds Try.prog 46 ⟨[dv (.int .i64 s), pv 0 0], [.box 29 [.ptr 1 0], .box 58 [.d (.val (.int .i64 (3 * f + 1))), .d (.val (.int .i64 u)), .mref 2], mpK f_authn_pair kBool rows], dv (.bool (decide (¬ isReplica f s))), [.live (.box 29 [.ptr 1 0]), .live (.box 58 [.d (.val (.int .i64 (3 * f + 1))), .d (.val (.int .i64 u)), .mref 2]), .live (mpK f_authn_pair kBool rows)]⟩ := by
 refine Holds.of Try.func46 rfl (N := 8) Try.ntmps46 rfl fun w0 B0 S0 U0 => ?_
 show T _ (mkBase 8 3 w0 S0 U0 B0) ⟨[dv (.int .i64 s), pv 0 0], [.live (.box 29 [.ptr 1 0]), .live (.box 58 [.d (.val (.int .i64 (3 * f + 1))), .d (.val (.int .i64 u)), .mref 2]), .live (mpK f_authn_pair kBool rows)]⟩ _ _
 refine T.seq ?_
 refine xR [] (by kernel_rfl) (by kernel_rfl) ?_
 refine nT ?_
 refine T.seq ?_
 refine xR [hR 2 rfl rfl (r_call (authn_Replica f u rows s (by first | assumption | omega | (unfold maxLen; omega) | (simp [maxLen, -List.getD_eq_getElem?_getD] <;> omega) | decide) (by first | assumption | omega | (unfold maxLen; omega) | (simp [maxLen, -List.getD_eq_getElem?_getD] <;> omega) | decide)) Try.func41 rfl (by decide) [1, 2] [] (l := [(.tmp 4, pv 1 0), (.tmp 5, dv (.int .i64 s))]) [] rfl 2 2 rfl rfl rfl rfl rfl rfl rfl rfl rfl ⟨.inl ⟨rfl, rfl⟩, ⟨.inl ⟨rfl, rfl⟩, trivial⟩⟩ rfl (fun b hb => by cases hb) (.inl rfl) (lt_of rfl) trivial)] (by kernel_rfl) (by kernel_rfl) ?_
 refine nT ?_
 refine T.ret ?_
 exact tE (.inl rfl) [.t 3 (.one (.d (.val (.bool (!(decide (isReplica f s)))))))] ⟨⟨rfl, by kernel_rfl⟩, trivial⟩ [0, 1, 2] (by have e1 : ((decide (¬ isReplica f s)) : Bool) = (!(decide (isReplica f s))) := (by first | rfl | exact decide_not | exact decide_not.symm); have hE := congrArg (fun (q1 : Bool) => (dv (.bool q1) : AV)) e1; exact hE) rfl rfl rfl rfl rfl ⟨⟨rfl, (by kernel_rfl)⟩, ⟨⟨rfl, (by kernel_rfl)⟩, ⟨⟨rfl, (by kernel_rfl)⟩, trivial⟩⟩⟩
end Go.Proofs.Ytladnlechpadlaa.Q
namespace Go.Proofs.Ytladnlechpadlaa.Q
open Go Go.RowKit
set_option linter.unusedVariables false
set_option linter.unusedSimpArgs false
set_option maxRecDepth 100000
set_option maxHeartbeats 4000000
theorem zero_3 : Zero Try.prog 3 [.int .i64 0] := ⟨_, _, iat_3, rfl, rfl⟩
theorem elem_50 : Elem Try.prog 50 3 1 8 := ⟨Try.underlying50, _, _, iat_3, rfl, rfl, rfl, rfl, by decide⟩
-- slices.Clone[[]int,int]
theorem clone_int (tx : Bool) (nx : Bool) (x : List Int) (hx : x.length ≤ 1000000) : Holds Try.prog 45 ⟨[slV tx nx (kInt .i64) x], [], ownV 0 (kInt .i64) 0 x.length, [.live (arrK 3 (kInt .i64) x)]⟩ := by
 refine Holds.of Try.func45 rfl (N := 8) Try.ntmps45 rfl fun w0 B0 S0 U0 => ?_
 show T _ (mkBase 8 0 w0 S0 U0 B0) ⟨[slV tx nx (kInt .i64) x], []⟩ _ _
 cases nx
 ·refine T.nilOr (k := 0) rfl (fun h0 => ?_) ?_
  ·have h0 := List.eq_nil_of_length_eq_zero h0
   subst h0
   show T _ _ ⟨[dv (.slice none 0 0)], []⟩ _ _
   refine T.seq ?_
   refine xR [] (by kernel_rfl) (by kernel_rfl) ?_
   refine nT ?_
   refine T.seq ?_
   refine T.seq ?_
   refine xR [hR 1 rfl rfl (r_bin (u1 := .slice none 0 0) (u2 := .slice none 0 0) (v := .bool true) (b_eqlNilS Try.underlying50) (lt_of rfl) ⟨rfl, trivial⟩)] (by kernel_rfl) (by kernel_rfl) ?_
   refine nT ?_
   refine T.condT (b := true) (by kernel_rfl) rfl ?_
   refine T.seq ?_
   refine xR [] (by kernel_rfl) (by kernel_rfl) ?_
   refine nT ?_
   refine T.ret ?_
   refine rT ?_
   refine Ends.turn (s' := ⟨[dv (.slice none 0 0), aa, dv (.slice none 0 0), aa, dv (.bool true)], []⟩) (fun _ _ hG => Gs.norm (by kernel_rfl) hG) ?_
   refine Ends.turn (s' := ⟨[dv (.slice none 0 0), aa, ownV 0 (kInt .i64) 0 0, aa, dv (.bool true)], [.live (arrK 3 (kInt .i64) ([] : List Int))]⟩) (fun _ _ hG => Gs.absent 0 2 3 (kInt .i64) rfl rfl hG) ?_
   exact tE (.inl rfl) [.t 2 (.one (.own 0 (kInt .i64).sz 0 0))] ⟨⟨rfl, by kernel_rfl⟩, trivial⟩ [0] (by have e1 : (([] : List Int).length : Nat) = 0 := (by first | rfl | (simp; done)); have hE := congrArg (fun (q1 : Nat) => (ownV 0 (kInt .i64) 0 q1 : AV)) e1; exact hE) rfl rfl rfl rfl rfl ⟨⟨rfl, (by kernel_rfl)⟩, trivial⟩
  ·show T _ _ ⟨[slV tx true (kInt .i64) x], []⟩ _ _
   refine T.seq ?_
   refine xR [] (by kernel_rfl) (by kernel_rfl) ?_
   refine nT ?_
   refine T.seq ?_
   refine T.seq ?_
   refine xR [hR 1 rfl rfl (r_eqNil (s := .d (dsl tx true (kInt .i64) x)) Try.underlying50 (.inl rfl) (lt_of rfl) ⟨rfl, trivial⟩)] (by kernel_rfl) (by kernel_rfl) ?_
   refine nT ?_
   refine T.condF (b := false) (by kernel_rfl) rfl ?_
   refine T.skip ?_
   refine nT ?_
   refine T.seq ?_
   refine xR [hR 0 rfl rfl (q_buildSlice 0 3 (kInt .i64) (kInt_ok .i64) ([] : List Int) [] (cs := []) Try.underlying50 iat_3 rfl zero_3 rfl rfl rfl (Nat.le_of_ble_eq_true rfl) part_ok (by kernel_rfl) (wk_eq (by kernel_rfl)) (lt_of rfl) trivial),
     hR 2 rfl rfl (q_appendO 0 1 3 8 (kInt .i64) (kInt_ok .i64) ([] : List Int) x x ([] : List Int).length (sy := (.d (dsl tx true (kInt .i64) x))) (rhs := []) elem_50 (by first | assumption | omega | (unfold maxLen; omega) | (simp [maxLen, -List.getD_eq_getElem?_getD] <;> omega) | decide) (src_sl tx true (kInt .i64) x) (by simp) (by first | assumption | omega | (unfold maxLen; omega) | (simp [maxLen, -List.getD_eq_getElem?_getD] <;> omega) | decide) (by first | assumption | omega | (unfold maxLen; omega) | (simp [maxLen, -List.getD_eq_getElem?_getD] <;> omega) | decide) (lt_of rfl) trivial)] (by kernel_rfl) (by kernel_rfl) ?_
   refine nT ?_
   refine T.ret ?_
   exact tE (.inl rfl) [.t 2 (.one (.own 1 (kInt .i64).sz 0 x.length))] ⟨⟨rfl, by kernel_rfl⟩, trivial⟩ [1] rfl rfl rfl rfl rfl rfl ⟨⟨rfl, (by kernel_rfl)⟩, trivial⟩
 ·refine T.seq ?_
  refine xR [] (by kernel_rfl) (by kernel_rfl) ?_
  refine nT ?_
  refine T.seq ?_
  refine T.seq ?_
  refine xR [hR 1 rfl rfl (r_eqNil (s := .d (dsl tx true (kInt .i64) x)) Try.underlying50 (.inl rfl) (lt_of rfl) ⟨rfl, trivial⟩)] (by kernel_rfl) (by kernel_rfl) ?_
  refine nT ?_
  refine T.condF (b := false) (by kernel_rfl) rfl ?_
  refine T.skip ?_
  refine nT ?_
  refine T.seq ?_
  refine xR [hR 0 rfl rfl (q_buildSlice 0 3 (kInt .i64) (kInt_ok .i64) ([] : List Int) [] (cs := []) Try.underlying50 iat_3 rfl zero_3 rfl rfl rfl (Nat.le_of_ble_eq_true rfl) part_ok (by kernel_rfl) (wk_eq (by kernel_rfl)) (lt_of rfl) trivial),
    hR 2 rfl rfl (q_appendO 0 1 3 8 (kInt .i64) (kInt_ok .i64) ([] : List Int) x x ([] : List Int).length (sy := (.d (dsl tx true (kInt .i64) x))) (rhs := []) elem_50 (by first | assumption | omega | (unfold maxLen; omega) | (simp [maxLen, -List.getD_eq_getElem?_getD] <;> omega) | decide) (src_sl tx true (kInt .i64) x) (by simp) (by first | assumption | omega | (unfold maxLen; omega) | (simp [maxLen, -List.getD_eq_getElem?_getD] <;> omega) | decide) (by first | assumption | omega | (unfold maxLen; omega) | (simp [maxLen, -List.getD_eq_getElem?_getD] <;> omega) | decide) (lt_of rfl) trivial)] (by kernel_rfl) (by kernel_rfl) ?_
  refine nT ?_
  refine T.ret ?_
  exact tE (.inl rfl) [.t 2 (.one (.own 1 (kInt .i64).sz 0 x.length))] ⟨⟨rfl, by kernel_rfl⟩, trivial⟩ [1] rfl rfl rfl rfl rfl rfl ⟨⟨rfl, (by kernel_rfl)⟩, trivial⟩
end Go.Proofs.Ytladnlechpadlaa.Q
namespace Go.Proofs.Ytladnlechpadlaa.Q
open Go Go.RowKit
set_option linter.unusedVariables false
set_option linter.unusedSimpArgs false
set_option maxRecDepth 100000
set_option maxHeartbeats 4000000
abbrev z494b_0 (f : Int) (u : Int) (rows : List (authn_pair × Bool)) : List HS := [.live (.box 29 [.ptr 1 0]), .live (.box 58 [.d (.val (.int .i64 (3 * f + 1))), .d (.val (.int .i64 u)), .mref 2]), .live (mpK f_authn_pair kBool rows)]
abbrev z494b_1 (x : List Int) : AV := dv (.int .i64 ((x.length : Nat) : Int))
abbrev z494b_2 (tx : Bool) (nx : Bool) (x : List Int) : List AV := [slV tx nx (kInt .i64) x, sv (.clo 46 [0]), aa, aa, dv (.int .i64 0), aa, aa, (z494b_1 x), dv (.int .i64 0)]
abbrev z494b_3 (tx : Bool) (nx : Bool) (x : List Int) (k : Nat) : List AV := [slV tx nx (kInt .i64) x, sv (.clo 46 [0]), aa, aa, dv (.int .i64 0), aa, aa, (z494b_1 x), dv (.int .i64 ((k + 1 : Nat) : Int))]
-- slices.IndexFunc[[]int,int]
theorem index_int (f : Int) (u : Int) (rows : List (authn_pair × Bool)) (tx : Bool) (nx : Bool) (x : List Int) (hf : 0 ≤ f ∧ f ≤ 2) (hu : 0 ≤ u ∧ u ≤ 8) (hx : x.length ≤ 1000000) : Holds Try.prog 52 ⟨[slV tx nx (kInt .i64) x, sv (.clo 46 [0])], [.box 29 [.ptr 1 0], .box 58 [.d (.val (.int .i64 (3 * f + 1))), .d (.val (.int .i64 u)), .mref 2], mpK f_authn_pair kBool rows], dv (.int .i64 (idxR f x)), [.live (.box 29 [.ptr 1 0]), .live (.box 58 [.d (.val (.int .i64 (3 * f + 1))), .d (.val (.int .i64 u)), .mref 2]), .live (mpK f_authn_pair kBool rows)]⟩ := by
 refine Holds.of Try.func52 rfl (N := 19) Try.ntmps52 rfl fun w0 B0 S0 U0 => ?_
 show T _ (mkBase 19 3 w0 S0 U0 B0) ⟨[slV tx nx (kInt .i64) x, sv (.clo 46 [0])], (z494b_0 f u rows)⟩ _ _
 refine T.seq ?_
 refine xR [] (by kernel_rfl) (by kernel_rfl) ?_
 refine nT ?_
 refine T.seq ?_
 refine T.seq ?_
 refine xR [] (by kernel_rfl) (by kernel_rfl) ?_
 refine nT ?_
 refine T.block ?_
 refine T.loop (ι := Nat) (fun (k : Nat) => ⟨[slV tx nx (kInt .i64) x, sv (.clo 46 [0]), aa, aa, dv (.int .i64 0), aa, aa, (z494b_1 x), dv (.int .i64 ((k : Nat) : Int))], (z494b_0 f u rows)⟩) (fun (k : Nat) => (k ≤ x.length) ∧ (∀ j, j < k → isReplica f (x.getD j 0))) (fun (k : Nat) => x.length - k) (0) ⟨(Nat.zero_le _), (fun j hj => absurd hj (Nat.not_lt_zero _))⟩ (fun _ _ hG => Gs.into2 (s' := ⟨(z494b_2 tx nx x), (z494b_0 f u rows)⟩) [0, 1, 2] (bm 9 403) (t1 := (z494b_2 tx nx x)) (h1 := (z494b_0 f u rows)) rfl rfl (by kernel_rfl) (by kernel_rfl) (by kernel_rfl) (by kernel_rfl) (by kernel_rfl) (by kernel_rfl) (by kernel_rfl) (by kernel_rfl) (by kernel_rfl) (by kernel_rfl) (by kernel_rfl) hG) ?_
 rintro k ⟨hk, hb⟩
 show T _ _ ⟨[slV tx nx (kInt .i64) x, sv (.clo 46 [0]), aa, aa, dv (.int .i64 0), aa, aa, (z494b_1 x), dv (.int .i64 ((k : Nat) : Int))], (z494b_0 f u rows)⟩ _ _
 replace hk : k ≤ x.length := hk
 replace hb : ∀ j, j < k → isReplica f (x.getD j 0) := hb
 refine T.seq ?_
 refine xR [] (by kernel_rfl) (by kernel_rfl) ?_
 refine nT ?_
 refine T.seq ?_
 by_cases hq1 : ((k : Nat) : Int) < ((x.length : Nat) : Int)
 ·refine T.condT (by kernel_rfl) (decide_eq_true hq1) ?_
  refine T.skip ?_
  refine nT ?_
  refine T.seq ?_
  refine T.block ?_
  refine T.seq ?_
  refine xR [] (by kernel_rfl) (by kernel_rfl) ?_
  refine nT ?_
  refine T.seq ?_
  refine xR [hR 3 rfl rfl (q_index tx nx (kInt .i64) x k (k := .i64) (i := ((k : Nat) : Int)) Try.underlying50 iat_3 rfl rfl (by first | assumption | omega | (unfold maxLen; omega) | (simp [maxLen, -List.getD_eq_getElem?_getD] <;> omega) | decide) (lt_of rfl) trivial),
    hR 5 rfl rfl (r_callC (ls := [0]) (count_not f u rows (x.getD k 0) (by first | assumption | omega | (unfold maxLen; omega) | (simp [maxLen, -List.getD_eq_getElem?_getD] <;> omega) | decide) (by first | assumption | omega | (unfold maxLen; omega) | (simp [maxLen, -List.getD_eq_getElem?_getD] <;> omega) | decide)) Try.func46 rfl (by decide) [0, 1, 2] [] (l := [(.tmp 15, dv (.int .i64 (x.getD k 0)))]) [] rfl 3 3 rfl rfl rfl rfl rfl rfl rfl rfl rfl ⟨.inl ⟨rfl, rfl⟩, ⟨.inl ⟨rfl, rfl⟩, trivial⟩⟩ rfl (fun b hb => by cases hb) (.inl rfl) (lt_of rfl) trivial)] (by kernel_rfl) (by kernel_rfl) ?_
  refine nT ?_
  by_cases hq2 : ¬ isReplica f (x.getD k 0)
  ·refine T.condT (by kernel_rfl) (decide_eq_true hq2) ?_
   refine T.seq ?_
   refine xR [] (by kernel_rfl) (by kernel_rfl) ?_
   refine nT ?_
   refine T.ret ?_
   refine rB ?_
   refine rT ?_
   refine rT ?_
   refine rB ?_
   refine rT ?_
   exact tE (.inl rfl) [.t 4 (.one (.d (.val (.int .i64 ((k : Nat) : Int)))))] ⟨⟨rfl, by kernel_rfl⟩, trivial⟩ [0, 1, 2] (by have e1 : ((idxR f x) : Int) = ((k : Nat) : Int) := (by first | rfl | exact idxR_no hb (by omega) | exact (idxR_no hb (by omega)).symm | exact idxR_at hb (by omega) (by assumption) | exact (idxR_at hb (by omega) (by assumption)).symm); have hE := congrArg (fun (q1 : Int) => (dv (.int .i64 q1) : AV)) e1; exact hE) rfl rfl rfl rfl rfl ⟨⟨rfl, (by kernel_rfl)⟩, ⟨⟨rfl, (by kernel_rfl)⟩, ⟨⟨rfl, (by kernel_rfl)⟩, trivial⟩⟩⟩
  ·refine T.condF (by kernel_rfl) (decide_eq_false hq2) ?_
   refine T.skip ?_
   refine nB ?_
   refine nT ?_
   refine xR [hR 0 rfl rfl (r_bin (u1 := .int .i64 ((k : Nat) : Int)) (u2 := .int .i64 1) (v := .int .i64 ((k + 1 : Nat) : Int)) (b_add (by rw [IntKind.wrap_i64]; omega)) (lt_of rfl) ⟨rfl, trivial⟩)] (by kernel_rfl) (by kernel_rfl) ?_
   refine nL (k + 1) ⟨(show (k + 1) ≤ x.length from (by omega)), (show ∀ j, j < (k + 1) → isReplica f (x.getD j 0) from (all_succ hb (Classical.not_not.1 (by assumption))))⟩ (show (x.length - (k + 1) : Nat) < x.length - k from (by omega)) (fun _ _ hG => Gs.into2 (s' := ⟨(z494b_3 tx nx x k), (z494b_0 f u rows)⟩) [0, 1, 2] (bm 9 403) (t1 := (z494b_3 tx nx x k)) (h1 := (z494b_0 f u rows)) rfl rfl (by kernel_rfl) (by kernel_rfl) (by kernel_rfl) (by kernel_rfl) (by kernel_rfl) (by kernel_rfl) (by kernel_rfl) (by kernel_rfl) (by kernel_rfl) (by kernel_rfl) (by kernel_rfl) hG)
 ·refine T.condF (by kernel_rfl) (decide_eq_false hq1) ?_
  refine T.exit ?_
  refine xT ?_
  refine xT ?_
  refine xH ?_
  refine nT ?_
  refine T.seq ?_
  refine xR [] (by kernel_rfl) (by kernel_rfl) ?_
  refine nT ?_
  refine T.ret ?_
  exact tE (.inl rfl) [.t 4 (.one (.d (.val (.int .i64 (-1)))))] ⟨⟨rfl, by kernel_rfl⟩, trivial⟩ [0, 1, 2] (by have e1 : ((idxR f x) : Int) = (-1) := (by first | rfl | exact idxR_no hb (by omega) | exact (idxR_no hb (by omega)).symm | exact idxR_at hb (by omega) (by assumption) | exact (idxR_at hb (by omega) (by assumption)).symm); have hE := congrArg (fun (q1 : Int) => (dv (.int .i64 q1) : AV)) e1; exact hE) rfl rfl rfl rfl rfl ⟨⟨rfl, (by kernel_rfl)⟩, ⟨⟨rfl, (by kernel_rfl)⟩, ⟨⟨rfl, (by kernel_rfl)⟩, trivial⟩⟩⟩
end Go.Proofs.Ytladnlechpadlaa.Q
