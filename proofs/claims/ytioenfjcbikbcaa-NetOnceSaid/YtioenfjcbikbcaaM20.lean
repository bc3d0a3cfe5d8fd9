import Derived.Test.YtioenfjcbikbcaaK20
namespace Go.Proofs.Ytioenfjcbikbcaa.Q
set_option linter.unusedVariables false

/-! ### What a net is, and what it answers -/

structure NetS where
  l : List api_Packet
  n : Int

def ltMax : Nat := 2000
def okI (s : NetS) (i : Int) : Prop := 0 ≤ i ∧ i < (s.l.length : Nat)
instance (s : NetS) (i : Int) : Decidable (okI s i) := inferInstanceAs (Decidable (_ ∧ _))
def netSend (s : NetS) (to : Int) (e : api_Envelope) : NetS := if 2000 ≤ s.l.length then s else ⟨s.l ++ [⟨s.n + 1, to, e⟩], s.n + 1⟩
def netSendE (s : NetS) : Int := if 2000 ≤ s.l.length then 3 else 0
def netAt (s : NetS) (i : Int) : api_Packet := if okI s i then s.l.getD i.toNat z_api_Packet else z_api_Packet
def netAtE (s : NetS) (i : Int) : Int := if okI s i then 0 else 2
def netTake (s : NetS) (i : Int) : NetS := if okI s i then ⟨s.l.eraseIdx i.toNat, s.n⟩ else s
def netTwice (s : NetS) (i : Int) : NetS := if okI s i then netSend s (netAt s i).f_To (netAt s i).f_Env else s
def netTwiceE (s : NetS) (i : Int) : Int := if okI s i then netSendE s else 2

theorem at_no {s : NetS} {i : Int} (h : ¬ okI s i) : netAt s i = z_api_Packet := if_neg h
theorem at_yes {s : NetS} {i : Int} (h : okI s i) : netAt s i = s.l.getD i.toNat z_api_Packet := if_pos h
theorem atE_no {s : NetS} {i : Int} (h : ¬ okI s i) : netAtE s i = 2 := if_neg h
theorem atE_yes {s : NetS} {i : Int} (h : okI s i) : netAtE s i = 0 := if_pos h
theorem take_no {s : NetS} {i : Int} (h : ¬ okI s i) : netTake s i = s := if_neg h
theorem take_yes {s : NetS} {i : Int} (h : okI s i) : netTake s i = ⟨s.l.eraseIdx i.toNat, s.n⟩ := if_pos h
theorem twice_no {s : NetS} {i : Int} (h : ¬ okI s i) : netTwice s i = s := if_neg h
theorem twice_yes {s : NetS} {i : Int} (h : okI s i) : netTwice s i = netSend s (netAt s i).f_To (netAt s i).f_Env := if_pos h
theorem twiceE_no {s : NetS} {i : Int} (h : ¬ okI s i) : netTwiceE s i = 2 := if_neg h
theorem twiceE_yes {s : NetS} {i : Int} (h : okI s i) : netTwiceE s i = netSendE s := if_pos h
theorem send_no {s : NetS} {to : Int} {e : api_Envelope} (h : 2000 ≤ s.l.length) : netSend s to e = s := if_pos h
theorem send_yes {s : NetS} {to : Int} {e : api_Envelope} (h : ¬ 2000 ≤ s.l.length) : netSend s to e = ⟨s.l ++ [⟨s.n + 1, to, e⟩], s.n + 1⟩ := if_neg h
theorem sendE_no {s : NetS} (h : 2000 ≤ s.l.length) : netSendE s = 3 := if_pos h
theorem sendE_yes {s : NetS} (h : ¬ 2000 ≤ s.l.length) : netSendE s = 0 := if_neg h

/-- Small enough for the machine. -/
def smallE (e : api_Envelope) : Prop := e.f_Body.length ≤ 140737488355328
def smallN (s : NetS) : Prop := s.l.length ≤ 2000 ∧ 0 ≤ s.n ∧ s.n < 4611686018427387904 ∧ ∀ p, p ∈ s.l → smallE p.f_Env

instance (e : api_Envelope) : Decidable (smallE e) := inferInstanceAs (Decidable (_ ≤ _))
instance (s : NetS) : Decidable (smallN s) := inferInstanceAs (Decidable (_ ∧ _ ∧ _ ∧ ∀ p, p ∈ s.l → smallE p.f_Env))
theorem z_small : smallE z_api_Packet.f_Env := by simp [smallE, z_api_Packet, z_api_Envelope]
theorem small_getD {s : NetS} (h : smallN s) (k : Nat) : smallE (s.l.getD k z_api_Packet).f_Env := by
  rw [List.getD_eq_getElem?_getD]
  rcases Nat.lt_or_ge k s.l.length with hk | hk
  · rw [List.getElem?_eq_getElem hk]; exact h.2.2.2 _ (List.getElem_mem hk)
  · rw [List.getElem?_eq_none hk]; exact z_small
theorem small_at {s : NetS} (h : smallN s) (i : Int) : smallE (netAt s i).f_Env := by
  unfold netAt
  split
  · exact small_getD h _
  · exact z_small
theorem small_send {s : NetS} (h : smallN s) (hn : s.n < 4611686018427387903) (to : Int) {e : api_Envelope} (he : smallE e) : smallN (netSend s to e) := by
  unfold netSend
  split
  · exact h
  · rename_i h1
    refine ⟨by simp; omega, by simp only; have := h.2.1; omega, by simp only; omega, fun p hp => ?_⟩
    simp only [List.mem_append, List.mem_singleton] at hp
    rcases hp with hp | rfl
    · exact h.2.2.2 p hp
    · exact he
theorem small_take {s : NetS} (h : smallN s) (i : Int) : smallN (netTake s i) := by
  unfold netTake
  split
  · exact ⟨by have := List.length_eraseIdx_le s.l i.toNat; have := h.1; simp only; omega, h.2.1, h.2.2.1, fun p hp => h.2.2.2 p (List.mem_of_mem_eraseIdx hp)⟩
  · exact h

/-- An element taken out by a copy of what stands behind it. -/
theorem take_out {α : Type} (l : List α) (k : Nat) (h : k < l.length) (z : α) (m : Nat) (hm : m = l.length - (k + 1)) :
    ((l.take k ++ (l.drop (k + 1)).take m ++ l.drop (k + m)).set (l.length - 1) z).take (l.length - 1) = l.eraseIdx k := by
  subst hm
  rw [List.take_set_of_le (Nat.le_refl _), List.eraseIdx_eq_take_drop_succ, List.take_of_length_le (l := l.drop (k + 1)) (by simp),
    List.take_append_of_le_length (by simp; omega)]
  rw [List.take_of_length_le (by simp; omega)]
theorem er_ne {α : Type} {z : α} {l : List α} {k : Nat} {i : Int} (hk : k < l.length) (hn : (k : Int) ≠ i) (hi : 0 ≤ i) : (l.take (k + 1)).eraseIdx i.toNat = (l.take k).eraseIdx i.toNat ++ [l.getD k z] := by
  have hs : l.take (k + 1) = l.take k ++ [l.getD k z] := by rw [List.take_add_one, List.getD_eq_getElem?_getD, List.getElem?_eq_getElem hk]; rfl
  rw [hs]
  rcases Nat.lt_or_ge i.toNat k with h | h
  · rw [List.eraseIdx_append_of_lt_length (by simp; omega)]
  · rw [List.eraseIdx_of_length_le (by simp; omega), List.eraseIdx_of_length_le (by simp; omega)]
theorem er_eq {α : Type} {l : List α} {k : Nat} {i : Int} (hk : k < l.length) (hn : (k : Int) = i) : (l.take (k + 1)).eraseIdx i.toNat = (l.take k).eraseIdx i.toNat := by
  have hi : i.toNat = k := by omega
  have hs : l.take (k + 1) = l.take k ++ [l[k]] := by rw [List.take_add_one, List.getElem?_eq_getElem hk]; rfl
  rw [hi, hs, List.eraseIdx_append_of_length_le (by simp; omega), List.eraseIdx_of_length_le (l := l.take k) (by simp; omega)]
  have : k - (l.take k).length = 0 := by simp; omega
  rw [this]
  simp
theorem atE_ne {l : List api_Packet} {n i : Int} (h : netAtE (NetS.mk l n) i ≠ 0) : ¬ (0 ≤ i ∧ i < (l.length : Int)) := fun hy => h (atE_yes hy)
theorem atE_eq {l : List api_Packet} {n i : Int} (h : ¬ netAtE (NetS.mk l n) i ≠ 0) : 0 ≤ i ∧ i < (l.length : Int) := Classical.byContradiction fun hn => h (by rw [atE_no (s := NetS.mk l n) (i := i) hn]; decide)
theorem take_out2 {α : Type} {l : List α} {i : Int} {z : α} (h : 0 ≤ i ∧ i < (l.length : Int)) :
    ((l.take i.toNat ++ (l.drop (i + 1).toNat).take (min (l.length - (i + 1).toNat) (l.length - i.toNat)) ++ l.drop (i.toNat + min (l.length - (i + 1).toNat) (l.length - i.toNat))).set (((l.length : Nat) : Int) - 1).toNat z).take (((l.length : Nat) : Int) - 1).toNat = l.eraseIdx i.toNat := by
  have h1 : (i + 1).toNat = i.toNat + 1 := by omega
  have h2 : (((l.length : Nat) : Int) - 1).toNat = l.length - 1 := by omega
  rw [h1, h2]
  exact take_out l i.toNat (by omega) z _ (by omega)

/-! ### A full net -/

def zE : api_Envelope := ⟨0, []⟩
def roomN (k : Nat) : NetS := ⟨(List.range k).map fun (j : Nat) => ⟨((j : Nat) : Int) + 1, ((j : Nat) : Int), zE⟩, ((k : Nat) : Int)⟩
theorem room_len (k : Nat) : (roomN k).l.length = k := by simp [roomN]
theorem room_send {k : Nat} (h : k < 2000) : netSend (roomN k) ((k : Nat) : Int) zE = roomN (k + 1) := by
  rw [send_yes (by rw [room_len]; omega)]
  simp [roomN, List.range_succ]
theorem room_sendE {k : Nat} (h : k < 2000) : netSendE (roomN k) = 0 := sendE_yes (by rw [room_len]; omega)
theorem room_small {k : Nat} (h : k ≤ 2000) : smallN (roomN k) := ⟨by rw [room_len]; exact h, by simp [roomN], by simp only [roomN]; omega, fun p hp => by
  simp only [roomN, List.mem_map] at hp
  obtain ⟨j, _, rfl⟩ := hp
  simp [smallE, zE]⟩
theorem room_full (to : Int) (e : api_Envelope) : netSend (roomN 2000) to e = roomN 2000 := send_no (by rw [room_len]; omega)
theorem room_fullE : netSendE (roomN 2000) = 3 := sendE_no (by rw [room_len]; omega)
theorem room_ok0 : okI (roomN 2000) 0 := by unfold okI; rw [room_len]; omega
theorem room_ok5 : okI (roomN 2000) 5 := by unfold okI; rw [room_len]; omega
theorem room_twice : netTwice (roomN 2000) 0 = roomN 2000 := by rw [twice_yes room_ok0, room_full]
theorem room_twiceE : netTwiceE (roomN 2000) 0 = 3 := by rw [twiceE_yes room_ok0, room_fullE]
def roomT : NetS := netTake (roomN 2000) 5
theorem take5_len (s : NetS) (h : s.l.length = 2000) : (netTake s 5).l.length = 1999 := by
  have hc : okI s 5 := by unfold okI; rw [h]; omega
  rw [take_yes hc]
  show (s.l.eraseIdx _).length = _
  rw [List.length_eraseIdx_of_lt (by rw [h]; decide), h]
theorem take5_n (s : NetS) (h : s.l.length = 2000) : (netTake s 5).n = s.n := by
  have hc : okI s 5 := by unfold okI; rw [h]; omega
  rw [take_yes hc]
theorem roomT_len : roomT.l.length = 1999 := take5_len _ (room_len 2000)
theorem roomT_small : smallN roomT := small_take (room_small (Nat.le_refl _)) _
theorem roomT_n : roomT.n = 2000 := (take5_n _ (room_len 2000)).trans (by simp only [roomN]; rfl)
theorem roomT_ok0 : okI roomT 0 := by unfold okI; rw [roomT_len]; omega
theorem roomT_twiceE : netTwiceE roomT 0 = 0 := by rw [twiceE_yes roomT_ok0, sendE_yes (by rw [roomT_len]; omega)]
theorem roomT_twice_len : (netTwice roomT 0).l.length = 2000 := by
  rw [twice_yes roomT_ok0, send_yes (by rw [roomT_len]; omega)]
  simp [roomT_len]
theorem roomT_twice_small : smallN (netTwice roomT 0) := by
  rw [twice_yes roomT_ok0]
  exact small_send roomT_small (by rw [roomT_n]; decide) _ (small_at roomT_small 0)
theorem roomT_sendE : netSendE (netTwice roomT 0) = 3 := sendE_no (by rw [roomT_twice_len]; omega)
theorem roomT_send (to : Int) (e : api_Envelope) : netSend (netTwice roomT 0) to e = netTwice roomT 0 := send_no (by rw [roomT_twice_len]; omega)

/-! ### Rows -/

theorem tk_succ {α : Type} {z : α} {l : List α} {k : Nat} (hk : k < l.length) : l.take (k + 1) = l.take k ++ [l.getD k z] := by
  rw [List.take_add_one, List.getD_eq_getElem?_getD, List.getElem?_eq_getElem hk]; rfl
def fewA (l : List quaestorlaw20_Act) : Prop := l.length ≤ 300 ∧ ∀ x, x ∈ l → x.f_E.f_Body.length ≤ 200
instance (l : List quaestorlaw20_Act) : Decidable (fewA l) := inferInstanceAs (Decidable (_ ∧ ∀ x, x ∈ l → x.f_E.f_Body.length ≤ 200))
theorem few_no1 {l : List quaestorlaw20_Act} (h : ((l.length : Nat) : Int) > 300) : ¬ fewA l := fun h1 => by have := h1.1; omega
theorem few_no2 {l : List quaestorlaw20_Act} {k : Nat} {z : quaestorlaw20_Act} (hk : k < l.length) (h : (((l.getD k z).f_E.f_Body.length : Nat) : Int) > 200) : ¬ fewA l := fun h1 => by
  rw [List.getD_eq_getElem?_getD, List.getElem?_eq_getElem hk] at h
  have := h1.2 _ (List.getElem_mem hk)
  simp at h
  omega
theorem few_yes {l : List quaestorlaw20_Act} {k : Nat} {z : quaestorlaw20_Act} (h0 : ¬ ((l.length : Nat) : Int) > 300) (hk : l.length ≤ k) (h : ∀ j, j < k → (l.getD j z).f_E.f_Body.length ≤ 200) : fewA l := ⟨by omega, fun x hx => by
  obtain ⟨j, hj, rfl⟩ := List.getElem_of_mem hx
  have := h j (by omega)
  rw [List.getD_eq_getElem?_getD, List.getElem?_eq_getElem hj] at this
  exact this⟩
theorem all_succ {P : Nat → Prop} {k : Nat} (h : ∀ j, j < k → P j) (hk : P k) : ∀ j, j < k + 1 → P j := fun j hj => by
  rcases Nat.lt_or_ge j k with h1 | h1
  · exact h j h1
  · obtain rfl : j = k := by omega
    exact hk
theorem rows_eq {α : Type} {a b : List α} {z : α} {k : Nat} (hl : a.length = b.length) (hk : a.length ≤ k) (h : ∀ j, j < k → a.getD j z = b.getD j z) : a = b := by
  apply List.ext_getElem hl
  intro j h1 h2
  have := h j (by omega)
  simpa [List.getD_eq_getElem?_getD, List.getElem?_eq_getElem h1, List.getElem?_eq_getElem h2] using this

/-- An act. -/
def stepN (s : NetS) (x : quaestorlaw20_Act) : NetS :=
  if x.f_Kind = 0 then netSend s x.f_N x.f_E else if x.f_Kind = 1 then netTake s x.f_N else if x.f_Kind = 2 then netTwice s x.f_N else s

def runN (l : List quaestorlaw20_Act) (k : Nat) : NetS := (l.take k).foldl stepN ⟨[], 0⟩
theorem runN_zero (l : List quaestorlaw20_Act) : runN l 0 = ⟨[], 0⟩ := rfl
theorem runN_succ {l : List quaestorlaw20_Act} {k : Nat} {z : quaestorlaw20_Act} (hk : k < l.length) : runN l (k + 1) = stepN (runN l k) (l.getD k z) := by
  unfold runN
  rw [tk_succ (z := z) hk, List.foldl_append]
  rfl
theorem send_n (s : NetS) (to : Int) (e : api_Envelope) : (netSend s to e).n ≤ s.n + 1 := by
  unfold netSend; split
  · omega
  · simp
theorem step_small {s : NetS} (h : smallN s) (hn : s.n < 4611686018427387903) {x : quaestorlaw20_Act} (hx : x.f_E.f_Body.length ≤ 200) : smallN (stepN s x) := by
  unfold stepN
  split
  · exact small_send h hn _ (by unfold smallE; omega)
  · split
    · exact small_take h _
    · split
      · unfold netTwice
        split
        · exact small_send h hn _ (small_at h _)
        · exact h
      · exact h
theorem step_n (s : NetS) (x : quaestorlaw20_Act) : (stepN s x).n ≤ s.n + 1 := by
  unfold stepN
  split
  · exact send_n _ _ _
  · split
    · unfold netTake; split
      · simp only; omega
      · omega
    · split
      · unfold netTwice; split
        · exact send_n _ _ _
        · omega
      · omega
theorem run_ok {l : List quaestorlaw20_Act} (hf : fewA l) : ∀ k, k ≤ l.length → smallN (runN l k) ∧ (runN l k).n ≤ (k : Nat)
  | 0, _ => ⟨by rw [runN_zero]; decide, by rw [runN_zero]; decide⟩
  | k + 1, hk => by
    obtain ⟨h1, h2⟩ := run_ok hf k (by omega)
    have hl := hf.1
    rw [runN_succ (z := z_quaestorlaw20_Act) (by omega)]
    have hx : (l.getD k z_quaestorlaw20_Act).f_E.f_Body.length ≤ 200 := by
      rw [List.getD_eq_getElem?_getD, List.getElem?_eq_getElem (by omega)]
      exact hf.2 _ (List.getElem_mem _)
    exact ⟨step_small h1 (by omega) hx, by have := step_n (runN l k) (l.getD k z_quaestorlaw20_Act); omega⟩
theorem few_get {l : List quaestorlaw20_Act} (hf : fewA l) (k : Nat) : (l.getD k z_quaestorlaw20_Act).f_E.f_Body.length ≤ 200 := by
  rw [List.getD_eq_getElem?_getD]
  rcases Nat.lt_or_ge k l.length with hk | hk
  · rw [List.getElem?_eq_getElem hk]; exact hf.2 _ (List.getElem_mem hk)
  · rw [List.getElem?_eq_none hk]; decide

/-! ### The order of the packets -/

def riseN (s : NetS) : Prop := s.l.Pairwise (fun a b => a.f_Id < b.f_Id) ∧ ∀ p, p ∈ s.l → p.f_Id ≤ s.n
theorem rise_send {s : NetS} (h : riseN s) (to : Int) (e : api_Envelope) : riseN (netSend s to e) := by
  unfold netSend
  split
  · exact h
  · refine ⟨?_, fun p hp => ?_⟩
    · simp only
      rw [List.pairwise_append]
      refine ⟨h.1, by simp, fun a ha b hb => ?_⟩
      simp only [List.mem_singleton] at hb
      subst hb
      have := h.2 a ha
      simp only
      omega
    · simp only [List.mem_append, List.mem_singleton] at hp
      simp only
      rcases hp with hp | rfl
      · have := h.2 p hp; omega
      · simp only; omega
theorem rise_take {s : NetS} (h : riseN s) (i : Int) : riseN (netTake s i) := by
  unfold netTake
  split
  · exact ⟨h.1.sublist (List.eraseIdx_sublist _ _), fun p hp => h.2 p (List.mem_of_mem_eraseIdx hp)⟩
  · exact h
theorem rise_step {s : NetS} (h : riseN s) (x : quaestorlaw20_Act) : riseN (stepN s x) := by
  unfold stepN
  split
  · exact rise_send h _ _
  · split
    · exact rise_take h _
    · split
      · unfold netTwice
        split
        · exact rise_send h _ _
        · exact h
      · exact h
theorem rise_fold (l : List quaestorlaw20_Act) : ∀ s, riseN s → riseN (l.foldl stepN s) := by
  induction l with
  | nil => exact fun s h => h
  | cons x r ih => exact fun s h => ih _ (rise_step h x)
theorem rise_run (l : List quaestorlaw20_Act) (k : Nat) : riseN (runN l k) := rise_fold _ _ ⟨List.Pairwise.nil, fun p hp => by cases hp⟩
theorem rise_get {l : List api_Packet} (h : l.Pairwise (fun a b => a.f_Id < b.f_Id)) {j : Nat} {i : Int} (z : api_Packet) (h1 : 1 ≤ j) (h2 : j < l.length) (hi : i = (j : Int) - 1) : ¬ (l.getD j z).f_Id ≤ (l.getD i.toNat z).f_Id := by
  have e : i.toNat = j - 1 := by omega
  rw [e]
  have := List.pairwise_iff_getElem.1 h (j - 1) j (by omega) h2 (by omega)
  rw [List.getD_eq_getElem?_getD, List.getD_eq_getElem?_getD, List.getElem?_eq_getElem h2, List.getElem?_eq_getElem (by omega)]
  simp only [Option.getD_some]
  omega

/-! ### What was sent, and is still under way -/

def onceM (l : List api_Packet) : List (Int × api_Packet) := l.map fun p => (p.f_Id, p)
theorem once_len (l : List api_Packet) : (onceM l).length = l.length := by simp [onceM]
theorem send_full {s : NetS} {to : Int} {e : api_Envelope} (h : ¬ netSendE s = 0) : netSend s to e = s := by
  by_cases hc : 2000 ≤ s.l.length
  · exact send_no hc
  · exact absurd (sendE_yes hc) h
theorem send_room {s : NetS} (to : Int) (e : api_Envelope) (h : netSendE s = 0) : netSend s to e = ⟨s.l ++ [⟨s.n + 1, to, e⟩], s.n + 1⟩ := by
  by_cases hc : 2000 ≤ s.l.length
  · rw [sendE_no hc] at h; cases h
  · exact send_yes hc
theorem once_put {s : NetS} (hr : riseN s) (to : Int) (e : api_Envelope) (h : netSendE s = 0) : (netSend s to e).n = s.n + 1 ∧ onceM (netSend s to e).l = mput (onceM s.l) (s.n + 1) ⟨s.n + 1, to, e⟩ := by
  rw [send_room to e h]
  refine ⟨rfl, ?_⟩
  rw [(map_none _ ?_).1]
  · simp [onceM]
  · intro x hx
    simp only [onceM, List.mem_map] at hx
    obtain ⟨p, hp, rfl⟩ := hx
    have := hr.2 p hp
    simp only
    omega
theorem once_at {l : List api_Packet} (h : l.Pairwise (fun a b => a.f_Id < b.f_Id)) {j : Nat} (hj : j < l.length) (z : api_Packet) :
    mhas (onceM l) (l.getD j z).f_Id = true ∧ mget (onceM l) (l.getD j z).f_Id z = l.getD j z ∧ mdel (onceM l) (l.getD j z).f_Id = onceM (l.eraseIdx j) := by
  have e : l.getD j z = l[j] := by rw [List.getD_eq_getElem?_getD, List.getElem?_eq_getElem hj]; rfl
  have h1 : (onceM l)[j]? = some (l[j].f_Id, l[j]) := by simp [onceM, List.getElem?_eq_getElem hj]
  obtain ⟨_, m2, m3, m4⟩ := map_some (k := l[j].f_Id) z h1 rfl (fun i hi e' he' => by
    simp only [onceM, List.getElem?_map, List.getElem?_eq_getElem (show i < l.length by omega), Option.map_some, Option.some.injEq] at he'
    subst he'
    have := List.pairwise_iff_getElem.1 h i j (by omega) hj hi
    simp only
    omega)
  rw [e]
  refine ⟨m3, m2, m4.trans ?_⟩
  simp only [onceM, List.eraseIdx_eq_take_drop_succ, List.map_append, List.map_take, List.map_drop]
theorem okI_of {s : NetS} {i : Int} (h : netAtE s i = 0) : okI s i := Classical.byContradiction fun hn => by rw [atE_no hn] at h; cases h
theorem once_take {s : NetS} (hr : riseN s) {i : Int} (h : netAtE s i = 0) :
    mhas (onceM s.l) (netAt s i).f_Id = true ∧ netAt s i = mget (onceM s.l) (netAt s i).f_Id z_api_Packet ∧ onceM (netTake s i).l = mdel (onceM s.l) (netAt s i).f_Id ∧ (netTake s i).n = s.n := by
  have hc := okI_of h
  obtain ⟨h1, h2, h3⟩ := once_at hr.1 (j := i.toNat) (by have := hc.1; have := hc.2; omega) z_api_Packet
  rw [at_yes hc, take_yes hc]
  exact ⟨h1, h2.symm, h3.symm, rfl⟩
theorem take_none {s : NetS} {i : Int} (h : ¬ netAtE s i = 0) : netTake s i = s := take_no fun hc => h (atE_yes hc)
theorem twice_none {s : NetS} {i : Int} (h : ¬ netAtE s i = 0) : netTwice s i = s := twice_no fun hc => h (atE_yes hc)
theorem twice_full {s : NetS} {i : Int} (h : netAtE s i = 0) (h2 : ¬ netTwiceE s i = 0) : netTwice s i = s := by
  have hc := okI_of h
  rw [twice_yes hc]
  rw [twiceE_yes hc] at h2
  exact send_full h2
theorem once_twice {s : NetS} (hr : riseN s) {i : Int} (h : netAtE s i = 0) (h2 : netTwiceE s i = 0) : (netTwice s i).n = s.n + 1 ∧ onceM (netTwice s i).l = mput (onceM s.l) (s.n + 1) ⟨s.n + 1, (netAt s i).f_To, (netAt s i).f_Env⟩ := by
  have hc := okI_of h
  rw [twice_yes hc]
  rw [twiceE_yes hc] at h2
  exact once_put hr _ _ h2
theorem run_send {l : List quaestorlaw20_Act} {k : Nat} {x : quaestorlaw20_Act} (hk : k < l.length) (hx : l.getD k z_quaestorlaw20_Act = x) (h : x.f_Kind = 0) : runN l (k + 1) = netSend (runN l k) x.f_N x.f_E := by
  rw [runN_succ (z := z_quaestorlaw20_Act) hk, hx, stepN, if_pos h]
theorem run_take {l : List quaestorlaw20_Act} {k : Nat} {x : quaestorlaw20_Act} (hk : k < l.length) (hx : l.getD k z_quaestorlaw20_Act = x) (h : x.f_Kind = 1) : runN l (k + 1) = netTake (runN l k) x.f_N := by
  rw [runN_succ (z := z_quaestorlaw20_Act) hk, hx, stepN, if_neg (by omega), if_pos h]
theorem run_twice {l : List quaestorlaw20_Act} {k : Nat} {x : quaestorlaw20_Act} (hk : k < l.length) (hx : l.getD k z_quaestorlaw20_Act = x) (h : x.f_Kind = 2) : runN l (k + 1) = netTwice (runN l k) x.f_N := by
  rw [runN_succ (z := z_quaestorlaw20_Act) hk, hx, stepN, if_neg (by omega), if_neg (by omega), if_pos h]
theorem run_else {l : List quaestorlaw20_Act} {k : Nat} {x : quaestorlaw20_Act} (hk : k < l.length) (hx : l.getD k z_quaestorlaw20_Act = x) (h0 : ¬ x.f_Kind = 0) (h1 : ¬ x.f_Kind = 1) (h2 : ¬ x.f_Kind = 2) : runN l (k + 1) = runN l k := by
  rw [runN_succ (z := z_quaestorlaw20_Act) hk, hx, stepN, if_neg h0, if_neg h1, if_neg h2]
end Go.Proofs.Ytioenfjcbikbcaa.Q
