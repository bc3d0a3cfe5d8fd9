import Derived.Test.YtioenfjcbikbcaaK20
namespace Go.Proofs.Ytioenfjcbikbcaa.Q
set_option linter.unusedVariables false

/-! ### What a net is, and what it answers -/

structure NetS where
  l : List api_Packet
  n : Int

def ltMax : Nat := 2000
def okI (s : NetS) (i : Int) : Prop := 0 ≤ i ∧ i < (s.l.length : Nat)
instance (s : NetS) (i : Int) : Decidable (okI s i) := inferInstanceAs (Decidable (_ ∧ _))
def netSend (s : NetS) (to : Int) (e : api_Envelope) : NetS := if 2000 ≤ s.l.length then s else ⟨s.l ++ [⟨s.n + 1, to, e⟩], s.n + 1⟩
def netSendE (s : NetS) : Int := if 2000 ≤ s.l.length then 3 else 0
def netAt (s : NetS) (i : Int) : api_Packet := if okI s i then s.l.getD i.toNat z_api_Packet else z_api_Packet
def netAtE (s : NetS) (i : Int) : Int := if okI s i then 0 else 2
def netTake (s : NetS) (i : Int) : NetS := if okI s i then ⟨s.l.eraseIdx i.toNat, s.n⟩ else s
def netTwice (s : NetS) (i : Int) : NetS := if okI s i then netSend s (netAt s i).f_To (netAt s i).f_Env else s
def netTwiceE (s : NetS) (i : Int) : Int := if okI s i then netSendE s else 2

theorem at_no {s : NetS} {i : Int} (h : ¬ okI s i) : netAt s i = z_api_Packet := if_neg h
theorem at_yes {s : NetS} {i : Int} (h : okI s i) : netAt s i = s.l.getD i.toNat z_api_Packet := if_pos h
theorem atE_no {s : NetS} {i : Int} (h : ¬ okI s i) : netAtE s i = 2 := if_neg h
theorem atE_yes {s : NetS} {i : Int} (h : okI s i) : netAtE s i = 0 := if_pos h
theorem take_no {s : NetS} {i : Int} (h : ¬ okI s i) : netTake s i = s := if_neg h
theorem take_yes {s : NetS} {i : Int} (h : okI s i) : netTake s i = ⟨s.l.eraseIdx i.toNat, s.n⟩ := if_pos h
theorem twice_no {s : NetS} {i : Int} (h : ¬ okI s i) : netTwice s i = s := if_neg h
theorem twice_yes {s : NetS} {i : Int} (h : okI s i) : netTwice s i = netSend s (netAt s i).f_To (netAt s i).f_Env := if_pos h
theorem twiceE_no {s : NetS} {i : Int} (h : ¬ okI s i) : netTwiceE s i = 2 := if_neg h
theorem twiceE_yes {s : NetS} {i : Int} (h : okI s i) : netTwiceE s i = netSendE s := if_pos h
theorem send_no {s : NetS} {to : Int} {e : api_Envelope} (h : 2000 ≤ s.l.length) : netSend s to e = s := if_pos h
theorem send_yes {s : NetS} {to : Int} {e : api_Envelope} (h : ¬ 2000 ≤ s.l.length) : netSend s to e = ⟨s.l ++ [⟨s.n + 1, to, e⟩], s.n + 1⟩ := if_neg h
theorem sendE_no {s : NetS} (h : 2000 ≤ s.l.length) : netSendE s = 3 := if_pos h
theorem sendE_yes {s : NetS} (h : ¬ 2000 ≤ s.l.length) : netSendE s = 0 := if_neg h

/-- Small enough for the machine. -/
def smallE (e : api_Envelope) : Prop := e.f_Body.length ≤ 140737488355328
def smallN (s : NetS) : Prop := s.l.length ≤ 2000 ∧ 0 ≤ s.n ∧ s.n < 4611686018427387904 ∧ ∀ p, p ∈ s.l → smallE p.f_Env

instance (e : api_Envelope) : Decidable (smallE e) := inferInstanceAs (Decidable (_ ≤ _))
instance (s : NetS) : Decidable (smallN s) := inferInstanceAs (Decidable (_ ∧ _ ∧ _ ∧ ∀ p, p ∈ s.l → smallE p.f_Env))
theorem z_small : smallE z_api_Packet.f_Env := by simp [smallE, z_api_Packet, z_api_Envelope]
theorem small_getD {s : NetS} (h : smallN s) (k : Nat) : smallE (s.l.getD k z_api_Packet).f_Env := by
  rw [List.getD_eq_getElem?_getD]
  rcases Nat.lt_or_ge k s.l.length with hk | hk
  · rw [List.getElem?_eq_getElem hk]; exact h.2.2.2 _ (List.getElem_mem hk)
  · rw [List.getElem?_eq_none hk]; exact z_small
theorem small_at {s : NetS} (h : smallN s) (i : Int) : smallE (netAt s i).f_Env := by
  unfold netAt
  split
  · exact small_getD h _
  · exact z_small
theorem small_send {s : NetS} (h : smallN s) (hn : s.n < 4611686018427387903) (to : Int) {e : api_Envelope} (he : smallE e) : smallN (netSend s to e) := by
  unfold netSend
  split
  · exact h
  · rename_i h1
    refine ⟨by simp; omega, by simp only; have := h.2.1; omega, by simp only; omega, fun p hp => ?_⟩
    simp only [List.mem_append, List.mem_singleton] at hp
    rcases hp with hp | rfl
    · exact h.2.2.2 p hp
    · exact he
theorem small_take {s : NetS} (h : smallN s) (i : Int) : smallN (netTake s i) := by
  unfold netTake
  split
  · exact ⟨by have := List.length_eraseIdx_le s.l i.toNat; have := h.1; simp only; omega, h.2.1, h.2.2.1, fun p hp => h.2.2.2 p (List.mem_of_mem_eraseIdx hp)⟩
  · exact h

/-- An element taken out by a copy of what stands behind it. -/
theorem take_out {α : Type} (l : List α) (k : Nat) (h : k < l.length) (z : α) (m : Nat) (hm : m = l.length - (k + 1)) :
    ((l.take k ++ (l.drop (k + 1)).take m ++ l.drop (k + m)).set (l.length - 1) z).take (l.length - 1) = l.eraseIdx k := by
  subst hm
  rw [List.take_set_of_le (Nat.le_refl _), List.eraseIdx_eq_take_drop_succ, List.take_of_length_le (l := l.drop (k + 1)) (by simp),
    List.take_append_of_le_length (by simp; omega)]
  rw [List.take_of_length_le (by simp; omega)]
theorem er_ne {α : Type} {z : α} {l : List α} {k : Nat} {i : Int} (hk : k < l.length) (hn : (k : Int) ≠ i) (hi : 0 ≤ i) : (l.take (k + 1)).eraseIdx i.toNat = (l.take k).eraseIdx i.toNat ++ [l.getD k z] := by
  have hs : l.take (k + 1) = l.take k ++ [l.getD k z] := by rw [List.take_add_one, List.getD_eq_getElem?_getD, List.getElem?_eq_getElem hk]; rfl
  rw [hs]
  rcases Nat.lt_or_ge i.toNat k with h | h
  · rw [List.eraseIdx_append_of_lt_length (by simp; omega)]
  · rw [List.eraseIdx_of_length_le (by simp; omega), List.eraseIdx_of_length_le (by simp; omega)]
theorem er_eq {α : Type} {l : List α} {k : Nat} {i : Int} (hk : k < l.length) (hn : (k : Int) = i) : (l.take (k + 1)).eraseIdx i.toNat = (l.take k).eraseIdx i.toNat := by
  have hi : i.toNat = k := by omega
  have hs : l.take (k + 1) = l.take k ++ [l[k]] := by rw [List.take_add_one, List.getElem?_eq_getElem hk]; rfl
  rw [hi, hs, List.eraseIdx_append_of_length_le (by simp; omega), List.eraseIdx_of_length_le (l := l.take k) (by simp; omega)]
  have : k - (l.take k).length = 0 := by simp; omega
  rw [this]
  simp
theorem atE_ne {l : List api_Packet} {n i : Int} (h : netAtE (NetS.mk l n) i ≠ 0) : ¬ (0 ≤ i ∧ i < (l.length : Int)) := fun hy => h (atE_yes hy)
theorem atE_eq {l : List api_Packet} {n i : Int} (h : ¬ netAtE (NetS.mk l n) i ≠ 0) : 0 ≤ i ∧ i < (l.length : Int) := Classical.byContradiction fun hn => h (by rw [atE_no (s := NetS.mk l n) (i := i) hn]; decide)
theorem take_out2 {α : Type} {l : List α} {i : Int} {z : α} (h : 0 ≤ i ∧ i < (l.length : Int)) :
    ((l.take i.toNat ++ (l.drop (i + 1).toNat).take (min (l.length - (i + 1).toNat) (l.length - i.toNat)) ++ l.drop (i.toNat + min (l.length - (i + 1).toNat) (l.length - i.toNat))).set (((l.length : Nat) : Int) - 1).toNat z).take (((l.length : Nat) : Int) - 1).toNat = l.eraseIdx i.toNat := by
  have h1 : (i + 1).toNat = i.toNat + 1 := by omega
  have h2 : (((l.length : Nat) : Int) - 1).toNat = l.length - 1 := by omega
  rw [h1, h2]
  exact take_out l i.toNat (by omega) z _ (by omega)

/-! ### A full net -/

def zE : api_Envelope := ⟨0, []⟩
def roomN (k : Nat) : NetS := ⟨(List.range k).map fun (j : Nat) => ⟨((j : Nat) : Int) + 1, ((j : Nat) : Int), zE⟩, ((k : Nat) : Int)⟩
theorem room_len (k : Nat) : (roomN k).l.length = k := by simp [roomN]
theorem room_send {k : Nat} (h : k < 2000) : netSend (roomN k) ((k : Nat) : Int) zE = roomN (k + 1) := by
  rw [send_yes (by rw [room_len]; omega)]
  simp [roomN, List.range_succ]
theorem room_sendE {k : Nat} (h : k < 2000) : netSendE (roomN k) = 0 := sendE_yes (by rw [room_len]; omega)
theorem room_small {k : Nat} (h : k ≤ 2000) : smallN (roomN k) := ⟨by rw [room_len]; exact h, by simp [roomN], by simp only [roomN]; omega, fun p hp => by
  simp only [roomN, List.mem_map] at hp
  obtain ⟨j, _, rfl⟩ := hp
  simp [smallE, zE]⟩
theorem room_full (to : Int) (e : api_Envelope) : netSend (roomN 2000) to e = roomN 2000 := send_no (by rw [room_len]; omega)
theorem room_fullE : netSendE (roomN 2000) = 3 := sendE_no (by rw [room_len]; omega)
theorem room_ok0 : okI (roomN 2000) 0 := by unfold okI; rw [room_len]; omega
theorem room_ok5 : okI (roomN 2000) 5 := by unfold okI; rw [room_len]; omega
theorem room_twice : netTwice (roomN 2000) 0 = roomN 2000 := by rw [twice_yes room_ok0, room_full]
theorem room_twiceE : netTwiceE (roomN 2000) 0 = 3 := by rw [twiceE_yes room_ok0, room_fullE]
def roomT : NetS := netTake (roomN 2000) 5
theorem take5_len (s : NetS) (h : s.l.length = 2000) : (netTake s 5).l.length = 1999 := by
  have hc : okI s 5 := by unfold okI; rw [h]; omega
  rw [take_yes hc]
  show (s.l.eraseIdx _).length = _
  rw [List.length_eraseIdx_of_lt (by rw [h]; decide), h]
theorem take5_n (s : NetS) (h : s.l.length = 2000) : (netTake s 5).n = s.n := by
  have hc : okI s 5 := by unfold okI; rw [h]; omega
  rw [take_yes hc]
theorem roomT_len : roomT.l.length = 1999 := take5_len _ (room_len 2000)
theorem roomT_small : smallN roomT := small_take (room_small (Nat.le_refl _)) _
theorem roomT_n : roomT.n = 2000 := (take5_n _ (room_len 2000)).trans (by simp only [roomN]; rfl)
theorem roomT_ok0 : okI roomT 0 := by unfold okI; rw [roomT_len]; omega
theorem roomT_twiceE : netTwiceE roomT 0 = 0 := by rw [twiceE_yes roomT_ok0, sendE_yes (by rw [roomT_len]; omega)]
theorem roomT_twice_len : (netTwice roomT 0).l.length = 2000 := by
  rw [twice_yes roomT_ok0, send_yes (by rw [roomT_len]; omega)]
  simp [roomT_len]
theorem roomT_twice_small : smallN (netTwice roomT 0) := by
  rw [twice_yes roomT_ok0]
  exact small_send roomT_small (by rw [roomT_n]; decide) _ (small_at roomT_small 0)
theorem roomT_sendE : netSendE (netTwice roomT 0) = 3 := sendE_no (by rw [roomT_twice_len]; omega)
theorem roomT_send (to : Int) (e : api_Envelope) : netSend (netTwice roomT 0) to e = netTwice roomT 0 := send_no (by rw [roomT_twice_len]; omega)

/-! ### Rows -/

theorem tk_succ {α : Type} {z : α} {l : List α} {k : Nat} (hk : k < l.length) : l.take (k + 1) = l.take k ++ [l.getD k z] := by
  rw [List.take_add_one, List.getD_eq_getElem?_getD, List.getElem?_eq_getElem hk]; rfl
def fewA (l : List quaestorlaw20_Act) : Prop := l.length ≤ 300 ∧ ∀ x, x ∈ l → x.f_E.f_Body.length ≤ 200
instance (l : List quaestorlaw20_Act) : Decidable (fewA l) := inferInstanceAs (Decidable (_ ∧ ∀ x, x ∈ l → x.f_E.f_Body.length ≤ 200))
theorem few_no1 {l : List quaestorlaw20_Act} (h : ((l.length : Nat) : Int) > 300) : ¬ fewA l := fun h1 => by have := h1.1; omega
theorem few_no2 {l : List quaestorlaw20_Act} {k : Nat} {z : quaestorlaw20_Act} (hk : k < l.length) (h : (((l.getD k z).f_E.f_Body.length : Nat) : Int) > 200) : ¬ fewA l := fun h1 => by
  rw [List.getD_eq_getElem?_getD, List.getElem?_eq_getElem hk] at h
  have := h1.2 _ (List.getElem_mem hk)
  simp at h
  omega
theorem few_yes {l : List quaestorlaw20_Act} {k : Nat} {z : quaestorlaw20_Act} (h0 : ¬ ((l.length : Nat) : Int) > 300) (hk : l.length ≤ k) (h : ∀ j, j < k → (l.getD j z).f_E.f_Body.length ≤ 200) : fewA l := ⟨by omega, fun x hx => by
  obtain ⟨j, hj, rfl⟩ := List.getElem_of_mem hx
  have := h j (by omega)
  rw [List.getD_eq_getElem?_getD, List.getElem?_eq_getElem hj] at this
  exact this⟩
theorem all_succ {P : Nat → Prop} {k : Nat} (h : ∀ j, j < k → P j) (hk : P k) : ∀ j, j < k + 1 → P j := fun j hj => by
  rcases Nat.lt_or_ge j k with h1 | h1
  · exact h j h1
  · obtain rfl : j = k := by omega
    exact hk
theorem rows_eq {α : Type} {a b : List α} {z : α} {k : Nat} (hl : a.length = b.length) (hk : a.length ≤ k) (h : ∀ j, j < k → a.getD j z = b.getD j z) : a = b := by
  apply List.ext_getElem hl
  intro j h1 h2
  have := h j (by omega)
  simpa [List.getD_eq_getElem?_getD, List.getElem?_eq_getElem h1, List.getElem?_eq_getElem h2] using this

/-- An act. -/
def stepN (s : NetS) (x : quaestorlaw20_Act) : NetS :=
  if x.f_Kind = 0 then netSend s x.f_N x.f_E else if x.f_Kind = 1 then netTake s x.f_N else if x.f_Kind = 2 then netTwice s x.f_N else s

def runN (l : List quaestorlaw20_Act) (k : Nat) : NetS := (l.take k).foldl stepN ⟨[], 0⟩
theorem runN_zero (l : List quaestorlaw20_Act) : runN l 0 = ⟨[], 0⟩ := rfl
theorem runN_succ {l : List quaestorlaw20_Act} {k : Nat} {z : quaestorlaw20_Act} (hk : k < l.length) : runN l (k + 1) = stepN (runN l k) (l.getD k z) := by
  unfold runN
  rw [tk_succ (z := z) hk, List.foldl_append]
  rfl
theorem send_n (s : NetS) (to : Int) (e : api_Envelope) : (netSend s to e).n ≤ s.n + 1 := by
  unfold netSend; split
  · omega
  · simp
theorem step_small {s : NetS} (h : smallN s) (hn : s.n < 4611686018427387903) {x : quaestorlaw20_Act} (hx : x.f_E.f_Body.length ≤ 200) : smallN (stepN s x) := by
  unfold stepN
  split
  · exact small_send h hn _ (by unfold smallE; omega)
  · split
    · exact small_take h _
    · split
      · unfold netTwice
        split
        · exact small_send h hn _ (small_at h _)
        · exact h
      · exact h
theorem step_n (s : NetS) (x : quaestorlaw20_Act) : (stepN s x).n ≤ s.n + 1 := by
  unfold stepN
  split
  · exact send_n _ _ _
  · split
    · unfold netTake; split
      · simp only; omega
      · omega
    · split
      · unfold netTwice; split
        · exact send_n _ _ _
        · omega
      · omega
theorem run_ok {l : List quaestorlaw20_Act} (hf : fewA l) : ∀ k, k ≤ l.length → smallN (runN l k) ∧ (runN l k).n ≤ (k : Nat)
  | 0, _ => ⟨by rw [runN_zero]; decide, by rw [runN_zero]; decide⟩
  | k + 1, hk => by
    obtain ⟨h1, h2⟩ := run_ok hf k (by omega)
    have hl := hf.1
    rw [runN_succ (z := z_quaestorlaw20_Act) (by omega)]
    have hx : (l.getD k z_quaestorlaw20_Act).f_E.f_Body.length ≤ 200 := by
      rw [List.getD_eq_getElem?_getD, List.getElem?_eq_getElem (by omega)]
      exact hf.2 _ (List.getElem_mem _)
    exact ⟨step_small h1 (by omega) hx, by have := step_n (runN l k) (l.getD k z_quaestorlaw20_Act); omega⟩
theorem few_get {l : List quaestorlaw20_Act} (hf : fewA l) (k : Nat) : (l.getD k z_quaestorlaw20_Act).f_E.f_Body.length ≤ 200 := by
  rw [List.getD_eq_getElem?_getD]
  rcases Nat.lt_or_ge k l.length with hk | hk
  · rw [List.getElem?_eq_getElem hk]; exact hf.2 _ (List.getElem_mem hk)
  · rw [List.getElem?_eq_none hk]; decide

/-! ### The order of the packets -/

def riseN (s : NetS) : Prop := s.l.Pairwise (fun a b => a.f_Id < b.f_Id) ∧ ∀ p, p ∈ s.l → p.f_Id ≤ s.n
theorem rise_send {s : NetS} (h : riseN s) (to : Int) (e : api_Envelope) : riseN (netSend s to e) := by
  unfold netSend
  split
  · exact h
  · refine ⟨?_, fun p hp => ?_⟩
    · simp only
      rw [List.pairwise_append]
      refine ⟨h.1, by simp, fun a ha b hb => ?_⟩
      simp only [List.mem_singleton] at hb
      subst hb
      have := h.2 a ha
      simp only
      omega
    · simp only [List.mem_append, List.mem_singleton] at hp
      simp only
      rcases hp with hp | rfl
      · have := h.2 p hp; omega
      · simp only; omega
theorem rise_take {s : NetS} (h : riseN s) (i : Int) : riseN (netTake s i) := by
  unfold netTake
  split
  · exact ⟨h.1.sublist (List.eraseIdx_sublist _ _), fun p hp => h.2 p (List.mem_of_mem_eraseIdx hp)⟩
  · exact h
theorem rise_step {s : NetS} (h : riseN s) (x : quaestorlaw20_Act) : riseN (stepN s x) := by
  unfold stepN
  split
  · exact rise_send h _ _
  · split
    · exact rise_take h _
    · split
      · unfold netTwice
        split
        · exact rise_send h _ _
        · exact h
      · exact h
theorem rise_fold (l : List quaestorlaw20_Act) : ∀ s, riseN s → riseN (l.foldl stepN s) := by
  induction l with
  | nil => exact fun s h => h
  | cons x r ih => exact fun s h => ih _ (rise_step h x)
theorem rise_run (l : List quaestorlaw20_Act) (k : Nat) : riseN (runN l k) := rise_fold _ _ ⟨List.Pairwise.nil, fun p hp => by cases hp⟩
theorem rise_get {l : List api_Packet} (h : l.Pairwise (fun a b => a.f_Id < b.f_Id)) {j : Nat} {i : Int} (z : api_Packet) (h1 : 1 ≤ j) (h2 : j < l.length) (hi : i = (j : Int) - 1) : ¬ (l.getD j z).f_Id ≤ (l.getD i.toNat z).f_Id := by
  have e : i.toNat = j - 1 := by omega
  rw [e]
  have := List.pairwise_iff_getElem.1 h (j - 1) j (by omega) h2 (by omega)
  rw [List.getD_eq_getElem?_getD, List.getD_eq_getElem?_getD, List.getElem?_eq_getElem h2, List.getElem?_eq_getElem (by omega)]
  simp only [Option.getD_some]
  omega

/-! ### What was sent, and is still under way -/

def onceM (l : List api_Packet) : List (Int × api_Packet) := l.map fun p => (p.f_Id, p)
theorem once_len (l : List api_Packet) : (onceM l).length = l.length := by simp [onceM]
theorem send_full {s : NetS} {to : Int} {e : api_Envelope} (h : ¬ netSendE s = 0) : netSend s to e = s := by
  by_cases hc : 2000 ≤ s.l.length
  · exact send_no hc
  · exact absurd (sendE_yes hc) h
theorem send_room {s : NetS} (to : Int) (e : api_Envelope) (h : netSendE s = 0) : netSend s to e = ⟨s.l ++ [⟨s.n + 1, to, e⟩], s.n + 1⟩ := by
  by_cases hc : 2000 ≤ s.l.length
  · rw [sendE_no hc] at h; cases h
  · exact send_yes hc
theorem once_put {s : NetS} (hr : riseN s) (to : Int) (e : api_Envelope) (h : netSendE s = 0) : (netSend s to e).n = s.n + 1 ∧ onceM (netSend s to e).l = mput (onceM s.l) (s.n + 1) ⟨s.n + 1, to, e⟩ := by
  rw [send_room to e h]
  refine ⟨rfl, ?_⟩
  rw [(map_none _ ?_).1]
  · simp [onceM]
  · intro x hx
    simp only [onceM, List.mem_map] at hx
    obtain ⟨p, hp, rfl⟩ := hx
    have := hr.2 p hp
    simp only
    omega
theorem once_at {l : List api_Packet} (h : l.Pairwise (fun a b => a.f_Id < b.f_Id)) {j : Nat} (hj : j < l.length) (z : api_Packet) :
    mhas (onceM l) (l.getD j z).f_Id = true ∧ mget (onceM l) (l.getD j z).f_Id z = l.getD j z ∧ mdel (onceM l) (l.getD j z).f_Id = onceM (l.eraseIdx j) := by
  have e : l.getD j z = l[j] := by rw [List.getD_eq_getElem?_getD, List.getElem?_eq_getElem hj]; rfl
  have h1 : (onceM l)[j]? = some (l[j].f_Id, l[j]) := by simp [onceM, List.getElem?_eq_getElem hj]
  obtain ⟨_, m2, m3, m4⟩ := map_some (k := l[j].f_Id) z h1 rfl (fun i hi e' he' => by
    simp only [onceM, List.getElem?_map, List.getElem?_eq_getElem (show i < l.length by omega), Option.map_some, Option.some.injEq] at he'
    subst he'
    have := List.pairwise_iff_getElem.1 h i j (by omega) hj hi
    simp only
    omega)
  rw [e]
  refine ⟨m3, m2, m4.trans ?_⟩
  simp only [onceM, List.eraseIdx_eq_take_drop_succ, List.map_append, List.map_take, List.map_drop]
theorem okI_of {s : NetS} {i : Int} (h : netAtE s i = 0) : okI s i := Classical.byContradiction fun hn => by rw [atE_no hn] at h; cases h
theorem once_take {s : NetS} (hr : riseN s) {i : Int} (h : netAtE s i = 0) :
    mhas (onceM s.l) (netAt s i).f_Id = true ∧ netAt s i = mget (onceM s.l) (netAt s i).f_Id z_api_Packet ∧ onceM (netTake s i).l = mdel (onceM s.l) (netAt s i).f_Id ∧ (netTake s i).n = s.n := by
  have hc := okI_of h
  obtain ⟨h1, h2, h3⟩ := once_at hr.1 (j := i.toNat) (by have := hc.1; have := hc.2; omega) z_api_Packet
  rw [at_yes hc, take_yes hc]
  exact ⟨h1, h2.symm, h3.symm, rfl⟩
theorem take_none {s : NetS} {i : Int} (h : ¬ netAtE s i = 0) : netTake s i = s := take_no fun hc => h (atE_yes hc)
theorem twice_none {s : NetS} {i : Int} (h : ¬ netAtE s i = 0) : netTwice s i = s := twice_no fun hc => h (atE_yes hc)
theorem twice_full {s : NetS} {i : Int} (h : netAtE s i = 0) (h2 : ¬ netTwiceE s i = 0) : netTwice s i = s := by
  have hc := okI_of h
  rw [twice_yes hc]
  rw [twiceE_yes hc] at h2
  exact send_full h2
theorem once_twice {s : NetS} (hr : riseN s) {i : Int} (h : netAtE s i = 0) (h2 : netTwiceE s i = 0) : (netTwice s i).n = s.n + 1 ∧ onceM (netTwice s i).l = mput (onceM s.l) (s.n + 1) ⟨s.n + 1, (netAt s i).f_To, (netAt s i).f_Env⟩ := by
  have hc := okI_of h
  rw [twice_yes hc]
  rw [twiceE_yes hc] at h2
  exact once_put hr _ _ h2
theorem run_send {l : List quaestorlaw20_Act} {k : Nat} {x : quaestorlaw20_Act} (hk : k < l.length) (hx : l.getD k z_quaestorlaw20_Act = x) (h : x.f_Kind = 0) : runN l (k + 1) = netSend (runN l k) x.f_N x.f_E := by
  rw [runN_succ (z := z_quaestorlaw20_Act) hk, hx, stepN, if_pos h]
theorem run_take {l : List quaestorlaw20_Act} {k : Nat} {x : quaestorlaw20_Act} (hk : k < l.length) (hx : l.getD k z_quaestorlaw20_Act = x) (h : x.f_Kind = 1) : runN l (k + 1) = netTake (runN l k) x.f_N := by
  rw [runN_succ (z := z_quaestorlaw20_Act) hk, hx, stepN, if_neg (by omega), if_pos h]
theorem run_twice {l : List quaestorlaw20_Act} {k : Nat} {x : quaestorlaw20_Act} (hk : k < l.length) (hx : l.getD k z_quaestorlaw20_Act = x) (h : x.f_Kind = 2) : runN l (k + 1) = netTwice (runN l k) x.f_N := by
  rw [runN_succ (z := z_quaestorlaw20_Act) hk, hx, stepN, if_neg (by omega), if_neg (by omega), if_pos h]
theorem run_else {l : List quaestorlaw20_Act} {k : Nat} {x : quaestorlaw20_Act} (hk : k < l.length) (hx : l.getD k z_quaestorlaw20_Act = x) (h0 : ¬ x.f_Kind = 0) (h1 : ¬ x.f_Kind = 1) (h2 : ¬ x.f_Kind = 2) : runN l (k + 1) = runN l k := by
  rw [runN_succ (z := z_quaestorlaw20_Act) hk, hx, stepN, if_neg h0, if_neg h1, if_neg h2]
end Go.Proofs.Ytioenfjcbikbcaa.Q
namespace Go.Proofs.Ytioenfjcbikbcaa.Q
open Go Go.RowKit
set_option linter.unusedVariables false
set_option linter.unusedSimpArgs false
set_option maxRecDepth 100000
set_option maxHeartbeats 4000000
-- quaestor/quaestorref01.Same
theorem ref01_Same (ta : Bool) (na : Bool) (tb : Bool) (nb : Bool) (a : List UInt8) (b : List UInt8) : Holds Try.prog 28 ⟨[slV ta na kU8 a, slV tb nb kU8 b], [], dv (.bool (decide (a = b))), []⟩ := by
 refine Holds.of Try.func28 rfl (N := 10) Try.ntmps28 rfl fun w0 B0 S0 U0 => ?_
 show T _ (mkBase 10 0 w0 S0 U0 B0) ⟨[slV ta na kU8 a, slV tb nb kU8 b], []⟩ _ _
 refine sR [] ?_
 refine sR [hR 1 rfl rfl (q_strOf () a (ys := (.d (dsl ta na kU8 a))) (rhs := []) Try.underlying27 Try.underlying5 Try.underlying9 (src_sl ta na kU8 a) (lt_of rfl) trivial),
   hR 3 rfl rfl (q_strOf () b (ys := (.d (dsl tb nb kU8 b))) (rhs := []) Try.underlying27 Try.underlying5 Try.underlying9 (src_sl tb nb kU8 b) (lt_of rfl) trivial)] ?_
 refine T.ret ?_
 exact tE (.inl rfl) [.t 4 (.one (.d (.val (.bool (decide (a = b))))))] ⟨⟨rfl, by kernel_rfl⟩, trivial⟩ [] rfl rfl rfl rfl rfl rfl trivial
end Go.Proofs.Ytioenfjcbikbcaa.Q
namespace Go.Proofs.Ytioenfjcbikbcaa.Q
open Go Go.RowKit
set_option linter.unusedVariables false
set_option linter.unusedSimpArgs false
set_option maxRecDepth 100000
set_option maxHeartbeats 4000000
theorem iat_5 : Try.prog.info? 5 = some Try.t5 := by kernel_rfl
theorem zero_5 : Zero Try.prog 5 [.int .u8 0] := ⟨_, _, iat_5, rfl, rfl⟩
theorem elem_27 : Elem Try.prog 27 5 1 1 := ⟨Try.underlying27, _, _, iat_5, rfl, rfl, rfl, rfl, by decide⟩
-- slices.Clone[[]byte,byte]
theorem clone_u8 (ta : Bool) (na : Bool) (a : List UInt8) (hp : a.length ≤ 140737488355328) : Holds Try.prog 29 ⟨[slV ta na kU8 a], [], ownV 0 kU8 0 a.length, [.live (arrK 5 kU8 a)]⟩ := by
 refine Holds.of Try.func29 rfl (N := 8) Try.ntmps29 rfl fun w0 B0 S0 U0 => ?_
 show T _ (mkBase 8 0 w0 S0 U0 B0) ⟨[slV ta na kU8 a], []⟩ _ _
 cases na
 ·refine T.nilOr (k := 0) rfl (fun h0 => ?_) ?_
  ·have h0 := List.eq_nil_of_length_eq_zero h0
   subst h0
   show T _ _ ⟨[dv (.slice none 0 0)], []⟩ _ _
   refine sR [] ?_
   refine T.seq ?_
   refine sR [hR 1 rfl rfl (r_bin (u1 := .slice none 0 0) (u2 := .slice none 0 0) (v := .bool true) (b_eqlNilS Try.underlying27) (lt_of rfl) ⟨rfl, trivial⟩)] ?_
   refine cT (b := true) rfl ?_
   refine sR [] ?_
   refine T.ret ?_
   refine rT ?_
   refine Ends.turn (s' := ⟨[dv (.slice none 0 0), aa, dv (.slice none 0 0), aa, dv (.bool true)], []⟩) (fun _ _ hG => Gs.norm (by kernel_rfl) hG) ?_
   refine Ends.turn (s' := ⟨[dv (.slice none 0 0), aa, ownV 0 kU8 0 0, aa, dv (.bool true)], [.live (arrK 5 kU8 ([] : List UInt8))]⟩) (fun _ _ hG => Gs.absent 0 2 5 kU8 rfl rfl hG) ?_
   exact tE (.inl rfl) [.t 2 (.one (.own 0 kU8.sz 0 0))] ⟨⟨rfl, by kernel_rfl⟩, trivial⟩ [0] (by have e1 : (([] : List UInt8).length : Nat) = 0 := (by rfl); have hE := congrArg (fun (q1 : Nat) => (ownV 0 kU8 0 q1 : AV)) e1; exact hE) rfl rfl rfl rfl rfl ⟨⟨rfl, (by kernel_rfl)⟩, trivial⟩
  ·show T _ _ ⟨[slV ta true kU8 a], []⟩ _ _
   refine sR [] ?_
   refine T.seq ?_
   refine sR [hR 1 rfl rfl (r_eqNil (s := .d (dsl ta true kU8 a)) Try.underlying27 (.inl rfl) (lt_of rfl) ⟨rfl, trivial⟩)] ?_
   refine cF (b := false) rfl ?_
   refine T.skip ?_
   refine nT ?_
   refine sR [hR 0 rfl rfl (q_buildSlice 0 5 kU8 kU8_ok ([] : List UInt8) [] (cs := []) Try.underlying27 iat_5 rfl zero_5 rfl rfl rfl (Nat.le_of_ble_eq_true rfl) part_ok (by kernel_rfl) (wk_eq (by kernel_rfl)) (lt_of rfl) trivial),
     hR 2 rfl rfl (q_appendO 0 1 5 1 kU8 kU8_ok ([] : List UInt8) a a ([] : List UInt8).length (sy := (.d (dsl ta true kU8 a))) (rhs := []) elem_27 (by omega) (src_sl ta true kU8 a) (by simp) (by (simp [maxLen, -List.getD_eq_getElem?_getD] <;> omega)) (by (simp [maxLen, -List.getD_eq_getElem?_getD] <;> omega)) (lt_of rfl) trivial)] ?_
   refine T.ret ?_
   exact tE (.inl rfl) [.t 2 (.one (.own 1 kU8.sz 0 a.length))] ⟨⟨rfl, by kernel_rfl⟩, trivial⟩ [1] rfl rfl rfl rfl rfl rfl ⟨⟨rfl, (by kernel_rfl)⟩, trivial⟩
 ·refine sR [] ?_
  refine T.seq ?_
  refine sR [hR 1 rfl rfl (r_eqNil (s := .d (dsl ta true kU8 a)) Try.underlying27 (.inl rfl) (lt_of rfl) ⟨rfl, trivial⟩)] ?_
  refine cF (b := false) rfl ?_
  refine T.skip ?_
  refine nT ?_
  refine sR [hR 0 rfl rfl (q_buildSlice 0 5 kU8 kU8_ok ([] : List UInt8) [] (cs := []) Try.underlying27 iat_5 rfl zero_5 rfl rfl rfl (Nat.le_of_ble_eq_true rfl) part_ok (by kernel_rfl) (wk_eq (by kernel_rfl)) (lt_of rfl) trivial),
    hR 2 rfl rfl (q_appendO 0 1 5 1 kU8 kU8_ok ([] : List UInt8) a a ([] : List UInt8).length (sy := (.d (dsl ta true kU8 a))) (rhs := []) elem_27 (by omega) (src_sl ta true kU8 a) (by simp) (by (simp [maxLen, -List.getD_eq_getElem?_getD] <;> omega)) (by (simp [maxLen, -List.getD_eq_getElem?_getD] <;> omega)) (lt_of rfl) trivial)] ?_
  refine T.ret ?_
  exact tE (.inl rfl) [.t 2 (.one (.own 1 kU8.sz 0 a.length))] ⟨⟨rfl, by kernel_rfl⟩, trivial⟩ [1] rfl rfl rfl rfl rfl rfl ⟨⟨rfl, (by kernel_rfl)⟩, trivial⟩
end Go.Proofs.Ytioenfjcbikbcaa.Q
namespace Go.Proofs.Ytioenfjcbikbcaa.Q
open Go Go.RowKit
set_option linter.unusedVariables false
set_option linter.unusedSimpArgs false
set_option maxRecDepth 100000
set_option maxHeartbeats 4000000
theorem iat_3 : Try.prog.info? 3 = some Try.t3 := by kernel_rfl
theorem fld_29_0 : FieldAt Try.prog 29 0 0 := ⟨_, _, _, Try.underlying29, rfl, iat_3, by decide, rfl⟩
theorem wide_3 : Wide Try.prog 3 none := ⟨_, Try.underlying3, (fun _ h => by cases h), (fun _ _ h => by cases h)⟩
theorem iat_27 : Try.prog.info? 27 = some Try.t27 := by kernel_rfl
theorem fld_29_1 : FieldAt Try.prog 29 1 1 := ⟨_, _, _, Try.underlying29, rfl, iat_27, by decide, rfl⟩
theorem wide_27 : Wide Try.prog 27 none := ⟨_, Try.underlying27, (fun _ h => by cases h), (fun _ _ h => by cases h)⟩
-- quaestor/quaestorref03.Same
theorem ref03_Same (ta : Bool) (tb : Bool) (a : api_Envelope) (b : api_Envelope) : Holds Try.prog 22 ⟨[.tv (.agg [.d (.val (.int .i64 a.f_Signer)), .d (dsl ta false kU8 a.f_Body)]), .tv (.agg [.d (.val (.int .i64 b.f_Signer)), .d (dsl tb false kU8 b.f_Body)])], [], dv (.bool (decide (a = b))), []⟩ := by
 refine Holds.of Try.func22 rfl (N := 17) Try.ntmps22 rfl fun w0 B0 S0 U0 => ?_
 show T _ (mkBase 17 0 w0 S0 U0 B0) ⟨[.tv (.agg [.d (.val (.int .i64 a.f_Signer)), .d (dsl ta false kU8 a.f_Body)]), .tv (.agg [.d (.val (.int .i64 b.f_Signer)), .d (dsl tb false kU8 b.f_Body)])], []⟩ _ _
 refine sR [] ?_
 by_cases hq1 : a.f_Signer = b.f_Signer
 ·refine sR [hY 6 (decide_eq_true hq1),
    hY 7 (decide_eq_true hq1),
    hY 8 (decide_eq_true hq1),
    hY 9 (decide_eq_true hq1),
    hS 10 (oY rfl rfl rfl rfl (lt_of rfl) (decide_eq_true hq1) (r_call (ref01_Same ta false tb false a.f_Body b.f_Body ) Try.func28 rfl (by decide) [] [] (l := [(.tmp 12, slV ta false kU8 a.f_Body), (.tmp 14, slV tb false kU8 b.f_Body)]) [] rfl 0 0 rfl rfl rfl rfl rfl rfl rfl rfl rfl ⟨.inl ⟨rfl, rfl⟩, ⟨.inl ⟨rfl, rfl⟩, trivial⟩⟩ rfl (fun b hb => by cases hb) (.inl rfl) (lt_of rfl) (by exact trivial))),
    hP 11 (decide_eq_true hq1)] ?_
  refine T.ret ?_
  exact tE (.inl rfl) [.t 4 (.one (.d (.val (.bool (decide (a.f_Body = b.f_Body))))))] ⟨⟨rfl, by kernel_rfl⟩, trivial⟩ [] (by have e1 : ((decide (a = b)) : Bool) = (decide (a.f_Body = b.f_Body)) := (by simp [api_Envelope_iff, *]); have hE := congrArg (fun (q1 : Bool) => (dv (.bool q1) : AV)) e1; exact hE) rfl rfl rfl rfl rfl trivial
 ·refine sR [hN 6 true (decide_eq_false hq1),
    hN 7 true (decide_eq_false hq1),
    hN 8 true (decide_eq_false hq1),
    hN 9 true (decide_eq_false hq1),
    hN 10 true (decide_eq_false hq1),
    hP 11 (decide_eq_false hq1)] ?_
  refine T.ret ?_
  exact tE (.inl rfl) [.t 4 (.one (.d (.val (.bool false))))] ⟨⟨rfl, by kernel_rfl⟩, trivial⟩ [] (by have e1 : ((decide (a = b)) : Bool) = false := (by simp [api_Envelope_iff, *]); have hE := congrArg (fun (q1 : Bool) => (dv (.bool q1) : AV)) e1; exact hE) rfl rfl rfl rfl rfl trivial
end Go.Proofs.Ytioenfjcbikbcaa.Q
namespace Go.Proofs.Ytioenfjcbikbcaa.Q
open Go Go.RowKit
set_option linter.unusedVariables false
set_option linter.unusedSimpArgs false
set_option maxRecDepth 100000
set_option maxHeartbeats 4000000
theorem fld_35_0 : FieldAt Try.prog 35 0 0 := ⟨_, _, _, Try.underlying35, rfl, iat_3, by decide, rfl⟩
theorem fld_35_1 : FieldAt Try.prog 35 1 1 := ⟨_, _, _, Try.underlying35, rfl, iat_3, by decide, rfl⟩
theorem iat_29 : Try.prog.info? 29 = some Try.t29 := by kernel_rfl
theorem fld_35_2 : FieldAt Try.prog 35 2 2 := ⟨_, _, _, Try.underlying35, rfl, iat_29, by decide, rfl⟩
theorem wide_29 : Wide Try.prog 29 (some 2) := ⟨_, _, Try.underlying29, .inl ⟨_, rfl⟩, iat_29, rfl⟩
-- quaestor/quaestorref20.Same
theorem ref20_Same (ta : Bool) (tb : Bool) (a : api_Packet) (b : api_Packet) : Holds Try.prog 13 ⟨[.tv (.agg [.d (.val (.int .i64 a.f_Id)), .d (.val (.int .i64 a.f_To)), .d (.val (.int .i64 a.f_Env.f_Signer)), .d (dsl ta false kU8 a.f_Env.f_Body)]), .tv (.agg [.d (.val (.int .i64 b.f_Id)), .d (.val (.int .i64 b.f_To)), .d (.val (.int .i64 b.f_Env.f_Signer)), .d (dsl tb false kU8 b.f_Env.f_Body)])], [], dv (.bool (decide (a = b))), []⟩ := by
 refine Holds.of Try.func13 rfl (N := 24) Try.ntmps13 rfl fun w0 B0 S0 U0 => ?_
 show T _ (mkBase 24 0 w0 S0 U0 B0) ⟨[.tv (.agg [.d (.val (.int .i64 a.f_Id)), .d (.val (.int .i64 a.f_To)), .d (.val (.int .i64 a.f_Env.f_Signer)), .d (dsl ta false kU8 a.f_Env.f_Body)]), .tv (.agg [.d (.val (.int .i64 b.f_Id)), .d (.val (.int .i64 b.f_To)), .d (.val (.int .i64 b.f_Env.f_Signer)), .d (dsl tb false kU8 b.f_Env.f_Body)])], []⟩ _ _
 refine sR [] ?_
 by_cases hq1 : a.f_Id = b.f_Id
 ·by_cases hq2 : a.f_To = b.f_To
  ·refine sR [hY 6 (decide_eq_true hq1),
     hY 7 (decide_eq_true hq1),
     hY 8 (decide_eq_true hq1),
     hY 9 (decide_eq_true hq1),
     hY 10 (decide_eq_true hq1),
     hP 11 (decide_eq_true hq1),
     hY 13 (decide_eq_true hq2),
     hY 14 (decide_eq_true hq2),
     hY 15 (decide_eq_true hq2),
     hY 16 (decide_eq_true hq2),
     hS 17 (oY rfl rfl rfl rfl (lt_of rfl) (decide_eq_true hq2) (r_call (ref03_Same ta tb a.f_Env b.f_Env ) Try.func22 rfl (by decide) [] [] (l := [(.tmp 19, .tv (.agg [.d (.val (.int .i64 a.f_Env.f_Signer)), .d (dsl ta false kU8 a.f_Env.f_Body)])), (.tmp 21, .tv (.agg [.d (.val (.int .i64 b.f_Env.f_Signer)), .d (dsl tb false kU8 b.f_Env.f_Body)]))]) [] rfl 0 0 rfl rfl rfl rfl rfl rfl rfl rfl rfl ⟨⟨.inl ⟨rfl, rfl⟩, ⟨.inl ⟨rfl, rfl⟩, trivial⟩⟩, ⟨⟨.inl ⟨rfl, rfl⟩, ⟨.inl ⟨rfl, rfl⟩, trivial⟩⟩, trivial⟩⟩ rfl (fun b hb => by cases hb) (.inl rfl) (lt_of rfl) (by exact trivial))),
     hP 18 (decide_eq_true hq2)] ?_
   refine T.ret ?_
   exact tE (.inl rfl) [.t 4 (.one (.d (.val (.bool (decide (a.f_Env = b.f_Env))))))] ⟨⟨rfl, by kernel_rfl⟩, trivial⟩ [] (by have e1 : ((decide (a = b)) : Bool) = (decide (a.f_Env = b.f_Env)) := (by simp [api_Packet_iff, *]); have hE := congrArg (fun (q1 : Bool) => (dv (.bool q1) : AV)) e1; exact hE) rfl rfl rfl rfl rfl trivial
  ·refine sR [hY 6 (decide_eq_true hq1),
     hY 7 (decide_eq_true hq1),
     hY 8 (decide_eq_true hq1),
     hY 9 (decide_eq_true hq1),
     hY 10 (decide_eq_true hq1),
     hP 11 (decide_eq_true hq1),
     hN 13 true (decide_eq_false hq2),
     hN 14 true (decide_eq_false hq2),
     hN 15 true (decide_eq_false hq2),
     hN 16 true (decide_eq_false hq2),
     hN 17 true (decide_eq_false hq2),
     hP 18 (decide_eq_false hq2)] ?_
   refine T.ret ?_
   exact tE (.inl rfl) [.t 4 (.one (.d (.val (.bool false))))] ⟨⟨rfl, by kernel_rfl⟩, trivial⟩ [] (by have e1 : ((decide (a = b)) : Bool) = false := (by simp [api_Packet_iff, *]); have hE := congrArg (fun (q1 : Bool) => (dv (.bool q1) : AV)) e1; exact hE) rfl rfl rfl rfl rfl trivial
 ·refine sR [hN 6 true (decide_eq_false hq1),
    hN 7 true (decide_eq_false hq1),
    hN 8 true (decide_eq_false hq1),
    hN 9 true (decide_eq_false hq1),
    hN 10 true (decide_eq_false hq1),
    hP 11 (decide_eq_false hq1),
    hN 13 (b := false) true rfl,
    hN 14 (b := false) true rfl,
    hN 15 (b := false) true rfl,
    hN 16 (b := false) true rfl,
    hN 17 (b := false) true rfl,
    hP 18 (b := false) (w := false) rfl] ?_
  refine T.ret ?_
  exact tE (.inl rfl) [.t 4 (.one (.d (.val (.bool false))))] ⟨⟨rfl, by kernel_rfl⟩, trivial⟩ [] (by have e1 : ((decide (a = b)) : Bool) = false := (by simp [api_Packet_iff, *]); have hE := congrArg (fun (q1 : Bool) => (dv (.bool q1) : AV)) e1; exact hE) rfl rfl rfl rfl rfl trivial
end Go.Proofs.Ytioenfjcbikbcaa.Q
namespace Go.Proofs.Ytioenfjcbikbcaa.Q
open Go Go.RowKit
set_option linter.unusedVariables false
set_option linter.unusedSimpArgs false
set_option maxRecDepth 100000
set_option maxHeartbeats 4000000
theorem iat_35 : Try.prog.info? 35 = some Try.t35 := by kernel_rfl
theorem zero_35 : Zero Try.prog 35 [.int .i64 0, .int .i64 0, .int .i64 0, .slice none 0 0] := ⟨_, _, iat_35, rfl, rfl⟩
theorem cells_27 : Cells Try.prog 27 1 := ⟨_, iat_27, rfl⟩
theorem wide_35 : Wide Try.prog 35 (some 4) := ⟨_, _, Try.underlying35, .inl ⟨_, rfl⟩, iat_35, rfl⟩
theorem cells_35 : Cells Try.prog 35 4 := ⟨_, iat_35, rfl⟩
-- quaestor/net.twin
theorem net_twin_o (tp : Bool) (p : api_Packet) (hp : p.f_Env.f_Body.length ≤ 140737488355328) : Holds Try.prog 23 ⟨[.tv (.agg [.d (.val (.int .i64 p.f_Id)), .d (.val (.int .i64 p.f_To)), .d (.val (.int .i64 p.f_Env.f_Signer)), .d (dsl tp false kU8 p.f_Env.f_Body)])], [], .tv (.agg [.d (.val (.int .i64 p.f_Id)), .d (.val (.int .i64 p.f_To)), .d (.val (.int .i64 p.f_Env.f_Signer)), .own 0 kU8.sz 0 p.f_Env.f_Body.length]), [.live (arrK 5 kU8 p.f_Env.f_Body)]⟩ := by
 refine Holds.of Try.func23 rfl (N := 10) Try.ntmps23 rfl fun w0 B0 S0 U0 => ?_
 show T _ (mkBase 10 0 w0 S0 U0 B0) ⟨[.tv (.agg [.d (.val (.int .i64 p.f_Id)), .d (.val (.int .i64 p.f_To)), .d (.val (.int .i64 p.f_Env.f_Signer)), .d (dsl tp false kU8 p.f_Env.f_Body)])], []⟩ _ _
 refine sR [] ?_
 refine sR [hR 3 rfl rfl (r_call (clone_u8 tp false p.f_Env.f_Body (by first | assumption | omega | (unfold maxLen; omega) | (simp [maxLen, -List.getD_eq_getElem?_getD] <;> omega) | decide)) Try.func29 rfl (by decide) [2] [] (l := [(.tmp 5, slV tp false kU8 p.f_Env.f_Body)]) [] rfl 0 1 rfl rfl rfl rfl rfl rfl rfl rfl rfl ⟨.inl ⟨rfl, rfl⟩, trivial⟩ rfl (fun b hb => by cases hb) (.inl rfl) (lt_of rfl) trivial)] ?_
 refine sR [] ?_
 refine T.ret ?_
 exact tE (.inl rfl) [.c 2 1 35 0 35 [.d (.val (.int .i64 p.f_Id)), .d (.val (.int .i64 p.f_To)), .d (.val (.int .i64 p.f_Env.f_Signer)), .own 2 kU8.sz 0 p.f_Env.f_Body.length] (.agg [.d (.val (.int .i64 p.f_Id)), .d (.val (.int .i64 p.f_To)), .d (.val (.int .i64 p.f_Env.f_Signer)), .own 2 kU8.sz 0 p.f_Env.f_Body.length])] ⟨⟨rfl, rfl, by kernel_rfl, by kernel_rfl, .inl ⟨4, wide_35, rfl, Nat.le_of_ble_eq_true rfl⟩⟩, trivial⟩ [2] rfl rfl rfl rfl rfl rfl ⟨⟨rfl, (by kernel_rfl)⟩, trivial⟩
end Go.Proofs.Ytioenfjcbikbcaa.Q
namespace Go.Proofs.Ytioenfjcbikbcaa.Q
open Go Go.RowKit
set_option linter.unusedVariables false
set_option linter.unusedSimpArgs false
set_option maxRecDepth 100000
set_option maxHeartbeats 4000000
abbrev z7277_0 (p : api_Packet) : SV := .d (.val (.int .i64 p.f_Id))
abbrev z7277_1 (p : api_Packet) : SV := .d (.val (.int .i64 p.f_To))
abbrev z7277_2 (p : api_Packet) : SV := .d (.val (.int .i64 p.f_Env.f_Signer))
abbrev z7277_3 (tp : Bool) (p : api_Packet) : AV := .tv (.agg [(z7277_0 p), (z7277_1 p), (z7277_2 p), .d (dsl tp false kU8 p.f_Env.f_Body)])
abbrev z7277_4 (p : api_Packet) : HS := .live (.box 35 [(z7277_0 p), (z7277_1 p), (z7277_2 p), .own 2 kU8.sz 0 p.f_Env.f_Body.length])
abbrev z7277_5 (tp : Bool) (p : api_Packet) : St := ⟨[(z7277_3 tp p), pv 0 0, pv 1 0], [(z7277_4 p), (z7277_4 p), .live (arrK 5 kU8 p.f_Env.f_Body)]⟩
abbrev z7277_6 (p : api_Packet) : List SV := [(z7277_0 p), (z7277_1 p), (z7277_2 p), .d (dsl false false kU8 p.f_Env.f_Body)]
-- quaestor/net.twin
theorem net_twin (tp : Bool) (p : api_Packet) (hp : p.f_Env.f_Body.length ≤ 140737488355328) : Holds Try.prog 23 ⟨[.tv (.agg [.d (.val (.int .i64 p.f_Id)), .d (.val (.int .i64 p.f_To)), .d (.val (.int .i64 p.f_Env.f_Signer)), .d (dsl tp false kU8 p.f_Env.f_Body)])], [], .tv (.agg [.d (.val (.int .i64 p.f_Id)), .d (.val (.int .i64 p.f_To)), .d (.val (.int .i64 p.f_Env.f_Signer)), .d (dsl false false kU8 p.f_Env.f_Body)]), []⟩ := by
 refine Holds.of Try.func23 rfl (N := 10) Try.ntmps23 rfl fun w0 B0 S0 U0 => ?_
 show T _ (mkBase 10 0 w0 S0 U0 B0) ⟨[(z7277_3 tp p)], []⟩ _ _
 refine sR [] ?_
 refine sR [hR 3 rfl rfl (r_call (clone_u8 tp false p.f_Env.f_Body (by first | assumption | omega | (unfold maxLen; omega) | (simp [maxLen, -List.getD_eq_getElem?_getD] <;> omega) | decide)) Try.func29 rfl (by decide) [2] [] (l := [(.tmp 5, slV tp false kU8 p.f_Env.f_Body)]) [] rfl 0 1 rfl rfl rfl rfl rfl rfl rfl rfl rfl ⟨.inl ⟨rfl, rfl⟩, trivial⟩ rfl (fun b hb => by cases hb) (.inl rfl) (lt_of rfl) trivial)] ?_
 refine sR [] ?_
 refine T.ret ?_
 refine Ends.turn (s' := (z7277_5 tp p)) (fun _ _ hG => Gs.norm (by kernel_rfl) hG) ?_
 refine Ends.turn (s' := ⟨[(z7277_3 tp p), pv 0 0, pv 1 0], [.live (.box 35 (z7277_6 p)), .live (.box 35 (z7277_6 p)), .dead]⟩) (fun _ _ hG => Gs.freeze (s := (z7277_5 tp p)) 2 (el := elOf kU8 p.f_Env.f_Body) (sz := kU8.sz) (n := p.f_Env.f_Body.length) rfl ⟨.inl rfl, (kk2 trivial)⟩ ⟨(.inr ⟨by decide, .inr ⟨rfl, ⟨.inl rfl, (kk2 ⟨(.inr ⟨rfl, rfl, rfl, (fun h => by cases h), rfl, rfl, Nat.le_of_eq (Nat.zero_add _), fun i j _ => by rw [Nat.zero_add]⟩), trivial⟩)⟩⟩⟩), ⟨(.inr ⟨by decide, .inr ⟨rfl, ⟨.inl rfl, (kk2 ⟨(.inr ⟨rfl, rfl, rfl, (fun h => by cases h), rfl, rfl, Nat.le_of_eq (Nat.zero_add _), fun i j _ => by rw [Nat.zero_add]⟩), trivial⟩)⟩⟩⟩), ⟨(.inl ⟨rfl, rfl⟩), trivial⟩⟩⟩ hG) ?_
 exact tE (.inl rfl) [.c 2 1 35 0 35 [(z7277_0 p), (z7277_1 p), (z7277_2 p), .d (dsl false false kU8 p.f_Env.f_Body)] (.agg (z7277_6 p))] ⟨⟨rfl, rfl, by kernel_rfl, by kernel_rfl, .inl ⟨4, wide_35, rfl, Nat.le_of_ble_eq_true rfl⟩⟩, trivial⟩ [] rfl rfl rfl rfl rfl rfl trivial
end Go.Proofs.Ytioenfjcbikbcaa.Q
namespace Go.Proofs.Ytioenfjcbikbcaa.Q
open Go Go.RowKit
set_option linter.unusedVariables false
set_option linter.unusedSimpArgs false
set_option maxRecDepth 100000
set_option maxHeartbeats 4000000
-- quaestor/quaestorref20.twin
theorem ref_twin_o (tp : Bool) (p : api_Packet) (hp : p.f_Env.f_Body.length ≤ 140737488355328) : Holds Try.prog 27 ⟨[.tv (.agg [.d (.val (.int .i64 p.f_Id)), .d (.val (.int .i64 p.f_To)), .d (.val (.int .i64 p.f_Env.f_Signer)), .d (dsl tp false kU8 p.f_Env.f_Body)])], [], .tv (.agg [.d (.val (.int .i64 p.f_Id)), .d (.val (.int .i64 p.f_To)), .d (.val (.int .i64 p.f_Env.f_Signer)), .own 0 kU8.sz 0 p.f_Env.f_Body.length]), [.live (arrK 5 kU8 p.f_Env.f_Body)]⟩ := by
 refine Holds.of Try.func27 rfl (N := 11) Try.ntmps27 rfl fun w0 B0 S0 U0 => ?_
 show T _ (mkBase 11 0 w0 S0 U0 B0) ⟨[.tv (.agg [.d (.val (.int .i64 p.f_Id)), .d (.val (.int .i64 p.f_To)), .d (.val (.int .i64 p.f_Env.f_Signer)), .d (dsl tp false kU8 p.f_Env.f_Body)])], []⟩ _ _
 refine sR [] ?_
 refine sR [hR 0 rfl rfl (q_buildSlice 2 5 kU8 kU8_ok ([] : List UInt8) [] (cs := []) Try.underlying27 iat_5 rfl zero_5 rfl rfl rfl (Nat.le_of_ble_eq_true rfl) part_ok (by kernel_rfl) (wk_eq (by kernel_rfl)) (lt_of rfl) trivial),
   hR 4 rfl rfl (q_appendO 2 3 5 1 kU8 kU8_ok ([] : List UInt8) p.f_Env.f_Body p.f_Env.f_Body ([] : List UInt8).length (sy := (.d (dsl tp false kU8 p.f_Env.f_Body))) (rhs := []) elem_27 (by first | assumption | omega | (unfold maxLen; omega) | (simp [maxLen, -List.getD_eq_getElem?_getD] <;> omega) | decide) (src_sl tp false kU8 p.f_Env.f_Body) (by simp) (by first | assumption | omega | (unfold maxLen; omega) | (simp [maxLen, -List.getD_eq_getElem?_getD] <;> omega) | decide) (by first | assumption | omega | (unfold maxLen; omega) | (simp [maxLen, -List.getD_eq_getElem?_getD] <;> omega) | decide) (lt_of rfl) trivial)] ?_
 refine sR [] ?_
 refine T.ret ?_
 exact tE (.inl rfl) [.c 2 1 35 0 35 [.d (.val (.int .i64 p.f_Id)), .d (.val (.int .i64 p.f_To)), .d (.val (.int .i64 p.f_Env.f_Signer)), .own 3 kU8.sz 0 p.f_Env.f_Body.length] (.agg [.d (.val (.int .i64 p.f_Id)), .d (.val (.int .i64 p.f_To)), .d (.val (.int .i64 p.f_Env.f_Signer)), .own 3 kU8.sz 0 p.f_Env.f_Body.length])] ⟨⟨rfl, rfl, by kernel_rfl, by kernel_rfl, .inl ⟨4, wide_35, rfl, Nat.le_of_ble_eq_true rfl⟩⟩, trivial⟩ [3] rfl rfl rfl rfl rfl rfl ⟨⟨rfl, (by kernel_rfl)⟩, trivial⟩
end Go.Proofs.Ytioenfjcbikbcaa.Q
namespace Go.Proofs.Ytioenfjcbikbcaa.Q
open Go Go.RowKit
set_option linter.unusedVariables false
set_option linter.unusedSimpArgs false
set_option maxRecDepth 100000
set_option maxHeartbeats 4000000
abbrev z3ca9_0 (p : api_Packet) : SV := .d (.val (.int .i64 p.f_Id))
abbrev z3ca9_1 (p : api_Packet) : SV := .d (.val (.int .i64 p.f_To))
abbrev z3ca9_2 (p : api_Packet) : SV := .d (.val (.int .i64 p.f_Env.f_Signer))
abbrev z3ca9_3 (tp : Bool) (p : api_Packet) : AV := .tv (.agg [(z3ca9_0 p), (z3ca9_1 p), (z3ca9_2 p), .d (dsl tp false kU8 p.f_Env.f_Body)])
abbrev z3ca9_4 (p : api_Packet) : HS := .live (.box 35 [(z3ca9_0 p), (z3ca9_1 p), (z3ca9_2 p), .own 3 kU8.sz 0 p.f_Env.f_Body.length])
abbrev z3ca9_5 (tp : Bool) (p : api_Packet) : St := ⟨[(z3ca9_3 tp p), pv 0 0, pv 1 0], [(z3ca9_4 p), (z3ca9_4 p), .dead, .live (arrK 5 kU8 p.f_Env.f_Body)]⟩
abbrev z3ca9_6 (p : api_Packet) : List SV := [(z3ca9_0 p), (z3ca9_1 p), (z3ca9_2 p), .d (dsl false false kU8 p.f_Env.f_Body)]
-- quaestor/quaestorref20.twin
theorem ref_twin (tp : Bool) (p : api_Packet) (hp : p.f_Env.f_Body.length ≤ 140737488355328) : Holds Try.prog 27 ⟨[.tv (.agg [.d (.val (.int .i64 p.f_Id)), .d (.val (.int .i64 p.f_To)), .d (.val (.int .i64 p.f_Env.f_Signer)), .d (dsl tp false kU8 p.f_Env.f_Body)])], [], .tv (.agg [.d (.val (.int .i64 p.f_Id)), .d (.val (.int .i64 p.f_To)), .d (.val (.int .i64 p.f_Env.f_Signer)), .d (dsl false false kU8 p.f_Env.f_Body)]), []⟩ := by
 refine Holds.of Try.func27 rfl (N := 11) Try.ntmps27 rfl fun w0 B0 S0 U0 => ?_
 show T _ (mkBase 11 0 w0 S0 U0 B0) ⟨[(z3ca9_3 tp p)], []⟩ _ _
 refine sR [] ?_
 refine sR [hR 0 rfl rfl (q_buildSlice 2 5 kU8 kU8_ok ([] : List UInt8) [] (cs := []) Try.underlying27 iat_5 rfl zero_5 rfl rfl rfl (Nat.le_of_ble_eq_true rfl) part_ok (by kernel_rfl) (wk_eq (by kernel_rfl)) (lt_of rfl) trivial),
   hR 4 rfl rfl (q_appendO 2 3 5 1 kU8 kU8_ok ([] : List UInt8) p.f_Env.f_Body p.f_Env.f_Body ([] : List UInt8).length (sy := (.d (dsl tp false kU8 p.f_Env.f_Body))) (rhs := []) elem_27 (by first | assumption | omega | (unfold maxLen; omega) | (simp [maxLen, -List.getD_eq_getElem?_getD] <;> omega) | decide) (src_sl tp false kU8 p.f_Env.f_Body) (by simp) (by first | assumption | omega | (unfold maxLen; omega) | (simp [maxLen, -List.getD_eq_getElem?_getD] <;> omega) | decide) (by first | assumption | omega | (unfold maxLen; omega) | (simp [maxLen, -List.getD_eq_getElem?_getD] <;> omega) | decide) (lt_of rfl) trivial)] ?_
 refine sR [] ?_
 refine T.ret ?_
 refine Ends.turn (s' := (z3ca9_5 tp p)) (fun _ _ hG => Gs.norm (by kernel_rfl) hG) ?_
 refine Ends.turn (s' := ⟨[(z3ca9_3 tp p), pv 0 0, pv 1 0], [.live (.box 35 (z3ca9_6 p)), .live (.box 35 (z3ca9_6 p)), .dead, .dead]⟩) (fun _ _ hG => Gs.freeze (s := (z3ca9_5 tp p)) 3 (el := elOf kU8 p.f_Env.f_Body) (sz := kU8.sz) (n := p.f_Env.f_Body.length) rfl ⟨.inl rfl, (kk2 trivial)⟩ ⟨(.inr ⟨by decide, .inr ⟨rfl, ⟨.inl rfl, (kk2 ⟨(.inr ⟨rfl, rfl, rfl, (fun h => by cases h), rfl, rfl, Nat.le_of_eq (Nat.zero_add _), fun i j _ => by rw [Nat.zero_add]⟩), trivial⟩)⟩⟩⟩), ⟨(.inr ⟨by decide, .inr ⟨rfl, ⟨.inl rfl, (kk2 ⟨(.inr ⟨rfl, rfl, rfl, (fun h => by cases h), rfl, rfl, Nat.le_of_eq (Nat.zero_add _), fun i j _ => by rw [Nat.zero_add]⟩), trivial⟩)⟩⟩⟩), ⟨(.inr ⟨by decide, .inl rfl⟩), ⟨(.inl ⟨rfl, rfl⟩), trivial⟩⟩⟩⟩ hG) ?_
 exact tE (.inl rfl) [.c 2 1 35 0 35 [(z3ca9_0 p), (z3ca9_1 p), (z3ca9_2 p), .d (dsl false false kU8 p.f_Env.f_Body)] (.agg (z3ca9_6 p))] ⟨⟨rfl, rfl, by kernel_rfl, by kernel_rfl, .inl ⟨4, wide_35, rfl, Nat.le_of_ble_eq_true rfl⟩⟩, trivial⟩ [] rfl rfl rfl rfl rfl rfl trivial
end Go.Proofs.Ytioenfjcbikbcaa.Q
namespace Go.Proofs.Ytioenfjcbikbcaa.Q
open Go Go.RowKit
set_option linter.unusedVariables false
set_option linter.unusedSimpArgs false
set_option maxRecDepth 100000
set_option maxHeartbeats 4000000
theorem iat_54 : Try.prog.info? 54 = some Try.t54 := by kernel_rfl
theorem zero_54 : Zero Try.prog 54 [.slice none 0 0, .int .i64 0] := ⟨_, _, iat_54, rfl, rfl⟩
theorem iat_44 : Try.prog.info? 44 = some Try.t44 := by kernel_rfl
theorem places_54 : Places Try.prog 54 [(0, 1), (1, 1)] := ⟨_, Try.underlying54, ⟨⟨rfl, _, iat_44, rfl⟩, ⟨⟨rfl, _, iat_3, rfl⟩, trivial⟩⟩⟩
-- quaestor/net.New
theorem net_New : Holds Try.prog 10 ⟨[], [], pv 0 0, [.live (.box 54 [.own 1 (k_api_Packet false).sz 0 ([] : List api_Packet).length, .d (.val (.int .i64 0))]), .live (arrK 35 (k_api_Packet false) ([] : List api_Packet))]⟩ := by
 refine Holds.of Try.func10 rfl (N := 3) Try.ntmps10 rfl fun w0 B0 S0 U0 => ?_
 show T _ (mkBase 3 0 w0 S0 U0 B0) ⟨[], []⟩ _ _
 refine sR [] ?_
 refine sR [] ?_
 refine T.ret ?_
 refine Ends.turn (s' := ⟨[pv 0 0], [.live (.box 54 [.d (.val (.slice none 0 0)), .d (.val (.int .i64 0))])]⟩) (fun _ _ hG => Gs.norm (by kernel_rfl) hG) ?_
 refine Ends.turn (s' := ⟨[pv 0 0], [.live (.box 54 [.own 1 (k_api_Packet false).sz 0 0, .d (.val (.int .i64 0))]), .live (arrK 35 (k_api_Packet false) ([] : List api_Packet))]⟩) (fun _ _ hG => Gs.absentB 1 0 0 35 (k_api_Packet false) (Tb := 54) (cs := [.d (.val (.slice none 0 0)), .d (.val (.int .i64 0))]) rfl rfl rfl hG) ?_
 exact tE (.inl rfl) [.t 0 (.one (.ptr 0 0))] ⟨⟨rfl, by kernel_rfl⟩, trivial⟩ [0, 1] rfl rfl rfl rfl rfl rfl ⟨⟨rfl, (by have e1 : (0 : Nat) = ([] : List api_Packet).length := (by first | rfl | (simp; done)); have hE := congrArg (fun (q1 : Nat) => (.live (.box 54 [.own 1 (k_api_Packet false).sz 0 q1, .d (.val (.int .i64 0))]) : HS)) e1; exact Eq.trans (by kernel_rfl) hE)⟩, ⟨⟨rfl, (by kernel_rfl)⟩, trivial⟩⟩
end Go.Proofs.Ytioenfjcbikbcaa.Q
namespace Go.Proofs.Ytioenfjcbikbcaa.Q
open Go Go.RowKit
set_option linter.unusedVariables false
set_option linter.unusedSimpArgs false
set_option maxRecDepth 100000
set_option maxHeartbeats 4000000
theorem fld_54_0 : FieldAt Try.prog 54 0 0 := ⟨_, _, _, Try.underlying54, rfl, iat_44, by decide, rfl⟩
theorem wide_44 : Wide Try.prog 44 none := ⟨_, Try.underlying44, (fun _ h => by cases h), (fun _ _ h => by cases h)⟩
theorem fld_54_1 : FieldAt Try.prog 54 1 1 := ⟨_, _, _, Try.underlying54, rfl, iat_3, by decide, rfl⟩
theorem cells_3 : Cells Try.prog 3 1 := ⟨_, iat_3, rfl⟩
theorem places_35 : Places Try.prog 35 [(0, 1), (1, 1), (2, 2)] := ⟨_, Try.underlying35, ⟨⟨rfl, _, iat_3, rfl⟩, ⟨⟨rfl, _, iat_3, rfl⟩, ⟨⟨rfl, _, iat_29, rfl⟩, trivial⟩⟩⟩⟩
theorem elem_44 : Elem Try.prog 44 35 4 48 := ⟨Try.underlying44, _, _, iat_35, rfl, rfl, rfl, rfl, by decide⟩
theorem cells_44 : Cells Try.prog 44 1 := ⟨_, iat_44, rfl⟩
abbrev z2f73_0 (te : Bool) (e : api_Envelope) : List SV := [.d (.val (.int .i64 e.f_Signer)), .d (dsl te false kU8 e.f_Body)]
abbrev z2f73_1 (l : List api_Packet) (n : Int) : HS := .live (.box 54 [.own 1 (k_api_Packet false).sz 0 l.length, .d (.val (.int .i64 n))])
abbrev z2f73_2 (l : List api_Packet) (te : Bool) (to : Int) (e : api_Envelope) : List AV := [pv 0 0, dv (.int .i64 to), .tv (.agg (z2f73_0 te e)), aa, aa, pv 2 0, dv (.int .i64 3), dv (.bool false), aa, aa, dv (.bool (decide (((l.length : Nat) : Int) ≥ 2000)))]
-- (*quaestor/net.Net).Send
theorem net_Send (l : List api_Packet) (n : Int) (te : Bool) (to : Int) (e : api_Envelope) (hs : smallN ⟨l, n⟩) (he : e.f_Body.length ≤ 140737488355328) : Holds Try.prog 11 ⟨[pv 0 0, dv (.int .i64 to), .tv (.agg [.d (.val (.int .i64 e.f_Signer)), .d (dsl te false kU8 e.f_Body)])], [.box 54 [.own 1 (k_api_Packet false).sz 0 l.length, .d (.val (.int .i64 n))], arrK 35 (k_api_Packet false) l], dv (.int .i64 (netSendE (NetS.mk l n))), [.live (.box 54 [.own 2 (k_api_Packet false).sz 0 (netSend (NetS.mk l n) to e).l.length, .d (.val (.int .i64 (netSend (NetS.mk l n) to e).n))]), .dead, .live (arrK 35 (k_api_Packet false) (netSend (NetS.mk l n) to e).l)]⟩ := by
 refine Holds.of Try.func11 rfl (N := 41) Try.ntmps11 rfl fun w0 B0 S0 U0 => ?_
 show T _ (mkBase 41 2 w0 S0 U0 B0) ⟨[pv 0 0, dv (.int .i64 to), .tv (.agg (z2f73_0 te e))], [(z2f73_1 l n), .live (arrK 35 (k_api_Packet false) l)]⟩ _ _
 obtain ⟨hs1, hs2, hs3, hs4⟩ := hs
 simp only at hs1 hs2 hs3 hs4
 refine sR [] ?_
 refine T.seq ?_
 refine T.block ?_
 refine sR [] ?_
 refine cF (b := false) rfl ?_
 refine sR [] ?_
 by_cases hq1 : ((l.length : Nat) : Int) ≥ 2000
 ·refine cT (decide_eq_true hq1) ?_
  refine sR [] ?_
  refine T.ret ?_
  refine rB ?_
  refine rT ?_
  refine Ends.turn (s' := ⟨(z2f73_2 l te to e), [(z2f73_1 l n), .live (arrK 35 (k_api_Packet false) l), .live (.box 29 (z2f73_0 te e))]⟩) (fun _ _ hG => Gs.norm (by kernel_rfl) hG) ?_
  refine Ends.turn (s' := ⟨(z2f73_2 l te to e), [.live (.box 54 [.own 3 (k_api_Packet false).sz 0 l.length, .d (.val (.int .i64 n))]), .dead, .live (.box 29 (z2f73_0 te e)), .live (arrK 35 (k_api_Packet false) l)]⟩) (fun _ _ hG => Gs.move (s := ⟨(z2f73_2 l te to e), [(z2f73_1 l n), .live (arrK 35 (k_api_Packet false) l), .live (.box 29 (z2f73_0 te e))]⟩) 1 3 (o := arrK 35 (k_api_Packet false) l) rfl rfl rfl ⟨.inl rfl, (kk2 (kk8 trivial))⟩ ⟨(.inr (.inr ⟨by decide, by decide, (.inr ⟨rfl, ⟨(.inr rfl), ⟨.inl rfl, trivial⟩⟩⟩)⟩)), ⟨(.inl ⟨rfl, rfl⟩), ⟨(.inr (.inr ⟨by decide, by decide, (.inl rfl)⟩)), ⟨(.inr (.inl ⟨rfl, rfl⟩)), trivial⟩⟩⟩⟩ hG) ?_
  exact tE (.inl rfl) [.t 6 (.one (.d (.val (.int .i64 3))))] ⟨⟨rfl, by kernel_rfl⟩, trivial⟩ [0, 1, 3] (by have e1 : (netSendE (NetS.mk l n) : Int) = 3 := (by first | rfl | (have hc : 2000 ≤ (NetS.mk l n).l.length := (by show 2000 ≤ l.length; omega); simp only [send_no hc, sendE_no hc]; first | done | rfl) | (have hc : ¬ 2000 ≤ (NetS.mk l n).l.length := (by show ¬ 2000 ≤ l.length; omega); simp only [send_yes hc, sendE_yes hc]; first | done | rfl)); have hE := congrArg (fun (q1 : Int) => (dv (.int .i64 q1) : AV)) e1; exact hE) rfl rfl rfl rfl rfl ⟨⟨rfl, (by have e1 : (l.length : Nat) = (netSend (NetS.mk l n) to e).l.length := (by first | rfl | (have hc : 2000 ≤ (NetS.mk l n).l.length := (by show 2000 ≤ l.length; omega); simp only [send_no hc, sendE_no hc]; first | done | rfl) | (have hc : ¬ 2000 ≤ (NetS.mk l n).l.length := (by show ¬ 2000 ≤ l.length; omega); simp only [send_yes hc, sendE_yes hc]; first | done | rfl)); have e2 : (n : Int) = (netSend (NetS.mk l n) to e).n := (by first | rfl | (have hc : 2000 ≤ (NetS.mk l n).l.length := (by show 2000 ≤ l.length; omega); simp only [send_no hc, sendE_no hc]; first | done | rfl) | (have hc : ¬ 2000 ≤ (NetS.mk l n).l.length := (by show ¬ 2000 ≤ l.length; omega); simp only [send_yes hc, sendE_yes hc]; first | done | rfl)); have hE := congr (congrArg (fun (q1 : Nat) (q2 : Int) => (.live (.box 54 [.own 3 (k_api_Packet false).sz 0 q1, .d (.val (.int .i64 q2))]) : HS)) e1) e2; exact Eq.trans (by kernel_rfl) hE)⟩, ⟨⟨rfl, (by have e1 : (l : List api_Packet) = (netSend (NetS.mk l n) to e).l := (by first | rfl | (have hc : 2000 ≤ (NetS.mk l n).l.length := (by show 2000 ≤ l.length; omega); simp only [send_no hc, sendE_no hc]; first | done | rfl) | (have hc : ¬ 2000 ≤ (NetS.mk l n).l.length := (by show ¬ 2000 ≤ l.length; omega); simp only [send_yes hc, sendE_yes hc]; first | done | rfl)); have hE := congrArg (fun (q1 : List api_Packet) => (.live (arrK 35 (k_api_Packet false) q1) : HS)) e1; exact Eq.trans (by kernel_rfl) hE)⟩, trivial⟩⟩
 ·refine cF (decide_eq_false hq1) ?_
  refine T.skip ?_
  refine nB ?_
  refine nT ?_
  refine sR [hR 4 rfl rfl (r_bin (u1 := .int .i64 n) (u2 := .int .i64 1) (v := .int .i64 (n + 1)) (b_add (by rw [IntKind.wrap_i64]; omega)) (lt_of rfl) ⟨rfl, trivial⟩)] ?_
  refine sD [[], [], [1], [1, 2], [1, 2, 3], [], [5], [5, 6], [5, 6, 7], [], [], [5, 6, 7, 8, 9, 10], [5, 6, 7, 8, 9, 10, 11], [5, 6, 7, 8, 9, 10, 11, 12], [1, 2, 3, 4, 5, 6, 7, 8, 9, 10, 11, 12, 13], [0, 1, 2, 3, 4, 5, 6, 7, 8, 9, 10, 11, 12, 13, 14], [0, 1, 2, 3, 4, 5, 6, 7, 8, 9, 10, 11, 12, 13, 14, 15], [0, 1, 2, 3, 4, 5, 6, 7, 8, 9, 10, 11, 12, 13, 14, 15, 16]] [hR 12 rfl rfl (r_call (net_twin te (api_Packet.mk (n + 1) to e) (by first | assumption | omega | (unfold maxLen; omega) | (simp [maxLen, -List.getD_eq_getElem?_getD] <;> omega) | decide)) Try.func23 rfl (by decide) [] [] (l := [(.tmp 35, .tv (.agg [.d (.val (.int .i64 (n + 1))), .d (.val (.int .i64 to)), .d (.val (.int .i64 e.f_Signer)), .d (dsl te false kU8 e.f_Body)]))]) [] rfl 0 0 rfl rfl rfl rfl rfl rfl rfl rfl rfl ⟨⟨.inl ⟨rfl, rfl⟩, ⟨.inl ⟨rfl, rfl⟩, ⟨.inl ⟨rfl, rfl⟩, ⟨.inl ⟨rfl, rfl⟩, trivial⟩⟩⟩⟩, trivial⟩ rfl (fun b hb => by cases hb) (.inl rfl) (lt_of rfl) trivial),
    hR 13 rfl rfl (q_buildSlice 3 35 (k_api_Packet false) (k_api_Packet_ok false) [(api_Packet.mk (n + 1) to e)] [⟨0, .tmp 36, .agg [.d (.val (.int .i64 (n + 1))), .d (.val (.int .i64 to)), .d (.val (.int .i64 e.f_Signer)), .d (dsl false false kU8 e.f_Body)], 0⟩] (cs := [.d (.val (.int .i64 (n + 1))), .d (.val (.int .i64 to)), .d (.val (.int .i64 e.f_Signer)), .d (dsl false false kU8 e.f_Body)]) Try.underlying44 iat_35 rfl zero_35 rfl rfl rfl (Nat.le_of_ble_eq_true rfl) (part_cons rfl rfl (Nat.le_of_ble_eq_true rfl) part_ok) (by kernel_rfl) (wk_eq (by kernel_rfl)) (lt_of rfl) trivial),
    hR 14 rfl rfl (q_appendO 1 4 35 48 (k_api_Packet false) (k_api_Packet_ok false) l [(api_Packet.mk (n + 1) to e)] (l ++ [(api_Packet.mk (n + 1) to e)]) l.length (sy := (.own 3 (k_api_Packet false).sz 0 [(api_Packet.mk (n + 1) to e)].length)) (rhs := [(3, .live (arrK 35 (k_api_Packet false) [(api_Packet.mk (n + 1) to e)]))]) elem_44 (by first | assumption | omega | (unfold maxLen; omega) | (simp [maxLen, -List.getD_eq_getElem?_getD] <;> omega) | decide) (src_own 3 35 (k_api_Packet false) [(api_Packet.mk (n + 1) to e)]) (by rw [List.take_length]) (by first | assumption | omega | (unfold maxLen; omega) | (simp [maxLen, -List.getD_eq_getElem?_getD] <;> omega) | decide) (by first | assumption | omega | (unfold maxLen; omega) | (simp [maxLen, -List.getD_eq_getElem?_getD] <;> omega) | decide) (lt_of rfl) trivial)] ?_
  refine sR [] ?_
  refine T.ret ?_
  exact tE (.inl rfl) [.t 6 (.one (.d (.val (.int .i64 0))))] ⟨⟨rfl, by kernel_rfl⟩, trivial⟩ [0, 1, 4] (by have e1 : (netSendE (NetS.mk l n) : Int) = 0 := (by first | rfl | (have hc : 2000 ≤ (NetS.mk l n).l.length := (by show 2000 ≤ l.length; omega); simp only [send_no hc, sendE_no hc]; first | done | rfl) | (have hc : ¬ 2000 ≤ (NetS.mk l n).l.length := (by show ¬ 2000 ≤ l.length; omega); simp only [send_yes hc, sendE_yes hc]; first | done | rfl)); have hE := congrArg (fun (q1 : Int) => (dv (.int .i64 q1) : AV)) e1; exact hE) rfl rfl rfl rfl rfl ⟨⟨rfl, (by have e1 : ((l ++ [(api_Packet.mk (n + 1) to e)]).length : Nat) = (netSend (NetS.mk l n) to e).l.length := (by first | rfl | (have hc : 2000 ≤ (NetS.mk l n).l.length := (by show 2000 ≤ l.length; omega); simp only [send_no hc, sendE_no hc]; first | done | rfl) | (have hc : ¬ 2000 ≤ (NetS.mk l n).l.length := (by show ¬ 2000 ≤ l.length; omega); simp only [send_yes hc, sendE_yes hc]; first | done | rfl)); have e2 : (n + 1 : Int) = (netSend (NetS.mk l n) to e).n := (by first | rfl | (have hc : 2000 ≤ (NetS.mk l n).l.length := (by show 2000 ≤ l.length; omega); simp only [send_no hc, sendE_no hc]; first | done | rfl) | (have hc : ¬ 2000 ≤ (NetS.mk l n).l.length := (by show ¬ 2000 ≤ l.length; omega); simp only [send_yes hc, sendE_yes hc]; first | done | rfl)); have hE := congr (congrArg (fun (q1 : Nat) (q2 : Int) => (.live (.box 54 [.own 4 (k_api_Packet false).sz 0 q1, .d (.val (.int .i64 q2))]) : HS)) e1) e2; exact Eq.trans (by kernel_rfl) hE)⟩, ⟨⟨rfl, (by have e1 : (l ++ [(api_Packet.mk (n + 1) to e)] : List api_Packet) = (netSend (NetS.mk l n) to e).l := (by first | rfl | (have hc : 2000 ≤ (NetS.mk l n).l.length := (by show 2000 ≤ l.length; omega); simp only [send_no hc, sendE_no hc]; first | done | rfl) | (have hc : ¬ 2000 ≤ (NetS.mk l n).l.length := (by show ¬ 2000 ≤ l.length; omega); simp only [send_yes hc, sendE_yes hc]; first | done | rfl)); have hE := congrArg (fun (q1 : List api_Packet) => (.live (arrK 35 (k_api_Packet false) q1) : HS)) e1; exact Eq.trans (by kernel_rfl) hE)⟩, trivial⟩⟩
end Go.Proofs.Ytioenfjcbikbcaa.Q
namespace Go.Proofs.Ytioenfjcbikbcaa.Q
open Go Go.RowKit
set_option linter.unusedVariables false
set_option linter.unusedSimpArgs false
set_option maxRecDepth 100000
set_option maxHeartbeats 4000000
-- (*quaestor/net.Net).Len
theorem net_Len (l : List api_Packet) (n : Int) : Holds Try.prog 16 ⟨[pv 0 0], [.box 54 [.own 1 (k_api_Packet false).sz 0 l.length, .d (.val (.int .i64 n))], arrK 35 (k_api_Packet false) l], dv (.int .i64 ((l.length : Nat) : Int)), [.live (.box 54 [.own 1 (k_api_Packet false).sz 0 l.length, .d (.val (.int .i64 n))]), .live (arrK 35 (k_api_Packet false) l)]⟩ := by
 refine Holds.of Try.func16 rfl (N := 10) Try.ntmps16 rfl fun w0 B0 S0 U0 => ?_
 show T _ (mkBase 10 2 w0 S0 U0 B0) ⟨[pv 0 0], [.live (.box 54 [.own 1 (k_api_Packet false).sz 0 l.length, .d (.val (.int .i64 n))]), .live (arrK 35 (k_api_Packet false) l)]⟩ _ _
 refine sR [] ?_
 refine T.seq ?_
 refine sR [] ?_
 refine cF (b := false) rfl ?_
 refine T.skip ?_
 refine nT ?_
 refine sR [] ?_
 refine T.ret ?_
 exact tE (.inl rfl) [.t 2 (.one (.d (.val (.int .i64 ((l.length : Nat) : Int)))))] ⟨⟨rfl, by kernel_rfl⟩, trivial⟩ [0, 1] rfl rfl rfl rfl rfl rfl ⟨⟨rfl, (by kernel_rfl)⟩, ⟨⟨rfl, (by kernel_rfl)⟩, trivial⟩⟩
end Go.Proofs.Ytioenfjcbikbcaa.Q
