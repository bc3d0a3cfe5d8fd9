import Derived.Test.YtioenfjcbikbcaaQd
import Derived.Test.YtioenfjcbikbcaaProg
import Derived.KernelRfl
namespace Go.Proofs.Ytioenfjcbikbcaa.Q
open Go Go.RowKit
set_option linter.unusedVariables false
set_option linter.unusedSimpArgs false
set_option maxRecDepth 100000
set_option maxHeartbeats 4000000
structure api_Envelope where
  f_Signer : Int
  f_Body : List UInt8
  deriving DecidableEq
theorem api_Envelope_iff (x y : api_Envelope) : x = y ↔ x.f_Signer = y.f_Signer ∧ x.f_Body = y.f_Body := by cases x; cases y; simp
def z_api_Envelope : api_Envelope := ⟨0, []⟩
def c_api_Envelope (t : Bool) (x : api_Envelope) : Nat → DV
  | 0 => .val (.int .i64 x.f_Signer)
  | 1 => dsl t false kU8 x.f_Body
  | _ => .any
def k_api_Envelope (t : Bool) : Kd api_Envelope := ⟨2, c_api_Envelope t, z_api_Envelope⟩
theorem k_api_Envelope_ok (t : Bool) : KOk (k_api_Envelope t) := ⟨(show 0 < 2 by decide), fun x j hj => by
  have hj : j < 2 := hj
  rcases j with _ | _ | j
  all_goals first | rfl | omega⟩
theorem k_api_Envelope_sz (t : Bool) : (k_api_Envelope t).sz = 2 := rfl
theorem k_api_Envelope_nt : ∀ x j, noTag ((k_api_Envelope false).cell x j) := fun x j => match j with
  | 0 => trivial
  | 1 => dsl_nt kU8_nt
  | _ + 2 => trivial
structure api_Packet where
  f_Id : Int
  f_To : Int
  f_Env : api_Envelope
  deriving DecidableEq
theorem api_Packet_iff (x y : api_Packet) : x = y ↔ x.f_Id = y.f_Id ∧ x.f_To = y.f_To ∧ x.f_Env = y.f_Env := by cases x; cases y; simp
def z_api_Packet : api_Packet := ⟨0, 0, z_api_Envelope⟩
def c_api_Packet (t : Bool) (x : api_Packet) : Nat → DV
  | 0 => .val (.int .i64 x.f_Id)
  | 1 => .val (.int .i64 x.f_To)
  | 2 => .val (.int .i64 x.f_Env.f_Signer)
  | 3 => dsl t false kU8 x.f_Env.f_Body
  | _ => .any
def k_api_Packet (t : Bool) : Kd api_Packet := ⟨4, c_api_Packet t, z_api_Packet⟩
theorem k_api_Packet_ok (t : Bool) : KOk (k_api_Packet t) := ⟨(show 0 < 4 by decide), fun x j hj => by
  have hj : j < 4 := hj
  rcases j with _ | _ | _ | _ | j
  all_goals first | rfl | omega⟩
theorem k_api_Packet_sz (t : Bool) : (k_api_Packet t).sz = 4 := rfl
theorem k_api_Packet_nt : ∀ x j, noTag ((k_api_Packet false).cell x j) := fun x j => match j with
  | 0 => trivial
  | 1 => trivial
  | 2 => trivial
  | 3 => dsl_nt kU8_nt
  | _ + 4 => trivial
structure quaestorlaw20_Act where
  f_Kind : Int
  f_N : Int
  f_E : api_Envelope
  deriving DecidableEq
theorem quaestorlaw20_Act_iff (x y : quaestorlaw20_Act) : x = y ↔ x.f_Kind = y.f_Kind ∧ x.f_N = y.f_N ∧ x.f_E = y.f_E := by cases x; cases y; simp
def z_quaestorlaw20_Act : quaestorlaw20_Act := ⟨0, 0, z_api_Envelope⟩
def c_quaestorlaw20_Act (t : Bool) (x : quaestorlaw20_Act) : Nat → DV
  | 0 => .val (.int .i64 x.f_Kind)
  | 1 => .val (.int .i64 x.f_N)
  | 2 => .val (.int .i64 x.f_E.f_Signer)
  | 3 => dsl t false kU8 x.f_E.f_Body
  | _ => .any
def k_quaestorlaw20_Act (t : Bool) : Kd quaestorlaw20_Act := ⟨4, c_quaestorlaw20_Act t, z_quaestorlaw20_Act⟩
theorem k_quaestorlaw20_Act_ok (t : Bool) : KOk (k_quaestorlaw20_Act t) := ⟨(show 0 < 4 by decide), fun x j hj => by
  have hj : j < 4 := hj
  rcases j with _ | _ | _ | _ | j
  all_goals first | rfl | omega⟩
theorem k_quaestorlaw20_Act_sz (t : Bool) : (k_quaestorlaw20_Act t).sz = 4 := rfl
theorem k_quaestorlaw20_Act_nt : ∀ x j, noTag ((k_quaestorlaw20_Act false).cell x j) := fun x j => match j with
  | 0 => trivial
  | 1 => trivial
  | 2 => trivial
  | 3 => dsl_nt kU8_nt
  | _ + 4 => trivial
structure net_Net where
  f_l : List api_Packet
  f_sent : Int
  deriving DecidableEq
theorem net_Net_iff (x y : net_Net) : x = y ↔ x.f_l = y.f_l ∧ x.f_sent = y.f_sent := by cases x; cases y; simp
def z_net_Net : net_Net := ⟨[], 0⟩
def c_net_Net (t : Bool) (x : net_Net) : Nat → DV
  | 0 => dsl t false (k_api_Packet t) x.f_l
  | 1 => .val (.int .i64 x.f_sent)
  | _ => .any
def k_net_Net (t : Bool) : Kd net_Net := ⟨2, c_net_Net t, z_net_Net⟩
theorem k_net_Net_ok (t : Bool) : KOk (k_net_Net t) := ⟨(show 0 < 2 by decide), fun x j hj => by
  have hj : j < 2 := hj
  rcases j with _ | _ | j
  all_goals first | rfl | omega⟩
theorem k_net_Net_sz (t : Bool) : (k_net_Net t).sz = 2 := rfl
theorem k_net_Net_nt : ∀ x j, noTag ((k_net_Net false).cell x j) := fun x j => match j with
  | 0 => dsl_nt k_api_Packet_nt
  | 1 => trivial
  | _ + 2 => trivial
attribute [simp] kU8_sz kSl_sz k_api_Envelope_sz k_api_Packet_sz k_quaestorlaw20_Act_sz k_net_Net_sz

def ok_api_Envelope (x : api_Envelope) : Prop := (fun (n : Int) => (Lit.int .i64 n).wf = true) x.f_Signer ∧ (fun (xs : List UInt8) => xs.length ≤ maxLen ∧ ∀ x, x ∈ xs → (fun (_ : UInt8) => True) x) x.f_Body
theorem rd_api_Envelope : Rd Try.prog 29 (k_api_Envelope false) ok_api_Envelope := fun H enc w base sp held fuel cs x h => by
  obtain ⟨xs, n, _, _, hl, hxl, hf⟩ := DataW.trod_struct Try.underlying29 h
  obtain ⟨a0, o0, c0⟩ := rd_field hxl hf 0 rfl (t := 3) (off := 0) rfl rfl (rd_int Try.underlying3)
  obtain ⟨a1, o1, c1⟩ := rd_field hxl hf 1 rfl (t := 27) (off := 1) rfl rfl (rd_slice Try.underlying27 (by kernel_rfl) (by decide) (rd_u8 Try.underlying5))
  refine ⟨⟨a0, a1⟩, ⟨o0, o1⟩, by rw [hl]; kernel_rfl, fun j hj => ?_⟩
  replace hj : j < 2 := hj
  rcases j with _ | _ | j
  · exact c0 0 (by decide)
  · exact c1 0 (by decide)
  · omega
def ok_api_Packet (x : api_Packet) : Prop := (fun (n : Int) => (Lit.int .i64 n).wf = true) x.f_Id ∧ (fun (n : Int) => (Lit.int .i64 n).wf = true) x.f_To ∧ ok_api_Envelope x.f_Env
theorem rd_api_Packet : Rd Try.prog 35 (k_api_Packet false) ok_api_Packet := fun H enc w base sp held fuel cs x h => by
  obtain ⟨xs, n, _, _, hl, hxl, hf⟩ := DataW.trod_struct Try.underlying35 h
  obtain ⟨a0, o0, c0⟩ := rd_field hxl hf 0 rfl (t := 3) (off := 0) rfl rfl (rd_int Try.underlying3)
  obtain ⟨a1, o1, c1⟩ := rd_field hxl hf 1 rfl (t := 3) (off := 1) rfl rfl (rd_int Try.underlying3)
  obtain ⟨a2, o2, c2⟩ := rd_field hxl hf 2 rfl (t := 29) (off := 2) rfl rfl rd_api_Envelope
  refine ⟨⟨a0, a1, a2⟩, ⟨o0, o1, o2⟩, by rw [hl]; kernel_rfl, fun j hj => ?_⟩
  replace hj : j < 4 := hj
  rcases j with _ | _ | _ | _ | j
  · exact c0 0 (by decide)
  · exact c1 0 (by decide)
  · exact c2 0 (by decide)
  · exact c2 1 (by decide)
  · omega
def ok_quaestorlaw20_Act (x : quaestorlaw20_Act) : Prop := (fun (n : Int) => (Lit.int .i64 n).wf = true) x.f_Kind ∧ (fun (n : Int) => (Lit.int .i64 n).wf = true) x.f_N ∧ ok_api_Envelope x.f_E
theorem rd_quaestorlaw20_Act : Rd Try.prog 31 (k_quaestorlaw20_Act false) ok_quaestorlaw20_Act := fun H enc w base sp held fuel cs x h => by
  obtain ⟨xs, n, _, _, hl, hxl, hf⟩ := DataW.trod_struct Try.underlying31 h
  obtain ⟨a0, o0, c0⟩ := rd_field hxl hf 0 rfl (t := 3) (off := 0) rfl rfl (rd_int Try.underlying3)
  obtain ⟨a1, o1, c1⟩ := rd_field hxl hf 1 rfl (t := 3) (off := 1) rfl rfl (rd_int Try.underlying3)
  obtain ⟨a2, o2, c2⟩ := rd_field hxl hf 2 rfl (t := 29) (off := 2) rfl rfl rd_api_Envelope
  refine ⟨⟨a0, a1, a2⟩, ⟨o0, o1, o2⟩, by rw [hl]; kernel_rfl, fun j hj => ?_⟩
  replace hj : j < 4 := hj
  rcases j with _ | _ | _ | _ | j
  · exact c0 0 (by decide)
  · exact c1 0 (by decide)
  · exact c2 0 (by decide)
  · exact c2 1 (by decide)
  · omega
def ok_net_Net (x : net_Net) : Prop := (fun (xs : List api_Packet) => xs.length ≤ maxLen ∧ ∀ x, x ∈ xs → ok_api_Packet x) x.f_l ∧ (fun (n : Int) => (Lit.int .i64 n).wf = true) x.f_sent
theorem rd_net_Net : Rd Try.prog 54 (k_net_Net false) ok_net_Net := fun H enc w base sp held fuel cs x h => by
  obtain ⟨xs, n, _, _, hl, hxl, hf⟩ := DataW.trod_struct Try.underlying54 h
  obtain ⟨a0, o0, c0⟩ := rd_field hxl hf 0 rfl (t := 44) (off := 0) rfl rfl (rd_slice Try.underlying44 (by kernel_rfl) (by decide) rd_api_Packet)
  obtain ⟨a1, o1, c1⟩ := rd_field hxl hf 1 rfl (t := 3) (off := 1) rfl rfl (rd_int Try.underlying3)
  refine ⟨⟨a0, a1⟩, ⟨o0, o1⟩, by rw [hl]; kernel_rfl, fun j hj => ?_⟩
  replace hj : j < 2 := hj
  rcases j with _ | _ | j
  · exact c0 0 (by decide)
  · exact c1 0 (by decide)
  · omega
end Go.Proofs.Ytioenfjcbikbcaa.Q
