import Derived.Test.YtladnlechpadlaaQd
import Derived.Test.YtladnlechpadlaaProg
import Derived.KernelRfl
namespace Go.Proofs.Ytladnlechpadlaa.Q
open Go Go.RowKit
set_option linter.unusedVariables false
set_option linter.unusedSimpArgs false
set_option maxRecDepth 100000
set_option maxHeartbeats 4000000
structure quaestorlaw03_Deed where
  f_Signer : Int
  f_Body : List UInt8
  f_Ask : Bool
  deriving DecidableEq
theorem quaestorlaw03_Deed_iff (x y : quaestorlaw03_Deed) : x = y ↔ x.f_Signer = y.f_Signer ∧ x.f_Body = y.f_Body ∧ x.f_Ask = y.f_Ask := by cases x; cases y; simp
def z_quaestorlaw03_Deed : quaestorlaw03_Deed := ⟨0, [], false⟩
def c_quaestorlaw03_Deed (t : Bool) (x : quaestorlaw03_Deed) : Nat → DV
  | 0 => .val (.int .i64 x.f_Signer)
  | 1 => dsl t false kU8 x.f_Body
  | 2 => .val (.bool x.f_Ask)
  | _ => .any
def k_quaestorlaw03_Deed (t : Bool) : Kd quaestorlaw03_Deed := ⟨3, c_quaestorlaw03_Deed t, z_quaestorlaw03_Deed⟩
theorem k_quaestorlaw03_Deed_ok (t : Bool) : KOk (k_quaestorlaw03_Deed t) := ⟨(show 0 < 3 by decide), fun x j hj => by
  have hj : j < 3 := hj
  rcases j with _ | _ | _ | j
  all_goals first | rfl | omega⟩
theorem k_quaestorlaw03_Deed_sz (t : Bool) : (k_quaestorlaw03_Deed t).sz = 3 := rfl
theorem k_quaestorlaw03_Deed_nt : ∀ x j, noTag ((k_quaestorlaw03_Deed false).cell x j) := fun x j => match j with
  | 0 => trivial
  | 1 => dsl_nt kU8_nt
  | 2 => trivial
  | _ + 3 => trivial
structure quaestorlaw03_Size where
  f_F : Int
  f_Clients : Int
  deriving DecidableEq
theorem quaestorlaw03_Size_iff (x y : quaestorlaw03_Size) : x = y ↔ x.f_F = y.f_F ∧ x.f_Clients = y.f_Clients := by cases x; cases y; simp
def z_quaestorlaw03_Size : quaestorlaw03_Size := ⟨0, 0⟩
def c_quaestorlaw03_Size (t : Bool) (x : quaestorlaw03_Size) : Nat → DV
  | 0 => .val (.int .i64 x.f_F)
  | 1 => .val (.int .i64 x.f_Clients)
  | _ => .any
def k_quaestorlaw03_Size (t : Bool) : Kd quaestorlaw03_Size := ⟨2, c_quaestorlaw03_Size t, z_quaestorlaw03_Size⟩
theorem k_quaestorlaw03_Size_ok (t : Bool) : KOk (k_quaestorlaw03_Size t) := ⟨(show 0 < 2 by decide), fun x j hj => by
  have hj : j < 2 := hj
  rcases j with _ | _ | j
  all_goals first | rfl | omega⟩
theorem k_quaestorlaw03_Size_sz (t : Bool) : (k_quaestorlaw03_Size t).sz = 2 := rfl
theorem k_quaestorlaw03_Size_nt : ∀ x j, noTag ((k_quaestorlaw03_Size false).cell x j) := fun x j => match j with
  | 0 => trivial
  | 1 => trivial
  | _ + 2 => trivial
structure authn_pair where
  f_signer : Int
  f_body : List UInt8
  deriving DecidableEq
theorem authn_pair_iff (x y : authn_pair) : x = y ↔ x.f_signer = y.f_signer ∧ x.f_body = y.f_body := by cases x; cases y; simp
def z_authn_pair : authn_pair := ⟨0, []⟩
def c_authn_pair (t : Bool) (x : authn_pair) : Nat → DV
  | 0 => .val (.int .i64 x.f_signer)
  | 1 => .val (strV x.f_body)
  | _ => .any
def k_authn_pair (t : Bool) : Kd authn_pair := ⟨2, c_authn_pair t, z_authn_pair⟩
theorem k_authn_pair_ok (t : Bool) : KOk (k_authn_pair t) := ⟨(show 0 < 2 by decide), fun x j hj => by
  have hj : j < 2 := hj
  rcases j with _ | _ | j
  all_goals first | rfl | omega⟩
theorem k_authn_pair_sz (t : Bool) : (k_authn_pair t).sz = 2 := rfl
theorem k_authn_pair_nt : ∀ x j, noTag ((k_authn_pair false).cell x j) := fun x j => match j with
  | 0 => trivial
  | 1 => trivial
  | _ + 2 => trivial
structure api_Envelope where
  f_Signer : Int
  f_Body : List UInt8
  deriving DecidableEq
theorem api_Envelope_iff (x y : api_Envelope) : x = y ↔ x.f_Signer = y.f_Signer ∧ x.f_Body = y.f_Body := by cases x; cases y; simp
def z_api_Envelope : api_Envelope := ⟨0, []⟩
def c_api_Envelope (t : Bool) (x : api_Envelope) : Nat → DV
  | 0 => .val (.int .i64 x.f_Signer)
  | 1 => dsl t false kU8 x.f_Body
  | _ => .any
def k_api_Envelope (t : Bool) : Kd api_Envelope := ⟨2, c_api_Envelope t, z_api_Envelope⟩
theorem k_api_Envelope_ok (t : Bool) : KOk (k_api_Envelope t) := ⟨(show 0 < 2 by decide), fun x j hj => by
  have hj : j < 2 := hj
  rcases j with _ | _ | j
  all_goals first | rfl | omega⟩
theorem k_api_Envelope_sz (t : Bool) : (k_api_Envelope t).sz = 2 := rfl
theorem k_api_Envelope_nt : ∀ x j, noTag ((k_api_Envelope false).cell x j) := fun x j => match j with
  | 0 => trivial
  | 1 => dsl_nt kU8_nt
  | _ + 2 => trivial
attribute [simp] kU8_sz kSl_sz k_quaestorlaw03_Deed_sz k_quaestorlaw03_Size_sz k_authn_pair_sz k_api_Envelope_sz
abbrev f_authn_pair : authn_pair → Value := fun x => .agg #[.int .i64 x.f_signer, strV x.f_body]
theorem mkey_authn_pair : MKey Try.prog 61 f_authn_pair := mkey_is (K := authn_pair) (fun x => x.f_signer) (fun x => x.f_body) (fun x y h1 h2 => by cases x; cases y; simp_all) Try.underlying61 (by decide) (by decide) rfl rfl Try.underlying3 Try.underlying9 (by kernel_rfl)
def ok_quaestorlaw03_Deed (x : quaestorlaw03_Deed) : Prop := (fun (n : Int) => (Lit.int .i64 n).wf = true) x.f_Signer ∧ (fun (xs : List UInt8) => xs.length ≤ maxLen ∧ ∀ x, x ∈ xs → (fun (_ : UInt8) => True) x) x.f_Body ∧ (fun (_ : Bool) => True) x.f_Ask
theorem rd_quaestorlaw03_Deed : Rd Try.prog 27 (k_quaestorlaw03_Deed false) ok_quaestorlaw03_Deed := fun H enc w base sp held fuel cs x h => by
  obtain ⟨xs, n, _, _, hl, hxl, hf⟩ := DataW.trod_struct Try.underlying27 h
  obtain ⟨a0, o0, c0⟩ := rd_field hxl hf 0 rfl (t := 3) (off := 0) rfl rfl (rd_int Try.underlying3)
  obtain ⟨a1, o1, c1⟩ := rd_field hxl hf 1 rfl (t := 25) (off := 1) rfl rfl (rd_slice Try.underlying25 (by kernel_rfl) (by decide) (rd_u8 Try.underlying5))
  obtain ⟨a2, o2, c2⟩ := rd_field hxl hf 2 rfl (t := 4) (off := 2) rfl rfl (rd_bool Try.underlying4)
  refine ⟨⟨a0, a1, a2⟩, ⟨o0, o1, o2⟩, by rw [hl]; kernel_rfl, fun j hj => ?_⟩
  replace hj : j < 3 := hj
  rcases j with _ | _ | _ | j
  · exact c0 0 (by decide)
  · exact c1 0 (by decide)
  · exact c2 0 (by decide)
  · omega
def ok_quaestorlaw03_Size (x : quaestorlaw03_Size) : Prop := (fun (n : Int) => (Lit.int .i64 n).wf = true) x.f_F ∧ (fun (n : Int) => (Lit.int .i64 n).wf = true) x.f_Clients
theorem rd_quaestorlaw03_Size : Rd Try.prog 23 (k_quaestorlaw03_Size false) ok_quaestorlaw03_Size := fun H enc w base sp held fuel cs x h => by
  obtain ⟨xs, n, _, _, hl, hxl, hf⟩ := DataW.trod_struct Try.underlying23 h
  obtain ⟨a0, o0, c0⟩ := rd_field hxl hf 0 rfl (t := 3) (off := 0) rfl rfl (rd_int Try.underlying3)
  obtain ⟨a1, o1, c1⟩ := rd_field hxl hf 1 rfl (t := 3) (off := 1) rfl rfl (rd_int Try.underlying3)
  refine ⟨⟨a0, a1⟩, ⟨o0, o1⟩, by rw [hl]; kernel_rfl, fun j hj => ?_⟩
  replace hj : j < 2 := hj
  rcases j with _ | _ | j
  · exact c0 0 (by decide)
  · exact c1 0 (by decide)
  · omega
def ok_authn_pair (x : authn_pair) : Prop := (fun (n : Int) => (Lit.int .i64 n).wf = true) x.f_signer ∧ (fun (l : List UInt8) => l.length ≤ maxLen) x.f_body
theorem rd_authn_pair : Rd Try.prog 61 (k_authn_pair false) ok_authn_pair := fun H enc w base sp held fuel cs x h => by
  obtain ⟨xs, n, _, _, hl, hxl, hf⟩ := DataW.trod_struct Try.underlying61 h
  obtain ⟨a0, o0, c0⟩ := rd_field hxl hf 0 rfl (t := 3) (off := 0) rfl rfl (rd_int Try.underlying3)
  obtain ⟨a1, o1, c1⟩ := rd_field hxl hf 1 rfl (t := 9) (off := 1) rfl rfl (rd_str Try.underlying9)
  refine ⟨⟨a0, a1⟩, ⟨o0, o1⟩, by rw [hl]; kernel_rfl, fun j hj => ?_⟩
  replace hj : j < 2 := hj
  rcases j with _ | _ | j
  · exact c0 0 (by decide)
  · exact c1 0 (by decide)
  · omega
def ok_api_Envelope (x : api_Envelope) : Prop := (fun (n : Int) => (Lit.int .i64 n).wf = true) x.f_Signer ∧ (fun (xs : List UInt8) => xs.length ≤ maxLen ∧ ∀ x, x ∈ xs → (fun (_ : UInt8) => True) x) x.f_Body
theorem rd_api_Envelope : Rd Try.prog 32 (k_api_Envelope false) ok_api_Envelope := fun H enc w base sp held fuel cs x h => by
  obtain ⟨xs, n, _, _, hl, hxl, hf⟩ := DataW.trod_struct Try.underlying32 h
  obtain ⟨a0, o0, c0⟩ := rd_field hxl hf 0 rfl (t := 3) (off := 0) rfl rfl (rd_int Try.underlying3)
  obtain ⟨a1, o1, c1⟩ := rd_field hxl hf 1 rfl (t := 25) (off := 1) rfl rfl (rd_slice Try.underlying25 (by kernel_rfl) (by decide) (rd_u8 Try.underlying5))
  refine ⟨⟨a0, a1⟩, ⟨o0, o1⟩, by rw [hl]; kernel_rfl, fun j hj => ?_⟩
  replace hj : j < 2 := hj
  rcases j with _ | _ | j
  · exact c0 0 (by decide)
  · exact c1 0 (by decide)
  · omega
end Go.Proofs.Ytladnlechpadlaa.Q
