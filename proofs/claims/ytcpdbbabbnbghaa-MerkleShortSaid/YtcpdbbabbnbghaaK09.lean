import Derived.Test.YtcpdbbabbnbghaaQ24
import Derived.Test.YtcpdbbabbnbghaaProg
import Derived.KernelRfl
namespace Go.Proofs.Ytcpdbbabbnbghaa.Q
open Go Go.RowKit
set_option linter.unusedVariables false
set_option linter.unusedSimpArgs false
set_option maxRecDepth 100000
set_option maxHeartbeats 4000000
structure api_Step where
  f_Left : Bool
  f_Digest : List UInt8
  deriving DecidableEq
theorem api_Step_iff (x y : api_Step) : x = y ↔ x.f_Left = y.f_Left ∧ x.f_Digest = y.f_Digest := by cases x; cases y; simp
def z_api_Step : api_Step := ⟨false, []⟩
def c_api_Step (t : Bool) (x : api_Step) : Nat → DV
  | 0 => .val (.bool x.f_Left)
  | 1 => .val (strV x.f_Digest)
  | _ => .any
def k_api_Step (t : Bool) : Kd api_Step := ⟨2, c_api_Step t, z_api_Step⟩
theorem k_api_Step_ok (t : Bool) : KOk (k_api_Step t) := ⟨(show 0 < 2 by decide), fun x j hj => by
  have hj : j < 2 := hj
  rcases j with _ | _ | j
  all_goals first | rfl | omega⟩
theorem k_api_Step_sz (t : Bool) : (k_api_Step t).sz = 2 := rfl
theorem k_api_Step_nt : ∀ x j, noTag ((k_api_Step false).cell x j) := fun x j => match j with
  | 0 => trivial
  | 1 => trivial
  | _ + 2 => trivial
structure quaestorlaw09_Claim where
  f_Leaf : List UInt8
  f_I : Int
  f_N : Int
  f_Path : List api_Step
  deriving DecidableEq
theorem quaestorlaw09_Claim_iff (x y : quaestorlaw09_Claim) : x = y ↔ x.f_Leaf = y.f_Leaf ∧ x.f_I = y.f_I ∧ x.f_N = y.f_N ∧ x.f_Path = y.f_Path := by cases x; cases y; simp
def z_quaestorlaw09_Claim : quaestorlaw09_Claim := ⟨[], 0, 0, []⟩
def c_quaestorlaw09_Claim (t : Bool) (x : quaestorlaw09_Claim) : Nat → DV
  | 0 => dsl t false kU8 x.f_Leaf
  | 1 => .val (.int .i64 x.f_I)
  | 2 => .val (.int .i64 x.f_N)
  | 3 => dsl t false (k_api_Step t) x.f_Path
  | _ => .any
def k_quaestorlaw09_Claim (t : Bool) : Kd quaestorlaw09_Claim := ⟨4, c_quaestorlaw09_Claim t, z_quaestorlaw09_Claim⟩
theorem k_quaestorlaw09_Claim_ok (t : Bool) : KOk (k_quaestorlaw09_Claim t) := ⟨(show 0 < 4 by decide), fun x j hj => by
  have hj : j < 4 := hj
  rcases j with _ | _ | _ | _ | j
  all_goals first | rfl | omega⟩
theorem k_quaestorlaw09_Claim_sz (t : Bool) : (k_quaestorlaw09_Claim t).sz = 4 := rfl
theorem k_quaestorlaw09_Claim_nt : ∀ x j, noTag ((k_quaestorlaw09_Claim false).cell x j) := fun x j => match j with
  | 0 => dsl_nt kU8_nt
  | 1 => trivial
  | 2 => trivial
  | 3 => dsl_nt k_api_Step_nt
  | _ + 4 => trivial

def ok_api_Step (x : api_Step) : Prop := (fun (_ : Bool) => True) x.f_Left ∧ (fun (l : List UInt8) => l.length ≤ maxLen) x.f_Digest
theorem rd_api_Step : Rd Try.prog 47 (k_api_Step false) ok_api_Step := fun H enc w base sp held fuel cs x h => by
  obtain ⟨xs, n, _, _, hl, hxl, hf⟩ := DataW.trod_struct Try.underlying47 h
  obtain ⟨a0, o0, c0⟩ := rd_field hxl hf 0 rfl (t := 4) (off := 0) rfl rfl (rd_bool Try.underlying4)
  obtain ⟨a1, o1, c1⟩ := rd_field hxl hf 1 rfl (t := 24) (off := 1) rfl rfl (rd_str Try.underlying24)
  refine ⟨⟨a0, a1⟩, ⟨o0, o1⟩, by rw [hl]; kernel_rfl, fun j hj => ?_⟩
  replace hj : j < 2 := hj
  rcases j with _ | _ | j
  · exact c0 0 (by decide)
  · exact c1 0 (by decide)
  · omega
def ok_quaestorlaw09_Claim (x : quaestorlaw09_Claim) : Prop := (fun (xs : List UInt8) => xs.length ≤ maxLen ∧ ∀ x, x ∈ xs → (fun (_ : UInt8) => True) x) x.f_Leaf ∧ (fun (n : Int) => (Lit.int .i64 n).wf = true) x.f_I ∧ (fun (n : Int) => (Lit.int .i64 n).wf = true) x.f_N ∧ (fun (xs : List api_Step) => xs.length ≤ maxLen ∧ ∀ x, x ∈ xs → ok_api_Step x) x.f_Path
theorem rd_quaestorlaw09_Claim : Rd Try.prog 35 (k_quaestorlaw09_Claim false) ok_quaestorlaw09_Claim := fun H enc w base sp held fuel cs x h => by
  obtain ⟨xs, n, _, _, hl, hxl, hf⟩ := DataW.trod_struct Try.underlying35 h
  obtain ⟨a0, o0, c0⟩ := rd_field hxl hf 0 rfl (t := 33) (off := 0) rfl rfl (rd_slice Try.underlying33 (by kernel_rfl) (by decide) (rd_u8 Try.underlying5))
  obtain ⟨a1, o1, c1⟩ := rd_field hxl hf 1 rfl (t := 3) (off := 1) rfl rfl (rd_int Try.underlying3)
  obtain ⟨a2, o2, c2⟩ := rd_field hxl hf 2 rfl (t := 3) (off := 2) rfl rfl (rd_int Try.underlying3)
  obtain ⟨a3, o3, c3⟩ := rd_field hxl hf 3 rfl (t := 27) (off := 3) rfl rfl (rd_slice Try.underlying27 (by kernel_rfl) (by decide) rd_api_Step)
  refine ⟨⟨a0, a1, a2, a3⟩, ⟨o0, o1, o2, o3⟩, by rw [hl]; kernel_rfl, fun j hj => ?_⟩
  replace hj : j < 4 := hj
  rcases j with _ | _ | _ | _ | j
  · exact c0 0 (by decide)
  · exact c1 0 (by decide)
  · exact c2 0 (by decide)
  · exact c3 0 (by decide)
  · omega
end Go.Proofs.Ytcpdbbabbnbghaa.Q
