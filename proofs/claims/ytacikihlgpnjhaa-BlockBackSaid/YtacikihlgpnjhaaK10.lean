import Derived.Test.YtacikihlgpnjhaaQ25
import Derived.Test.YtacikihlgpnjhaaProg
import Derived.KernelRfl
namespace Go.Proofs.Ytacikihlgpnjhaa.Q
open Go Go.RowKit
set_option linter.unusedVariables false
set_option linter.unusedSimpArgs false
set_option maxRecDepth 100000
set_option maxHeartbeats 4000000
structure api_Step where
  f_Left : Bool
  f_Digest : List UInt8
  deriving DecidableEq
theorem api_Step_iff (x y : api_Step) : x = y ↔ x.f_Left = y.f_Left ∧ x.f_Digest = y.f_Digest := by cases x; cases y; simp
def z_api_Step : api_Step := ⟨false, []⟩
def c_api_Step (t : Bool) (x : api_Step) : Nat → DV
  | 0 => .val (.bool x.f_Left)
  | 1 => .val (strV x.f_Digest)
  | _ => .any
def k_api_Step (t : Bool) : Kd api_Step := ⟨2, c_api_Step t, z_api_Step⟩
theorem k_api_Step_ok (t : Bool) : KOk (k_api_Step t) := ⟨(show 0 < 2 by decide), fun x j hj => by
  have hj : j < 2 := hj
  rcases j with _ | _ | j
  all_goals first | rfl | omega⟩
theorem k_api_Step_sz (t : Bool) : (k_api_Step t).sz = 2 := rfl
theorem k_api_Step_nt : ∀ x j, noTag ((k_api_Step false).cell x j) := fun x j => match j with
  | 0 => trivial
  | 1 => trivial
  | _ + 2 => trivial
structure api_Envelope where
  f_Signer : Int
  f_Body : List UInt8
  deriving DecidableEq
theorem api_Envelope_iff (x y : api_Envelope) : x = y ↔ x.f_Signer = y.f_Signer ∧ x.f_Body = y.f_Body := by cases x; cases y; simp
def z_api_Envelope : api_Envelope := ⟨0, []⟩
def c_api_Envelope (t : Bool) (x : api_Envelope) : Nat → DV
  | 0 => .val (.int .i64 x.f_Signer)
  | 1 => dsl t false kU8 x.f_Body
  | _ => .any
def k_api_Envelope (t : Bool) : Kd api_Envelope := ⟨2, c_api_Envelope t, z_api_Envelope⟩
theorem k_api_Envelope_ok (t : Bool) : KOk (k_api_Envelope t) := ⟨(show 0 < 2 by decide), fun x j hj => by
  have hj : j < 2 := hj
  rcases j with _ | _ | j
  all_goals first | rfl | omega⟩
theorem k_api_Envelope_sz (t : Bool) : (k_api_Envelope t).sz = 2 := rfl
theorem k_api_Envelope_nt : ∀ x j, noTag ((k_api_Envelope false).cell x j) := fun x j => match j with
  | 0 => trivial
  | 1 => dsl_nt kU8_nt
  | _ + 2 => trivial
structure api_Result where
  f_Code : Int
  f_Stage : Int
  deriving DecidableEq
theorem api_Result_iff (x y : api_Result) : x = y ↔ x.f_Code = y.f_Code ∧ x.f_Stage = y.f_Stage := by cases x; cases y; simp
def z_api_Result : api_Result := ⟨0, 0⟩
def c_api_Result (t : Bool) (x : api_Result) : Nat → DV
  | 0 => .val (.int .i64 x.f_Code)
  | 1 => .val (.int .i64 x.f_Stage)
  | _ => .any
def k_api_Result (t : Bool) : Kd api_Result := ⟨2, c_api_Result t, z_api_Result⟩
theorem k_api_Result_ok (t : Bool) : KOk (k_api_Result t) := ⟨(show 0 < 2 by decide), fun x j hj => by
  have hj : j < 2 := hj
  rcases j with _ | _ | j
  all_goals first | rfl | omega⟩
theorem k_api_Result_sz (t : Bool) : (k_api_Result t).sz = 2 := rfl
theorem k_api_Result_nt : ∀ x j, noTag ((k_api_Result false).cell x j) := fun x j => match j with
  | 0 => trivial
  | 1 => trivial
  | _ + 2 => trivial
structure api_Block where
  f_Height : Int
  f_Prev : List UInt8
  f_Requests : List api_Envelope
  f_Results : List api_Result
  deriving DecidableEq
theorem api_Block_iff (x y : api_Block) : x = y ↔ x.f_Height = y.f_Height ∧ x.f_Prev = y.f_Prev ∧ x.f_Requests = y.f_Requests ∧ x.f_Results = y.f_Results := by cases x; cases y; simp
def z_api_Block : api_Block := ⟨0, [], [], []⟩
def c_api_Block (t : Bool) (x : api_Block) : Nat → DV
  | 0 => .val (.int .i64 x.f_Height)
  | 1 => .val (strV x.f_Prev)
  | 2 => dsl t false (k_api_Envelope t) x.f_Requests
  | 3 => dsl t false (k_api_Result t) x.f_Results
  | _ => .any
def k_api_Block (t : Bool) : Kd api_Block := ⟨4, c_api_Block t, z_api_Block⟩
theorem k_api_Block_ok (t : Bool) : KOk (k_api_Block t) := ⟨(show 0 < 4 by decide), fun x j hj => by
  have hj : j < 4 := hj
  rcases j with _ | _ | _ | _ | j
  all_goals first | rfl | omega⟩
theorem k_api_Block_sz (t : Bool) : (k_api_Block t).sz = 4 := rfl
theorem k_api_Block_nt : ∀ x j, noTag ((k_api_Block false).cell x j) := fun x j => match j with
  | 0 => trivial
  | 1 => trivial
  | 2 => dsl_nt k_api_Envelope_nt
  | 3 => dsl_nt k_api_Result_nt
  | _ + 4 => trivial
structure api_Header where
  f_Height : Int
  f_Prev : List UInt8
  f_Count : Int
  f_Root : List UInt8
  deriving DecidableEq
theorem api_Header_iff (x y : api_Header) : x = y ↔ x.f_Height = y.f_Height ∧ x.f_Prev = y.f_Prev ∧ x.f_Count = y.f_Count ∧ x.f_Root = y.f_Root := by cases x; cases y; simp
def z_api_Header : api_Header := ⟨0, [], 0, []⟩
def c_api_Header (t : Bool) (x : api_Header) : Nat → DV
  | 0 => .val (.int .i64 x.f_Height)
  | 1 => .val (strV x.f_Prev)
  | 2 => .val (.int .i64 x.f_Count)
  | 3 => .val (strV x.f_Root)
  | _ => .any
def k_api_Header (t : Bool) : Kd api_Header := ⟨4, c_api_Header t, z_api_Header⟩
theorem k_api_Header_ok (t : Bool) : KOk (k_api_Header t) := ⟨(show 0 < 4 by decide), fun x j hj => by
  have hj : j < 4 := hj
  rcases j with _ | _ | _ | _ | j
  all_goals first | rfl | omega⟩
theorem k_api_Header_sz (t : Bool) : (k_api_Header t).sz = 4 := rfl
theorem k_api_Header_nt : ∀ x j, noTag ((k_api_Header false).cell x j) := fun x j => match j with
  | 0 => trivial
  | 1 => trivial
  | 2 => trivial
  | 3 => trivial
  | _ + 4 => trivial
structure quaestorlaw10_Claim where
  f_I : Int
  f_E : api_Envelope
  f_Result : api_Result
  f_Path : List api_Step
  deriving DecidableEq
theorem quaestorlaw10_Claim_iff (x y : quaestorlaw10_Claim) : x = y ↔ x.f_I = y.f_I ∧ x.f_E = y.f_E ∧ x.f_Result = y.f_Result ∧ x.f_Path = y.f_Path := by cases x; cases y; simp
def z_quaestorlaw10_Claim : quaestorlaw10_Claim := ⟨0, z_api_Envelope, z_api_Result, []⟩
def c_quaestorlaw10_Claim (t : Bool) (x : quaestorlaw10_Claim) : Nat → DV
  | 0 => .val (.int .i64 x.f_I)
  | 1 => .val (.int .i64 x.f_E.f_Signer)
  | 2 => dsl t false kU8 x.f_E.f_Body
  | 3 => .val (.int .i64 x.f_Result.f_Code)
  | 4 => .val (.int .i64 x.f_Result.f_Stage)
  | 5 => dsl t false (k_api_Step t) x.f_Path
  | _ => .any
def k_quaestorlaw10_Claim (t : Bool) : Kd quaestorlaw10_Claim := ⟨6, c_quaestorlaw10_Claim t, z_quaestorlaw10_Claim⟩
theorem k_quaestorlaw10_Claim_ok (t : Bool) : KOk (k_quaestorlaw10_Claim t) := ⟨(show 0 < 6 by decide), fun x j hj => by
  have hj : j < 6 := hj
  rcases j with _ | _ | _ | _ | _ | _ | j
  all_goals first | rfl | omega⟩
theorem k_quaestorlaw10_Claim_sz (t : Bool) : (k_quaestorlaw10_Claim t).sz = 6 := rfl
theorem k_quaestorlaw10_Claim_nt : ∀ x j, noTag ((k_quaestorlaw10_Claim false).cell x j) := fun x j => match j with
  | 0 => trivial
  | 1 => trivial
  | 2 => dsl_nt kU8_nt
  | 3 => trivial
  | 4 => trivial
  | 5 => dsl_nt k_api_Step_nt
  | _ + 6 => trivial
attribute [simp] kU8_sz kSl_sz k_api_Step_sz k_api_Envelope_sz k_api_Result_sz k_api_Block_sz k_api_Header_sz k_quaestorlaw10_Claim_sz

def ok_api_Step (x : api_Step) : Prop := (fun (_ : Bool) => True) x.f_Left ∧ (fun (l : List UInt8) => l.length ≤ maxLen) x.f_Digest
theorem rd_api_Step : Rd Try.prog 67 (k_api_Step false) ok_api_Step := fun H enc w base sp held fuel cs x h => by
  obtain ⟨xs, n, _, _, hl, hxl, hf⟩ := DataW.trod_struct Try.underlying67 h
  obtain ⟨a0, o0, c0⟩ := rd_field hxl hf 0 rfl (t := 4) (off := 0) rfl rfl (rd_bool Try.underlying4)
  obtain ⟨a1, o1, c1⟩ := rd_field hxl hf 1 rfl (t := 22) (off := 1) rfl rfl (rd_str Try.underlying22)
  refine ⟨⟨a0, a1⟩, ⟨o0, o1⟩, by rw [hl]; kernel_rfl, fun j hj => ?_⟩
  replace hj : j < 2 := hj
  rcases j with _ | _ | j
  · exact c0 0 (by decide)
  · exact c1 0 (by decide)
  · omega
def ok_api_Envelope (x : api_Envelope) : Prop := (fun (n : Int) => (Lit.int .i64 n).wf = true) x.f_Signer ∧ (fun (xs : List UInt8) => xs.length ≤ maxLen ∧ ∀ x, x ∈ xs → (fun (_ : UInt8) => True) x) x.f_Body
theorem rd_api_Envelope : Rd Try.prog 32 (k_api_Envelope false) ok_api_Envelope := fun H enc w base sp held fuel cs x h => by
  obtain ⟨xs, n, _, _, hl, hxl, hf⟩ := DataW.trod_struct Try.underlying32 h
  obtain ⟨a0, o0, c0⟩ := rd_field hxl hf 0 rfl (t := 3) (off := 0) rfl rfl (rd_int Try.underlying3)
  obtain ⟨a1, o1, c1⟩ := rd_field hxl hf 1 rfl (t := 29) (off := 1) rfl rfl (rd_slice Try.underlying29 (by kernel_rfl) (by decide) (rd_u8 Try.underlying5))
  refine ⟨⟨a0, a1⟩, ⟨o0, o1⟩, by rw [hl]; kernel_rfl, fun j hj => ?_⟩
  replace hj : j < 2 := hj
  rcases j with _ | _ | j
  · exact c0 0 (by decide)
  · exact c1 0 (by decide)
  · omega
def ok_api_Result (x : api_Result) : Prop := (fun (n : Int) => (Lit.int .i64 n).wf = true) x.f_Code ∧ (fun (n : Int) => (Lit.int .i64 n).wf = true) x.f_Stage
theorem rd_api_Result : Rd Try.prog 35 (k_api_Result false) ok_api_Result := fun H enc w base sp held fuel cs x h => by
  obtain ⟨xs, n, _, _, hl, hxl, hf⟩ := DataW.trod_struct Try.underlying35 h
  obtain ⟨a0, o0, c0⟩ := rd_field hxl hf 0 rfl (t := 33) (off := 0) rfl rfl (rd_int Try.underlying33)
  obtain ⟨a1, o1, c1⟩ := rd_field hxl hf 1 rfl (t := 3) (off := 1) rfl rfl (rd_int Try.underlying3)
  refine ⟨⟨a0, a1⟩, ⟨o0, o1⟩, by rw [hl]; kernel_rfl, fun j hj => ?_⟩
  replace hj : j < 2 := hj
  rcases j with _ | _ | j
  · exact c0 0 (by decide)
  · exact c1 0 (by decide)
  · omega
def ok_api_Block (x : api_Block) : Prop := (fun (n : Int) => (Lit.int .i64 n).wf = true) x.f_Height ∧ (fun (l : List UInt8) => l.length ≤ maxLen) x.f_Prev ∧ (fun (xs : List api_Envelope) => xs.length ≤ maxLen ∧ ∀ x, x ∈ xs → ok_api_Envelope x) x.f_Requests ∧ (fun (xs : List api_Result) => xs.length ≤ maxLen ∧ ∀ x, x ∈ xs → ok_api_Result x) x.f_Results
theorem rd_api_Block : Rd Try.prog 26 (k_api_Block false) ok_api_Block := fun H enc w base sp held fuel cs x h => by
  obtain ⟨xs, n, _, _, hl, hxl, hf⟩ := DataW.trod_struct Try.underlying26 h
  obtain ⟨a0, o0, c0⟩ := rd_field hxl hf 0 rfl (t := 3) (off := 0) rfl rfl (rd_int Try.underlying3)
  obtain ⟨a1, o1, c1⟩ := rd_field hxl hf 1 rfl (t := 22) (off := 1) rfl rfl (rd_str Try.underlying22)
  obtain ⟨a2, o2, c2⟩ := rd_field hxl hf 2 rfl (t := 23) (off := 2) rfl rfl (rd_slice Try.underlying23 (by kernel_rfl) (by decide) rd_api_Envelope)
  obtain ⟨a3, o3, c3⟩ := rd_field hxl hf 3 rfl (t := 24) (off := 3) rfl rfl (rd_slice Try.underlying24 (by kernel_rfl) (by decide) rd_api_Result)
  refine ⟨⟨a0, a1, a2, a3⟩, ⟨o0, o1, o2, o3⟩, by rw [hl]; kernel_rfl, fun j hj => ?_⟩
  replace hj : j < 4 := hj
  rcases j with _ | _ | _ | _ | j
  · exact c0 0 (by decide)
  · exact c1 0 (by decide)
  · exact c2 0 (by decide)
  · exact c3 0 (by decide)
  · omega
def ok_api_Header (x : api_Header) : Prop := (fun (n : Int) => (Lit.int .i64 n).wf = true) x.f_Height ∧ (fun (l : List UInt8) => l.length ≤ maxLen) x.f_Prev ∧ (fun (n : Int) => (Lit.int .i64 n).wf = true) x.f_Count ∧ (fun (l : List UInt8) => l.length ≤ maxLen) x.f_Root
theorem rd_api_Header : Rd Try.prog 37 (k_api_Header false) ok_api_Header := fun H enc w base sp held fuel cs x h => by
  obtain ⟨xs, n, _, _, hl, hxl, hf⟩ := DataW.trod_struct Try.underlying37 h
  obtain ⟨a0, o0, c0⟩ := rd_field hxl hf 0 rfl (t := 3) (off := 0) rfl rfl (rd_int Try.underlying3)
  obtain ⟨a1, o1, c1⟩ := rd_field hxl hf 1 rfl (t := 22) (off := 1) rfl rfl (rd_str Try.underlying22)
  obtain ⟨a2, o2, c2⟩ := rd_field hxl hf 2 rfl (t := 3) (off := 2) rfl rfl (rd_int Try.underlying3)
  obtain ⟨a3, o3, c3⟩ := rd_field hxl hf 3 rfl (t := 22) (off := 3) rfl rfl (rd_str Try.underlying22)
  refine ⟨⟨a0, a1, a2, a3⟩, ⟨o0, o1, o2, o3⟩, by rw [hl]; kernel_rfl, fun j hj => ?_⟩
  replace hj : j < 4 := hj
  rcases j with _ | _ | _ | _ | j
  · exact c0 0 (by decide)
  · exact c1 0 (by decide)
  · exact c2 0 (by decide)
  · exact c3 0 (by decide)
  · omega
def ok_quaestorlaw10_Claim (x : quaestorlaw10_Claim) : Prop := (fun (n : Int) => (Lit.int .i64 n).wf = true) x.f_I ∧ ok_api_Envelope x.f_E ∧ ok_api_Result x.f_Result ∧ (fun (xs : List api_Step) => xs.length ≤ maxLen ∧ ∀ x, x ∈ xs → ok_api_Step x) x.f_Path
theorem rd_quaestorlaw10_Claim : Rd Try.prog 49 (k_quaestorlaw10_Claim false) ok_quaestorlaw10_Claim := fun H enc w base sp held fuel cs x h => by
  obtain ⟨xs, n, _, _, hl, hxl, hf⟩ := DataW.trod_struct Try.underlying49 h
  obtain ⟨a0, o0, c0⟩ := rd_field hxl hf 0 rfl (t := 3) (off := 0) rfl rfl (rd_int Try.underlying3)
  obtain ⟨a1, o1, c1⟩ := rd_field hxl hf 1 rfl (t := 32) (off := 1) rfl rfl rd_api_Envelope
  obtain ⟨a2, o2, c2⟩ := rd_field hxl hf 2 rfl (t := 35) (off := 3) rfl rfl rd_api_Result
  obtain ⟨a3, o3, c3⟩ := rd_field hxl hf 3 rfl (t := 42) (off := 5) rfl rfl (rd_slice Try.underlying42 (by kernel_rfl) (by decide) rd_api_Step)
  refine ⟨⟨a0, a1, a2, a3⟩, ⟨o0, o1, o2, o3⟩, by rw [hl]; kernel_rfl, fun j hj => ?_⟩
  replace hj : j < 6 := hj
  rcases j with _ | _ | _ | _ | _ | _ | j
  · exact c0 0 (by decide)
  · exact c1 0 (by decide)
  · exact c1 1 (by decide)
  · exact c2 0 (by decide)
  · exact c2 1 (by decide)
  · exact c3 0 (by decide)
  · omega
end Go.Proofs.Ytacikihlgpnjhaa.Q
