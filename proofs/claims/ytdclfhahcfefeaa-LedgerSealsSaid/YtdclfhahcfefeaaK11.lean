import Derived.Test.YtdclfhahcfefeaaQd
import Derived.Test.YtdclfhahcfefeaaProg
import Derived.KernelRfl
namespace Go.Proofs.Ytdclfhahcfefeaa.Q
open Go Go.RowKit
set_option linter.unusedVariables false
set_option linter.unusedSimpArgs false
set_option maxRecDepth 100000
set_option maxHeartbeats 4000000
structure api_Envelope where
  f_Signer : Int
  f_Body : List UInt8
  deriving DecidableEq
theorem api_Envelope_iff (x y : api_Envelope) : x = y ↔ x.f_Signer = y.f_Signer ∧ x.f_Body = y.f_Body := by cases x; cases y; simp
def z_api_Envelope : api_Envelope := ⟨0, []⟩
def c_api_Envelope (t : Bool) (x : api_Envelope) : Nat → DV
  | 0 => .val (.int .i64 x.f_Signer)
  | 1 => dsl t false kU8 x.f_Body
  | _ => .any
def k_api_Envelope (t : Bool) : Kd api_Envelope := ⟨2, c_api_Envelope t, z_api_Envelope⟩
theorem k_api_Envelope_ok (t : Bool) : KOk (k_api_Envelope t) := ⟨(show 0 < 2 by decide), fun x j hj => by
  have hj : j < 2 := hj
  rcases j with _ | _ | j
  all_goals first | rfl | omega⟩
theorem k_api_Envelope_sz (t : Bool) : (k_api_Envelope t).sz = 2 := rfl
theorem k_api_Envelope_nt : ∀ x j, noTag ((k_api_Envelope false).cell x j) := fun x j => match j with
  | 0 => trivial
  | 1 => dsl_nt kU8_nt
  | _ + 2 => trivial
structure api_Result where
  f_Code : Int
  f_Stage : Int
  deriving DecidableEq
theorem api_Result_iff (x y : api_Result) : x = y ↔ x.f_Code = y.f_Code ∧ x.f_Stage = y.f_Stage := by cases x; cases y; simp
def z_api_Result : api_Result := ⟨0, 0⟩
def c_api_Result (t : Bool) (x : api_Result) : Nat → DV
  | 0 => .val (.int .i64 x.f_Code)
  | 1 => .val (.int .i64 x.f_Stage)
  | _ => .any
def k_api_Result (t : Bool) : Kd api_Result := ⟨2, c_api_Result t, z_api_Result⟩
theorem k_api_Result_ok (t : Bool) : KOk (k_api_Result t) := ⟨(show 0 < 2 by decide), fun x j hj => by
  have hj : j < 2 := hj
  rcases j with _ | _ | j
  all_goals first | rfl | omega⟩
theorem k_api_Result_sz (t : Bool) : (k_api_Result t).sz = 2 := rfl
theorem k_api_Result_nt : ∀ x j, noTag ((k_api_Result false).cell x j) := fun x j => match j with
  | 0 => trivial
  | 1 => trivial
  | _ + 2 => trivial
structure api_Block where
  f_Height : Int
  f_Prev : List UInt8
  f_Requests : List api_Envelope
  f_Results : List api_Result
  deriving DecidableEq
theorem api_Block_iff (x y : api_Block) : x = y ↔ x.f_Height = y.f_Height ∧ x.f_Prev = y.f_Prev ∧ x.f_Requests = y.f_Requests ∧ x.f_Results = y.f_Results := by cases x; cases y; simp
def z_api_Block : api_Block := ⟨0, [], [], []⟩
def c_api_Block (t : Bool) (x : api_Block) : Nat → DV
  | 0 => .val (.int .i64 x.f_Height)
  | 1 => .val (strV x.f_Prev)
  | 2 => dsl t false (k_api_Envelope t) x.f_Requests
  | 3 => dsl t false (k_api_Result t) x.f_Results
  | _ => .any
def k_api_Block (t : Bool) : Kd api_Block := ⟨4, c_api_Block t, z_api_Block⟩
theorem k_api_Block_ok (t : Bool) : KOk (k_api_Block t) := ⟨(show 0 < 4 by decide), fun x j hj => by
  have hj : j < 4 := hj
  rcases j with _ | _ | _ | _ | j
  all_goals first | rfl | omega⟩
theorem k_api_Block_sz (t : Bool) : (k_api_Block t).sz = 4 := rfl
theorem k_api_Block_nt : ∀ x j, noTag ((k_api_Block false).cell x j) := fun x j => match j with
  | 0 => trivial
  | 1 => trivial
  | 2 => dsl_nt k_api_Envelope_nt
  | 3 => dsl_nt k_api_Result_nt
  | _ + 4 => trivial
structure quaestorlaw11_Act where
  f_Cut : Bool
  f_Right : Bool
  f_H : Int
  f_Block : api_Block
  deriving DecidableEq
theorem quaestorlaw11_Act_iff (x y : quaestorlaw11_Act) : x = y ↔ x.f_Cut = y.f_Cut ∧ x.f_Right = y.f_Right ∧ x.f_H = y.f_H ∧ x.f_Block = y.f_Block := by cases x; cases y; simp
def z_quaestorlaw11_Act : quaestorlaw11_Act := ⟨false, false, 0, z_api_Block⟩
def c_quaestorlaw11_Act (t : Bool) (x : quaestorlaw11_Act) : Nat → DV
  | 0 => .val (.bool x.f_Cut)
  | 1 => .val (.bool x.f_Right)
  | 2 => .val (.int .i64 x.f_H)
  | 3 => .val (.int .i64 x.f_Block.f_Height)
  | 4 => .val (strV x.f_Block.f_Prev)
  | 5 => dsl t false (k_api_Envelope t) x.f_Block.f_Requests
  | 6 => dsl t false (k_api_Result t) x.f_Block.f_Results
  | _ => .any
def k_quaestorlaw11_Act (t : Bool) : Kd quaestorlaw11_Act := ⟨7, c_quaestorlaw11_Act t, z_quaestorlaw11_Act⟩
theorem k_quaestorlaw11_Act_ok (t : Bool) : KOk (k_quaestorlaw11_Act t) := ⟨(show 0 < 7 by decide), fun x j hj => by
  have hj : j < 7 := hj
  rcases j with _ | _ | _ | _ | _ | _ | _ | j
  all_goals first | rfl | omega⟩
theorem k_quaestorlaw11_Act_sz (t : Bool) : (k_quaestorlaw11_Act t).sz = 7 := rfl
theorem k_quaestorlaw11_Act_nt : ∀ x j, noTag ((k_quaestorlaw11_Act false).cell x j) := fun x j => match j with
  | 0 => trivial
  | 1 => trivial
  | 2 => trivial
  | 3 => trivial
  | 4 => trivial
  | 5 => dsl_nt k_api_Envelope_nt
  | 6 => dsl_nt k_api_Result_nt
  | _ + 7 => trivial
structure api_Header where
  f_Height : Int
  f_Prev : List UInt8
  f_Count : Int
  f_Root : List UInt8
  deriving DecidableEq
theorem api_Header_iff (x y : api_Header) : x = y ↔ x.f_Height = y.f_Height ∧ x.f_Prev = y.f_Prev ∧ x.f_Count = y.f_Count ∧ x.f_Root = y.f_Root := by cases x; cases y; simp
def z_api_Header : api_Header := ⟨0, [], 0, []⟩
def c_api_Header (t : Bool) (x : api_Header) : Nat → DV
  | 0 => .val (.int .i64 x.f_Height)
  | 1 => .val (strV x.f_Prev)
  | 2 => .val (.int .i64 x.f_Count)
  | 3 => .val (strV x.f_Root)
  | _ => .any
def k_api_Header (t : Bool) : Kd api_Header := ⟨4, c_api_Header t, z_api_Header⟩
theorem k_api_Header_ok (t : Bool) : KOk (k_api_Header t) := ⟨(show 0 < 4 by decide), fun x j hj => by
  have hj : j < 4 := hj
  rcases j with _ | _ | _ | _ | j
  all_goals first | rfl | omega⟩
theorem k_api_Header_sz (t : Bool) : (k_api_Header t).sz = 4 := rfl
theorem k_api_Header_nt : ∀ x j, noTag ((k_api_Header false).cell x j) := fun x j => match j with
  | 0 => trivial
  | 1 => trivial
  | 2 => trivial
  | 3 => trivial
  | _ + 4 => trivial
structure ledger_link where
  f_block : api_Block
  f_digest : List UInt8
  deriving DecidableEq
theorem ledger_link_iff (x y : ledger_link) : x = y ↔ x.f_block = y.f_block ∧ x.f_digest = y.f_digest := by cases x; cases y; simp
def z_ledger_link : ledger_link := ⟨z_api_Block, []⟩
def c_ledger_link (t : Bool) (x : ledger_link) : Nat → DV
  | 0 => .val (.int .i64 x.f_block.f_Height)
  | 1 => .val (strV x.f_block.f_Prev)
  | 2 => dsl t false (k_api_Envelope t) x.f_block.f_Requests
  | 3 => dsl t false (k_api_Result t) x.f_block.f_Results
  | 4 => .val (strV x.f_digest)
  | _ => .any
def k_ledger_link (t : Bool) : Kd ledger_link := ⟨5, c_ledger_link t, z_ledger_link⟩
theorem k_ledger_link_ok (t : Bool) : KOk (k_ledger_link t) := ⟨(show 0 < 5 by decide), fun x j hj => by
  have hj : j < 5 := hj
  rcases j with _ | _ | _ | _ | _ | j
  all_goals first | rfl | omega⟩
theorem k_ledger_link_sz (t : Bool) : (k_ledger_link t).sz = 5 := rfl
theorem k_ledger_link_nt : ∀ x j, noTag ((k_ledger_link false).cell x j) := fun x j => match j with
  | 0 => trivial
  | 1 => trivial
  | 2 => dsl_nt k_api_Envelope_nt
  | 3 => dsl_nt k_api_Result_nt
  | 4 => trivial
  | _ + 5 => trivial
structure quaestorlaw11_Snap where
  f_Head : List UInt8
  f_State : List UInt8
  deriving DecidableEq
theorem quaestorlaw11_Snap_iff (x y : quaestorlaw11_Snap) : x = y ↔ x.f_Head = y.f_Head ∧ x.f_State = y.f_State := by cases x; cases y; simp
def z_quaestorlaw11_Snap : quaestorlaw11_Snap := ⟨[], []⟩
def c_quaestorlaw11_Snap (t : Bool) (x : quaestorlaw11_Snap) : Nat → DV
  | 0 => .val (strV x.f_Head)
  | 1 => dsl t false kU8 x.f_State
  | _ => .any
def k_quaestorlaw11_Snap (t : Bool) : Kd quaestorlaw11_Snap := ⟨2, c_quaestorlaw11_Snap t, z_quaestorlaw11_Snap⟩
theorem k_quaestorlaw11_Snap_ok (t : Bool) : KOk (k_quaestorlaw11_Snap t) := ⟨(show 0 < 2 by decide), fun x j hj => by
  have hj : j < 2 := hj
  rcases j with _ | _ | j
  all_goals first | rfl | omega⟩
theorem k_quaestorlaw11_Snap_sz (t : Bool) : (k_quaestorlaw11_Snap t).sz = 2 := rfl
theorem k_quaestorlaw11_Snap_nt : ∀ x j, noTag ((k_quaestorlaw11_Snap false).cell x j) := fun x j => match j with
  | 0 => trivial
  | 1 => dsl_nt kU8_nt
  | _ + 2 => trivial
structure arr_2_int where
  f_0 : Int
  f_1 : Int
  deriving DecidableEq
theorem arr_2_int_iff (x y : arr_2_int) : x = y ↔ x.f_0 = y.f_0 ∧ x.f_1 = y.f_1 := by cases x; cases y; simp
def z_arr_2_int : arr_2_int := ⟨0, 0⟩
def c_arr_2_int (t : Bool) (x : arr_2_int) : Nat → DV
  | 0 => .val (.int .i64 x.f_0)
  | 1 => .val (.int .i64 x.f_1)
  | _ => .any
def k_arr_2_int (t : Bool) : Kd arr_2_int := ⟨2, c_arr_2_int t, z_arr_2_int⟩
theorem k_arr_2_int_ok (t : Bool) : KOk (k_arr_2_int t) := ⟨(show 0 < 2 by decide), fun x j hj => by
  have hj : j < 2 := hj
  rcases j with _ | _ | j
  all_goals first | rfl | omega⟩
theorem k_arr_2_int_sz (t : Bool) : (k_arr_2_int t).sz = 2 := rfl
theorem k_arr_2_int_nt : ∀ x j, noTag ((k_arr_2_int false).cell x j) := fun x j => match j with
  | 0 => trivial
  | 1 => trivial
  | _ + 2 => trivial
attribute [simp] kU8_sz kSl_sz k_api_Envelope_sz k_api_Result_sz k_api_Block_sz k_quaestorlaw11_Act_sz k_api_Header_sz k_ledger_link_sz k_quaestorlaw11_Snap_sz k_arr_2_int_sz

def ok_api_Envelope (x : api_Envelope) : Prop := (fun (n : Int) => (Lit.int .i64 n).wf = true) x.f_Signer ∧ (fun (xs : List UInt8) => xs.length ≤ maxLen ∧ ∀ x, x ∈ xs → (fun (_ : UInt8) => True) x) x.f_Body
theorem rd_api_Envelope : Rd Try.prog 78 (k_api_Envelope false) ok_api_Envelope := fun H enc w base sp held fuel cs x h => by
  obtain ⟨xs, n, _, _, hl, hxl, hf⟩ := DataW.trod_struct Try.underlying78 h
  obtain ⟨a0, o0, c0⟩ := rd_field hxl hf 0 rfl (t := 3) (off := 0) rfl rfl (rd_int Try.underlying3)
  obtain ⟨a1, o1, c1⟩ := rd_field hxl hf 1 rfl (t := 58) (off := 1) rfl rfl (rd_slice Try.underlying58 (by kernel_rfl) (by decide) (rd_u8 Try.underlying5))
  refine ⟨⟨a0, a1⟩, ⟨o0, o1⟩, by rw [hl]; kernel_rfl, fun j hj => ?_⟩
  replace hj : j < 2 := hj
  rcases j with _ | _ | j
  · exact c0 0 (by decide)
  · exact c1 0 (by decide)
  · omega
def ok_api_Result (x : api_Result) : Prop := (fun (n : Int) => (Lit.int .i64 n).wf = true) x.f_Code ∧ (fun (n : Int) => (Lit.int .i64 n).wf = true) x.f_Stage
theorem rd_api_Result : Rd Try.prog 88 (k_api_Result false) ok_api_Result := fun H enc w base sp held fuel cs x h => by
  obtain ⟨xs, n, _, _, hl, hxl, hf⟩ := DataW.trod_struct Try.underlying88 h
  obtain ⟨a0, o0, c0⟩ := rd_field hxl hf 0 rfl (t := 43) (off := 0) rfl rfl (rd_int Try.underlying43)
  obtain ⟨a1, o1, c1⟩ := rd_field hxl hf 1 rfl (t := 3) (off := 1) rfl rfl (rd_int Try.underlying3)
  refine ⟨⟨a0, a1⟩, ⟨o0, o1⟩, by rw [hl]; kernel_rfl, fun j hj => ?_⟩
  replace hj : j < 2 := hj
  rcases j with _ | _ | j
  · exact c0 0 (by decide)
  · exact c1 0 (by decide)
  · omega
def ok_api_Block (x : api_Block) : Prop := (fun (n : Int) => (Lit.int .i64 n).wf = true) x.f_Height ∧ (fun (l : List UInt8) => l.length ≤ maxLen) x.f_Prev ∧ (fun (xs : List api_Envelope) => xs.length ≤ maxLen ∧ ∀ x, x ∈ xs → ok_api_Envelope x) x.f_Requests ∧ (fun (xs : List api_Result) => xs.length ≤ maxLen ∧ ∀ x, x ∈ xs → ok_api_Result x) x.f_Results
theorem rd_api_Block : Rd Try.prog 33 (k_api_Block false) ok_api_Block := fun H enc w base sp held fuel cs x h => by
  obtain ⟨xs, n, _, _, hl, hxl, hf⟩ := DataW.trod_struct Try.underlying33 h
  obtain ⟨a0, o0, c0⟩ := rd_field hxl hf 0 rfl (t := 3) (off := 0) rfl rfl (rd_int Try.underlying3)
  obtain ⟨a1, o1, c1⟩ := rd_field hxl hf 1 rfl (t := 29) (off := 1) rfl rfl (rd_str Try.underlying29)
  obtain ⟨a2, o2, c2⟩ := rd_field hxl hf 2 rfl (t := 30) (off := 2) rfl rfl (rd_slice Try.underlying30 (by kernel_rfl) (by decide) rd_api_Envelope)
  obtain ⟨a3, o3, c3⟩ := rd_field hxl hf 3 rfl (t := 31) (off := 3) rfl rfl (rd_slice Try.underlying31 (by kernel_rfl) (by decide) rd_api_Result)
  refine ⟨⟨a0, a1, a2, a3⟩, ⟨o0, o1, o2, o3⟩, by rw [hl]; kernel_rfl, fun j hj => ?_⟩
  replace hj : j < 4 := hj
  rcases j with _ | _ | _ | _ | j
  · exact c0 0 (by decide)
  · exact c1 0 (by decide)
  · exact c2 0 (by decide)
  · exact c3 0 (by decide)
  · omega
def ok_quaestorlaw11_Act (x : quaestorlaw11_Act) : Prop := (fun (_ : Bool) => True) x.f_Cut ∧ (fun (_ : Bool) => True) x.f_Right ∧ (fun (n : Int) => (Lit.int .i64 n).wf = true) x.f_H ∧ ok_api_Block x.f_Block
theorem rd_quaestorlaw11_Act : Rd Try.prog 35 (k_quaestorlaw11_Act false) ok_quaestorlaw11_Act := fun H enc w base sp held fuel cs x h => by
  obtain ⟨xs, n, _, _, hl, hxl, hf⟩ := DataW.trod_struct Try.underlying35 h
  obtain ⟨a0, o0, c0⟩ := rd_field hxl hf 0 rfl (t := 4) (off := 0) rfl rfl (rd_bool Try.underlying4)
  obtain ⟨a1, o1, c1⟩ := rd_field hxl hf 1 rfl (t := 4) (off := 1) rfl rfl (rd_bool Try.underlying4)
  obtain ⟨a2, o2, c2⟩ := rd_field hxl hf 2 rfl (t := 3) (off := 2) rfl rfl (rd_int Try.underlying3)
  obtain ⟨a3, o3, c3⟩ := rd_field hxl hf 3 rfl (t := 33) (off := 3) rfl rfl rd_api_Block
  refine ⟨⟨a0, a1, a2, a3⟩, ⟨o0, o1, o2, o3⟩, by rw [hl]; kernel_rfl, fun j hj => ?_⟩
  replace hj : j < 7 := hj
  rcases j with _ | _ | _ | _ | _ | _ | _ | j
  · exact c0 0 (by decide)
  · exact c1 0 (by decide)
  · exact c2 0 (by decide)
  · exact c3 0 (by decide)
  · exact c3 1 (by decide)
  · exact c3 2 (by decide)
  · exact c3 3 (by decide)
  · omega
def ok_api_Header (x : api_Header) : Prop := (fun (n : Int) => (Lit.int .i64 n).wf = true) x.f_Height ∧ (fun (l : List UInt8) => l.length ≤ maxLen) x.f_Prev ∧ (fun (n : Int) => (Lit.int .i64 n).wf = true) x.f_Count ∧ (fun (l : List UInt8) => l.length ≤ maxLen) x.f_Root
theorem rd_api_Header : Rd Try.prog 84 (k_api_Header false) ok_api_Header := fun H enc w base sp held fuel cs x h => by
  obtain ⟨xs, n, _, _, hl, hxl, hf⟩ := DataW.trod_struct Try.underlying84 h
  obtain ⟨a0, o0, c0⟩ := rd_field hxl hf 0 rfl (t := 3) (off := 0) rfl rfl (rd_int Try.underlying3)
  obtain ⟨a1, o1, c1⟩ := rd_field hxl hf 1 rfl (t := 29) (off := 1) rfl rfl (rd_str Try.underlying29)
  obtain ⟨a2, o2, c2⟩ := rd_field hxl hf 2 rfl (t := 3) (off := 2) rfl rfl (rd_int Try.underlying3)
  obtain ⟨a3, o3, c3⟩ := rd_field hxl hf 3 rfl (t := 29) (off := 3) rfl rfl (rd_str Try.underlying29)
  refine ⟨⟨a0, a1, a2, a3⟩, ⟨o0, o1, o2, o3⟩, by rw [hl]; kernel_rfl, fun j hj => ?_⟩
  replace hj : j < 4 := hj
  rcases j with _ | _ | _ | _ | j
  · exact c0 0 (by decide)
  · exact c1 0 (by decide)
  · exact c2 0 (by decide)
  · exact c3 0 (by decide)
  · omega
def ok_ledger_link (x : ledger_link) : Prop := ok_api_Block x.f_block ∧ (fun (l : List UInt8) => l.length ≤ maxLen) x.f_digest
theorem rd_ledger_link : Rd Try.prog 80 (k_ledger_link false) ok_ledger_link := fun H enc w base sp held fuel cs x h => by
  obtain ⟨xs, n, _, _, hl, hxl, hf⟩ := DataW.trod_struct Try.underlying80 h
  obtain ⟨a0, o0, c0⟩ := rd_field hxl hf 0 rfl (t := 33) (off := 0) rfl rfl rd_api_Block
  obtain ⟨a1, o1, c1⟩ := rd_field hxl hf 1 rfl (t := 29) (off := 4) rfl rfl (rd_str Try.underlying29)
  refine ⟨⟨a0, a1⟩, ⟨o0, o1⟩, by rw [hl]; kernel_rfl, fun j hj => ?_⟩
  replace hj : j < 5 := hj
  rcases j with _ | _ | _ | _ | _ | j
  · exact c0 0 (by decide)
  · exact c0 1 (by decide)
  · exact c0 2 (by decide)
  · exact c0 3 (by decide)
  · exact c1 0 (by decide)
  · omega
def ok_quaestorlaw11_Snap (x : quaestorlaw11_Snap) : Prop := (fun (l : List UInt8) => l.length ≤ maxLen) x.f_Head ∧ (fun (xs : List UInt8) => xs.length ≤ maxLen ∧ ∀ x, x ∈ xs → (fun (_ : UInt8) => True) x) x.f_State
theorem rd_quaestorlaw11_Snap : Rd Try.prog 60 (k_quaestorlaw11_Snap false) ok_quaestorlaw11_Snap := fun H enc w base sp held fuel cs x h => by
  obtain ⟨xs, n, _, _, hl, hxl, hf⟩ := DataW.trod_struct Try.underlying60 h
  obtain ⟨a0, o0, c0⟩ := rd_field hxl hf 0 rfl (t := 29) (off := 0) rfl rfl (rd_str Try.underlying29)
  obtain ⟨a1, o1, c1⟩ := rd_field hxl hf 1 rfl (t := 58) (off := 1) rfl rfl (rd_slice Try.underlying58 (by kernel_rfl) (by decide) (rd_u8 Try.underlying5))
  refine ⟨⟨a0, a1⟩, ⟨o0, o1⟩, by rw [hl]; kernel_rfl, fun j hj => ?_⟩
  replace hj : j < 2 := hj
  rcases j with _ | _ | j
  · exact c0 0 (by decide)
  · exact c1 0 (by decide)
  · omega
def ok_arr_2_int (x : arr_2_int) : Prop := (fun (n : Int) => (Lit.int .i64 n).wf = true) x.f_0 ∧ (fun (n : Int) => (Lit.int .i64 n).wf = true) x.f_1
theorem rd_arr_2_int : Rd Try.prog 67 (k_arr_2_int false) ok_arr_2_int := fun H enc w base sp held fuel cs x h => by
  obtain ⟨xs, n, hl, hxl, hf⟩ := trod_array Try.underlying67 h
  obtain ⟨a0, o0, c0⟩ := rd_elem hxl hf 0 (by decide) (off := 0) (by kernel_rfl) (rd_int Try.underlying3)
  obtain ⟨a1, o1, c1⟩ := rd_elem hxl hf 1 (by decide) (off := 1) (by kernel_rfl) (rd_int Try.underlying3)
  refine ⟨⟨a0, a1⟩, ⟨o0, o1⟩, by rw [hl]; kernel_rfl, fun j hj => ?_⟩
  replace hj : j < 2 := hj
  rcases j with _ | _ | j
  · exact c0 0 (by decide)
  · exact c1 0 (by decide)
  · omega
end Go.Proofs.Ytdclfhahcfefeaa.Q
