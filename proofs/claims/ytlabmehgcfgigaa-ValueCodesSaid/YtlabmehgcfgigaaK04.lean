import Derived.Test.YtlabmehgcfgigaaQd
import Derived.Test.YtlabmehgcfgigaaProg
import Derived.KernelRfl
namespace Go.Proofs.Ytlabmehgcfgigaa.Q
open Go Go.RowKit
set_option linter.unusedVariables false
set_option linter.unusedSimpArgs false
set_option maxRecDepth 100000
set_option maxHeartbeats 4000000
structure api_Value where
  f_Kind : Int
  f_Int : Int
  f_Bool : Bool
  f_Text : List UInt8
  f_Num : Nat
  deriving DecidableEq
theorem api_Value_iff (x y : api_Value) : x = y ↔ x.f_Kind = y.f_Kind ∧ x.f_Int = y.f_Int ∧ x.f_Bool = y.f_Bool ∧ x.f_Text = y.f_Text ∧ x.f_Num = y.f_Num := by cases x; cases y; simp
def z_api_Value : api_Value := ⟨0, 0, false, [], 0⟩
def c_api_Value (t : Bool) (x : api_Value) : Nat → DV
  | 0 => .val (.int .i64 x.f_Kind)
  | 1 => .val (.int .i64 x.f_Int)
  | 2 => .val (.bool x.f_Bool)
  | 3 => .val (strV x.f_Text)
  | 4 => .val (.float .f64 x.f_Num)
  | _ => .any
def k_api_Value (t : Bool) : Kd api_Value := ⟨5, c_api_Value t, z_api_Value⟩
theorem k_api_Value_ok (t : Bool) : KOk (k_api_Value t) := ⟨(show 0 < 5 by decide), fun x j hj => by
  have hj : j < 5 := hj
  rcases j with _ | _ | _ | _ | _ | j
  all_goals first | rfl | omega⟩
theorem k_api_Value_sz (t : Bool) : (k_api_Value t).sz = 5 := rfl
theorem k_api_Value_nt : ∀ x j, noTag ((k_api_Value false).cell x j) := fun x j => match j with
  | 0 => trivial
  | 1 => trivial
  | 2 => trivial
  | 3 => trivial
  | 4 => trivial
  | _ + 5 => trivial
structure api_Field where
  f_Name : List UInt8
  f_Kind : Int
  f_Enum : List (List UInt8)
  f_Init : api_Value
  deriving DecidableEq
theorem api_Field_iff (x y : api_Field) : x = y ↔ x.f_Name = y.f_Name ∧ x.f_Kind = y.f_Kind ∧ x.f_Enum = y.f_Enum ∧ x.f_Init = y.f_Init := by cases x; cases y; simp
def z_api_Field : api_Field := ⟨[], 0, [], z_api_Value⟩
def c_api_Field (t : Bool) (x : api_Field) : Nat → DV
  | 0 => .val (strV x.f_Name)
  | 1 => .val (.int .i64 x.f_Kind)
  | 2 => dsl t false kStr x.f_Enum
  | 3 => .val (.int .i64 x.f_Init.f_Kind)
  | 4 => .val (.int .i64 x.f_Init.f_Int)
  | 5 => .val (.bool x.f_Init.f_Bool)
  | 6 => .val (strV x.f_Init.f_Text)
  | 7 => .val (.float .f64 x.f_Init.f_Num)
  | _ => .any
def k_api_Field (t : Bool) : Kd api_Field := ⟨8, c_api_Field t, z_api_Field⟩
theorem k_api_Field_ok (t : Bool) : KOk (k_api_Field t) := ⟨(show 0 < 8 by decide), fun x j hj => by
  have hj : j < 8 := hj
  rcases j with _ | _ | _ | _ | _ | _ | _ | _ | j
  all_goals first | rfl | omega⟩
theorem k_api_Field_sz (t : Bool) : (k_api_Field t).sz = 8 := rfl
theorem k_api_Field_nt : ∀ x j, noTag ((k_api_Field false).cell x j) := fun x j => match j with
  | 0 => trivial
  | 1 => trivial
  | 2 => dsl_nt kStr_nt
  | 3 => trivial
  | 4 => trivial
  | 5 => trivial
  | 6 => trivial
  | 7 => trivial
  | _ + 8 => trivial
attribute [simp] kU8_sz kSl_sz k_api_Value_sz k_api_Field_sz

def ok_api_Value (x : api_Value) : Prop := (fun (n : Int) => (Lit.int .i64 n).wf = true) x.f_Kind ∧ (fun (n : Int) => (Lit.int .i64 n).wf = true) x.f_Int ∧ (fun (_ : Bool) => True) x.f_Bool ∧ (fun (l : List UInt8) => l.length ≤ maxLen) x.f_Text ∧ (fun (n : Nat) => n < 18446744073709551616) x.f_Num
theorem rd_api_Value : Rd Try.prog 24 (k_api_Value false) ok_api_Value := fun H enc w base sp held fuel cs x h => by
  obtain ⟨xs, n, _, _, hl, hxl, hf⟩ := DataW.trod_struct Try.underlying24 h
  obtain ⟨a0, o0, c0⟩ := rd_field hxl hf 0 rfl (t := 3) (off := 0) rfl rfl (rd_int Try.underlying3)
  obtain ⟨a1, o1, c1⟩ := rd_field hxl hf 1 rfl (t := 2) (off := 1) rfl rfl (rd_int Try.underlying2)
  obtain ⟨a2, o2, c2⟩ := rd_field hxl hf 2 rfl (t := 4) (off := 2) rfl rfl (rd_bool Try.underlying4)
  obtain ⟨a3, o3, c3⟩ := rd_field hxl hf 3 rfl (t := 9) (off := 3) rfl rfl (rd_str Try.underlying9)
  obtain ⟨a4, o4, c4⟩ := rd_field hxl hf 4 rfl (t := 22) (off := 4) rfl rfl (rd_f64 Try.underlying22)
  refine ⟨⟨a0, a1, a2, a3, a4⟩, ⟨o0, o1, o2, o3, o4⟩, by rw [hl]; kernel_rfl, fun j hj => ?_⟩
  replace hj : j < 5 := hj
  rcases j with _ | _ | _ | _ | _ | j
  · exact c0 0 (by decide)
  · exact c1 0 (by decide)
  · exact c2 0 (by decide)
  · exact c3 0 (by decide)
  · exact c4 0 (by decide)
  · omega
def ok_api_Field (x : api_Field) : Prop := (fun (l : List UInt8) => l.length ≤ maxLen) x.f_Name ∧ (fun (n : Int) => (Lit.int .i64 n).wf = true) x.f_Kind ∧ (fun (xs : List (List UInt8)) => xs.length ≤ maxLen ∧ ∀ x, x ∈ xs → (fun (l : List UInt8) => l.length ≤ maxLen) x) x.f_Enum ∧ ok_api_Value x.f_Init
theorem rd_api_Field : Rd Try.prog 44 (k_api_Field false) ok_api_Field := fun H enc w base sp held fuel cs x h => by
  obtain ⟨xs, n, _, _, hl, hxl, hf⟩ := DataW.trod_struct Try.underlying44 h
  obtain ⟨a0, o0, c0⟩ := rd_field hxl hf 0 rfl (t := 9) (off := 0) rfl rfl (rd_str Try.underlying9)
  obtain ⟨a1, o1, c1⟩ := rd_field hxl hf 1 rfl (t := 3) (off := 1) rfl rfl (rd_int Try.underlying3)
  obtain ⟨a2, o2, c2⟩ := rd_field hxl hf 2 rfl (t := 42) (off := 2) rfl rfl (rd_slice Try.underlying42 (by kernel_rfl) (by decide) (rd_str Try.underlying9))
  obtain ⟨a3, o3, c3⟩ := rd_field hxl hf 3 rfl (t := 24) (off := 3) rfl rfl rd_api_Value
  refine ⟨⟨a0, a1, a2, a3⟩, ⟨o0, o1, o2, o3⟩, by rw [hl]; kernel_rfl, fun j hj => ?_⟩
  replace hj : j < 8 := hj
  rcases j with _ | _ | _ | _ | _ | _ | _ | _ | j
  · exact c0 0 (by decide)
  · exact c1 0 (by decide)
  · exact c2 0 (by decide)
  · exact c3 0 (by decide)
  · exact c3 1 (by decide)
  · exact c3 2 (by decide)
  · exact c3 3 (by decide)
  · exact c3 4 (by decide)
  · omega
end Go.Proofs.Ytlabmehgcfgigaa.Q
