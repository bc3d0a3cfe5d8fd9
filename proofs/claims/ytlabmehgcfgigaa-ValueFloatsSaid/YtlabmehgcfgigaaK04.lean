import Derived.Test.YtlabmehgcfgigaaQd
import Derived.Test.YtlabmehgcfgigaaProg
import Derived.KernelRfl
namespace Go.Proofs.Ytlabmehgcfgigaa.Q
open Go Go.RowKit
set_option linter.unusedVariables false
set_option linter.unusedSimpArgs false
set_option maxRecDepth 100000
set_option maxHeartbeats 4000000
structure api_Value where
  f_Kind : Int
  f_Int : Int
  f_Bool : Bool
  f_Text : List UInt8
  f_Num : Nat
  deriving DecidableEq
def z_api_Value : api_Value := ⟨0, 0, false, [], 0⟩
def c_api_Value (t : Bool) (x : api_Value) : Nat → DV
  | 0 => .val (.int .i64 x.f_Kind)
  | 1 => .val (.int .i64 x.f_Int)
  | 2 => .val (.bool x.f_Bool)
  | 3 => .val (strV x.f_Text)
  | 4 => .val (.float .f64 x.f_Num)
  | _ => .any
def k_api_Value (t : Bool) : Kd api_Value := ⟨5, c_api_Value t, z_api_Value⟩
theorem k_api_Value_ok (t : Bool) : KOk (k_api_Value t) := ⟨(show 0 < 5 by decide), fun x j hj => by
  have hj : j < 5 := hj
  rcases j with _ | _ | _ | _ | _ | j
  all_goals first | rfl | omega⟩
structure api_Field where
  f_Name : List UInt8
  f_Kind : Int
  f_Enum : List (List UInt8)
  f_Init : api_Value
  deriving DecidableEq
def ok_api_Value (x : api_Value) : Prop := (fun (n : Int) => (Lit.int .i64 n).wf = true) x.f_Kind ∧ (fun (n : Int) => (Lit.int .i64 n).wf = true) x.f_Int ∧ (fun (_ : Bool) => True) x.f_Bool ∧ (fun (l : List UInt8) => l.length ≤ maxLen) x.f_Text ∧ (fun (n : Nat) => n < 18446744073709551616) x.f_Num
theorem rd_api_Value : Rd Try.prog 24 (k_api_Value false) ok_api_Value := fun H enc w base sp held fuel cs x h => by
  obtain ⟨xs, n, _, _, hl, hxl, hf⟩ := DataW.trod_struct Try.underlying24 h
  obtain ⟨a0, o0, c0⟩ := rd_field hxl hf 0 rfl (t := 3) (off := 0) rfl rfl (rd_int Try.underlying3)
  obtain ⟨a1, o1, c1⟩ := rd_field hxl hf 1 rfl (t := 2) (off := 1) rfl rfl (rd_int Try.underlying2)
  obtain ⟨a2, o2, c2⟩ := rd_field hxl hf 2 rfl (t := 4) (off := 2) rfl rfl (rd_bool Try.underlying4)
  obtain ⟨a3, o3, c3⟩ := rd_field hxl hf 3 rfl (t := 9) (off := 3) rfl rfl (rd_str Try.underlying9)
  obtain ⟨a4, o4, c4⟩ := rd_field hxl hf 4 rfl (t := 22) (off := 4) rfl rfl (rd_f64 Try.underlying22)
  refine ⟨⟨a0, a1, a2, a3, a4⟩, ⟨o0, o1, o2, o3, o4⟩, by rw [hl]; kernel_rfl, fun j hj => ?_⟩
  replace hj : j < 5 := hj
  rcases j with _ | _ | _ | _ | _ | j
  · exact c0 0 (by decide)
  · exact c1 0 (by decide)
  · exact c2 0 (by decide)
  · exact c3 0 (by decide)
  · exact c4 0 (by decide)
  · omega
end Go.Proofs.Ytlabmehgcfgigaa.Q
