import Derived.Test.YtdgjpmhpjhdkmaaQ22
import Derived.Test.YtdgjpmhpjhdkmaaProg
import Derived.KernelRfl
namespace Go.Proofs.Ytdgjpmhpjhdkmaa.Q
open Go Go.RowKit
set_option linter.unusedVariables false
set_option linter.unusedSimpArgs false
set_option maxRecDepth 100000
set_option maxHeartbeats 4000000
structure arr_2_uint8 where
  f_0 : UInt8
  f_1 : UInt8
  deriving DecidableEq
theorem arr_2_uint8_iff (x y : arr_2_uint8) : x = y ↔ x.f_0 = y.f_0 ∧ x.f_1 = y.f_1 := by cases x; cases y; simp
def z_arr_2_uint8 : arr_2_uint8 := ⟨0, 0⟩
def c_arr_2_uint8 (t : Bool) (x : arr_2_uint8) : Nat → DV
  | 0 => .val (.int .u8 ((x.f_0.toNat : Nat) : Int))
  | 1 => .val (.int .u8 ((x.f_1.toNat : Nat) : Int))
  | _ => .any
def k_arr_2_uint8 (t : Bool) : Kd arr_2_uint8 := ⟨2, c_arr_2_uint8 t, z_arr_2_uint8⟩
theorem k_arr_2_uint8_ok (t : Bool) : KOk (k_arr_2_uint8 t) := ⟨(show 0 < 2 by decide), fun x j hj => by
  have hj : j < 2 := hj
  rcases j with _ | _ | j
  all_goals first | rfl | omega⟩
theorem k_arr_2_uint8_sz (t : Bool) : (k_arr_2_uint8 t).sz = 2 := rfl
theorem k_arr_2_uint8_nt : ∀ x j, noTag ((k_arr_2_uint8 false).cell x j) := fun x j => match j with
  | 0 => trivial
  | 1 => trivial
  | _ + 2 => trivial
structure arr_2_api_Digest where
  f_0 : List UInt8
  f_1 : List UInt8
  deriving DecidableEq
theorem arr_2_api_Digest_iff (x y : arr_2_api_Digest) : x = y ↔ x.f_0 = y.f_0 ∧ x.f_1 = y.f_1 := by cases x; cases y; simp
def z_arr_2_api_Digest : arr_2_api_Digest := ⟨[], []⟩
def c_arr_2_api_Digest (t : Bool) (x : arr_2_api_Digest) : Nat → DV
  | 0 => .val (strV x.f_0)
  | 1 => .val (strV x.f_1)
  | _ => .any
def k_arr_2_api_Digest (t : Bool) : Kd arr_2_api_Digest := ⟨2, c_arr_2_api_Digest t, z_arr_2_api_Digest⟩
theorem k_arr_2_api_Digest_ok (t : Bool) : KOk (k_arr_2_api_Digest t) := ⟨(show 0 < 2 by decide), fun x j hj => by
  have hj : j < 2 := hj
  rcases j with _ | _ | j
  all_goals first | rfl | omega⟩
theorem k_arr_2_api_Digest_sz (t : Bool) : (k_arr_2_api_Digest t).sz = 2 := rfl
theorem k_arr_2_api_Digest_nt : ∀ x j, noTag ((k_arr_2_api_Digest false).cell x j) := fun x j => match j with
  | 0 => trivial
  | 1 => trivial
  | _ + 2 => trivial

def ok_arr_2_uint8 (x : arr_2_uint8) : Prop := (fun (_ : UInt8) => True) x.f_0 ∧ (fun (_ : UInt8) => True) x.f_1
theorem rd_arr_2_uint8 : Rd Try.prog 35 (k_arr_2_uint8 false) ok_arr_2_uint8 := fun H enc w base sp held fuel cs x h => by
  obtain ⟨xs, n, hl, hxl, hf⟩ := trod_array Try.underlying35 h
  obtain ⟨a0, o0, c0⟩ := rd_elem hxl hf 0 (by decide) (off := 0) (by kernel_rfl) (rd_u8 Try.underlying5)
  obtain ⟨a1, o1, c1⟩ := rd_elem hxl hf 1 (by decide) (off := 1) (by kernel_rfl) (rd_u8 Try.underlying5)
  refine ⟨⟨a0, a1⟩, ⟨o0, o1⟩, by rw [hl]; kernel_rfl, fun j hj => ?_⟩
  replace hj : j < 2 := hj
  rcases j with _ | _ | j
  · exact c0 0 (by decide)
  · exact c1 0 (by decide)
  · omega
def ok_arr_2_api_Digest (x : arr_2_api_Digest) : Prop := (fun (l : List UInt8) => l.length ≤ maxLen) x.f_0 ∧ (fun (l : List UInt8) => l.length ≤ maxLen) x.f_1
theorem rd_arr_2_api_Digest : Rd Try.prog 38 (k_arr_2_api_Digest false) ok_arr_2_api_Digest := fun H enc w base sp held fuel cs x h => by
  obtain ⟨xs, n, hl, hxl, hf⟩ := trod_array Try.underlying38 h
  obtain ⟨a0, o0, c0⟩ := rd_elem hxl hf 0 (by decide) (off := 0) (by kernel_rfl) (rd_str Try.underlying25)
  obtain ⟨a1, o1, c1⟩ := rd_elem hxl hf 1 (by decide) (off := 1) (by kernel_rfl) (rd_str Try.underlying25)
  refine ⟨⟨a0, a1⟩, ⟨o0, o1⟩, by rw [hl]; kernel_rfl, fun j hj => ?_⟩
  replace hj : j < 2 := hj
  rcases j with _ | _ | j
  · exact c0 0 (by decide)
  · exact c1 0 (by decide)
  · omega
end Go.Proofs.Ytdgjpmhpjhdkmaa.Q
