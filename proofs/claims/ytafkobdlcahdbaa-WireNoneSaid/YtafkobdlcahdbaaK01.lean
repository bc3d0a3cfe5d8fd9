import Derived.Test.YtafkobdlcahdbaaQ22
import Derived.Test.YtafkobdlcahdbaaProg
import Derived.KernelRfl
namespace Go.Proofs.Ytafkobdlcahdbaa.Q
open Go Go.RowKit
set_option linter.unusedVariables false
set_option linter.unusedSimpArgs false
set_option maxRecDepth 100000
set_option maxHeartbeats 4000000
structure quaestorlaw01_Item where
  f_Kind : Int
  f_N : Int
  f_B : List UInt8
  f_X : Nat
  deriving DecidableEq
theorem quaestorlaw01_Item_iff (x y : quaestorlaw01_Item) : x = y ↔ x.f_Kind = y.f_Kind ∧ x.f_N = y.f_N ∧ x.f_B = y.f_B ∧ x.f_X = y.f_X := by cases x; cases y; simp
def z_quaestorlaw01_Item : quaestorlaw01_Item := ⟨0, 0, [], 0⟩
def c_quaestorlaw01_Item (t : Bool) (x : quaestorlaw01_Item) : Nat → DV
  | 0 => .val (.int .i64 x.f_Kind)
  | 1 => .val (.int .i64 x.f_N)
  | 2 => dsl t false kU8 x.f_B
  | 3 => .val (.float .f64 x.f_X)
  | _ => .any
def k_quaestorlaw01_Item (t : Bool) : Kd quaestorlaw01_Item := ⟨4, c_quaestorlaw01_Item t, z_quaestorlaw01_Item⟩
theorem k_quaestorlaw01_Item_ok (t : Bool) : KOk (k_quaestorlaw01_Item t) := ⟨(show 0 < 4 by decide), fun x j hj => by
  have hj : j < 4 := hj
  rcases j with _ | _ | _ | _ | j
  all_goals first | rfl | omega⟩
theorem k_quaestorlaw01_Item_sz (t : Bool) : (k_quaestorlaw01_Item t).sz = 4 := rfl
theorem k_quaestorlaw01_Item_nt : ∀ x j, noTag ((k_quaestorlaw01_Item false).cell x j) := fun x j => match j with
  | 0 => trivial
  | 1 => trivial
  | 2 => dsl_nt kU8_nt
  | 3 => trivial
  | _ + 4 => trivial

def ok_quaestorlaw01_Item (x : quaestorlaw01_Item) : Prop := (fun (n : Int) => (Lit.int .i64 n).wf = true) x.f_Kind ∧ (fun (n : Int) => (Lit.int .i64 n).wf = true) x.f_N ∧ (fun (xs : List UInt8) => xs.length ≤ maxLen ∧ ∀ x, x ∈ xs → (fun (_ : UInt8) => True) x) x.f_B ∧ (fun (n : Nat) => n < 18446744073709551616) x.f_X
theorem rd_quaestorlaw01_Item : Rd Try.prog 30 (k_quaestorlaw01_Item false) ok_quaestorlaw01_Item := fun H enc w base sp held fuel cs x h => by
  obtain ⟨xs, n, _, _, hl, hxl, hf⟩ := DataW.trod_struct Try.underlying30 h
  obtain ⟨a0, o0, c0⟩ := rd_field hxl hf 0 rfl (t := 3) (off := 0) rfl rfl (rd_int Try.underlying3)
  obtain ⟨a1, o1, c1⟩ := rd_field hxl hf 1 rfl (t := 2) (off := 1) rfl rfl (rd_int Try.underlying2)
  obtain ⟨a2, o2, c2⟩ := rd_field hxl hf 2 rfl (t := 24) (off := 2) rfl rfl (rd_slice Try.underlying24 (by kernel_rfl) (by decide) (rd_u8 Try.underlying5))
  obtain ⟨a3, o3, c3⟩ := rd_field hxl hf 3 rfl (t := 28) (off := 3) rfl rfl (rd_f64 Try.underlying28)
  refine ⟨⟨a0, a1, a2, a3⟩, ⟨o0, o1, o2, o3⟩, by rw [hl]; kernel_rfl, fun j hj => ?_⟩
  replace hj : j < 4 := hj
  rcases j with _ | _ | _ | _ | j
  · exact c0 0 (by decide)
  · exact c1 0 (by decide)
  · exact c2 0 (by decide)
  · exact c3 0 (by decide)
  · omega
end Go.Proofs.Ytafkobdlcahdbaa.Q
