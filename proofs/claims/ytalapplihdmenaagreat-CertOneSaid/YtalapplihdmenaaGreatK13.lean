import Derived.Test.YtalapplihdmenaaGreatQd
import Derived.Test.YtalapplihdmenaaGreatProg
import Derived.KernelRfl
namespace Go.Proofs.YtalapplihdmenaaGreat.Q
open Go Go.RowKit
set_option linter.unusedVariables false
set_option linter.unusedSimpArgs false
set_option maxRecDepth 100000
set_option maxHeartbeats 4000000
structure api_Result where
  f_Code : Int
  f_Stage : Int
  deriving DecidableEq
theorem api_Result_iff (x y : api_Result) : x = y ↔ x.f_Code = y.f_Code ∧ x.f_Stage = y.f_Stage := by cases x; cases y; simp
def z_api_Result : api_Result := ⟨0, 0⟩
structure aE where
  f_Signer : Int
  f_Body : List UInt8
  deriving DecidableEq
theorem api_Envelope_iff (x y : aE) : x = y ↔ x.f_Signer = y.f_Signer ∧ x.f_Body = y.f_Body := by cases x; cases y; simp
def zE : aE := ⟨0, []⟩
def c_api_Envelope (t : Bool) (x : aE) : Nat → DV
  | 0 => .val (.int .i64 x.f_Signer)
  | 1 => dsl t false kU8 x.f_Body
  | _ => .any
def kE (t : Bool) : Kd aE := ⟨2, c_api_Envelope t, zE⟩
theorem k_api_Envelope_ok (t : Bool) : KOk (kE t) := ⟨(show 0 < 2 by decide), fun x j hj => by
  have hj : j < 2 := hj
  rcases j with _ | _ | j
  all_goals first | rfl | omega⟩
structure aC where
  f_Pre : aE
  f_Votes : List aE
  deriving DecidableEq
def zC : aC := ⟨zE, []⟩
def c_api_Cert (t : Bool) (x : aC) : Nat → DV
  | 0 => .val (.int .i64 x.f_Pre.f_Signer)
  | 1 => dsl t false kU8 x.f_Pre.f_Body
  | 2 => dsl t false (kE t) x.f_Votes
  | _ => .any
def kC (t : Bool) : Kd aC := ⟨3, c_api_Cert t, zC⟩
theorem k_api_Cert_ok (t : Bool) : KOk (kC t) := ⟨(show 0 < 3 by decide), fun x j hj => by
  have hj : j < 3 := hj
  rcases j with _ | _ | _ | j
  all_goals first | rfl | omega⟩
structure aM where
  f_Kind : Int
  f_View : Int
  f_Seq : Int
  f_Client : Int
  f_Stamp : Int
  f_Digest : List UInt8
  f_Data : List UInt8
  f_Result : api_Result
  f_Batch : List aE
  f_Pres : List aE
  f_Certs : List aC
  deriving DecidableEq
def zM : aM := ⟨0, 0, 0, 0, 0, [], [], z_api_Result, [], [], []⟩
structure aW where
  f_Signer : Int
  f_Signed : Bool
  f_M : aM
  deriving DecidableEq
def zW : aW := ⟨0, false, zM⟩
structure quaestorlaw13_Vote where
  f_Signer : Int
  f_Kind : Int
  f_View : Int
  f_Seq : Int
  f_Other : Bool
  f_Unsigned : Bool
  deriving DecidableEq
def z_quaestorlaw13_Vote : quaestorlaw13_Vote := ⟨0, 0, 0, 0, false, false⟩
def c_quaestorlaw13_Vote (t : Bool) (x : quaestorlaw13_Vote) : Nat → DV
  | 0 => .val (.int .i64 x.f_Signer)
  | 1 => .val (.int .i64 x.f_Kind)
  | 2 => .val (.int .i64 x.f_View)
  | 3 => .val (.int .i64 x.f_Seq)
  | 4 => .val (.bool x.f_Other)
  | 5 => .val (.bool x.f_Unsigned)
  | _ => .any
def k_quaestorlaw13_Vote (t : Bool) : Kd quaestorlaw13_Vote := ⟨6, c_quaestorlaw13_Vote t, z_quaestorlaw13_Vote⟩
structure quaestorlaw13_Case where
  f_View : Int
  f_Seq : Int
  f_Primary : Int
  f_Votes : List quaestorlaw13_Vote
  deriving DecidableEq
def z_quaestorlaw13_Case : quaestorlaw13_Case := ⟨0, 0, 0, []⟩
def c_quaestorlaw13_Case (t : Bool) (x : quaestorlaw13_Case) : Nat → DV
  | 0 => .val (.int .i64 x.f_View)
  | 1 => .val (.int .i64 x.f_Seq)
  | 2 => .val (.int .i64 x.f_Primary)
  | 3 => dsl t false (k_quaestorlaw13_Vote t) x.f_Votes
  | _ => .any
def k_quaestorlaw13_Case (t : Bool) : Kd quaestorlaw13_Case := ⟨4, c_quaestorlaw13_Case t, z_quaestorlaw13_Case⟩
structure quaestorlaw03_Size where
  f_F : Int
  f_Clients : Int
  deriving DecidableEq
def z_quaestorlaw03_Size : quaestorlaw03_Size := ⟨0, 0⟩
def c_quaestorlaw03_Size (t : Bool) (x : quaestorlaw03_Size) : Nat → DV
  | 0 => .val (.int .i64 x.f_F)
  | 1 => .val (.int .i64 x.f_Clients)
  | _ => .any
def k_quaestorlaw03_Size (t : Bool) : Kd quaestorlaw03_Size := ⟨2, c_quaestorlaw03_Size t, z_quaestorlaw03_Size⟩
structure authn_pair where
  f_signer : Int
  f_body : List UInt8
  deriving DecidableEq
structure message_shape where
  f_has : Int
  f_minView : Int
  f_minSeq : Int
  f_batch : Int
  deriving DecidableEq
structure aH where
  f_View : Bool
  f_Seq : Bool
  f_Client : Bool
  f_Digest : Bool
  f_Data : Bool
  f_Result : Bool
  f_Batch : Bool
  f_Pres : Bool
  f_Certs : Bool
  deriving DecidableEq
structure api_Request where
  f_Client : Int
  f_Stamp : Int
  f_Op : List UInt8
  deriving DecidableEq
def z_api_Request : api_Request := ⟨0, 0, []⟩
abbrev f_authn_pair : authn_pair → Value := fun x => .agg #[.int .i64 x.f_signer, strV x.f_body]
theorem mkey_authn_pair : MKey Tryz.prog 100 f_authn_pair := mkey_is (K := authn_pair) (fun x => x.f_signer) (fun x => x.f_body) (fun x y h1 h2 => by cases x; cases y; simp_all) Tryz.underlying100 (by decide) (by decide) rfl rfl Tryz.underlying3 Tryz.underlying9 (by kernel_rfl)
end Go.Proofs.YtalapplihdmenaaGreat.Q
