import Derived.Test.YthnefnknoahbkaaRows
import Derived.Test.YthnefnknoahbkaaC18n34
import Derived.Test.YthnefnknoahbkaaQc
import Derived.WalkKit
import Derived.ProofKit
import Derived.OpenShut
import Derived.ShutString
import Derived.ChangeOld
import Derived.Below
import Derived.SizedLaws
namespace Go.Proofs.Ythnefnknoahbkaa.clientNone
open Go Go.ChangeShapes Go.WideShapes Go.ChangeAt Go.RowKit
open Go.ChangeMaps (open_string shut_string)
set_option linter.unusedVariables false
theorem own:ownKnob Try.prog.godebug=none:=by kernel_rfl
theorem laidOut:laidOutB Try.prog=true:=by kernel_rfl
set_option maxRecDepth 100000 in
theorem lifted (os:Os) (started:os.Started) (H:Type) (enc:TypeId×Value→H) :
    ReturnsInHanded {} Try.checked os 6 .any (Rows.clientNoneSpec.pre6 enc Try.prog Try.f6 Rows.clientNoneRow.domain false) (Rows.clientNoneSpec.post enc Try.prog Try.f6 false true false false):=by
  refine returnsInHanded_of_change_sized (C:=Try.checked) own started (by kernel_rfl) Try.func6
    (ChangeSpec.witness6 (enc:=enc) (C:=Try.checked) false ⟨#[],#[.int .i64 0,.agg #[.int .i64 0,.int .i64 0,.int .i64 0,.slice none 0 0,.int .i64 0,.int .i64 0,.int .i64 0,.int .i64 0,.int .i64 0,.string ByteArray.empty,.slice none 0 0,.int .i64 0,.int .i64 0,.slice none 0 0,.slice none 0 0,.slice none 0 0,.int .i64 0,.int .i64 0,.bool false]],[]⟩ 8 (by kernel_rfl) (by kernel_rfl) (by kernel_rfl) (by kernel_rfl)) ?_
  intro W base args ds gs before hval0 hW hcnd hsz0 _
  have hval:∀ (j:Nat) t v,Try.f6.params[j]?=some t→args[j]?=some v→Value.okWide Try.prog W .any base t v:=hval0
  have hW':=hW
  obtain ⟨p,q,hA0,hV,rfl,hfz,hnd⟩:=hW
  have hA:DataW.TrodAll enc Try.prog W 0 (fun _=>true) true Try.f6.params.toList args.toList ds p:=hA0
  rw [Try.params6] at hA hval
  obtain ⟨v0,vs0,d0,ds0,p0,q0,hargs,rfl,rfl,h0,r0⟩:=trodAll_cons hA
  obtain ⟨v1,vs1,d1,ds1,p1,q1,rfl,rfl,rfl,h1,r1⟩:=trodAll_cons r0
  obtain ⟨rfl,rfl,rfl⟩:=trodAll_nil r1
  obtain rfl:args=#[v0,v1]:=by cases args;simp_all
  obtain ⟨rfl,rfl⟩:=trodVars_none hV
  have k0:=h0
  have lt0:∀ x∈p0,x.block<W.heap.size:=by obtain ⟨m,hm⟩:=k0;exact DataW.trod_lt m _ _ _ hm
  obtain ⟨n0,rfl,rfl,rfl,_⟩:=open_int Try.underlying3 (hval 0 3 v0 rfl rfl) h0
  obtain ⟨fuel0,hf0⟩:=k0
  obtain ⟨x0,ox0,cx0⟩:=(Q.Rd.s (Q.Ig Try.underlying3)) H enc W 0 _ _ fuel0 _ _ hf0 (Q.H0 hsz0 (j:=0) rfl rfl)
  replace k0:DataW.Trod enc Try.prog W 0 (fun _=>true) true 3 (.int .i64 n0) _ _:=⟨fuel0,hf0⟩
  have k1:=h1
  have lt1:∀ x∈p1,x.block<W.heap.size:=by obtain ⟨m,hm⟩:=k1;exact DataW.trod_lt m _ _ _ hm
  obtain ⟨c1,rfl,_⟩:∃ cs,v1=.agg cs∧True:=by have z:=hval 1 44 v1 rfl rfl;unfold Value.okWide at z;rw [Try.underlying44] at z;obtain ⟨cs,e,_⟩:=z;exact ⟨cs,e,trivial⟩
  obtain ⟨fuel1,hf1⟩:=k1
  obtain ⟨x1,ox1,cx1⟩:=Q.U6 H enc W 0 _ _ fuel1 _ _ hf1 (Q.H0 hsz0 (j:=1) rfl rfl)
  replace k1:DataW.Trod enc Try.prog W 0 (fun _=>true) true 44 (.agg c1) _ _:=⟨fuel1,hf1⟩
  refine (Q.lawN (Q.X6m x0 x1 (Q.X1h ox0) (Q.X0g ox1) (Q.X0g ox1).1) W (vs:=[.int .i64 n0,.agg c1]) rfl (fun i av h=>?_)).mono fun e W' ⟨he,bel⟩=>?_
  · rcases i with _|_|i
    · cases h;exact Q.X55 cx0 rfl rfl
    · cases h;exact Q.X56 cx1 rfl
    · cases h
  subst he
  exact ⟨_,rfl,_,_,_,[],_,[],hW',trodAll_mk1 (shut_bool Try.underlying4 _),(trodAll_cons_mk (Below.trod laidOut (by kernel_rfl) (of_decide_eq_true (by kernel_rfl)) k0 bel lt0) (trodAll_cons_mk (Below.trod laidOut (by kernel_rfl) (of_decide_eq_true (by kernel_rfl)) k1 bel lt1) trodAll_mk0)),rfl,bel.frame _,fun h=>by cases h⟩
theorem over:Rows.clientNoneRow.holds Try.pinned (OpenSpec.ofChange Rows.clientNoneSpec) :=
  OpenClaim.holds_of_wide 6 Try.f6 rfl rfl rfl rfl rfl rfl rfl ⟨rfl,rfl,rfl,rfl,rfl⟩ rfl rfl rfl rfl rfl (by kernel_rfl) Try.func6 (by kernel_rfl)
    (of_decide_eq_true (by kernel_rfl)) (by unfold Func.isWrapper;first|(rw [if_pos (by decide +kernel)];kernel_rfl)|(rw [if_neg (by decide +kernel)];exact ⟨rfl,rfl⟩))
    (fun os started H enc _=>lifted os started H enc)
theorem proved:Rows.ClientNoneSaid:=over
end Go.Proofs.Ythnefnknoahbkaa.clientNone
namespace Go.Proofs.Ythnefnknoahbkaa
theorem clientNone_holds:Rows.ClientNoneSaid:=clientNone.proved
end Go.Proofs.Ythnefnknoahbkaa
#print axioms Go.Proofs.Ythnefnknoahbkaa.clientNone_holds
