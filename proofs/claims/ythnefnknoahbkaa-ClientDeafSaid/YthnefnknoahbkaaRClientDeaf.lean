import Derived.Test.YthnefnknoahbkaaRows
import Derived.Test.YthnefnknoahbkaaC18n32
import Derived.Test.YthnefnknoahbkaaQc
import Derived.WalkKit
import Derived.ProofKit
import Derived.OpenShut
import Derived.ShutString
import Derived.ChangeOld
import Derived.Below
import Derived.SizedLaws
namespace Go.Proofs.Ythnefnknoahbkaa.clientDeaf
open Go Go.ChangeShapes Go.WideShapes Go.ChangeAt Go.RowKit
open Go.ChangeMaps (open_string shut_string)
set_option linter.unusedVariables false
theorem own:ownKnob Try.prog.godebug=none:=by kernel_rfl
theorem laidOut:laidOutB Try.prog=true:=by kernel_rfl
set_option maxRecDepth 100000 in
theorem lifted (os:Os) (started:os.Started) (H:Type) (enc:TypeId×Value→H) :
    ReturnsInHanded {} Try.checked os 5 .any (Rows.clientDeafSpec.pre6 enc Try.prog Try.f5 Rows.clientDeafRow.domain false) (Rows.clientDeafSpec.post enc Try.prog Try.f5 false true false false):=by
  refine returnsInHanded_of_change_sized (C:=Try.checked) own started (by kernel_rfl) Try.func5
    (ChangeSpec.witness6 (enc:=enc) (C:=Try.checked) false ⟨#[],#[.agg #[.int .i64 0,.int .i64 0],.slice none 0 0],[]⟩ 8 (by kernel_rfl) (by kernel_rfl) (by kernel_rfl) (by kernel_rfl)) ?_
  intro W base args ds gs before hval0 hW hcnd hsz0 _
  have hval:∀ (j:Nat) t v,Try.f5.params[j]?=some t→args[j]?=some v→Value.okWide Try.prog W .any base t v:=hval0
  have hW':=hW
  obtain ⟨p,q,hA0,hV,rfl,hfz,hnd⟩:=hW
  have hA:DataW.TrodAll enc Try.prog W 0 (fun _=>true) true Try.f5.params.toList args.toList ds p:=hA0
  rw [Try.params5] at hA hval
  obtain ⟨v0,vs0,d0,ds0,p0,q0,hargs,rfl,rfl,h0,r0⟩:=trodAll_cons hA
  obtain ⟨v1,vs1,d1,ds1,p1,q1,rfl,rfl,rfl,h1,r1⟩:=trodAll_cons r0
  obtain ⟨rfl,rfl,rfl⟩:=trodAll_nil r1
  obtain rfl:args=#[v0,v1]:=by cases args;simp_all
  obtain ⟨rfl,rfl⟩:=trodVars_none hV
  have k0:=h0
  have lt0:∀ x∈p0,x.block<W.heap.size:=by obtain ⟨m,hm⟩:=k0;exact DataW.trod_lt m _ _ _ hm
  obtain ⟨c0,rfl,_⟩:∃ cs,v0=.agg cs∧True:=by have z:=hval 0 23 v0 rfl rfl;unfold Value.okWide at z;rw [Try.underlying23] at z;obtain ⟨cs,e,_⟩:=z;exact ⟨cs,e,trivial⟩
  obtain ⟨fuel0,hf0⟩:=k0
  obtain ⟨x0,ox0,cx0⟩:=Q.Uz H enc W 0 _ _ fuel0 _ _ hf0 (Q.H0 hsz0 (j:=0) rfl rfl)
  replace k0:DataW.Trod enc Try.prog W 0 (fun _=>true) true 23 (.agg c0) _ _:=⟨fuel0,hf0⟩
  have k1:=h1
  have lt1:∀ x∈p1,x.block<W.heap.size:=by obtain ⟨m,hm⟩:=k1;exact DataW.trod_lt m _ _ _ hm
  obtain ⟨a1,len1,cap1,rfl⟩:=okWide_slice Try.underlying24 (hval 1 24 v1 rfl rfl)
  obtain ⟨fuel1,hf1⟩:=k1
  obtain ⟨x1,ox1,cx1⟩:=(Q.J8 Try.underlying24 (by kernel_rfl) (by decide) (of_decide_eq_true (by kernel_rfl)) Q.U6) H enc W 0 _ _ fuel1 _ _ hf1 (Q.H0 hsz0 (j:=1) rfl rfl)
  replace k1:DataW.Trod enc Try.prog W 0 (fun _=>true) true 24 (.slice a1 len1 cap1) _ _:=⟨fuel1,hf1⟩
  refine (Q.lawN (Q.X6n x0 x1 (Q.X3i ox1.1) (fun a ha=>Q.X0g (ox1.2 a ha))) W (vs:=[.agg c0,.slice a1 len1 cap1]) rfl (fun i av h=>?_)).mono fun e W' ⟨he,bel⟩=>?_
  · rcases i with _|_|i
    · cases h;exact Q.X56 cx0 rfl
    · cases h;exact Q.X55 cx1 rfl rfl
    · cases h
  subst he
  exact ⟨_,rfl,_,_,_,[],_,[],hW',trodAll_mk1 (shut_bool Try.underlying4 _),(trodAll_cons_mk (Below.trod laidOut (by kernel_rfl) (of_decide_eq_true (by kernel_rfl)) k0 bel lt0) (trodAll_cons_mk (Below.trod laidOut (by kernel_rfl) (of_decide_eq_true (by kernel_rfl)) k1 bel lt1) trodAll_mk0)),rfl,bel.frame _,fun h=>by cases h⟩
theorem over:Rows.clientDeafRow.holds Try.pinned (OpenSpec.ofChange Rows.clientDeafSpec) :=
  OpenClaim.holds_of_wide 5 Try.f5 rfl rfl rfl rfl rfl rfl rfl ⟨rfl,rfl,rfl,rfl,rfl⟩ rfl rfl rfl rfl rfl (by kernel_rfl) Try.func5 (by kernel_rfl)
    (of_decide_eq_true (by kernel_rfl)) (by unfold Func.isWrapper;first|(rw [if_pos (by decide +kernel)];kernel_rfl)|(rw [if_neg (by decide +kernel)];exact ⟨rfl,rfl⟩))
    (fun os started H enc _=>lifted os started H enc)
theorem proved:Rows.ClientDeafSaid:=over
end Go.Proofs.Ythnefnknoahbkaa.clientDeaf
namespace Go.Proofs.Ythnefnknoahbkaa
theorem clientDeaf_holds:Rows.ClientDeafSaid:=clientDeaf.proved
end Go.Proofs.Ythnefnknoahbkaa
#print axioms Go.Proofs.Ythnefnknoahbkaa.clientDeaf_holds
