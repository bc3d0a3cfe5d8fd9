import Derived.Test.YthnefnknoahbkaaGreatRows
import Derived.Test.YthnefnknoahbkaaGreatC18n35
import Derived.Test.YthnefnknoahbkaaGreatQc
import Derived.WalkKit
import Derived.ProofKit
import Derived.OpenShut
import Derived.ShutString
import Derived.ChangeOld
import Derived.Below
import Derived.SizedLaws
namespace Go.Proofs.YthnefnknoahbkaaGreat.clientBelieves
open Go Go.ChangeShapes Go.WideShapes Go.ChangeAt Go.RowKit
open Go.ChangeMaps (open_string shut_string)
set_option linter.unusedVariables false
theorem own:ownKnob Tryz.prog.godebug=none:=by kernel_rfl
theorem laidOut:laidOutB Tryz.prog=true:=by kernel_rfl
set_option maxRecDepth 100000 in
theorem lifted (os:Os) (started:os.Started) (H:Type) (enc:TypeId×Value→H) :
    ReturnsInHanded {} Tryz.checked os 3 .any (Rows.clientBelievesSpec.pre6 enc Tryz.prog Tryz.f3 Rows.clientBelievesRow.domain false) (Rows.clientBelievesSpec.post enc Tryz.prog Tryz.f3 false true false false):=by
  refine returnsInHanded_of_change_sized (C:=Tryz.checked) own started (by kernel_rfl) Tryz.func3
    (ChangeSpec.witness6 (enc:=enc) (C:=Tryz.checked) false ⟨#[],#[.agg #[.int .i64 0,.int .i64 0],.slice none 0 0],[]⟩ 8 (by kernel_rfl) (by kernel_rfl) (by kernel_rfl) (by kernel_rfl)) ?_
  intro W base args ds gs before hval0 hW hcnd hsz0 _
  have hval:∀ (j:Nat) t v,Tryz.f3.params[j]?=some t→args[j]?=some v→Value.okWide Tryz.prog W .any base t v:=hval0
  have hW':=hW
  obtain ⟨p,q,hA0,hV,rfl,hfz,hnd⟩:=hW
  have hA:DataW.TrodAll enc Tryz.prog W 0 (fun _=>true) true Tryz.f3.params.toList args.toList ds p:=hA0
  rw [Tryz.params3] at hA hval
  obtain ⟨v0,vs0,d0,ds0,p0,q0,hargs,rfl,rfl,h0,r0⟩:=trodAll_cons hA
  obtain ⟨v1,vs1,d1,ds1,p1,q1,rfl,rfl,rfl,h1,r1⟩:=trodAll_cons r0
  obtain ⟨rfl,rfl,rfl⟩:=trodAll_nil r1
  obtain rfl:args=#[v0,v1]:=by cases args;simp_all
  obtain ⟨rfl,rfl⟩:=trodVars_none hV
  have k0:=h0
  have lt0:∀ x∈p0,x.block<W.heap.size:=by obtain ⟨m,hm⟩:=k0;exact DataW.trod_lt m _ _ _ hm
  obtain ⟨c0,rfl,_⟩:∃ cs,v0=.agg cs∧True:=by have z:=hval 0 23 v0 rfl rfl;unfold Value.okWide at z;rw [Tryz.underlying23] at z;obtain ⟨cs,e,_⟩:=z;exact ⟨cs,e,trivial⟩
  obtain ⟨fuel0,hf0⟩:=k0
  obtain ⟨x0,ox0,cx0⟩:=Q.Fp H enc W 0 _ _ fuel0 _ _ hf0 (Q.Xav hsz0 (j:=0) rfl rfl)
  replace k0:DataW.Trod enc Tryz.prog W 0 (fun _=>true) true 23 (.agg c0) _ _:=⟨fuel0,hf0⟩
  have k1:=h1
  have lt1:∀ x∈p1,x.block<W.heap.size:=by obtain ⟨m,hm⟩:=k1;exact DataW.trod_lt m _ _ _ hm
  obtain ⟨a1,len1,cap1,rfl⟩:=okWide_slice Tryz.underlying24 (hval 1 24 v1 rfl rfl)
  obtain ⟨fuel1,hf1⟩:=k1
  obtain ⟨x1,ox1,cx1⟩:=(Q.I6 Tryz.underlying24 (by kernel_rfl) (by decide) (of_decide_eq_true (by kernel_rfl)) Q.Ec) H enc W 0 _ _ fuel1 _ _ hf1 (Q.Xav hsz0 (j:=1) rfl rfl)
  replace k1:DataW.Trod enc Tryz.prog W 0 (fun _=>true) true 24 (.slice a1 len1 cap1) _ _:=⟨fuel1,hf1⟩
  refine (Q.lawN (Q.X1o x0 x1 (Q.Xfq ox1.1) (fun a ha=>Q.act_ok18 (ox1.2 a ha))) W (vs:=[.agg c0,.slice a1 len1 cap1]) rfl (fun i av h=>?_)).mono fun e W' ⟨he,bel⟩=>?_
  · rcases i with _|_|i
    · cases h;exact Q.arg_agg cx0 rfl
    · cases h;exact Q.arg_one cx1 rfl rfl
    · cases h
  subst he
  exact ⟨_,rfl,_,_,_,[],_,[],hW',trodAll_mk1 (shut_bool Tryz.underlying4 _),(trodAll_cons_mk (Below.trod laidOut (by kernel_rfl) (of_decide_eq_true (by kernel_rfl)) k0 bel lt0) (trodAll_cons_mk (Below.trod laidOut (by kernel_rfl) (of_decide_eq_true (by kernel_rfl)) k1 bel lt1) trodAll_mk0)),rfl,bel.frame _,fun h=>by cases h⟩
theorem over:Rows.clientBelievesRow.holds Tryz.pinned (OpenSpec.ofChange Rows.clientBelievesSpec) :=
  OpenClaim.holds_of_wide 3 Tryz.f3 rfl rfl rfl rfl rfl rfl rfl ⟨rfl,rfl,rfl,rfl,rfl⟩ rfl rfl rfl rfl rfl (by kernel_rfl) Tryz.func3 (by kernel_rfl)
    (of_decide_eq_true (by kernel_rfl)) (by unfold Func.isWrapper;first|(rw [if_pos (by decide +kernel)];kernel_rfl)|(rw [if_neg (by decide +kernel)];exact ⟨rfl,rfl⟩))
    (fun os started H enc _=>lifted os started H enc)
theorem proved:Rows.ClientBelievesSaid:=over
end Go.Proofs.YthnefnknoahbkaaGreat.clientBelieves
namespace Go.Proofs.YthnefnknoahbkaaGreat
theorem clientBelieves_holds:Rows.ClientBelievesSaid:=clientBelieves.proved
end Go.Proofs.YthnefnknoahbkaaGreat
#print axioms Go.Proofs.YthnefnknoahbkaaGreat.clientBelieves_holds
