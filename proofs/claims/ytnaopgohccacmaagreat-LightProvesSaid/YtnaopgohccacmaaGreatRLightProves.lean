import Derived.Test.YtnaopgohccacmaaGreatRows
import Derived.Test.YtnaopgohccacmaaGreatC19n51
import Derived.Test.YtnaopgohccacmaaGreatQc
import Derived.WalkKit
import Derived.ProofKit
import Derived.OpenShut
import Derived.ShutString
import Derived.ChangeOld
import Derived.Below
import Derived.SizedLaws
namespace Go.Proofs.YtnaopgohccacmaaGreat.lightProves
open Go Go.ChangeShapes Go.WideShapes Go.ChangeAt Go.RowKit
open Go.ChangeMaps (open_string shut_string)
set_option linter.unusedVariables false
theorem own:ownKnob Tryz.prog.godebug=none:=by kernel_rfl
theorem laidOut:laidOutB Tryz.prog=true:=by kernel_rfl
set_option maxRecDepth 100000 in
theorem lifted (os:Os) (started:os.Started) (H:Type) (enc:TypeId×Value→H) :
    ReturnsInHanded {} Tryz.checked os 4 .any (Rows.lightProvesSpec.pre6 enc Tryz.prog Tryz.f4 Rows.lightProvesRow.domain false) (Rows.lightProvesSpec.post enc Tryz.prog Tryz.f4 false true false false):=by
  refine returnsInHanded_of_change_sized (C:=Tryz.checked) own started (by kernel_rfl) Tryz.func4
    (ChangeSpec.witness6 (enc:=enc) (C:=Tryz.checked) false ⟨#[],#[.agg #[.int .i64 0,.int .i64 0],.agg #[.slice none 0 0,.slice none 0 0,.slice none 0 0,.bool false],.agg #[.int .i64 0,.int .i64 0,.int .i64 0,.int .i64 0]],[]⟩ 8 (by kernel_rfl) (by kernel_rfl) (by kernel_rfl) (by kernel_rfl)) ?_
  intro W base args ds gs before hval0 hW hcnd hsz0 _
  have hval:∀ (j:Nat) t v,Tryz.f4.params[j]?=some t→args[j]?=some v→Value.okWide Tryz.prog W .any base t v:=hval0
  have hW':=hW
  obtain ⟨p,q,hA0,hV,rfl,hfz,hnd⟩:=hW
  have hA:DataW.TrodAll enc Tryz.prog W 0 (fun _=>true) true Tryz.f4.params.toList args.toList ds p:=hA0
  rw [Tryz.params4] at hA hval
  obtain ⟨v0,vs0,d0,ds0,p0,q0,hargs,rfl,rfl,h0,r0⟩:=trodAll_cons hA
  obtain ⟨v1,vs1,d1,ds1,p1,q1,rfl,rfl,rfl,h1,r1⟩:=trodAll_cons r0
  obtain ⟨v2,vs2,d2,ds2,p2,q2,rfl,rfl,rfl,h2,r2⟩:=trodAll_cons r1
  obtain ⟨rfl,rfl,rfl⟩:=trodAll_nil r2
  obtain rfl:args=#[v0,v1,v2]:=by cases args;simp_all
  obtain ⟨rfl,rfl⟩:=trodVars_none hV
  have k0:=h0
  have lt0:∀ x∈p0,x.block<W.heap.size:=by obtain ⟨m,hm⟩:=k0;exact DataW.trod_lt m _ _ _ hm
  obtain ⟨c0,rfl,_⟩:∃ cs,v0=.agg cs∧True:=by have z:=hval 0 23 v0 rfl rfl;unfold Value.okWide at z;rw [Tryz.underlying23] at z;obtain ⟨cs,e,_⟩:=z;exact ⟨cs,e,trivial⟩
  obtain ⟨fuel0,hf0⟩:=k0
  obtain ⟨x0,ox0,cx0⟩:=Q.X0b H enc W 0 _ _ fuel0 _ _ hf0 (Q.X9c hsz0 (j:=0) rfl rfl)
  replace k0:DataW.Trod enc Tryz.prog W 0 (fun _=>true) true 23 (.agg c0) _ _:=⟨fuel0,hf0⟩
  have k1:=h1
  have lt1:∀ x∈p1,x.block<W.heap.size:=by obtain ⟨m,hm⟩:=k1;exact DataW.trod_lt m _ _ _ hm
  obtain ⟨c1,rfl,_⟩:∃ cs,v1=.agg cs∧True:=by have z:=hval 1 27 v1 rfl rfl;unfold Value.okWide at z;rw [Tryz.underlying27] at z;obtain ⟨cs,e,_⟩:=z;exact ⟨cs,e,trivial⟩
  obtain ⟨fuel1,hf1⟩:=k1
  obtain ⟨x1,ox1,cx1⟩:=Q.Es H enc W 0 _ _ fuel1 _ _ hf1 (Q.X9c hsz0 (j:=1) rfl rfl)
  replace k1:DataW.Trod enc Tryz.prog W 0 (fun _=>true) true 27 (.agg c1) _ _:=⟨fuel1,hf1⟩
  have k2:=h2
  have lt2:∀ x∈p2,x.block<W.heap.size:=by obtain ⟨m,hm⟩:=k2;exact DataW.trod_lt m _ _ _ hm
  obtain ⟨c2,rfl,_⟩:∃ cs,v2=.agg cs∧True:=by have z:=hval 2 31 v2 rfl rfl;unfold Value.okWide at z;rw [Tryz.underlying31] at z;obtain ⟨cs,e,_⟩:=z;exact ⟨cs,e,trivial⟩
  obtain ⟨fuel2,hf2⟩:=k2
  obtain ⟨x2,ox2,cx2⟩:=Q.X14 H enc W 0 _ _ fuel2 _ _ hf2 (Q.X9c hsz0 (j:=2) rfl rfl)
  replace k2:DataW.Trod enc Tryz.prog W 0 (fun _=>true) true 31 (.agg c2) _ _:=⟨fuel2,hf2⟩
  refine (Q.lawN (Q.X74 x0 x1 x2 (Q.X96 ox1.1.1) (Q.X96 ox1.2.1.1) (Q.X96 ox1.2.2.1.1) (fun s hs=>Q.Xfq (ox1.2.2.1.2 s hs)) (Q.Xfq ox2.1) (Q.Xfq ox2.2.1)) W (vs:=[.agg c0,.agg c1,.agg c2]) rfl (fun i av h=>?_)).mono fun e W' ⟨he,bel⟩=>?_
  · rcases i with _|_|_|i
    · cases h;exact Q.Xcx cx0 rfl
    · cases h;exact Q.Xcx cx1 rfl
    · cases h;exact Q.Xcx cx2 rfl
    · cases h
  subst he
  exact ⟨_,rfl,_,_,_,[],_,[],hW',trodAll_mk1 (shut_bool Tryz.underlying4 _),(trodAll_cons_mk (Below.trod laidOut (by kernel_rfl) (of_decide_eq_true (by kernel_rfl)) k0 bel lt0) (trodAll_cons_mk (Below.trod laidOut (by kernel_rfl) (of_decide_eq_true (by kernel_rfl)) k1 bel lt1) (trodAll_cons_mk (Below.trod laidOut (by kernel_rfl) (of_decide_eq_true (by kernel_rfl)) k2 bel lt2) trodAll_mk0))),rfl,bel.frame _,fun h=>by cases h⟩
theorem over:Rows.lightProvesRow.holds Tryz.pinned (OpenSpec.ofChange Rows.lightProvesSpec) :=
  OpenClaim.holds_of_wide 4 Tryz.f4 rfl rfl rfl rfl rfl rfl rfl ⟨rfl,rfl,rfl,rfl,rfl⟩ rfl rfl rfl rfl rfl (by kernel_rfl) Tryz.func4 (by kernel_rfl)
    (of_decide_eq_true (by kernel_rfl)) (by unfold Func.isWrapper;first|(rw [if_pos (by decide +kernel)];kernel_rfl)|(rw [if_neg (by decide +kernel)];exact ⟨rfl,rfl⟩))
    (fun os started H enc _=>lifted os started H enc)
theorem proved:Rows.LightProvesSaid:=over
end Go.Proofs.YtnaopgohccacmaaGreat.lightProves
namespace Go.Proofs.YtnaopgohccacmaaGreat
theorem lightProves_holds:Rows.LightProvesSaid:=lightProves.proved
end Go.Proofs.YtnaopgohccacmaaGreat
#print axioms Go.Proofs.YtnaopgohccacmaaGreat.lightProves_holds
