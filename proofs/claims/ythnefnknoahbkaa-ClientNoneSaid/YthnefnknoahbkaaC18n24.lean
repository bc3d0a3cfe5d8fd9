import Derived.Test.YthnefnknoahbkaaC18n19
namespace Go.Proofs.Ythnefnknoahbkaa.Q
open Go Go.RowKit
set_option linter.unusedVariables false
set_option linter.unusedSimpArgs false
set_option maxRecDepth 100000
set_option maxHeartbeats 4000000
theorem J5 (f:Int) (u:Int) (rows:List (Xw×Bool)) (id:Int) (st:Int) (told:List (Int×Xd)) (done:List Xj) (hdl:done.length≤1000000):Holds Try.prog 13 ⟨[pv 2 0],[.box 99 [dI (3*f+1),dI u,.mref 1],mpK Xa Y5 rows,.box 82 [.ptr 0 0,dI id,dI st,.d (.val (.pointer none)),.mref 3,.own 4 (X5 false).sz 0 done.length],mpK (W0 .i64) (Xi false) told,Xe 78 (X5 false) done],slV false false (X5 false) done,[.live (.box 99 [dI (3*f+1),dI u,.mref 1]),.live (mpK Xa Y5 rows),.live (.box 82 [.ptr 0 0,dI id,dI st,.d (.val (.pointer none)),.mref 3,.own 4 (X5 false).sz 0 done.length]),.live (mpK (W0 .i64) (Xi false) told),.live (Xe 78 (X5 false) done)]⟩:=by
 refine Holds.of Try.func13 rfl (N:=10) Try.ntmps13 rfl fun w0 B0 S0 U0=>?_
 show T _ (Xz 10 5 w0 S0 U0 B0) ⟨[pv 2 0],[.live (.box 99 [dI (3*f+1),dI u,.mref 1]),.live (mpK Xa Y5 rows),.live (.box 82 [.ptr 0 0,dI id,dI st,.d (.val (.pointer none)),.mref 3,.own 4 (X5 false).sz 0 done.length]),.live (mpK (W0 .i64) (Xi false) told),.live (Xe 78 (X5 false) done)]⟩ _ _
 refine sR [] (T.seq (sR [] (cF (b:=false) rfl (T.skip (nT (sR [hR 4 rfl rfl (Wm (X6y true false done ‹_›) Try.func33 rfl (by decide) [] [4] (l:=[(.tmp 8,Y3 4 (X5 false) 0 done.length)]) [(4,.live (Xe 78 (X5 false) done))] rfl 0 0 rfl rfl rfl rfl rfl rfl rfl rfl rfl ⟨.inr (.inl ⟨rfl,Um,rfl,rfl,by simp,78,done.length,We (X5 false) done,List.Mem.head _,pe,fun i j=>by rw [Nat.zero_add]⟩),trivial⟩ rfl pZ3 (.inr ⟨(X3q (nn:=false) Iv),trivial⟩) (X8 rfl) trivial)] (T.ret ?_)))))))
 exact eRt 2 (.one (.d (dsl false false (X5 false) done))) [0,1,2,3,4] rfl (ix (ix (ix (ix (ix trivial)))))
theorem Uf (f:Int) (u:Int) (rows:List (Xw×Bool)) (id:Int) (st:Int) (told:List (Int×Xd)) (done:List Xj) (E:aE) (hdl:done.length≤1000000):Holds Try.prog 13 ⟨[pv 2 0],[.box 99 [dI (3*f+1),dI u,.mref 1],mpK Xa Y5 rows,.box 82 [.ptr 0 0,dI id,dI st,.ptr 5 0,.mref 3,.own 4 (X5 false).sz 0 done.length],mpK (W0 .i64) (Xi false) told,Xe 78 (X5 false) done,.box 48 [dI E.X4,dU E.X9]],slV false false (X5 false) done,[.live (.box 99 [dI (3*f+1),dI u,.mref 1]),.live (mpK Xa Y5 rows),.live (.box 82 [.ptr 0 0,dI id,dI st,.ptr 5 0,.mref 3,.own 4 (X5 false).sz 0 done.length]),.live (mpK (W0 .i64) (Xi false) told),.live (Xe 78 (X5 false) done),.live (.box 48 [dI E.X4,dU E.X9])]⟩:=by
 refine Holds.of Try.func13 rfl (N:=10) Try.ntmps13 rfl fun w0 B0 S0 U0=>?_
 show T _ (Xz 10 6 w0 S0 U0 B0) ⟨[pv 2 0],[.live (.box 99 [dI (3*f+1),dI u,.mref 1]),.live (mpK Xa Y5 rows),.live (.box 82 [.ptr 0 0,dI id,dI st,.ptr 5 0,.mref 3,.own 4 (X5 false).sz 0 done.length]),.live (mpK (W0 .i64) (Xi false) told),.live (Xe 78 (X5 false) done),.live (.box 48 [dI E.X4,dU E.X9])]⟩ _ _
 refine sR [] (T.seq (sR [] (cF (b:=false) rfl (T.skip (nT (sR [hR 4 rfl rfl (Wm (X6y true false done ‹_›) Try.func33 rfl (by decide) [] [4] (l:=[(.tmp 8,Y3 4 (X5 false) 0 done.length)]) [(4,.live (Xe 78 (X5 false) done))] rfl 0 0 rfl rfl rfl rfl rfl rfl rfl rfl rfl ⟨.inr (.inl ⟨rfl,Um,rfl,rfl,by simp,78,done.length,We (X5 false) done,List.Mem.head _,pe,fun i j=>by rw [Nat.zero_add]⟩),trivial⟩ rfl pZ3 (.inr ⟨(X3q (nn:=false) Iv),trivial⟩) (X8 rfl) trivial)] (T.ret ?_)))))))
 exact eRt 2 (.one (.d (dsl false false (X5 false) done))) [0,1,2,3,4,5] rfl (ix (ix (ix (ix (ix (ix trivial))))))
abbrev Zbf:St:=⟨[dv (.pointer none),aa,dv (.slice none 0 0),aa,vB true],[]⟩
theorem H3:Holds Try.prog 13 ⟨[dv (.pointer none)],[],slV false false (X5 false) ([]:List Xj),[]⟩:=by
 refine Holds.of Try.func13 rfl (N:=10) Try.ntmps13 rfl fun w0 B0 S0 U0=>?_
 show T _ (Xz 10 0 w0 S0 U0 B0) ⟨[dv (.pointer none)],[]⟩ _ _
 refine sR [] (T.seq (sR [] (cT (b:=true) rfl (sR [] (T.ret (rT ?_))))))
 refine eN Zbf ?_
 refine Xm (s':=⟨[dv (.pointer none),aa,slV false false (X5 false) ([]:List Xj),aa,vB true],[]⟩) (fun _ _ hG=>W7 (s:=Zbf) (kk2 ⟨pZ9,(kk2 trivial)⟩) trivial hG) ?_
 exact eRt 2 (.one (.d (dsl false false (X5 false) ([]:List Xj)))) [] rfl trivial
abbrev Zbg (tb:Bool) (nb:Bool) (b:List UInt8):St:=⟨[dv (.pointer none),slV tb nb kU8 b,aa,aa,dv (.slice none 0 0),vI 1,aa,aa,vB true],[]⟩
theorem Hp (tb:Bool) (nb:Bool) (b:List UInt8):Holds Try.prog 20 ⟨[dv (.pointer none),slV tb nb kU8 b],[],.tup [.one (.d (dsl false false (Y0 false) ([]:List Y7))),.one (dI 1)],[]⟩:=by
 refine Holds.of Try.func20 rfl (N:=56) Try.ntmps20 rfl fun w0 B0 S0 U0=>?_
 show T _ (Xz 56 0 w0 S0 U0 B0) ⟨[dv (.pointer none),slV tb nb kU8 b],[]⟩ _ _
 refine sR [] (T.seq (T.block (sR [] (cT (b:=true) rfl (sR [] (T.ret (rB (rT ?_))))))))
 refine eN (Zbg tb nb b) ?_
 refine Xm (s':=⟨[dv (.pointer none),slV tb nb kU8 b,aa,aa,slV false false (Y0 false) ([]:List Y7),vI 1,aa,aa,vB true],[]⟩) (fun _ _ hG=>W7 (s:=(Zbg tb nb b)) (kk4 ⟨pZ9,(kk4 trivial)⟩) trivial hG) ?_
 exact eX [.t 4 (.one (.d (dsl false false (Y0 false) ([]:List Y7)))),.t 5 (.one (dI 1))] ⟨⟨rfl,by kernel_rfl⟩,⟨⟨rfl,by kernel_rfl⟩,trivial⟩⟩ [] rfl trivial
section
variable (f:Int) (u:Int) (rows:List (Xw×Bool)) (id:Int) (st:Int) (told:List (Int×Xd)) (done:List Xj) (E:aE) (tb:Bool) (nb:Bool) (b:List UInt8)
abbrev Zbh:List HS:=[.live (.box 99 [dI (3*f+1),dI u,.mref 1]),.live (mpK Xa Y5 rows),.live (.box 82 [.ptr 0 0,dI id,dI st,.ptr 5 0,.mref 3,.own 4 (X5 false).sz 0 done.length]),.live (mpK (W0 .i64) (Xi false) told),.live (Xe 78 (X5 false) done),.live (.box 48 [dI E.X4,dU E.X9])]
abbrev Zbi:AV:=vB (decide (((b.length:Nat):Int)>4096))
abbrev Zbj:List AV:=[pv 2 0,slV tb nb kU8 b,aa,aa,dv (.slice none 0 0),vI 11,aa,aa,vB false,aa,aa,(Zbi b)]
abbrev Zbk:AV:=slV false false (Y0 false) ([]:List Y7)
abbrev Zbl:TV:=.one (.d (dsl false false (Y0 false) ([]:List Y7)))
abbrev Zbm:List AV:=[pv 2 0,slV tb nb kU8 b,aa,aa,dv (.slice none 0 0),vI 3,aa,aa,vB false,aa,aa,(Zbi b),aa,aa,aa,vB true]
end
theorem X70 (f:Int) (u:Int) (rows:List (Xw×Bool)) (id:Int) (st:Int) (told:List (Int×Xd)) (done:List Xj) (E:aE) (tb:Bool) (nb:Bool) (b:List UInt8):Holds Try.prog 20 ⟨[pv 2 0,slV tb nb kU8 b],[.box 99 [dI (3*f+1),dI u,.mref 1],mpK Xa Y5 rows,.box 82 [.ptr 0 0,dI id,dI st,.ptr 5 0,.mref 3,.own 4 (X5 false).sz 0 done.length],mpK (W0 .i64) (Xi false) told,Xe 78 (X5 false) done,.box 48 [dI E.X4,dU E.X9]],.tup [.one (.d (dsl false false (Y0 false) ([]:List Y7))),.one (dI (F6 b))],[.live (.box 99 [dI (3*f+1),dI u,.mref 1]),.live (mpK Xa Y5 rows),.live (.box 82 [.ptr 0 0,dI id,dI st,.ptr 5 0,.mref 3,.own 4 (X5 false).sz 0 done.length]),.live (mpK (W0 .i64) (Xi false) told),.live (Xe 78 (X5 false) done),.live (.box 48 [dI E.X4,dU E.X9])]⟩:=by
 refine Holds.of Try.func20 rfl (N:=56) Try.ntmps20 rfl fun w0 B0 S0 U0=>?_
 show T _ (Xz 56 6 w0 S0 U0 B0) ⟨[pv 2 0,slV tb nb kU8 b],(Zbh f u rows id st told done E)⟩ _ _
 refine sR [] (T.seq (T.block (sR [] (cF (b:=false) rfl (sR [] ?_)))))
 by_cases hq1:((b.length:Nat):Int)>4096
 ·refine cT (dT hq1) (sR [] (T.ret (rB (rT ?_))))
  refine eN ⟨(Zbj tb nb b),(Zbh f u rows id st told done E)⟩ ?_
  refine Xm (s':=⟨[pv 2 0,slV tb nb kU8 b,aa,aa,Zbk,vI 11,aa,aa,vB false,aa,aa,(Zbi b)],(Zbh f u rows id st told done E)⟩) (fun _ _ hG=>W7 (s:=⟨(Zbj tb nb b),(Zbh f u rows id st told done E)⟩) (kk4 ⟨pZ9,⟨.inl rfl,p3d⟩⟩) p3d hG) ?_
  exact eX [.t 4 (Zbl),.t 5 (.one (dI 11))] ⟨⟨rfl,by kernel_rfl⟩,⟨⟨rfl,by kernel_rfl⟩,trivial⟩⟩ [0,1,2,3,4,5] (congrArg (fun (q1:Int)=>(.tup [Zbl,.one (dI q1)]:AV)) (by exact (X5m ‹_›).symm)) (ix (ix (ix (ix (ix (ix trivial))))))
 refine cF (dF hq1) (sR [] (cT (b:=true) rfl (sR [] (T.ret (rB (rT ?_))))))
 refine eN ⟨(Zbm tb nb b),(Zbh f u rows id st told done E)⟩ ?_
 refine Xm (s':=⟨[pv 2 0,slV tb nb kU8 b,aa,aa,Zbk,vI 3,aa,aa,vB false,aa,aa,(Zbi b),aa,aa,aa,vB true],(Zbh f u rows id st told done E)⟩) (fun _ _ hG=>W7 (s:=⟨(Zbm tb nb b),(Zbh f u rows id st told done E)⟩) (kk4 ⟨pZ9,⟨.inl rfl,(kk2 (kk8 trivial))⟩⟩) p3d hG) ?_
 exact eX [.t 4 (Zbl),.t 5 (.one (dI 3))] ⟨⟨rfl,by kernel_rfl⟩,⟨⟨rfl,by kernel_rfl⟩,trivial⟩⟩ [0,1,2,3,4,5] (congrArg (fun (q1:Int)=>(.tup [Zbl,.one (dI q1)]:AV)) (by exact (X5n ‹_›).symm)) (ix (ix (ix (ix (ix (ix trivial))))))
abbrev Zbn (f:Int) (u:Int) (rows:List (Xw×Bool)) (id:Int) (st:Int) (told:List (Int×Xd)) (done:List Xj):List HS:=[.live (.box 99 [dI (3*f+1),dI u,.mref 1]),.live (mpK Xa Y5 rows),.live (.box 82 [.ptr 0 0,dI id,dI st,.d (.val (.pointer none)),.mref 3,.own 4 (X5 false).sz 0 done.length]),.live (mpK (W0 .i64) (Xi false) told),.live (Xe 78 (X5 false) done)]
abbrev Zbo (tb:Bool) (nb:Bool) (b:List UInt8):List AV:=[pv 2 0,slV tb nb kU8 b,aa,aa,dv (.slice none 0 0),vI 11,aa,aa,vB false,aa,aa,vB (decide (((b.length:Nat):Int)>4096))]
theorem X6z (f:Int) (u:Int) (rows:List (Xw×Bool)) (id:Int) (st:Int) (told:List (Int×Xd)) (done:List Xj) (tb:Bool) (nb:Bool) (b:List UInt8) (hlg:((b.length:Nat):Int)>4096):Holds Try.prog 20 ⟨[pv 2 0,slV tb nb kU8 b],[.box 99 [dI (3*f+1),dI u,.mref 1],mpK Xa Y5 rows,.box 82 [.ptr 0 0,dI id,dI st,.d (.val (.pointer none)),.mref 3,.own 4 (X5 false).sz 0 done.length],mpK (W0 .i64) (Xi false) told,Xe 78 (X5 false) done],.tup [.one (.d (dsl false false (Y0 false) ([]:List Y7))),.one (dI 11)],[.live (.box 99 [dI (3*f+1),dI u,.mref 1]),.live (mpK Xa Y5 rows),.live (.box 82 [.ptr 0 0,dI id,dI st,.d (.val (.pointer none)),.mref 3,.own 4 (X5 false).sz 0 done.length]),.live (mpK (W0 .i64) (Xi false) told),.live (Xe 78 (X5 false) done)]⟩:=by
 refine Holds.of Try.func20 rfl (N:=56) Try.ntmps20 rfl fun w0 B0 S0 U0=>?_
 show T _ (Xz 56 5 w0 S0 U0 B0) ⟨[pv 2 0,slV tb nb kU8 b],(Zbn f u rows id st told done)⟩ _ _
 refine sR [] (T.seq (T.block (sR [] (cF (b:=false) rfl (sR [] ?_)))))
 by_cases hq1:((b.length:Nat):Int)>4096
 ·refine cT (dT hq1) (sR [] (T.ret (rB (rT ?_))))
  refine eN ⟨(Zbo tb nb b),(Zbn f u rows id st told done)⟩ ?_
  refine Xm (s':=⟨[pv 2 0,slV tb nb kU8 b,aa,aa,slV false false (Y0 false) ([]:List Y7),vI 11,aa,aa,vB false,aa,aa,vB (decide (((b.length:Nat):Int)>4096))],(Zbn f u rows id st told done)⟩) (fun _ _ hG=>W7 (s:=⟨(Zbo tb nb b),(Zbn f u rows id st told done)⟩) (kk4 ⟨pZ9,⟨.inl rfl,p3d⟩⟩) ⟨.inl rfl,(kk4 trivial)⟩ hG) ?_
  exact eX [.t 4 (.one (.d (dsl false false (Y0 false) ([]:List Y7)))),.t 5 (.one (dI 11))] ⟨⟨rfl,by kernel_rfl⟩,⟨⟨rfl,by kernel_rfl⟩,trivial⟩⟩ [0,1,2,3,4] rfl (ix (ix (ix (ix (ix trivial)))))
 exact absurd hlg hq1
abbrev Zbp:SV:=.d (.val (.slice none 0 0))
abbrev Zbq (id:Int) (st:Int) (b:List UInt8):=(Yh (aM.mk 1 0 0 id (st+1) [] b (Xd.mk 0 0) ([]:List aE) ([]:List aE) ([]:List aC)))
theorem X1a (f:Int) (u:Int) (rows:List (Xw×Bool)) (id:Int) (st:Int) (told:List (Int×Xd)) (done:List Xj) (tb:Bool) (nb:Bool) (b:List UInt8) (hf:0≤f∧f≤2) (hu:0≤u∧u≤8) (hst:0≤st∧st≤1000000) (hid:-9223372036854775808≤id∧id≤9223372036854775807) (hlg:¬((b.length:Nat):Int)>4096):Holds Try.prog 20 ⟨[pv 2 0,slV tb nb kU8 b],[.box 99 [dI (3*f+1),dI u,.mref 1],mpK Xa Y5 rows,.box 82 [.ptr 0 0,dI id,dI st,.d (.val (.pointer none)),.mref 3,.own 4 (X5 false).sz 0 done.length],mpK (W0 .i64) (Xi false) told,Xe 78 (X5 false) done],.tup [.one (.d (dsl false false (Y0 false) (Vb id (W2 f u id (Yh (Yi id (st+1) b)))))),.one (dI 0)],[.live (.box 99 [dI (3*f+1),dI u,.mref 1]),.live (mpK Xa Y5 (Ik f u rows id (Yh (Yi id (st+1) b)))),.live (.box 82 [.ptr 0 0,dI id,dI (st+1),.ptr 5 0,.mref 3,.own 4 (X5 false).sz 0 done.length]),.live (mpK (W0 .i64) (Xi false) told),.live (Xe 78 (X5 false) done),.live (.box 48 [dI (W2 f u id (Yh (Yi id (st+1) b))).X4,dU (W2 f u id (Yh (Yi id (st+1) b))).X9])]⟩:=by
 refine Holds.of Try.func20 rfl (N:=56) Try.ntmps20 rfl fun w0 B0 S0 U0=>?_
 show T _ (Xz 56 5 w0 S0 U0 B0) ⟨[pv 2 0,slV tb nb kU8 b],[.live (.box 99 [dI (3*f+1),dI u,.mref 1]),.live (mpK Xa Y5 rows),.live (.box 82 [.ptr 0 0,dI id,dI st,.d (.val (.pointer none)),.mref 3,.own 4 (X5 false).sz 0 done.length]),.live (mpK (W0 .i64) (Xi false) told),.live (Xe 78 (X5 false) done)]⟩ _ _
 have hbl:(Yh (aM.mk 1 0 0 id (st+1) [] b (Xd.mk 0 0) [] [] [])).length≤5000:=Fg id (st+1) b hlg
 have hvl:=X7z f u id (Yh (aM.mk 1 0 0 id (st+1) [] b (Xd.mk 0 0) [] [] []))
 refine sR [] (T.seq (T.block (sR [] (cF (b:=false) rfl (sR [] ?_)))))
 by_cases hq1:((b.length:Nat):Int)>4096
 ·exact absurd hq1 hlg
 refine cF (dF hq1) (sR [] (cF (b:=false) rfl (T.skip (nB (nT (sR [hR 4 rfl rfl (Y9 (u1:=.int .i64 st) (u2:=.int .i64 1) (v:=.int .i64 (st+1)) (W6 pZ5) (X8 rfl) ⟨rfl,trivial⟩)] ?_))))))
 refine sD [[],[0],[0,1],[0,1,2],[],[4],[4,5],[4,5,6],[],[8],[8,9],[8,9,10],[],[12],[12,13],[12,13,14],[],[8,9,10,11,12,13,14,15,16],[8,9,10,11,12,13,14,15,16,17],[0,1,2,3,4,5,6,7,8,9,10,11,12,13,14,15,16,17,18],[0,1,2,3,4,5,6,7,8,9,10,11,12,13,14,15,16,17,18,19],[0,1,2,3,4,5,6,7,8,9,10,11,12,13,14,15,16,17,18,19,20],[0,1,2,3,4,5,6,7,8,9,10,11,12,13,14,15,16,17,18,19,20],[],[0,1,2,3,4,5,6,7,8,9,10,11,12,13,14,15,16,17,18,19,20,21,23],[0,1,2,3,4,5,6,7,8,9,10,11,12,13,14,15,16,17,18,19,20,21,22,23,24]] [hR 18 rfl rfl (rCn (Xco tb (aM.mk 1 0 0 id (st+1) [] b (Xd.mk 0 0) ([]:List aE) ([]:List aE) ([]:List aC)) (Ue id (st+1) b hlg).1 (Ue id (st+1) b hlg).2.1 (Ue id (st+1) b hlg).2.2.1 (Ue id (st+1) b hlg).2.2.2.1 (Ue id (st+1) b hlg).2.2.2.2.1 (Ue id (st+1) b hlg).2.2.2.2.2) Try.func42 [] [(.tmp 46,.tv (.agg [dI 1,dI 0,dI 0,dI id,dI (st+1),dS [],.d (dsl tb nb kU8 b),dI 0,dI 0,Zbp,Zbp,Zbp]))] 0 0 ⟨⟨.inl ⟨rfl,rfl⟩,⟨.inl ⟨rfl,rfl⟩,⟨.inl ⟨rfl,rfl⟩,⟨.inl ⟨rfl,rfl⟩,⟨.inl ⟨rfl,rfl⟩,⟨.inl ⟨rfl,rfl⟩,⟨.inr (.inr ⟨rfl,Um,rfl,rfl,rfl⟩),⟨.inl ⟨rfl,rfl⟩,⟨.inl ⟨rfl,rfl⟩,⟨.inr pZ9,⟨.inr pZ9,⟨.inr pZ9,trivial⟩⟩⟩⟩⟩⟩⟩⟩⟩⟩⟩⟩,trivial⟩ trivial),hR 19 rfl rfl (rCa (E2 f u rows id false false (Yh (aM.mk 1 0 0 id (st+1) [] b (Xd.mk 0 0) ([]:List aE) ([]:List aE) ([]:List aC))) ‹_› ‹_› ‹_› (by omega)) Try.func28 [0,1] [(.tmp 32,pv 0 0),(.tmp 36,vI id),(.tmp 47,slV false false kU8 (Zbq id st b))] 2 2)] ?_
 refine sR [] (sR [hR 1 rfl rfl (rCa (X1c f u (Ik f u rows id (Yh (aM.mk 1 0 0 id (st+1) [] b (Xd.mk 0 0) ([]:List aE) ([]:List aE) ([]:List aC)))) id (st+1) told done (W2 f u id (Yh (aM.mk 1 0 0 id (st+1) [] b (Xd.mk 0 0) ([]:List aE) ([]:List aE) ([]:List aC)))) (by omega)) Try.func17 [0,1,2,3,4,5] [(.tmp 54,pv 2 0)] 6 6)] (T.ret ?_))
 exact eX [.t 4 (.one (.d (dsl false false (Y0 false) (Vb id (W2 f u id (Zbq id st b)))))),.t 5 (.one (dI 0))] ⟨⟨rfl,by kernel_rfl⟩,⟨⟨rfl,by kernel_rfl⟩,trivial⟩⟩ [0,1,2,3,4,5] p3e (ix ⟨⟨rfl,(by have e1:((Ik f u rows id (Yh (aM.mk 1 0 0 id (st+1) [] b (Xd.mk 0 0) ([]:List aE) ([]:List aE) ([]:List aC)))):List (Xw×Bool))=(Ik f u rows id (Yh (Yi id (st+1) b))):=(by rfl);have hE:=congrArg (fun (q1:List (Xw×Bool))=>(.live (mpK Xa Y5 q1):HS)) e1;exact Eq.trans pZ4 hE)⟩,(ix (ix (ix ⟨⟨rfl,(by have e1:((W2 f u id (Yh (aM.mk 1 0 0 id (st+1) [] b (Xd.mk 0 0) ([]:List aE) ([]:List aE) ([]:List aC)))).X4:Int)=(W2 f u id (Yh (Yi id (st+1) b))).X4:=(by rfl);have e2:((W2 f u id (Yh (aM.mk 1 0 0 id (st+1) [] b (Xd.mk 0 0) ([]:List aE) ([]:List aE) ([]:List aC)))).X9:List UInt8)=(W2 f u id (Yh (Yi id (st+1) b))).X9:=(by rfl);have hE:=congr p49 e2;exact Eq.trans pZ4 hE)⟩,trivial⟩)))⟩)
theorem H4 (te:Bool) (e:aE):Holds Try.prog 21 ⟨[dv (.pointer none),.tv (.agg [dI e.X4,.d (dsl te false kU8 e.X9)])],[],.tup [],[]⟩:=by
 refine Holds.of Try.func21 rfl (N:=125) Try.ntmps21 rfl fun w0 B0 S0 U0=>?_
 show T _ (Xz 125 0 w0 S0 U0 B0) ⟨[dv (.pointer none),.tv (.agg [dI e.X4,.d (dsl te false kU8 e.X9)])],[]⟩ _ _
 refine sR [] (T.seq ?_)
 refine sD [[],[0],[0,1],[0,1,2],[0,1,2,3],[0,1,2,3,4],[0,1,2,3,4,5],[0,1,2,3,4,5,6],[0,1,2,3,4,5,6,7],[0,1,2,3,4,5,6,7,8],[0,1,2,3,4,5,6,7,8,9],[0,1,2,3,4,5,6,7,8,9,10],[0,1,2,3,4,5,6,7,8,9,10,11],[0,1,2,3,4,5,6,7,8,9,10,11,12],[0,1,2,3,4,5,6,7,8,9],[0,1,2,3,4,5,6,7,8,9,14],[0,1,2,3,4,5,6,7,8,9,10,11,12,13,14,15],[0,1,2,3,4,5,6,7,8,9,10,11,12,13,14,15,16],[0,1,2,3,4,5,6,7,8,9,10,11,12,13,14,15,16,17],[0,1,2,3,4,5,6,7,8,9,10,11,12,13,14,15,16,17,18],[0,1,2,3,4,5,6,7,8,9,10,11,12,13,14,15,16,17,18,19],[0,1,2,3,4,5,6,7,8,9,10,11,12,13,14,15,16,17,18,19,20],[0,1,2,3,4,5,6,7,8,9,10,11,12,13,14,15,16,17,18,19,20,21],[0,1,2,3,4,5,6,7,8,9,10,11,12,13,14,15,16,17,18,19,20,21,22],[0,1,2,3,4,5,6,7,8,9,10,11,12,13,14,15,16,17,18,19],[0,1,2,3,4,5,6,7,8,9,10,11,12,13,14,15,16,17,18,19,20,21,22,23,24],[0,1,2,3,4,5,6,7,8,9,10,11,12,13,14,15,16,17,18,19,20,21,22,23,24,25],[0,1,2,3,4,5,6,7,8,9,10,11,12,13,14,15,16,17,18,19,20,21,22,23,24,25,26]] (Xl hN0 [3,4,5,6,7] (hP1 8::(Xl hN0 [10,11,12,13,14,15,16,17] (hP1 18::(Xl hN0 [20,21,22,23,24,25,26] (hP1 27::[])))))) ?_
 refine cT (b:=true) rfl (T.ret (rT ?_))
 exact eX [] trivial [] rfl trivial
theorem X4n (f:Int) (u:Int) (rows:List (Xw×Bool)) (id:Int) (st:Int) (told:List (Int×Xd)) (done:List Xj) (te:Bool) (e:aE):Holds Try.prog 21 ⟨[pv 2 0,.tv (.agg [dI e.X4,.d (dsl te false kU8 e.X9)])],[.box 99 [dI (3*f+1),dI u,.mref 1],mpK Xa Y5 rows,.box 82 [.ptr 0 0,dI id,dI st,.d (.val (.pointer none)),.mref 3,.own 4 (X5 false).sz 0 done.length],mpK (W0 .i64) (Xi false) told,Xe 78 (X5 false) done],.tup [],[.live (.box 99 [dI (3*f+1),dI u,.mref 1]),.live (mpK Xa Y5 rows),.live (.box 82 [.ptr 0 0,dI id,dI st,.d (.val (.pointer none)),.mref 3,.own 4 (X5 false).sz 0 done.length]),.live (mpK (W0 .i64) (Xi false) told),.live (Xe 78 (X5 false) done)]⟩:=by
 refine Holds.of Try.func21 rfl (N:=125) Try.ntmps21 rfl fun w0 B0 S0 U0=>?_
 show T _ (Xz 125 5 w0 S0 U0 B0) ⟨[pv 2 0,.tv (.agg [dI e.X4,.d (dsl te false kU8 e.X9)])],[.live (.box 99 [dI (3*f+1),dI u,.mref 1]),.live (mpK Xa Y5 rows),.live (.box 82 [.ptr 0 0,dI id,dI st,.d (.val (.pointer none)),.mref 3,.own 4 (X5 false).sz 0 done.length]),.live (mpK (W0 .i64) (Xi false) told),.live (Xe 78 (X5 false) done)]⟩ _ _
 refine sR [] (T.seq ?_)
 refine sD [[],[0],[0,1],[0,1,2],[0,1,2,3],[0,1,2,3,4],[0,1,2,3,4,5],[0,1,2,3,4,5,6],[0,1,2,3,4,5,6,7],[0,1,2,3,4,5,6,7,8],[0,1,2,3,4,5,6,7,8,9],[0,1,2,3,4,5,6,7,8,9,10],[0,1,2,3,4,5,6,7,8,9,10,11],[0,1,2,3,4,5,6,7,8,9,10,11,12],[0,1,2,3,4,5,6,7,8,9],[0,1,2,3,4,5,6,7,8,9,14],[0,1,2,3,4,5,6,7,8,9,10,11,12,13,14,15],[0,1,2,3,4,5,6,7,8,9,10,11,12,13,14,15,16],[0,1,2,3,4,5,6,7,8,9,10,11,12,13,14,15,16,17],[0,1,2,3,4,5,6,7,8,9,10,11,12,13,14,15,16,17,18],[0,1,2,3,4,5,6,7,8,9,10,11,12,13,14,15,16,17,18,19],[0,1,2,3,4,5,6,7,8,9,10,11,12,13,14,15,16,17,18,19,20],[0,1,2,3,4,5,6,7,8,9,10,11,12,13,14,15,16,17,18,19,20,21],[0,1,2,3,4,5,6,7,8,9,10,11,12,13,14,15,16,17,18,19,20,21,22],[0,1,2,3,4,5,6,7,8,9,10,11,12,13,14,15,16,17,18,19],[0,1,2,3,4,5,6,7,8,9,10,11,12,13,14,15,16,17,18,19,20,21,22,23,24],[0,1,2,3,4,5,6,7,8,9,10,11,12,13,14,15,16,17,18,19,20,21,22,23,24,25],[0,1,2,3,4,5,6,7,8,9,10,11,12,13,14,15,16,17,18,19,20,21,22,23,24,25,26]] (Xl hY0 [3,4,5,6,7] (hP0 8::(Xl hN0 [10,11,12,13,14,15,16,17] (hP1 18::(Xl hN0 [20,21,22,23,24,25,26] (hP1 27::[])))))) ?_
 refine cT (b:=true) rfl (T.ret (rT ?_))
 exact eX [] trivial [0,1,2,3,4] rfl (ix (ix (ix (ix (ix trivial)))))
section
variable (f:Int) (u:Int) (rows:List (Xw×Bool)) (id:Int) (st:Int) (told:List (Int×Xd)) (done:List Xj) (E:aE) (te:Bool) (e:aE) (seen:List Nat) (bn:List Nat) (clk:Nat) (j:Nat)
abbrev Zbr:List SV:=[dI e.X4,.d (dsl te false kU8 e.X9)]
abbrev Zbs:HS:=.live (.box 99 [dI (3*f+1),dI u,.mref 1])
abbrev Zbt:HS:=.live (mpK Xa Y5 rows)
abbrev Zbu:HS:=.live (.box 82 [.ptr 0 0,dI id,dI st,.ptr 5 0,.mref 3,.own 4 (X5 false).sz 0 done.length])
abbrev Zbv:HS:=.live (Xe 78 (X5 false) done)
abbrev Zbw:HS:=.live (.box 48 [dI E.X4,dU E.X9])
abbrev Zbx:TV:=.agg [dI (Y6 e.X9).X1.Xs,dI (Y6 e.X9).X1.Xo]
abbrev Zby:HS:=.live (.box 48 (Zbr te e))
abbrev Zbz:HS:=.live (.box 42 [dI (Y6 e.X9).X3,dI (Y6 e.X9).Xt,dI (Y6 e.X9).Xy,dI (Y6 e.X9).Xb,dI (Y6 e.X9).Xv,dS (Y6 e.X9).Xc,dU (Y6 e.X9).Xk,dI (Y6 e.X9).X1.Xs,dI (Y6 e.X9).X1.Xo,.d (dsl false false (kE false) (Y6 e.X9).Xf),.d (dsl false false (kE false) (Y6 e.X9).Xr),.d (dsl false false (kC false) (Y6 e.X9).X7)])
abbrev Zc0:List HS:=[(Zbs f u),(Zbt rows),(Zbu id st done),.live (mpK (W0 .i64) (Xi false) (mput told e.X4 (Y6 e.X9).X1)),(Zbv done),(Zbw E),(Zby te e),(Zbz e)]
abbrev Zc1:AV:=vI ((Vp (mput told e.X4 (Y6 e.X9).X1) bn seen (Y6 e.X9).X1:Nat):Int)
abbrev Zc2:List AV:=[pv 2 0,aa,aa,pv 6 0,pv 7 0,aa,(Zc1 told e seen bn),aa,aa,aa,aa,aa,aa,aa,aa,aa,aa,aa,aa,aa,aa,aa,aa,aa,aa,aa,aa,aa,aa,aa,aa,aa,aa,aa,aa,aa,aa,aa,aa,aa,aa,aa,aa,aa,aa,aa,aa,aa,aa,aa,aa,aa,aa,aa,aa,aa,aa,aa,aa,aa,aa,aa,aa,aa,aa,aa,aa,aa,aa,aa,aa,aa,aa,aa,aa,aa,aa,aa,aa,aa,pv 8 0]
abbrev Zc3:HS:=.live (mprK (W0 .i64) (Xi false) (mput told e.X4 (Y6 e.X9).X1) bn clk)
abbrev Zc5:List AV:=[pv 2 0,aa,aa,pv 6 0,pv 7 0,aa,(Zc1 told e seen bn),aa,aa,aa,aa,aa,aa,aa,aa,aa,aa,aa,aa,aa,aa,aa,aa,aa,aa,aa,aa,aa,aa,aa,aa,aa,aa,aa,aa,aa,aa,aa,aa,aa,aa,aa,aa,aa,aa,aa,aa,aa,aa,aa,aa,aa,aa,aa,aa,aa,aa,aa,aa,aa,aa,aa,aa,aa,aa,aa,aa,aa,aa,aa,aa,aa,aa,aa,aa,aa,aa,aa,aa,aa,pv 8 0,aa,vB false]
abbrev Zc6:List AV:=[pv 2 0,aa,aa,pv 6 0,pv 7 0,aa,vI ((Fc (mput told e.X4 (Y6 e.X9).X1) (Y6 e.X9).X1:Nat):Int)]
abbrev Zc7:List HS:=[(Zbs f u),(Zbt rows),(Zbu id st done),(Zc3 told e bn clk),(Zbv done),(Zbw E),(Zby te e),(Zbz e),.live (.it 3 clk (seen++[bn.getD j 0]))]
abbrev Zc8:TV:=.agg [dI (((mput told e.X4 (Y6 e.X9).X1).getD j (0,Ye)).2).Xs,dI (((mput told e.X4 (Y6 e.X9).X1).getD j (0,Ye)).2).Xo]
end
theorem X4m (f:Int) (u:Int) (rows:List (Xw×Bool)) (id:Int) (st:Int) (told:List (Int×Xd)) (done:List Xj) (E:aE) (te:Bool) (e:aE) (hf:0≤f∧f≤2) (hu:0≤u∧u≤8) (hs:-9223372036854775808≤e.X4∧e.X4≤9223372036854775807) (hb:e.X9.length≤100000000) (htl:told.length≤1000000) (hd:¬Fb (Wy f u rows) f id st told e):Holds Try.prog 21 ⟨[pv 2 0,.tv (.agg [dI e.X4,.d (dsl te false kU8 e.X9)])],[.box 99 [dI (3*f+1),dI u,.mref 1],mpK Xa Y5 rows,.box 82 [.ptr 0 0,dI id,dI st,.ptr 5 0,.mref 3,.own 4 (X5 false).sz 0 done.length],mpK (W0 .i64) (Xi false) told,Xe 78 (X5 false) done,.box 48 [dI E.X4,dU E.X9]],.tup [],[.live (.box 99 [dI (3*f+1),dI u,.mref 1]),.live (mpK Xa Y5 rows),.live (.box 82 [.ptr 0 0,dI id,dI st,.ptr 5 0,.mref 3,.own 4 (X5 false).sz 0 done.length]),.live (mpK (W0 .i64) (Xi false) (Id (Wy f u rows) f id st told e)),.live (Xe 78 (X5 false) done),.live (.box 48 [dI E.X4,dU E.X9])]⟩:=by
 refine Holds.of Try.func21 rfl (N:=125) Try.ntmps21 rfl fun w0 B0 S0 U0=>?_
 show T _ (Xz 125 6 w0 S0 U0 B0) ⟨[pv 2 0,.tv (.agg (Zbr te e))],[(Zbs f u),(Zbt rows),(Zbu id st done),.live (mpK (W0 .i64) (Xi false) told),(Zbv done),(Zbw E)]⟩ _ _
 have hml:=X1r told e.X4 (Y6 e.X9).X1
 refine sR [] (T.seq ?_)
 by_cases hq1:Vl f e.X4
 rotate_left
 ·have hx:¬V1 (Wy f u rows) f id st e:=fun w=>hq1 w.1
  refine sD [[],[0],[0,1],[0,1,2],[0,1,2,3],[0,1,2,3,4],[0,1,2,3,4,5],[0,1,2,3,4,5,6],[0,1,2,3,4,5,6,7],[0,1,2,3,4,5,6,7,8],[0,1,2,3,4,5,6,7,8,9],[0,1,2,3,4,5,6,7,8,9,10],[0,1,2,3,4,5,6,7,8,9,10,11],[0,1,2,3,4,5,6,7,8,9,10,11,12],[0,1,2,3,4,5,6,7,8,9],[0,1,2,3,4,5,6,7,8,9,14],[0,1,2,3,4,5,6,7,8,9,10,11,12,13,14,15],[0,1,2,3,4,5,6,7,8,9,10,11,12,13,14,15,16],[0,1,2,3,4,5,6,7,8,9,10,11,12,13,14,15,16,17],[0,1,2,3,4,5,6,7,8,9,10,11,12,13,14,15,16,17,18],[0,1,2,3,4,5,6,7,8,9,10,11,12,13,14,15,16,17,18,19],[0,1,2,3,4,5,6,7,8,9,10,11,12,13,14,15,16,17,18,19,20],[0,1,2,3,4,5,6,7,8,9,10,11,12,13,14,15,16,17,18,19,20,21],[0,1,2,3,4,5,6,7,8,9,10,11,12,13,14,15,16,17,18,19,20,21,22],[0,1,2,3,4,5,6,7,8,9,10,11,12,13,14,15,16,17,18,19],[0,1,2,3,4,5,6,7,8,9,10,11,12,13,14,15,16,17,18,19,20,21,22,23,24],[0,1,2,3,4,5,6,7,8,9,10,11,12,13,14,15,16,17,18,19,20,21,22,23,24,25],[0,1,2,3,4,5,6,7,8,9,10,11,12,13,14,15,16,17,18,19,20,21,22,23,24,25,26]] (Xl hY0 [3,4,5,6,7] (hP0 8::(Xl hY0 [10,11,12,13,14,15] (hS 16 (oY (b:=false) rfl rfl rfl rfl (X8 rfl) rfl (rCa (Jx f u rows e.X4 ‹_› ‹_›) Try.func43 [0,1] [(.tmp 22,pv 0 0),(.tmp 24,vI e.X4)] 2 2))::(hY0 17::(hP0 18::(Xl (hN · false (cn (dF hq1))) [20,21,22,23,24,25,26] (hP 27 (cn (dF hq1))::[])))))))) ?_
  refine cT (b:=true) rfl (T.ret (rT ?_))
  exact eX [] trivial [0,1,2,3,4,5] rfl (ix (ix (ix ⟨⟨rfl,pz⟩,(ix (ix trivial))⟩)))
 have g1:=hq1
 refine sD [[],[0],[0,1],[0,1,2],[0,1,2,3],[0,1,2,3,4],[0,1,2,3,4,5],[0,1,2,3,4,5,6],[0,1,2,3,4,5,6,7],[0,1,2,3,4,5,6,7,8],[0,1,2,3,4,5,6,7,8,9],[0,1,2,3,4,5,6,7,8,9,10],[0,1,2,3,4,5,6,7,8,9,10,11],[0,1,2,3,4,5,6,7,8,9,10,11,12],[0,1,2,3,4,5,6,7,8,9],[0,1,2,3,4,5,6,7,8,9,14],[0,1,2,3,4,5,6,7,8,9,10,11,12,13,14,15],[0,1,2,3,4,5,6,7,8,9,10,11,12,13,14,15,16],[0,1,2,3,4,5,6,7,8,9,10,11,12,13,14,15,16,17],[0,1,2,3,4,5,6,7,8,9,10,11,12,13,14,15,16,17,18],[0,1,2,3,4,5,6,7,8,9,10,11,12,13,14,15,16,17,18,19],[0,1,2,3,4,5,6,7,8,9,10,11,12,13,14,15,16,17,18,19,20],[0,1,2,3,4,5,6,7,8,9,10,11,12,13,14,15,16,17,18,19,20,21],[0,1,2,3,4,5,6,7,8,9,10,11,12,13,14,15,16,17,18,19,20,21,22],[0,1,2,3,4,5,6,7,8,9,10,11,12,13,14,15,16,17,18,19],[0,1,2,3,4,5,6,7,8,9,10,11,12,13,14,15,16,17,18,19,20,21,22,23,24],[0,1,2,3,4,5,6,7,8,9,10,11,12,13,14,15,16,17,18,19,20,21,22,23,24,25],[0,1,2,3,4,5,6,7,8,9,10,11,12,13,14,15,16,17,18,19,20,21,22,23,24,25,26]] (Xl hY0 [3,4,5,6,7] (hP0 8::(Xl hY0 [10,11,12,13,14,15] (hS 16 (oY (b:=false) rfl rfl rfl rfl (X8 rfl) rfl (rCa (Jx f u rows e.X4 ‹_› ‹_›) Try.func43 [0,1] [(.tmp 22,pv 0 0),(.tmp 24,vI e.X4)] 2 2))::(hY0 17::(hP0 18::(Xl (hY · (cn (dT hq1))) [20,21,22,23,24] (hS 25 (oY rfl rfl rfl rfl (X8 rfl) (cn (dT hq1)) (rCa (F0 f u rows te e ‹_› ‹_› ‹_›) Try.func15 [0,1] [(.tmp 32,pv 0 0),(.tmp 33,.tv (.agg (Zbr te e)))] 2 2))::(hY 26 (cn (dT hq1))::(hP 27 (cn (dT hq1))::[])))))))))) ?_
 by_cases hq2:(Wy f u rows e)≠0
 ·have hx:¬V1 (Wy f u rows) f id st e:=fun w=>hq2 w.2.1
  refine cT (dT hq2) (T.ret (rT ?_))
  exact eX [] trivial [0,1,2,3,4,5] rfl (ix (ix (ix ⟨⟨rfl,pz⟩,(ix (ix trivial))⟩)))
 have g2:=Classical.not_not.1 hq2
 refine cF (dF hq2) (T.skip (nT (sR [hR 2 rfl rfl (rCa (X6j te false e.X9 (by omega)) Try.func44 [] [(.tmp 39,slV te false kU8 e.X9)] 0 0)] (T.seq ?_))))
 by_cases hq3:(E0 e.X9)≠0
 ·have hx:¬V1 (Wy f u rows) f id st e:=fun w=>hq3 w.2.2.1
  refine sD [[],[0],[0,1],[0,1,2],[0,1,2,3],[0,1,2,3,4],[0,1,2,3,4,5],[0,1,2,3,4,5,6],[0,1,2,3,4,5,6,7],[0,1,2,3,4,5,6,7,8],[0,1,2,3,4,5,6,7],[0,1,2,3,4,5,6,7,10],[0,1,2,3,4,5,6,7,10,11],[0,1,2,3,4,5,6,7,10,11,12],[0,1,2,3,4,5,6,7,8,9,10,11,12,13],[0,1,2,3,4,5,6,7,8,9,10,11,12,13,14],[0,1,2,3,4,5,6,7,8,9,10,11,12,13,14,15],[0,1,2,3,4,5,6,7,8,9,10,11,12,13,14,15,16],[0,1,2,3,4,5,6,7,8,9,10,11,12,13,14,15,16,17],[0,1,2,3,4,5,6,7,8,9,10,11,12,13,14,15,16],[0,1,2,3,4,5,6,7,8,9,10,11,12,13,14,15,16,19],[0,1,2,3,4,5,6,7,8,9,10,11,12,13,14,15,16,19,20],[0,1,2,3,4,5,6,7,8,9,10,11,12,13,14,15,16,19,20,21],[0,1,2,3,4,5,6,7,8,9,10,11,12,13,14,15,16,17,18,19,20,21,22],[0,1,2,3,4,5,6,7,8,9,10,11,12,13,14,15,16,17,18,19,20,21,22,23]] (Xl (hN · false (dT hq3)) [3,4,5] (hP 6 (dT hq3)::(Xl hN0 [8,9,10,11,12,13,14] (hP1 15::(Xl hN0 [17,18,19,20,21,22,23] (hP1 24::[])))))) ?_
  refine cT (b:=true) rfl (T.ret (rT ?_))
  exact eX [] trivial [0,1,2,3,4,5] rfl (ix (ix (ix ⟨⟨rfl,pz⟩,(ix (ix trivial))⟩)))
 have g3:=Classical.not_not.1 hq3
 by_cases hq4:(Y6 e.X9).X3≠8
 ·have hx:¬V1 (Wy f u rows) f id st e:=fun w=>hq4 w.2.2.2.1
  refine sD [[],[0],[0,1],[0,1,2],[0,1,2,3],[0,1,2,3,4],[0,1,2,3,4,5],[0,1,2,3,4,5,6],[0,1,2,3,4,5,6,7],[0,1,2,3,4,5,6,7,8],[0,1,2,3,4,5,6,7],[0,1,2,3,4,5,6,7,10],[0,1,2,3,4,5,6,7,10,11],[0,1,2,3,4,5,6,7,10,11,12],[0,1,2,3,4,5,6,7,8,9,10,11,12,13],[0,1,2,3,4,5,6,7,8,9,10,11,12,13,14],[0,1,2,3,4,5,6,7,8,9,10,11,12,13,14,15],[0,1,2,3,4,5,6,7,8,9,10,11,12,13,14,15,16],[0,1,2,3,4,5,6,7,8,9,10,11,12,13,14,15,16,17],[0,1,2,3,4,5,6,7,8,9,10,11,12,13,14,15,16],[0,1,2,3,4,5,6,7,8,9,10,11,12,13,14,15,16,19],[0,1,2,3,4,5,6,7,8,9,10,11,12,13,14,15,16,19,20],[0,1,2,3,4,5,6,7,8,9,10,11,12,13,14,15,16,19,20,21],[0,1,2,3,4,5,6,7,8,9,10,11,12,13,14,15,16,17,18,19,20,21,22],[0,1,2,3,4,5,6,7,8,9,10,11,12,13,14,15,16,17,18,19,20,21,22,23]] (Xl (hY · (dF hq3)) [3,4,5] (hP 6 (dF hq3)::(Xl (hN · false (dT hq4)) [8,9,10,11,12,13,14] (hP 15 (dT hq4)::(Xl hN0 [17,18,19,20,21,22,23] (hP1 24::[])))))) ?_
  refine cT (b:=true) rfl (T.ret (rT ?_))
  exact eX [] trivial [0,1,2,3,4,5] rfl (ix (ix (ix ⟨⟨rfl,pz⟩,(ix (ix trivial))⟩)))
 have g4:=Classical.not_not.1 hq4
 by_cases hq5:(Y6 e.X9).Xb≠id
 ·have hx:¬V1 (Wy f u rows) f id st e:=fun w=>hq5 w.2.2.2.2.1
  refine sD [[],[0],[0,1],[0,1,2],[0,1,2,3],[0,1,2,3,4],[0,1,2,3,4,5],[0,1,2,3,4,5,6],[0,1,2,3,4,5,6,7],[0,1,2,3,4,5,6,7,8],[0,1,2,3,4,5,6,7],[0,1,2,3,4,5,6,7,10],[0,1,2,3,4,5,6,7,10,11],[0,1,2,3,4,5,6,7,10,11,12],[0,1,2,3,4,5,6,7,8,9,10,11,12,13],[0,1,2,3,4,5,6,7,8,9,10,11,12,13,14],[0,1,2,3,4,5,6,7,8,9,10,11,12,13,14,15],[0,1,2,3,4,5,6,7,8,9,10,11,12,13,14,15,16],[0,1,2,3,4,5,6,7,8,9,10,11,12,13,14,15,16,17],[0,1,2,3,4,5,6,7,8,9,10,11,12,13,14,15,16],[0,1,2,3,4,5,6,7,8,9,10,11,12,13,14,15,16,19],[0,1,2,3,4,5,6,7,8,9,10,11,12,13,14,15,16,19,20],[0,1,2,3,4,5,6,7,8,9,10,11,12,13,14,15,16,19,20,21],[0,1,2,3,4,5,6,7,8,9,10,11,12,13,14,15,16,17,18,19,20,21,22],[0,1,2,3,4,5,6,7,8,9,10,11,12,13,14,15,16,17,18,19,20,21,22,23]] (Xl (hY · (dF hq3)) [3,4,5] (hP 6 (dF hq3)::(Xl (hY · (dF hq4)) [8,9,10,11,12,13,14] (hP 15 (dF hq4)::(Xl (hN · false (dT hq5)) [17,18,19,20,21,22,23] (hP 24 (dT hq5)::[])))))) ?_
  refine cT (b:=true) rfl (T.ret (rT ?_))
  exact eX [] trivial [0,1,2,3,4,5] rfl (ix (ix (ix ⟨⟨rfl,pz⟩,(ix (ix trivial))⟩)))
 have g5:=Classical.not_not.1 hq5
 refine sD [[],[0],[0,1],[0,1,2],[0,1,2,3],[0,1,2,3,4],[0,1,2,3,4,5],[0,1,2,3,4,5,6],[0,1,2,3,4,5,6,7],[0,1,2,3,4,5,6,7,8],[0,1,2,3,4,5,6,7],[0,1,2,3,4,5,6,7,10],[0,1,2,3,4,5,6,7,10,11],[0,1,2,3,4,5,6,7,10,11,12],[0,1,2,3,4,5,6,7,8,9,10,11,12,13],[0,1,2,3,4,5,6,7,8,9,10,11,12,13,14],[0,1,2,3,4,5,6,7,8,9,10,11,12,13,14,15],[0,1,2,3,4,5,6,7,8,9,10,11,12,13,14,15,16],[0,1,2,3,4,5,6,7,8,9,10,11,12,13,14,15,16,17],[0,1,2,3,4,5,6,7,8,9,10,11,12,13,14,15,16],[0,1,2,3,4,5,6,7,8,9,10,11,12,13,14,15,16,19],[0,1,2,3,4,5,6,7,8,9,10,11,12,13,14,15,16,19,20],[0,1,2,3,4,5,6,7,8,9,10,11,12,13,14,15,16,19,20,21],[0,1,2,3,4,5,6,7,8,9,10,11,12,13,14,15,16,17,18,19,20,21,22],[0,1,2,3,4,5,6,7,8,9,10,11,12,13,14,15,16,17,18,19,20,21,22,23]] (Xl (hY · (dF hq3)) [3,4,5] (hP 6 (dF hq3)::(Xl (hY · (dF hq4)) [8,9,10,11,12,13,14] (hP 15 (dF hq4)::(Xl (hY · (dF hq5)) [17,18,19,20,21,22,23] (hP 24 (dF hq5)::[])))))) ?_
 by_cases hq6:(Y6 e.X9).Xv≠st
 ·have hx:¬V1 (Wy f u rows) f id st e:=fun w=>hq6 w.2.2.2.2.2
  refine cT (dT hq6) (T.ret (rT ?_))
  exact eX [] trivial [0,1,2,3,4,5] rfl (ix (ix (ix ⟨⟨rfl,pz⟩,(ix (ix trivial))⟩)))
 have hh:V1 (Wy f u rows) f id st e:=⟨g1,g2,g3,g4,g5,Classical.not_not.1 hq6⟩
 refine cF (dF hq6) (T.skip (nT ?_))
 refine sD [[],[0],[0,1],[0,1,2],[],[4],[],[6],[0,1,2,3,4,5,6,7]] [hR 8 rfl rfl (Es 3 told e.X4 (Y6 e.X9).X1 (kd:=(Xi false)) (ak:=vI e.X4) (tv:=(Zbx e)) Try.underlying80 (Xb4 Try.underlying3) rfl rfl (kk2 trivial) trivial)] (sR [] (T.seq ?_))
 refine tN ⟨[pv 2 0,.tv (.agg (Zbr te e)),aa,pv 6 0,pv 7 0,vI (E0 e.X9),vI 0,aa,aa,aa,aa,aa,aa,aa,aa,aa,aa,aa,aa,aa,aa,aa,aa,aa,aa,aa,aa,aa,aa,aa,aa,aa,aa,aa,aa,aa,vB (decide ((Wy f u rows e)≠0)),aa,aa,aa,aa,aa,aa,aa,aa,aa,aa,aa,aa,aa,aa,aa,aa,aa,aa,aa,aa,aa,aa,aa,aa,aa,aa,aa,aa,aa,aa,vB (decide ((Y6 e.X9).Xv≠st))],(Zc0 f u rows id st told done E te e)⟩ ?_
 refine Xem 3 (mput told e.X4 (Y6 e.X9).X1) (f:=(W0 .i64)) (kd:=(Xi false)) pZ4 (fun bn clk hbn1 hbn2=>(sR [hR 4 rfl rfl (Xdk (lm:=3) (li:=8) (f:=(W0 .i64)) (kd:=(Xi false)) (rows:=(mput told e.X4 (Y6 e.X9).X1)) (bn:=bn) (clock:=clk) Try.underlying80 (X8 rfl) trivial)] (T.block ?_)))
 refine T.loop (ι:=(List Nat)) (fun (seen:(List Nat))=>⟨(Zc2 told e seen bn),[(Zbs f u),(Zbt rows),(Zbu id st done),(Zc3 told e bn clk),(Zbv done),(Zbw E),(Zby te e),(Zbz e),.live (.it 3 clk seen)]⟩) (fun (seen:(List Nat))=>True) (fun (seen:(List Nat))=>Fi bn seen) ([]) trivial (fun _ _ hG=>Yc [0,1,2,3,4,5,6,7,8] (bm 81 1208925819614629174706265) (t2:=[pv 2 0,aa,aa,pv 6 0,pv 7 0,aa,vI 0,aa,aa,aa,aa,aa,aa,aa,aa,aa,aa,aa,aa,aa,aa,aa,aa,aa,aa,aa,aa,aa,aa,aa,aa,aa,aa,aa,aa,aa,aa,aa,aa,aa,aa,aa,aa,aa,aa,aa,aa,aa,aa,aa,aa,aa,aa,aa,aa,aa,aa,aa,aa,aa,aa,aa,aa,aa,aa,aa,aa,aa,aa,aa,aa,aa,aa,aa,aa,aa,aa,aa,aa,aa,pv 8 0]) (h2:=[(Zbs f u),(Zbt rows),(Zbu id st done),(Zc3 told e bn clk),(Zbv done),(Zbw E),(Zby te e),(Zbz e),.live (.it 3 clk ([]:List Nat))]) pZ17 p1t hG) ?_
 rintro seen _
 show T _ _ ⟨(Zc2 told e seen bn),[(Zbs f u),(Zbt rows),(Zbu id st done),(Zc3 told e bn clk),(Zbv done),(Zbw E),(Zby te e),(Zbz e),.live (.it 3 clk seen)]⟩ _ _
 have hcl:=Xef (l:=(mput told e.X4 (Y6 e.X9).X1)) (bn:=bn) (seen:=seen) (r:=(Y6 e.X9).X1)
 refine Xeo (lm:=3) (li:=8) (f:=(W0 .i64)) (kd:=(Xi false)) (rows:=(mput told e.X4 (Y6 e.X9).X1)) (bn:=bn) (clock:=clk) (seen:=seen) pZ4 pZ4 pZ4 (X8 rfl) (X8 rfl) (fun hall=>?_) (fun j hj hns=>?_)
 ·refine tN ⟨(Zc5 told e seen bn),[(Zbs f u),(Zbt rows),(Zbu id st done),(Zc3 told e bn clk),(Zbv done),(Zbw E),(Zby te e),(Zbz e),.live (.it 3 clk seen)]⟩ (T.seq (cF (b:=false) rfl (T.exit (xT (xT (xH (nT ?_)))))))
  refine Vh (fun _ _ hG=>X8z 3 (mput told e.X4 (Y6 e.X9).X1) bn clk (f:=(W0 .i64)) (kd:=(Xi false)) pZ4 hG) ?_
  refine tN ⟨(Zc5 told e seen bn),[(Zbs f u),(Zbt rows),(Zbu id st done),.live (mpK (W0 .i64) (Xi false) (mput told e.X4 (Y6 e.X9).X1)),(Zbv done),(Zbw E),(Zby te e),(Zbz e),.live (.it 3 clk seen)]⟩ ?_
  refine Vh (s':=⟨(Zc6 told e),(Zc0 f u rows id st told done E te e)⟩) (fun _ _ hG=>Yc [0,1,2,3,4,5,6,7] (bm 7 89) (t2:=[pv 2 0,aa,aa,pv 6 0,pv 7 0,aa,(Zc1 told e seen bn)]) p1q rfl hG) (sR [hR 5 rfl rfl (rCa (X79 f u rows ‹_› ‹_›) Try.func45 [0,1] [(.tmp 95,pv 0 0)] 2 2)] ?_)
  by_cases hq7:((Fc (mput told e.X4 (Y6 e.X9).X1) (Y6 e.X9).X1:Nat):Int)≥(f+1)
  ·exact absurd ⟨hh,hq7⟩ hd
  refine cF (dF hq7) (T.skip ?_)
  exact tE (.inr rfl) [] trivial [0,1,2,3,4,5] rfl rfl rfl rfl rfl rfl (ix (ix (ix ⟨⟨rfl,(by have e1:((mput told e.X4 (Y6 e.X9).X1):List (Int×Xd))=(Id (Wy f u rows) f id st told e):=(by exact (Xc2 hh).symm);have hE:=congrArg (fun (q1:List (Int×Xd))=>(.live (mpK (W0 .i64) (Xi false) q1):HS)) e1;exact Eq.trans pZ4 hE)⟩,(ix (ix trivial))⟩)))
 refine tN ⟨[pv 2 0,aa,aa,pv 6 0,pv 7 0,aa,(Zc1 told e seen bn),aa,aa,aa,aa,aa,aa,aa,aa,aa,aa,aa,aa,aa,aa,aa,aa,aa,aa,aa,aa,aa,aa,aa,aa,aa,aa,aa,aa,aa,aa,aa,aa,aa,aa,aa,aa,aa,aa,aa,aa,aa,aa,aa,aa,aa,aa,aa,aa,aa,aa,aa,aa,aa,aa,aa,aa,aa,aa,aa,aa,aa,aa,aa,aa,aa,aa,aa,aa,aa,aa,aa,aa,aa,pv 8 0,aa,vB true],(Zc7 f u rows id st told done E te e seen bn clk j)⟩ (T.seq (cT (b:=true) rfl (T.skip (nT (T.block (sR [hR 0 rfl rfl (Xdm (lm:=3) (li:=8) (clock:=clk) (j:=j) (f:=(W0 .i64)) (kd:=(Xi false)) (rows:=(mput told e.X4 (Y6 e.X9).X1)) (z:=(0,Ye)) (bn:=bn) (seen:=seen) ((Zc8 told e j)) hj hbn2 hbn1 rfl (X8 rfl))] ?_))))))
 refine sR [hR 3 rfl rfl (X6d (ax:=.tv ((Zc8 told e j))) (ay:=.tv ((Zbx e))) (a:=(((mput told e.X4 (Y6 e.X9).X1).getD j (0,Ye)).2)) (b:=(Y6 e.X9).X1) Ui ⟨[.int .i64 (((mput told e.X4 (Y6 e.X9).X1).getD j (0,Ye)).2).Xs,.int .i64 (((mput told e.X4 (Y6 e.X9).X1).getD j (0,Ye)).2).Xo],rfl,rfl⟩ ⟨[.int .i64 (Y6 e.X9).X1.Xs,.int .i64 (Y6 e.X9).X1.Xo],rfl,rfl⟩ (X8 rfl) trivial)] ?_
 by_cases hq8:(((mput told e.X4 (Y6 e.X9).X1).getD j (0,Ye)).2)=(Y6 e.X9).X1
 ·have hcs:=Xbp (seen:=seen) hbn1 hbn2 hj hns hq8
  refine cT (dT hq8) (xK [hR 1 rfl rfl (Y9 (u1:=.int .i64 ((Vp (mput told e.X4 (Y6 e.X9).X1) bn seen (Y6 e.X9).X1:Nat):Int)) (u2:=.int .i64 1) (v:=.int .i64 (((Vp (mput told e.X4 (Y6 e.X9).X1) bn seen (Y6 e.X9).X1)+1:Nat):Int)) (W6 pZ5) (X8 rfl) ⟨rfl,trivial⟩)] (nB ?_))
  refine nL (seen++[bn.getD j 0]) trivial (show (Fi bn (seen++[bn.getD j 0]):Nat)<Fi bn seen from (X9p hj hns)) (fun _ _ hG=>Yc [0,1,2,3,4,5,6,7,8] (bm 81 1208925819614629174706265) (t2:=[pv 2 0,aa,aa,pv 6 0,pv 7 0,aa,vI (((Vp (mput told e.X4 (Y6 e.X9).X1) bn seen (Y6 e.X9).X1)+1:Nat):Int),aa,aa,aa,aa,aa,aa,aa,aa,aa,aa,aa,aa,aa,aa,aa,aa,aa,aa,aa,aa,aa,aa,aa,aa,aa,aa,aa,aa,aa,aa,aa,aa,aa,aa,aa,aa,aa,aa,aa,aa,aa,aa,aa,aa,aa,aa,aa,aa,aa,aa,aa,aa,aa,aa,aa,aa,aa,aa,aa,aa,aa,aa,aa,aa,aa,aa,aa,aa,aa,aa,aa,aa,aa,pv 8 0]) (h2:=(Zc7 f u rows id st told done E te e seen bn clk j)) pZs p1t hG)
 have hcs:=Xee (seen:=seen) hbn1 hbn2 hj hq8
 refine cF (dF hq8) (T.skip (nB ?_))
 refine nL (seen++[bn.getD j 0]) trivial (show (Fi bn (seen++[bn.getD j 0]):Nat)<Fi bn seen from (X9p hj hns)) (fun _ _ hG=>Yc [0,1,2,3,4,5,6,7,8] (bm 81 1208925819614629174706265) (t2:=(Zc2 told e seen bn)) (h2:=(Zc7 f u rows id st told done E te e seen bn clk j)) pt p1t hG)
section
variable (f:Int) (u:Int) (rows:List (Xw×Bool)) (id:Int) (st:Int) (told:List (Int×Xd)) (done:List Xj) (E:aE) (te:Bool) (e:aE) (seen:List Nat) (bn:List Nat) (clk:Nat) (j:Nat)
abbrev Zca:List SV:=[dI e.X4,.d (dsl te false kU8 e.X9)]
abbrev Zcb:HS:=.live (.box 99 [dI (3*f+1),dI u,.mref 1])
abbrev Zcc:HS:=.live (mpK Xa Y5 rows)
abbrev Zcd:HS:=.live (.box 82 [.ptr 0 0,dI id,dI st,.ptr 5 0,.mref 3,.own 4 (X5 false).sz 0 done.length])
abbrev Zce:HS:=.live (Xe 78 (X5 false) done)
abbrev Zcf:HS:=.live (.box 48 [dI E.X4,dU E.X9])
abbrev Zcg:SV:=dI (Y6 e.X9).X1.Xs
abbrev Zch:SV:=dI (Y6 e.X9).X1.Xo
abbrev Zci:HS:=.live (.box 48 (Zca te e))
abbrev Zcj:HS:=.live (.box 42 [dI (Y6 e.X9).X3,dI (Y6 e.X9).Xt,dI (Y6 e.X9).Xy,dI (Y6 e.X9).Xb,dI (Y6 e.X9).Xv,dS (Y6 e.X9).Xc,dU (Y6 e.X9).Xk,(Zcg e),(Zch e),.d (dsl false false (kE false) (Y6 e.X9).Xf),.d (dsl false false (kE false) (Y6 e.X9).Xr),.d (dsl false false (kC false) (Y6 e.X9).X7)])
abbrev Zck:List HS:=[(Zcb f u),(Zcc rows),(Zcd id st done),.live (mpK (W0 .i64) (Xi false) (mput told e.X4 (Y6 e.X9).X1)),(Zce done),(Zcf E),(Zci te e),(Zcj e)]
abbrev Zcl:AV:=vI ((Vp (mput told e.X4 (Y6 e.X9).X1) bn seen (Y6 e.X9).X1:Nat):Int)
abbrev Zcm:List AV:=[pv 2 0,aa,aa,pv 6 0,pv 7 0,aa,(Zcl told e seen bn),aa,aa,aa,aa,aa,aa,aa,aa,aa,aa,aa,aa,aa,aa,aa,aa,aa,aa,aa,aa,aa,aa,aa,aa,aa,aa,aa,aa,aa,aa,aa,aa,aa,aa,aa,aa,aa,aa,aa,aa,aa,aa,aa,aa,aa,aa,aa,aa,aa,aa,aa,aa,aa,aa,aa,aa,aa,aa,aa,aa,aa,aa,aa,aa,aa,aa,aa,aa,aa,aa,aa,aa,aa,pv 8 0]
abbrev Zcn:HS:=.live (mprK (W0 .i64) (Xi false) (mput told e.X4 (Y6 e.X9).X1) bn clk)
abbrev Zcp:List AV:=[pv 2 0,aa,aa,pv 6 0,pv 7 0,aa,(Zcl told e seen bn),aa,aa,aa,aa,aa,aa,aa,aa,aa,aa,aa,aa,aa,aa,aa,aa,aa,aa,aa,aa,aa,aa,aa,aa,aa,aa,aa,aa,aa,aa,aa,aa,aa,aa,aa,aa,aa,aa,aa,aa,aa,aa,aa,aa,aa,aa,aa,aa,aa,aa,aa,aa,aa,aa,aa,aa,aa,aa,aa,aa,aa,aa,aa,aa,aa,aa,aa,aa,aa,aa,aa,aa,aa,pv 8 0,aa,vB false]
abbrev Zcq:List AV:=[pv 2 0,aa,aa,pv 6 0,pv 7 0,aa,vI ((Fc (mput told e.X4 (Y6 e.X9).X1) (Y6 e.X9).X1:Nat):Int)]
abbrev Zcr:List HS:=[(Zcb f u),(Zcc rows),(Zcd id st done),(Zcn told e bn clk),(Zce done),(Zcf E),(Zci te e),(Zcj e),.live (.it 3 clk (seen++[bn.getD j 0]))]
abbrev Zcs:TV:=.agg [dI (((mput told e.X4 (Y6 e.X9).X1).getD j (0,Ye)).2).Xs,dI (((mput told e.X4 (Y6 e.X9).X1).getD j (0,Ye)).2).Xo]
end
theorem X4o (f:Int) (u:Int) (rows:List (Xw×Bool)) (id:Int) (st:Int) (told:List (Int×Xd)) (done:List Xj) (E:aE) (te:Bool) (e:aE) (hf:0≤f∧f≤2) (hu:0≤u∧u≤8) (hs:-9223372036854775808≤e.X4∧e.X4≤9223372036854775807) (hb:e.X9.length≤100000000) (htl:told.length≤1000000) (hdl:done.length≤1000000) (hd:Fb (Wy f u rows) f id st told e):Holds Try.prog 21 ⟨[pv 2 0,.tv (.agg [dI e.X4,.d (dsl te false kU8 e.X9)])],[.box 99 [dI (3*f+1),dI u,.mref 1],mpK Xa Y5 rows,.box 82 [.ptr 0 0,dI id,dI st,.ptr 5 0,.mref 3,.own 4 (X5 false).sz 0 done.length],mpK (W0 .i64) (Xi false) told,Xe 78 (X5 false) done,.box 48 [dI E.X4,dU E.X9]],.tup [],[.live (.box 99 [dI (3*f+1),dI u,.mref 1]),.live (mpK Xa Y5 rows),.live (.box 82 [.ptr 0 0,dI id,dI st,.d (.val (.pointer none)),.mref 3,.own 6 (X5 false).sz 0 (done++[(Xj.mk id st (Jt e))]).length]),.live (mpK (W0 .i64) (Xi false) ([]:List (Int×Xd))),.dead,.dead,.live (Xe 78 (X5 false) (done++[(Xj.mk id st (Jt e))]))]⟩:=by
 refine Holds.of Try.func21 rfl (N:=125) Try.ntmps21 rfl fun w0 B0 S0 U0=>?_
 show T _ (Xz 125 6 w0 S0 U0 B0) ⟨[pv 2 0,.tv (.agg (Zca te e))],[(Zcb f u),(Zcc rows),(Zcd id st done),.live (mpK (W0 .i64) (Xi false) told),(Zce done),(Zcf E)]⟩ _ _
 have hml:=X1r told e.X4 (Y6 e.X9).X1
 refine sR [] (T.seq ?_)
 by_cases hq1:Vl f e.X4
 rotate_left
 ·exact absurd hd.1.1 hq1
 have g1:=hq1
 refine sD [[],[0],[0,1],[0,1,2],[0,1,2,3],[0,1,2,3,4],[0,1,2,3,4,5],[0,1,2,3,4,5,6],[0,1,2,3,4,5,6,7],[0,1,2,3,4,5,6,7,8],[0,1,2,3,4,5,6,7,8,9],[0,1,2,3,4,5,6,7,8,9,10],[0,1,2,3,4,5,6,7,8,9,10,11],[0,1,2,3,4,5,6,7,8,9,10,11,12],[0,1,2,3,4,5,6,7,8,9],[0,1,2,3,4,5,6,7,8,9,14],[0,1,2,3,4,5,6,7,8,9,10,11,12,13,14,15],[0,1,2,3,4,5,6,7,8,9,10,11,12,13,14,15,16],[0,1,2,3,4,5,6,7,8,9,10,11,12,13,14,15,16,17],[0,1,2,3,4,5,6,7,8,9,10,11,12,13,14,15,16,17,18],[0,1,2,3,4,5,6,7,8,9,10,11,12,13,14,15,16,17,18,19],[0,1,2,3,4,5,6,7,8,9,10,11,12,13,14,15,16,17,18,19,20],[0,1,2,3,4,5,6,7,8,9,10,11,12,13,14,15,16,17,18,19,20,21],[0,1,2,3,4,5,6,7,8,9,10,11,12,13,14,15,16,17,18,19,20,21,22],[0,1,2,3,4,5,6,7,8,9,10,11,12,13,14,15,16,17,18,19],[0,1,2,3,4,5,6,7,8,9,10,11,12,13,14,15,16,17,18,19,20,21,22,23,24],[0,1,2,3,4,5,6,7,8,9,10,11,12,13,14,15,16,17,18,19,20,21,22,23,24,25],[0,1,2,3,4,5,6,7,8,9,10,11,12,13,14,15,16,17,18,19,20,21,22,23,24,25,26]] (Xl hY0 [3,4,5,6,7] (hP0 8::(Xl hY0 [10,11,12,13,14,15] (hS 16 (oY (b:=false) rfl rfl rfl rfl (X8 rfl) rfl (rCa (Jx f u rows e.X4 ‹_› ‹_›) Try.func43 [0,1] [(.tmp 22,pv 0 0),(.tmp 24,vI e.X4)] 2 2))::(hY0 17::(hP0 18::(Xl (hY · (cn (dT hq1))) [20,21,22,23,24] (hS 25 (oY rfl rfl rfl rfl (X8 rfl) (cn (dT hq1)) (rCa (F0 f u rows te e ‹_› ‹_› ‹_›) Try.func15 [0,1] [(.tmp 32,pv 0 0),(.tmp 33,.tv (.agg (Zca te e)))] 2 2))::(hY 26 (cn (dT hq1))::(hP 27 (cn (dT hq1))::[])))))))))) ?_
 by_cases hq2:(Wy f u rows e)≠0
 ·exact absurd hd.1.2.1 hq2
 have g2:=Classical.not_not.1 hq2
 refine cF (dF hq2) (T.skip (nT (sR [hR 2 rfl rfl (rCa (X6j te false e.X9 (by omega)) Try.func44 [] [(.tmp 39,slV te false kU8 e.X9)] 0 0)] (T.seq ?_))))
 by_cases hq3:(E0 e.X9)≠0
 ·exact absurd hd.1.2.2.1 hq3
 have g3:=Classical.not_not.1 hq3
 by_cases hq4:(Y6 e.X9).X3≠8
 ·exact absurd hd.1.2.2.2.1 hq4
 have g4:=Classical.not_not.1 hq4
 by_cases hq5:(Y6 e.X9).Xb≠id
 ·exact absurd hd.1.2.2.2.2.1 hq5
 have g5:=Classical.not_not.1 hq5
 refine sD [[],[0],[0,1],[0,1,2],[0,1,2,3],[0,1,2,3,4],[0,1,2,3,4,5],[0,1,2,3,4,5,6],[0,1,2,3,4,5,6,7],[0,1,2,3,4,5,6,7,8],[0,1,2,3,4,5,6,7],[0,1,2,3,4,5,6,7,10],[0,1,2,3,4,5,6,7,10,11],[0,1,2,3,4,5,6,7,10,11,12],[0,1,2,3,4,5,6,7,8,9,10,11,12,13],[0,1,2,3,4,5,6,7,8,9,10,11,12,13,14],[0,1,2,3,4,5,6,7,8,9,10,11,12,13,14,15],[0,1,2,3,4,5,6,7,8,9,10,11,12,13,14,15,16],[0,1,2,3,4,5,6,7,8,9,10,11,12,13,14,15,16,17],[0,1,2,3,4,5,6,7,8,9,10,11,12,13,14,15,16],[0,1,2,3,4,5,6,7,8,9,10,11,12,13,14,15,16,19],[0,1,2,3,4,5,6,7,8,9,10,11,12,13,14,15,16,19,20],[0,1,2,3,4,5,6,7,8,9,10,11,12,13,14,15,16,19,20,21],[0,1,2,3,4,5,6,7,8,9,10,11,12,13,14,15,16,17,18,19,20,21,22],[0,1,2,3,4,5,6,7,8,9,10,11,12,13,14,15,16,17,18,19,20,21,22,23]] (Xl (hY · (dF hq3)) [3,4,5] (hP 6 (dF hq3)::(Xl (hY · (dF hq4)) [8,9,10,11,12,13,14] (hP 15 (dF hq4)::(Xl (hY · (dF hq5)) [17,18,19,20,21,22,23] (hP 24 (dF hq5)::[])))))) ?_
 by_cases hq6:(Y6 e.X9).Xv≠st
 ·exact absurd hd.1.2.2.2.2.2 hq6
 have hh:V1 (Wy f u rows) f id st e:=⟨g1,g2,g3,g4,g5,Classical.not_not.1 hq6⟩
 refine cF (dF hq6) (T.skip (nT ?_))
 refine sD [[],[0],[0,1],[0,1,2],[],[4],[],[6],[0,1,2,3,4,5,6,7]] [hR 8 rfl rfl (Es 3 told e.X4 (Y6 e.X9).X1 (kd:=(Xi false)) (ak:=vI e.X4) (tv:=.agg [(Zcg e),(Zch e)]) Try.underlying80 (Xb4 Try.underlying3) rfl rfl (kk2 trivial) trivial)] (sR [] (T.seq ?_))
 refine tN ⟨[pv 2 0,.tv (.agg (Zca te e)),aa,pv 6 0,pv 7 0,vI (E0 e.X9),vI 0,aa,aa,aa,aa,aa,aa,aa,aa,aa,aa,aa,aa,aa,aa,aa,aa,aa,aa,aa,aa,aa,aa,aa,aa,aa,aa,aa,aa,aa,vB (decide ((Wy f u rows e)≠0)),aa,aa,aa,aa,aa,aa,aa,aa,aa,aa,aa,aa,aa,aa,aa,aa,aa,aa,aa,aa,aa,aa,aa,aa,aa,aa,aa,aa,aa,aa,vB (decide ((Y6 e.X9).Xv≠st))],(Zck f u rows id st told done E te e)⟩ ?_
 refine Xem 3 (mput told e.X4 (Y6 e.X9).X1) (f:=(W0 .i64)) (kd:=(Xi false)) pZ4 (fun bn clk hbn1 hbn2=>(sR [hR 4 rfl rfl (Xdk (lm:=3) (li:=8) (f:=(W0 .i64)) (kd:=(Xi false)) (rows:=(mput told e.X4 (Y6 e.X9).X1)) (bn:=bn) (clock:=clk) Try.underlying80 (X8 rfl) trivial)] (T.block ?_)))
 refine T.loop (ι:=(List Nat)) (fun (seen:(List Nat))=>⟨(Zcm told e seen bn),[(Zcb f u),(Zcc rows),(Zcd id st done),(Zcn told e bn clk),(Zce done),(Zcf E),(Zci te e),(Zcj e),.live (.it 3 clk seen)]⟩) (fun (seen:(List Nat))=>True) (fun (seen:(List Nat))=>Fi bn seen) ([]) trivial (fun _ _ hG=>Yc [0,1,2,3,4,5,6,7,8] (bm 81 1208925819614629174706265) (t2:=[pv 2 0,aa,aa,pv 6 0,pv 7 0,aa,vI 0,aa,aa,aa,aa,aa,aa,aa,aa,aa,aa,aa,aa,aa,aa,aa,aa,aa,aa,aa,aa,aa,aa,aa,aa,aa,aa,aa,aa,aa,aa,aa,aa,aa,aa,aa,aa,aa,aa,aa,aa,aa,aa,aa,aa,aa,aa,aa,aa,aa,aa,aa,aa,aa,aa,aa,aa,aa,aa,aa,aa,aa,aa,aa,aa,aa,aa,aa,aa,aa,aa,aa,aa,aa,pv 8 0]) (h2:=[(Zcb f u),(Zcc rows),(Zcd id st done),(Zcn told e bn clk),(Zce done),(Zcf E),(Zci te e),(Zcj e),.live (.it 3 clk ([]:List Nat))]) pZ17 p1s hG) ?_
 rintro seen _
 show T _ _ ⟨(Zcm told e seen bn),[(Zcb f u),(Zcc rows),(Zcd id st done),(Zcn told e bn clk),(Zce done),(Zcf E),(Zci te e),(Zcj e),.live (.it 3 clk seen)]⟩ _ _
 have hcl:=Xef (l:=(mput told e.X4 (Y6 e.X9).X1)) (bn:=bn) (seen:=seen) (r:=(Y6 e.X9).X1)
 refine Xeo (lm:=3) (li:=8) (f:=(W0 .i64)) (kd:=(Xi false)) (rows:=(mput told e.X4 (Y6 e.X9).X1)) (bn:=bn) (clock:=clk) (seen:=seen) pZ4 pZ4 pZ4 (X8 rfl) (X8 rfl) (fun hall=>?_) (fun j hj hns=>?_)
 ·refine tN ⟨(Zcp told e seen bn),[(Zcb f u),(Zcc rows),(Zcd id st done),(Zcn told e bn clk),(Zce done),(Zcf E),(Zci te e),(Zcj e),.live (.it 3 clk seen)]⟩ (T.seq (cF (b:=false) rfl (T.exit (xT (xT (xH (nT ?_)))))))
  refine Vh (fun _ _ hG=>X8z 3 (mput told e.X4 (Y6 e.X9).X1) bn clk (f:=(W0 .i64)) (kd:=(Xi false)) pZ4 hG) ?_
  refine tN ⟨(Zcp told e seen bn),[(Zcb f u),(Zcc rows),(Zcd id st done),.live (mpK (W0 .i64) (Xi false) (mput told e.X4 (Y6 e.X9).X1)),(Zce done),(Zcf E),(Zci te e),(Zcj e),.live (.it 3 clk seen)]⟩ ?_
  refine Vh (s':=⟨(Zcq told e),(Zck f u rows id st told done E te e)⟩) (fun _ _ hG=>Yc [0,1,2,3,4,5,6,7] (bm 7 89) (t2:=[pv 2 0,aa,aa,pv 6 0,pv 7 0,aa,(Zcl told e seen bn)]) p1q rfl hG) (sR [hR 5 rfl rfl (rCa (X79 f u rows ‹_› ‹_›) Try.func45 [0,1] [(.tmp 95,pv 0 0)] 2 2)] ?_)
  by_cases hq7:((Fc (mput told e.X4 (Y6 e.X9).X1) (Y6 e.X9).X1:Nat):Int)≥(f+1)
  ·refine cT (dT hq7) ?_
   refine sD [[],[],[1],[1,2],[1,2,3],[],[5],[5,6],[5,6,7],[],[9],[9,10],[9,10,11],[],[13],[5,6,7,8,9,10,11,12,13,14],[5,6,7,8,9,10,11,12,13,14,15],[1,2,3,4,5,6,7,8,9,10,11,12,13,14,15,16],[0,1,2,3,4,5,6,7,8,9,10,11,12,13,14,15,16,17],[0,1,2,3,4,5,6,7,8,9,10,11,12,13,14,15,16,17,18],[0,1,2,3,4,5,6,7,8,9,10,11,12,13,14,15,16,17,18,19]] [hR 16 rfl rfl (Yd 8 78 (X5 false) (U1 false) [(Xj.mk id st (Y6 e.X9).X1)] [⟨0,.tmp 113,.agg [dI id,dI st,(Zcg e),(Zch e)],0⟩] (cs:=[dI id,dI st,(Zcg e),(Zch e)]) Try.underlying51 Fx rfl X4q rfl rfl rfl pf (Ws rfl rfl pf Wn) pZ4 (Vz pZ4) (X8 rfl) trivial),hR 17 rfl rfl (W4 4 9 78 32 (X5 false) (U1 false) done [(Xj.mk id st (Y6 e.X9).X1)] (done++[(Xj.mk id st (Y6 e.X9).X1)]) done.length (sy:=(.own 8 (X5 false).sz 0 [(Xj.mk id st (Y6 e.X9).X1)].length)) (rhs:=[(8,.live (Xe 78 (X5 false) [(Xj.mk id st (Y6 e.X9).X1)]))]) X53 (by omega) (Up 8 78 (X5 false) [(Xj.mk id st (Y6 e.X9).X1)]) p1p (by (simp [maxLen,-List.getD_eq_getElem?_getD]<;>omega)) (by (simp [maxLen,-List.getD_eq_getElem?_getD]<;>omega)) (X8 rfl) trivial)] ?_
   refine sR [] (xK [hR 4 rfl rfl (r_clearM (l:=3) (f:=(W0 .i64)) (kd:=(Xi false)) (rows:=(mput told e.X4 (Y6 e.X9).X1)) Try.underlying80 trivial)] ?_)
   exact tE (.inr rfl) [] trivial [0,1,2,3,4,5,9] rfl rfl rfl rfl rfl rfl (ix (ix ⟨⟨rfl,(by have e1:((done++[(Xj.mk id st (Y6 e.X9).X1)]).length:Nat)=(done++[(Xj.mk id st (Jt e))]).length:=(by rfl);have hE:=congrArg (fun (q1:Nat)=>(.live (.box 82 [.ptr 0 0,dI id,dI st,.d (.val (.pointer none)),.mref 3,.own 9 (X5 false).sz 0 q1]):HS)) e1;exact Eq.trans pZ4 hE)⟩,(ix ⟨⟨rfl,pZ27⟩,trivial⟩)⟩))
  exact absurd hd.2 hq7
 refine tN ⟨[pv 2 0,aa,aa,pv 6 0,pv 7 0,aa,(Zcl told e seen bn),aa,aa,aa,aa,aa,aa,aa,aa,aa,aa,aa,aa,aa,aa,aa,aa,aa,aa,aa,aa,aa,aa,aa,aa,aa,aa,aa,aa,aa,aa,aa,aa,aa,aa,aa,aa,aa,aa,aa,aa,aa,aa,aa,aa,aa,aa,aa,aa,aa,aa,aa,aa,aa,aa,aa,aa,aa,aa,aa,aa,aa,aa,aa,aa,aa,aa,aa,aa,aa,aa,aa,aa,aa,pv 8 0,aa,vB true],(Zcr f u rows id st told done E te e seen bn clk j)⟩ (T.seq (cT (b:=true) rfl (T.skip (nT (T.block (sR [hR 0 rfl rfl (Xdm (lm:=3) (li:=8) (clock:=clk) (j:=j) (f:=(W0 .i64)) (kd:=(Xi false)) (rows:=(mput told e.X4 (Y6 e.X9).X1)) (z:=(0,Ye)) (bn:=bn) (seen:=seen) ((Zcs told e j)) hj hbn2 hbn1 rfl (X8 rfl))] ?_))))))
 refine sR [hR 3 rfl rfl (X6d (ax:=.tv ((Zcs told e j))) (ay:=.tv (.agg [(Zcg e),(Zch e)])) (a:=(((mput told e.X4 (Y6 e.X9).X1).getD j (0,Ye)).2)) (b:=(Y6 e.X9).X1) Ui ⟨[.int .i64 (((mput told e.X4 (Y6 e.X9).X1).getD j (0,Ye)).2).Xs,.int .i64 (((mput told e.X4 (Y6 e.X9).X1).getD j (0,Ye)).2).Xo],rfl,rfl⟩ ⟨[.int .i64 (Y6 e.X9).X1.Xs,.int .i64 (Y6 e.X9).X1.Xo],rfl,rfl⟩ (X8 rfl) trivial)] ?_
 by_cases hq8:(((mput told e.X4 (Y6 e.X9).X1).getD j (0,Ye)).2)=(Y6 e.X9).X1
 ·have hcs:=Xbp (seen:=seen) hbn1 hbn2 hj hns hq8
  refine cT (dT hq8) (xK [hR 1 rfl rfl (Y9 (u1:=.int .i64 ((Vp (mput told e.X4 (Y6 e.X9).X1) bn seen (Y6 e.X9).X1:Nat):Int)) (u2:=.int .i64 1) (v:=.int .i64 (((Vp (mput told e.X4 (Y6 e.X9).X1) bn seen (Y6 e.X9).X1)+1:Nat):Int)) (W6 pZ5) (X8 rfl) ⟨rfl,trivial⟩)] (nB ?_))
  refine nL (seen++[bn.getD j 0]) trivial (show (Fi bn (seen++[bn.getD j 0]):Nat)<Fi bn seen from (X9p hj hns)) (fun _ _ hG=>Yc [0,1,2,3,4,5,6,7,8] (bm 81 1208925819614629174706265) (t2:=[pv 2 0,aa,aa,pv 6 0,pv 7 0,aa,vI (((Vp (mput told e.X4 (Y6 e.X9).X1) bn seen (Y6 e.X9).X1)+1:Nat):Int),aa,aa,aa,aa,aa,aa,aa,aa,aa,aa,aa,aa,aa,aa,aa,aa,aa,aa,aa,aa,aa,aa,aa,aa,aa,aa,aa,aa,aa,aa,aa,aa,aa,aa,aa,aa,aa,aa,aa,aa,aa,aa,aa,aa,aa,aa,aa,aa,aa,aa,aa,aa,aa,aa,aa,aa,aa,aa,aa,aa,aa,aa,aa,aa,aa,aa,aa,aa,aa,aa,aa,aa,aa,pv 8 0]) (h2:=(Zcr f u rows id st told done E te e seen bn clk j)) pZs p1s hG)
 have hcs:=Xee (seen:=seen) hbn1 hbn2 hj hq8
 refine cF (dF hq8) (T.skip (nB ?_))
 refine nL (seen++[bn.getD j 0]) trivial (show (Fi bn (seen++[bn.getD j 0]):Nat)<Fi bn seen from (X9p hj hns)) (fun _ _ hG=>Yc [0,1,2,3,4,5,6,7,8] (bm 81 1208925819614629174706265) (t2:=(Zcm told e seen bn)) (h2:=(Zcr f u rows id st told done E te e seen bn clk j)) pt p1s hG)
section
variable (f:Int) (u:Int) (L:List aE) (id:Int)
abbrev Zcu:HS:=.live (.box 106 [dB true,dI f,dI u,.own 1 (kE false).sz 0 L.length])
abbrev Zcv:HS:=.live (Xe 48 (kE false) L)
abbrev Zcw:List AV:=[pv 0 0,vI id,aa,aa,pv 2 0,aa,aa,aa,vB (!(decide (Yr u id)))]
abbrev Zcx:SV:=dI id
abbrev Zcy:SV:=.d (.val (.slice none 0 0))
abbrev Zcz:SV:=.own 3 (X0 false).sz 0 0
abbrev Zd0:HS:=.live (Xe 116 (X0 false) ([]:List X6))
abbrev Zd1:St:=⟨(Zcw u id),[(Zcu f u L),(Zcv L),.live (.box 70 [.ptr 0 0,(Zcx id),dI 0,dB false,dI 0,Zcy,Zcz,Zcy]),Zd0]⟩
abbrev Zd2:St:=⟨(Zcw u id),[(Zcu f u L),(Zcv L),.live (.box 70 [.ptr 0 0,(Zcx id),dI 0,dB false,dI 0,Zcy,Zcz,.own 4 (X5 false).sz 0 0]),Zd0,.live (Xe 78 (X5 false) ([]:List Xj))]⟩
end
theorem Xf5 (f:Int) (u:Int) (L:List aE) (id:Int) (hf:0≤f∧f≤2) (hu:0≤u∧u≤8) (hid:-9223372036854775808≤id∧id≤9223372036854775807) (hc:Yr u id):Holds Try.prog 23 ⟨[pv 0 0,vI id],[.box 106 [dB true,dI f,dI u,.own 1 (kE false).sz 0 L.length],Xe 48 (kE false) L],pv 2 0,[.live (.box 106 [dB true,dI f,dI u,.own 1 (kE false).sz 0 L.length]),.live (Xe 48 (kE false) L),.live (.box 70 [.ptr 0 0,dI id,dI 0,dB false,dI zE.X4,dU zE.X9,.own 3 (X0 false).sz 0 ([]:List X6).length,.own 4 (X5 false).sz 0 ([]:List Xj).length]),.live (Xe 116 (X0 false) ([]:List X6)),.live (Xe 78 (X5 false) ([]:List Xj))]⟩:=by
 refine Holds.of Try.func23 rfl (N:=13) Try.ntmps23 rfl fun w0 B0 S0 U0=>?_
 show T _ (Xz 13 2 w0 S0 U0 B0) ⟨[pv 0 0,vI id],[(Zcu f u L),(Zcv L)]⟩ _ _
 refine sR [] (T.seq (sR [hR 2 rfl rfl (rCa (X2f f u L id ‹_› ‹_› ‹_›) Try.func46 [0,1] [(.tmp 5,pv 0 0),(.tmp 6,vI id)] 2 2)] ?_))
 by_cases hq1:Yr u id
 ·refine cF (cn (dT hq1)) (T.skip (nT (sR [] (T.ret ?_))))
  refine eN ⟨(Zcw u id),[(Zcu f u L),(Zcv L),.live (.box 70 [.ptr 0 0,(Zcx id),dI 0,dB false,dI 0,Zcy,Zcy,Zcy])]⟩ ?_
  refine Xm (s':=(Zd1 f u L id)) (fun _ _ hG=>I7 3 2 6 116 (X0 false) (Tb:=70) (cs:=[.ptr 0 0,(Zcx id),dI 0,dB false,dI 0,Zcy,Zcy,Zcy]) rfl rfl rfl hG) ?_
  refine eN (Zd1 f u L id) ?_
  refine Xm (s':=(Zd2 f u L id)) (fun _ _ hG=>I7 4 2 7 78 (X5 false) (Tb:=70) (cs:=[.ptr 0 0,(Zcx id),dI 0,dB false,dI 0,Zcy,Zcz,Zcy]) rfl rfl rfl hG) ?_
  refine eN (Zd2 f u L id) ?_
  refine Xm (s':=⟨(Zcw u id),[(Zcu f u L),(Zcv L),.live (.box 70 [.ptr 0 0,(Zcx id),dI 0,dB false,dI 0,dU ([]:List UInt8),Zcz,.own 4 (X5 false).sz 0 0]),Zd0,.live (Xe 78 (X5 false) ([]:List Xj))]⟩) (fun _ _ hG=>W7 (s:=(Zd2 f u L id)) ⟨.inl rfl,(kk8 trivial)⟩ (kk2 ⟨(.inr ⟨rfl,⟨.inl rfl,(kk4 ⟨pZ9,(kk2 trivial)⟩)⟩⟩),(kk2 trivial)⟩) hG) ?_
  exact eRt 4 (.one (.ptr 2 0)) [0,1,2,3,4] rfl (ix (ix ⟨⟨rfl,(by have e1:(0:Int)=zE.X4:=(by rfl);have e2:(([]:List UInt8):List UInt8)=zE.X9:=(by rfl);have e3:(0:Nat)=([]:List X6).length:=(by rfl);have e4:(0:Nat)=([]:List Xj).length:=(by rfl);have hE:=congr (congr (congr (congrArg (fun (q1:Int) (q2:List UInt8) (q3:Nat) (q4:Nat)=>(.live (.box 70 [.ptr 0 0,(Zcx id),dI 0,dB false,dI q1,dU q2,.own 3 (X0 false).sz 0 q3,.own 4 (X5 false).sz 0 q4]):HS)) e1) e2) e3) e4;exact Eq.trans pZ4 hE)⟩,(ix (ix trivial))⟩))
 exact absurd hc hq1
abbrev Zd3 (f:Int) (u:Int) (L:List aE) (id:Int) (st:Int) (E:aE) (ws:List X6) (done:List Xj):List HS:=[.live (.box 106 [dB true,dI f,dI u,.own 1 (kE false).sz 0 L.length]),.live (Xe 48 (kE false) L),.live (.box 70 [.ptr 0 0,dI id,dI st,dB false,dI E.X4,dU E.X9,.own 3 (X0 false).sz 0 ws.length,.own 4 (X5 false).sz 0 done.length]),.live (Xe 116 (X0 false) ws),.live (Xe 78 (X5 false) done)]
abbrev Zd4:List AV:=[pv 2 0,aa,dv (.slice none 0 0),aa,aa,aa,aa,vB (!false)]
theorem X95 (f:Int) (u:Int) (L:List aE) (id:Int) (st:Int) (E:aE) (ws:List X6) (done:List Xj):Holds Try.prog 26 ⟨[pv 2 0],[.box 106 [dB true,dI f,dI u,.own 1 (kE false).sz 0 L.length],Xe 48 (kE false) L,.box 70 [.ptr 0 0,dI id,dI st,dB false,dI E.X4,dU E.X9,.own 3 (X0 false).sz 0 ws.length,.own 4 (X5 false).sz 0 done.length],Xe 116 (X0 false) ws,Xe 78 (X5 false) done],slV false false (Y0 false) ([]:List Y7),[.live (.box 106 [dB true,dI f,dI u,.own 1 (kE false).sz 0 L.length]),.live (Xe 48 (kE false) L),.live (.box 70 [.ptr 0 0,dI id,dI st,dB false,dI E.X4,dU E.X9,.own 3 (X0 false).sz 0 ws.length,.own 4 (X5 false).sz 0 done.length]),.live (Xe 116 (X0 false) ws),.live (Xe 78 (X5 false) done)]⟩:=by
 refine Holds.of Try.func26 rfl (N:=22) Try.ntmps26 rfl fun w0 B0 S0 U0=>?_
 show T _ (Xz 22 5 w0 S0 U0 B0) ⟨[pv 2 0],(Zd3 f u L id st E ws done)⟩ _ _
 refine sR [] (T.seq (sR [] (cT (b:=(!false)) rfl (sR [] (T.ret (rT ?_))))))
 refine eN ⟨Zd4,(Zd3 f u L id st E ws done)⟩ ?_
 refine Xm (s':=⟨[pv 2 0,aa,slV false false (Y0 false) ([]:List Y7),aa,aa,aa,aa,vB (!false)],(Zd3 f u L id st E ws done)⟩) (fun _ _ hG=>W7 (s:=⟨Zd4,(Zd3 f u L id st E ws done)⟩) (kk2 ⟨pZ9,⟨.inl rfl,(kk4 trivial)⟩⟩) ⟨.inl rfl,(kk4 trivial)⟩ hG) ?_
 exact eRt 2 (.one (.d (dsl false false (Y0 false) ([]:List Y7)))) [0,1,2,3,4] rfl (ix (ix (ix (ix (ix trivial)))))
section
variable (f:Int) (u:Int) (L:List aE) (id:Int) (st:Int) (E:aE) (ws:List X6) (done:List Xj)
abbrev Zd5:HS:=.live (.box 106 [dB true,dI f,dI u,.own 1 (kE false).sz 0 L.length])
abbrev Zd6:HS:=.live (.box 70 [.ptr 0 0,dI id,dI st,dB true,dI E.X4,dU E.X9,.own 3 (X0 false).sz 0 ws.length,.own 4 (X5 false).sz 0 done.length])
abbrev Zd7:SV:=dI (-1)
abbrev Zd8:=(Y7.mk (-1) (aE.mk id E.X9))
abbrev Zd9:St:=⟨[pv 2 0,aa,Y3 7 (Y0 false) 0 [(Zd8 id E)].length,aa,aa,aa,aa,vB (!true)],[(Zd5 f u L),.live (Xe 48 (kE false) L),(Zd6 id st E ws done),.live (Xe 116 (X0 false) ws),.live (Xe 78 (X5 false) done),.dead,.dead,.live (Xe 76 (Y0 false) [(Zd8 id E)])]⟩
end
theorem X2e (f:Int) (u:Int) (L:List aE) (id:Int) (st:Int) (E:aE) (ws:List X6) (done:List Xj) (hEl:E.X9.length≤100000000):Holds Try.prog 26 ⟨[pv 2 0],[.box 106 [dB true,dI f,dI u,.own 1 (kE false).sz 0 L.length],Xe 48 (kE false) L,.box 70 [.ptr 0 0,dI id,dI st,dB true,dI E.X4,dU E.X9,.own 3 (X0 false).sz 0 ws.length,.own 4 (X5 false).sz 0 done.length],Xe 116 (X0 false) ws,Xe 78 (X5 false) done],slV false false (Y0 false) (Vb id E),[.live (.box 106 [dB true,dI f,dI u,.own 1 (kE false).sz 0 L.length]),.live (Xe 48 (kE false) L),.live (.box 70 [.ptr 0 0,dI id,dI st,dB true,dI E.X4,dU E.X9,.own 3 (X0 false).sz 0 ws.length,.own 4 (X5 false).sz 0 done.length]),.live (Xe 116 (X0 false) ws),.live (Xe 78 (X5 false) done)]⟩:=by
 refine Holds.of Try.func26 rfl (N:=22) Try.ntmps26 rfl fun w0 B0 S0 U0=>?_
 show T _ (Xz 22 5 w0 S0 U0 B0) ⟨[pv 2 0],[(Zd5 f u L),.live (Xe 48 (kE false) L),(Zd6 id st E ws done),.live (Xe 116 (X0 false) ws),.live (Xe 78 (X5 false) done)]⟩ _ _
 refine sR [] (T.seq (sR [] (cF (b:=(!true)) rfl (T.skip (nT ?_)))))
 refine sD [[],[0],[0,1],[0,1,2],[],[],[5],[5,6],[5,6,7],[5,6,7,8],[4,5,6,7,8,9],[0,1,2,3,4,5,6,7,8,9,10],[0,1,2,3,4,5,6,7,8,9,10,11],[0,1,2,3,4,5,6,7,8,9,10,11,12],[0,1,2,3,4,5,6,7,8,9,10,11,12,13]] [hR 4 rfl rfl (Yd 5 5 kU8 Vc ([]:List UInt8) [] (cs:=[]) Try.underlying34 Ut rfl I4 rfl rfl rfl pf Wn pZ4 (Vz pZ4) (X8 rfl) trivial),hR 10 rfl rfl (W4 5 6 5 1 kU8 Vc ([]:List UInt8) E.X9 E.X9 ([]:List UInt8).length (sy:=(dU E.X9)) (rhs:=[]) J1 (by omega) (Jb false false kU8 E.X9) (by simp) (by (simp [maxLen,-List.getD_eq_getElem?_getD]<;>omega)) (by (simp [maxLen,-List.getD_eq_getElem?_getD]<;>omega)) (X8 rfl) trivial),hR 13 rfl rfl (Xfy 0 20 6 5 kU8 E.X9 (av:=.tv (.agg [Zd7,dI id,.own 6 kU8.sz 0 E.X9.length])) (Yd 7 76 (Y0 false) (X16 false) [(Y7.mk (-1) (aE.mk id E.X9))] [⟨0,.tmp 20,.agg [Zd7,dI id,dU E.X9],0⟩] (cs:=[Zd7,dI id,dU E.X9]) Try.underlying57 Fa rfl Xda rfl rfl rfl pf (Ws rfl rfl pf Wn) pZ4 (Vz pZ4) (X8 rfl) trivial) rfl (.inr (kk2 ⟨pZ6,trivial⟩)) (by intro h;cases h) rfl rfl)] ?_
 refine T.ret ?_
 refine eN (Zd9 f u L id st E ws done) ?_
 refine Xm (s':=⟨[pv 2 0,aa,slV false false (Y0 false) [(Zd8 id E)],aa,aa,aa,aa,vB (!true)],[(Zd5 f u L),.live (Xe 48 (kE false) L),(Zd6 id st E ws done),.live (Xe 116 (X0 false) ws),.live (Xe 78 (X5 false) done),.dead,.dead,.dead]⟩) (fun _ _ hG=>Gs.freeze (s:=(Zd9 f u L id st E ws done)) 7 (el:=We (Y0 false) [(Y7.mk (-1) (aE.mk id E.X9))]) (sz:=(Y0 false).sz) (n:=[(Y7.mk (-1) (aE.mk id E.X9))].length) rfl (kk2 ⟨(.inr pZ6),⟨.inl rfl,(kk4 trivial)⟩⟩) ⟨pc,⟨pc,⟨pc,⟨pc,⟨pc,⟨pc,⟨pc,⟨(.inl ⟨rfl,rfl⟩),trivial⟩⟩⟩⟩⟩⟩⟩⟩ hG) ?_
 exact eRt 2 (.one (.d (dsl false false (Y0 false) [(Zd8 id E)]))) [0,1,2,3,4] p40 (ix (ix (ix (ix (ix trivial)))))
section
variable (f:Int) (u:Int) (L:List aE) (id:Int) (st:Int) (E:aE) (ws:List X6) (done:List Xj) (tb:Bool) (nb:Bool) (b:List UInt8)
abbrev Zda:List HS:=[.live (.box 106 [dB true,dI f,dI u,.own 1 (kE false).sz 0 L.length]),.live (Xe 48 (kE false) L),.live (.box 70 [.ptr 0 0,dI id,dI st,dB true,dI E.X4,dU E.X9,.own 3 (X0 false).sz 0 ws.length,.own 4 (X5 false).sz 0 done.length]),.live (Xe 116 (X0 false) ws),.live (Xe 78 (X5 false) done)]
abbrev Zdb:AV:=vB (decide (((b.length:Nat):Int)>4096))
abbrev Zdc:AV:=slV false false (Y0 false) ([]:List Y7)
abbrev Zdd:TV:=.one (.d (dsl false false (Y0 false) ([]:List Y7)))
abbrev Zde:List AV:=[pv 2 0,slV tb nb kU8 b,aa,aa,dv (.slice none 0 0),vI 3,aa,aa,(Zdb b),aa,aa,aa,vB true]
end
theorem X7j (f:Int) (u:Int) (L:List aE) (id:Int) (st:Int) (E:aE) (ws:List X6) (done:List Xj) (tb:Bool) (nb:Bool) (b:List UInt8):Holds Try.prog 24 ⟨[pv 2 0,slV tb nb kU8 b],[.box 106 [dB true,dI f,dI u,.own 1 (kE false).sz 0 L.length],Xe 48 (kE false) L,.box 70 [.ptr 0 0,dI id,dI st,dB true,dI E.X4,dU E.X9,.own 3 (X0 false).sz 0 ws.length,.own 4 (X5 false).sz 0 done.length],Xe 116 (X0 false) ws,Xe 78 (X5 false) done],.tup [.one (.d (dsl false false (Y0 false) ([]:List Y7))),.one (dI (F6 b))],[.live (.box 106 [dB true,dI f,dI u,.own 1 (kE false).sz 0 L.length]),.live (Xe 48 (kE false) L),.live (.box 70 [.ptr 0 0,dI id,dI st,dB true,dI E.X4,dU E.X9,.own 3 (X0 false).sz 0 ws.length,.own 4 (X5 false).sz 0 done.length]),.live (Xe 116 (X0 false) ws),.live (Xe 78 (X5 false) done)]⟩:=by
 refine Holds.of Try.func24 rfl (N:=54) Try.ntmps24 rfl fun w0 B0 S0 U0=>?_
 show T _ (Xz 54 5 w0 S0 U0 B0) ⟨[pv 2 0,slV tb nb kU8 b],(Zda f u L id st E ws done)⟩ _ _
 refine sR [] (T.seq (sR [] ?_))
 by_cases hq1:((b.length:Nat):Int)>4096
 ·refine cT (dT hq1) (sR [] (T.ret (rT ?_)))
  refine eN ⟨[pv 2 0,slV tb nb kU8 b,aa,aa,dv (.slice none 0 0),vI 11,aa,aa,(Zdb b)],(Zda f u L id st E ws done)⟩ ?_
  refine Xm (s':=⟨[pv 2 0,slV tb nb kU8 b,aa,aa,Zdc,vI 11,aa,aa,(Zdb b)],(Zda f u L id st E ws done)⟩) (fun _ _ hG=>W7 (s:=⟨[pv 2 0,slV tb nb kU8 b,aa,aa,dv (.slice none 0 0),vI 11,aa,aa,(Zdb b)],(Zda f u L id st E ws done)⟩) (kk4 ⟨pZ9,(kk4 trivial)⟩) ⟨.inl rfl,(kk4 trivial)⟩ hG) ?_
  exact eX [.t 4 (Zdd),.t 5 (.one (dI 11))] ⟨⟨rfl,by kernel_rfl⟩,⟨⟨rfl,by kernel_rfl⟩,trivial⟩⟩ [0,1,2,3,4] (congrArg (fun (q1:Int)=>(.tup [Zdd,.one (dI q1)]:AV)) (by exact (X5m ‹_›).symm)) (ix (ix (ix (ix (ix trivial)))))
 refine cF (dF hq1) (T.skip (nT (T.seq (sR [] (cT (b:=true) rfl (sR [] (T.ret (rT ?_))))))))
 refine eN ⟨(Zde tb nb b),(Zda f u L id st E ws done)⟩ ?_
 refine Xm (s':=⟨[pv 2 0,slV tb nb kU8 b,aa,aa,Zdc,vI 3,aa,aa,(Zdb b),aa,aa,aa,vB true],(Zda f u L id st E ws done)⟩) (fun _ _ hG=>W7 (s:=⟨(Zde tb nb b),(Zda f u L id st E ws done)⟩) (kk4 ⟨pZ9,(kk8 trivial)⟩) ⟨.inl rfl,(kk4 trivial)⟩ hG) ?_
 exact eX [.t 4 (Zdd),.t 5 (.one (dI 3))] ⟨⟨rfl,by kernel_rfl⟩,⟨⟨rfl,by kernel_rfl⟩,trivial⟩⟩ [0,1,2,3,4] (congrArg (fun (q1:Int)=>(.tup [Zdd,.one (dI q1)]:AV)) (by exact (X5n ‹_›).symm)) (ix (ix (ix (ix (ix trivial)))))
abbrev Zdf (f:Int) (u:Int) (L:List aE) (id:Int) (st:Int) (E:aE) (ws:List X6) (done:List Xj):List HS:=[.live (.box 106 [dB true,dI f,dI u,.own 1 (kE false).sz 0 L.length]),.live (Xe 48 (kE false) L),.live (.box 70 [.ptr 0 0,dI id,dI st,dB false,dI E.X4,dU E.X9,.own 3 (X0 false).sz 0 ws.length,.own 4 (X5 false).sz 0 done.length]),.live (Xe 116 (X0 false) ws),.live (Xe 78 (X5 false) done)]
abbrev Zdg (tb:Bool) (nb:Bool) (b:List UInt8):List AV:=[pv 2 0,slV tb nb kU8 b,aa,aa,dv (.slice none 0 0),vI 11,aa,aa,vB (decide (((b.length:Nat):Int)>4096))]
theorem X7k (f:Int) (u:Int) (L:List aE) (id:Int) (st:Int) (E:aE) (ws:List X6) (done:List Xj) (tb:Bool) (nb:Bool) (b:List UInt8) (hlg:((b.length:Nat):Int)>4096):Holds Try.prog 24 ⟨[pv 2 0,slV tb nb kU8 b],[.box 106 [dB true,dI f,dI u,.own 1 (kE false).sz 0 L.length],Xe 48 (kE false) L,.box 70 [.ptr 0 0,dI id,dI st,dB false,dI E.X4,dU E.X9,.own 3 (X0 false).sz 0 ws.length,.own 4 (X5 false).sz 0 done.length],Xe 116 (X0 false) ws,Xe 78 (X5 false) done],.tup [.one (.d (dsl false false (Y0 false) ([]:List Y7))),.one (dI 11)],[.live (.box 106 [dB true,dI f,dI u,.own 1 (kE false).sz 0 L.length]),.live (Xe 48 (kE false) L),.live (.box 70 [.ptr 0 0,dI id,dI st,dB false,dI E.X4,dU E.X9,.own 3 (X0 false).sz 0 ws.length,.own 4 (X5 false).sz 0 done.length]),.live (Xe 116 (X0 false) ws),.live (Xe 78 (X5 false) done)]⟩:=by
 refine Holds.of Try.func24 rfl (N:=54) Try.ntmps24 rfl fun w0 B0 S0 U0=>?_
 show T _ (Xz 54 5 w0 S0 U0 B0) ⟨[pv 2 0,slV tb nb kU8 b],(Zdf f u L id st E ws done)⟩ _ _
 refine sR [] (T.seq (sR [] ?_))
 by_cases hq1:((b.length:Nat):Int)>4096
 ·refine cT (dT hq1) (sR [] (T.ret (rT ?_)))
  refine eN ⟨(Zdg tb nb b),(Zdf f u L id st E ws done)⟩ ?_
  refine Xm (s':=⟨[pv 2 0,slV tb nb kU8 b,aa,aa,slV false false (Y0 false) ([]:List Y7),vI 11,aa,aa,vB (decide (((b.length:Nat):Int)>4096))],(Zdf f u L id st E ws done)⟩) (fun _ _ hG=>W7 (s:=⟨(Zdg tb nb b),(Zdf f u L id st E ws done)⟩) (kk4 ⟨pZ9,(kk4 trivial)⟩) ⟨.inl rfl,(kk4 trivial)⟩ hG) ?_
  exact eX [.t 4 (.one (.d (dsl false false (Y0 false) ([]:List Y7)))),.t 5 (.one (dI 11))] ⟨⟨rfl,by kernel_rfl⟩,⟨⟨rfl,by kernel_rfl⟩,trivial⟩⟩ [0,1,2,3,4] rfl (ix (ix (ix (ix (ix trivial)))))
 exact absurd hlg hq1
section
variable (id:Int) (done:List Xj) (st:Int) (tb:Bool) (nb:Bool) (b:List UInt8)
abbrev Zdh:SV:=dI id
abbrev Zdi:SV:=.own 4 (X5 false).sz 0 done.length
abbrev Zdj:SV:=.d (.val (.slice none 0 0))
abbrev Zdk:=(Yh (aM.mk 1 0 0 id (st+1) [] b (Xd.mk 0 0) ([]:List aE) ([]:List aE) ([]:List aC)))
abbrev Zdl:List AV:=[pv 2 0,slV tb nb kU8 b,aa,aa,dv (.slice none 0 0),vI 0,aa,aa,vB (decide (((b.length:Nat):Int)>4096)),aa,aa,aa,vB false]
end
theorem X2d (f:Int) (u:Int) (L:List aE) (id:Int) (st:Int) (E:aE) (ws:List X6) (done:List Xj) (tb:Bool) (nb:Bool) (b:List UInt8) (hf:0≤f∧f≤2) (hu:0≤u∧u≤8) (hst:0≤st∧st≤1000000) (hid:-9223372036854775808≤id∧id≤9223372036854775807) (hLl:L.length≤1000000) (hlg:¬((b.length:Nat):Int)>4096):Holds Try.prog 24 ⟨[pv 2 0,slV tb nb kU8 b],[.box 106 [dB true,dI f,dI u,.own 1 (kE false).sz 0 L.length],Xe 48 (kE false) L,.box 70 [.ptr 0 0,dI id,dI st,dB false,dI E.X4,dU E.X9,.own 3 (X0 false).sz 0 ws.length,.own 4 (X5 false).sz 0 done.length],Xe 116 (X0 false) ws,Xe 78 (X5 false) done],.tup [.one (.d (dsl false false (Y0 false) (Vb id (W2 f u id (Yh (Yi id (st+1) b)))))),.one (dI 0)],[.live (.box 106 [dB true,dI f,dI u,.own 5 (kE false).sz 0 (Wz f u L id (Yh (Yi id (st+1) b))).length]),.dead,.live (.box 70 [.ptr 0 0,dI id,dI (st+1),dB true,dI (W2 f u id (Yh (Yi id (st+1) b))).X4,dU (W2 f u id (Yh (Yi id (st+1) b))).X9,.own 6 (X0 false).sz 0 ([]:List X6).length,.own 4 (X5 false).sz 0 done.length]),.dead,.live (Xe 78 (X5 false) done),.live (Xe 48 (kE false) (Wz f u L id (Yh (Yi id (st+1) b)))),.live (Xe 116 (X0 false) ([]:List X6))]⟩:=by
 refine Holds.of Try.func24 rfl (N:=54) Try.ntmps24 rfl fun w0 B0 S0 U0=>?_
 show T _ (Xz 54 5 w0 S0 U0 B0) ⟨[pv 2 0,slV tb nb kU8 b],[.live (.box 106 [dB true,dI f,dI u,.own 1 (kE false).sz 0 L.length]),.live (Xe 48 (kE false) L),.live (.box 70 [.ptr 0 0,(Zdh id),dI st,dB false,dI E.X4,dU E.X9,.own 3 (X0 false).sz 0 ws.length,(Zdi done)]),.live (Xe 116 (X0 false) ws),.live (Xe 78 (X5 false) done)]⟩ _ _
 have hbl:(Yh (aM.mk 1 0 0 id (st+1) [] b (Xd.mk 0 0) [] [] [])).length≤5000:=Fg id (st+1) b hlg
 have hvl:=X7z f u id (Yh (aM.mk 1 0 0 id (st+1) [] b (Xd.mk 0 0) [] [] []))
 refine sR [] (T.seq (sR [] ?_))
 by_cases hq1:((b.length:Nat):Int)>4096
 ·exact absurd hq1 hlg
 refine cF (dF hq1) (T.skip (nT (T.seq (sR [] (cF (b:=false) rfl (T.skip (nT (sR [hR 4 rfl rfl (Y9 (u1:=.int .i64 st) (u2:=.int .i64 1) (v:=.int .i64 (st+1)) (W6 pZ5) (X8 rfl) ⟨rfl,trivial⟩)] (sR [] (sR [] ?_))))))))))
 refine sD [[],[],[1],[1,2],[1,2,3],[],[5],[5,6],[5,6,7],[],[9],[9,10],[9,10,11],[],[13],[13,14],[13,14,15],[],[9,10,11,12,13,14,15,16,17],[9,10,11,12,13,14,15,16,17,18],[1,2,3,4,5,6,7,8,9,10,11,12,13,14,15,16,17,18,19],[1,2,3,4,5,6,7,8,9,10,11,12,13,14,15,16,17,18,19,20],[1,2,3,4,5,6,7,8,9,10,11,12,13,14,15,16,17,18,19,20,21],[1,2,3,4,5,6,7,8,9,10,11,12,13,14,15,16,17,18,19,20,21],[0,1,2,3,4,5,6,7,8,9,10,11,12,13,14,15,16,17,18,19,20,21,22],[0,1,2,3,4,5,6,7,8,9,10,11,12,13,14,15,16,17,18,19,20,21,22,24],[0,1,2,3,4,5,6,7,8,9,10,11,12,13,14,15,16,17,18,19,20,21,22,24,25]] [hR 19 rfl rfl (rCn (H8 tb (aM.mk 1 0 0 id (st+1) [] b (Xd.mk 0 0) ([]:List aE) ([]:List aE) ([]:List aC)) (Ue id (st+1) b hlg).1 (Ue id (st+1) b hlg).2.1 (Ue id (st+1) b hlg).2.2.1 (Ue id (st+1) b hlg).2.2.2.1 (Ue id (st+1) b hlg).2.2.2.2.1 (Ue id (st+1) b hlg).2.2.2.2.2) Try.func27 [] [(.tmp 45,.tv (.agg [dI 1,dI 0,dI 0,(Zdh id),dI (st+1),dS [],.d (dsl tb nb kU8 b),dI 0,dI 0,Zdj,Zdj,Zdj]))] 0 0 ⟨⟨.inl ⟨rfl,rfl⟩,⟨.inl ⟨rfl,rfl⟩,⟨.inl ⟨rfl,rfl⟩,⟨.inl ⟨rfl,rfl⟩,⟨.inl ⟨rfl,rfl⟩,⟨.inl ⟨rfl,rfl⟩,⟨.inr (.inr ⟨rfl,Um,rfl,rfl,rfl⟩),⟨.inl ⟨rfl,rfl⟩,⟨.inl ⟨rfl,rfl⟩,⟨.inr pZ9,⟨.inr pZ9,⟨.inr pZ9,trivial⟩⟩⟩⟩⟩⟩⟩⟩⟩⟩⟩⟩,trivial⟩ trivial),hR 20 rfl rfl (rCa (Fq f u L id false false (Yh (aM.mk 1 0 0 id (st+1) [] b (Xd.mk 0 0) ([]:List aE) ([]:List aE) ([]:List aC))) ‹_› ‹_› ‹_› (by omega) (by omega)) Try.func29 [0,1,5] [(.tmp 31,pv 0 0),(.tmp 35,vI id),(.tmp 46,slV false false kU8 (Zdk id st b))] 2 3)] ?_
 refine tN ⟨(Zdl tb nb b),[.live (.box 106 [dB true,dI f,dI u,.own 5 (kE false).sz 0 (Wz f u L id (Zdk id st b)).length]),.dead,.live (.box 70 [.ptr 0 0,(Zdh id),dI (st+1),dB true,dI (W2 f u id (Zdk id st b)).X4,dU (W2 f u id (Zdk id st b)).X9,Zdj,(Zdi done)]),.live (Xe 116 (X0 false) ws),.live (Xe 78 (X5 false) done),.live (Xe 48 (kE false) (Wz f u L id (Zdk id st b)))]⟩ ?_
 refine Vh (s':=⟨(Zdl tb nb b),[.live (.box 106 [dB true,dI f,dI u,.own 5 (kE false).sz 0 (Wz f u L id (Zdk id st b)).length]),.dead,.live (.box 70 [.ptr 0 0,(Zdh id),dI (st+1),dB true,dI (W2 f u id (Zdk id st b)).X4,dU (W2 f u id (Zdk id st b)).X9,.own 6 (X0 false).sz 0 0,(Zdi done)]),.live (Xe 116 (X0 false) ws),.live (Xe 78 (X5 false) done),.live (Xe 48 (kE false) (Wz f u L id (Zdk id st b))),.live (Xe 116 (X0 false) ([]:List X6))]⟩) (fun _ _ hG=>I7 6 2 6 116 (X0 false) (Tb:=70) (cs:=[.ptr 0 0,(Zdh id),dI (st+1),dB true,dI (W2 f u id (Zdk id st b)).X4,dU (W2 f u id (Zdk id st b)).X9,Zdj,(Zdi done)]) rfl rfl rfl hG) ?_
 refine sR [hR 1 rfl rfl (rCa (X2e f u (Wz f u L id (Yh (aM.mk 1 0 0 id (st+1) [] b (Xd.mk 0 0) ([]:List aE) ([]:List aE) ([]:List aC)))) id (st+1) (W2 f u id (Yh (aM.mk 1 0 0 id (st+1) [] b (Xd.mk 0 0) ([]:List aE) ([]:List aE) ([]:List aC)))) ([]:List X6) done (by omega)) Try.func26 [0,5,2,6,4] [(.tmp 52,pv 2 0)] 5 5)] (T.ret ?_)
 exact eX [.t 4 (.one (.d (dsl false false (Y0 false) (Vb id (W2 f u id (Zdk id st b)))))),.t 5 (.one (dI 0))] ⟨⟨rfl,by kernel_rfl⟩,⟨⟨rfl,by kernel_rfl⟩,trivial⟩⟩ [0,1,2,3,4,5,6] p3e ⟨⟨rfl,(by have e1:((Wz f u L id (Yh (aM.mk 1 0 0 id (st+1) [] b (Xd.mk 0 0) ([]:List aE) ([]:List aE) ([]:List aC)))).length:Nat)=(Wz f u L id (Yh (Yi id (st+1) b))).length:=(by rfl);have hE:=congrArg (fun (q1:Nat)=>(.live (.box 106 [dB true,dI f,dI u,.own 5 (kE false).sz 0 q1]):HS)) e1;exact Eq.trans pZ4 hE)⟩,⟨⟨rfl,(by have e1:((W2 f u id (Yh (aM.mk 1 0 0 id (st+1) [] b (Xd.mk 0 0) ([]:List aE) ([]:List aE) ([]:List aC)))).X4:Int)=(W2 f u id (Yh (Yi id (st+1) b))).X4:=(by rfl);have e2:((W2 f u id (Yh (aM.mk 1 0 0 id (st+1) [] b (Xd.mk 0 0) ([]:List aE) ([]:List aE) ([]:List aC)))).X9:List UInt8)=(W2 f u id (Yh (Yi id (st+1) b))).X9:=(by rfl);have hE:=congr (congrArg (fun (q1:Int) (q2:List UInt8)=>(.live (.box 70 [.ptr 0 0,(Zdh id),dI (st+1),dB true,dI q1,dU q2,.own 6 (X0 false).sz 0 ([]:List X6).length,(Zdi done)]):HS)) e1) e2;exact Eq.trans pZ4 hE)⟩,(ix ⟨⟨rfl,(by have e1:((Wz f u L id (Yh (aM.mk 1 0 0 id (st+1) [] b (Xd.mk 0 0) ([]:List aE) ([]:List aE) ([]:List aC)))):List aE)=(Wz f u L id (Yh (Yi id (st+1) b))):=(by rfl);have hE:=congrArg (fun (q1:List aE)=>(.live (Xe 48 (kE false) q1):HS)) e1;exact Eq.trans pZ4 hE)⟩,(ix trivial)⟩)⟩⟩
abbrev Zdm (e:aE):AV:=.tv (.agg [dI e.X4,dU e.X9])
theorem X62 (f:Int) (u:Int) (L:List aE) (id:Int) (st:Int) (E:aE) (ws:List X6) (done:List Xj) (e:aE) (hf:0≤f∧f≤2) (hu:0≤u∧u≤8) (hs:-9223372036854775808≤e.X4∧e.X4≤9223372036854775807) (hb:e.X9.length≤100000000) (hLl:L.length≤1000000) (hwl:ws.length≤1000000):Holds Try.prog 30 ⟨[pv 2 0,.tv (.agg [dI e.X4,dU e.X9])],[.box 106 [dB true,dI f,dI u,.own 1 (kE false).sz 0 L.length],Xe 48 (kE false) L,.box 70 [.ptr 0 0,dI id,dI st,dB false,dI E.X4,dU E.X9,.own 3 (X0 false).sz 0 ws.length,.own 4 (X5 false).sz 0 done.length],Xe 116 (X0 false) ws,Xe 78 (X5 false) done],.tup [],[.live (.box 106 [dB true,dI f,dI u,.own 1 (kE false).sz 0 L.length]),.live (Xe 48 (kE false) L),.live (.box 70 [.ptr 0 0,dI id,dI st,dB false,dI E.X4,dU E.X9,.own 3 (X0 false).sz 0 ws.length,.own 4 (X5 false).sz 0 done.length]),.live (Xe 116 (X0 false) ws),.live (Xe 78 (X5 false) done)]⟩:=by
 refine Holds.of Try.func30 rfl (N:=151) Try.ntmps30 rfl fun w0 B0 S0 U0=>?_
 show T _ (Xz 151 5 w0 S0 U0 B0) ⟨[pv 2 0,(Zdm e)],[.live (.box 106 [dB true,dI f,dI u,.own 1 (kE false).sz 0 L.length]),.live (Xe 48 (kE false) L),.live (.box 70 [.ptr 0 0,dI id,dI st,dB false,dI E.X4,dU E.X9,.own 3 (X0 false).sz 0 ws.length,.own 4 (X5 false).sz 0 done.length]),.live (Xe 116 (X0 false) ws),.live (Xe 78 (X5 false) done)]⟩ _ _
 refine sR [] (T.seq ?_)
 by_cases hq1:(Wr f u L e)≠0
 ·refine sD [[],[0],[0,1],[0,1,2],[],[0,1,2,3,4],[0,1,2,3,4,5],[0,1,2,3,4,5,6],[0,1,2,3,4,5,6,7],[0,1,2,3,4,5,6,7,8],[0,1,2,3,4,5,6,7,8,9],[0,1,2,3,4,5,6,7,8,9,10],[0,1,2,3,4,5,6,7],[0,1,2,3,4,5,6,7,12],[0,1,2,3,4,5,6,7,8,9,10,11,12,13],[0,1,2,3,4,5,6,7,8,9,10,11,12,13,14],[0,1,2,3,4,5,6,7,8,9,10,11,12,13,14,15],[0,1,2,3,4,5,6,7,8,9,10,11,12,13,14,15,16],[0,1,2,3,4,5,6,7,8,9,10,11,12,13,14,15,16,17],[0,1,2,3,4,5,6,7,8,9,10,11,12,13,14,15,16,17,18],[0,1,2,3,4,5,6,7,8,9,10,11,12,13,14,15,16,17,18,19],[0,1,2,3,4,5,6,7,8,9,10,11,12,13,14,15,16,17,18,19,20],[0,1,2,3,4,5,6,7,8,9,10,11,12,13,14,15,16,17,18,19,20,21],[0,1,2,3,4,5,6,7,8,9,10,11,12,13,14,15,16,17,18,19,20,21,22]] (hR 5 rfl rfl (rCa (Jg f u L false e ‹_› ‹_› ‹_› (by omega)) Try.func54 [0,1] [(.tmp 12,pv 0 0),(.tmp 13,(Zdm e))] 2 2)::(Xl (hN · false (dT hq1)) [8,9,10,11,12,13,14,15] (hP 16 (dT hq1)::(Xl hN0 [18,19,20,21,22] (hP1 23::[]))))) ?_
  refine cT (b:=true) rfl (T.ret (rT ?_))
  exact eX [] trivial [0,1,2,3,4] rfl (ix (ix (ix (ix (ix trivial)))))
 by_cases hq2:Vl f e.X4
 ·refine sD [[],[0],[0,1],[0,1,2],[],[0,1,2,3,4],[0,1,2,3,4,5],[0,1,2,3,4,5,6],[0,1,2,3,4,5,6,7],[0,1,2,3,4,5,6,7,8],[0,1,2,3,4,5,6,7,8,9],[0,1,2,3,4,5,6,7,8,9,10],[0,1,2,3,4,5,6,7],[0,1,2,3,4,5,6,7,12],[0,1,2,3,4,5,6,7,8,9,10,11,12,13],[0,1,2,3,4,5,6,7,8,9,10,11,12,13,14],[0,1,2,3,4,5,6,7,8,9,10,11,12,13,14,15],[0,1,2,3,4,5,6,7,8,9,10,11,12,13,14,15,16],[0,1,2,3,4,5,6,7,8,9,10,11,12,13,14,15,16,17],[0,1,2,3,4,5,6,7,8,9,10,11,12,13,14,15,16,17,18],[0,1,2,3,4,5,6,7,8,9,10,11,12,13,14,15,16,17,18,19],[0,1,2,3,4,5,6,7,8,9,10,11,12,13,14,15,16,17,18,19,20],[0,1,2,3,4,5,6,7,8,9,10,11,12,13,14,15,16,17,18,19,20,21],[0,1,2,3,4,5,6,7,8,9,10,11,12,13,14,15,16,17,18,19,20,21,22]] (hR 5 rfl rfl (rCa (Jg f u L false e ‹_› ‹_› ‹_› (by omega)) Try.func54 [0,1] [(.tmp 12,pv 0 0),(.tmp 13,(Zdm e))] 2 2)::(Xl (hY · (dF hq1)) [8,9,10,11,12,13] (hS 14 (oY rfl rfl rfl rfl (X8 rfl) (dF hq1) (rCa (Uj f u L e.X4 ‹_› ‹_›) Try.func55 [0,1] [(.tmp 20,pv 0 0),(.tmp 22,vI e.X4)] 2 2))::(hY 15 (dF hq1)::(hP 16 (dF hq1)::(Xl (hY · (cn (dT hq2))) [18,19,20,21,22] (hP 23 (cn (dT hq2))::[]))))))) ?_
  refine cT (b:=(!false)) rfl (T.ret (rT ?_))
  exact eX [] trivial [0,1,2,3,4] rfl (ix (ix (ix (ix (ix trivial)))))
 refine sD [[],[0],[0,1],[0,1,2],[],[0,1,2,3,4],[0,1,2,3,4,5],[0,1,2,3,4,5,6],[0,1,2,3,4,5,6,7],[0,1,2,3,4,5,6,7,8],[0,1,2,3,4,5,6,7,8,9],[0,1,2,3,4,5,6,7,8,9,10],[0,1,2,3,4,5,6,7],[0,1,2,3,4,5,6,7,12],[0,1,2,3,4,5,6,7,8,9,10,11,12,13],[0,1,2,3,4,5,6,7,8,9,10,11,12,13,14],[0,1,2,3,4,5,6,7,8,9,10,11,12,13,14,15],[0,1,2,3,4,5,6,7,8,9,10,11,12,13,14,15,16],[0,1,2,3,4,5,6,7,8,9,10,11,12,13,14,15,16,17],[0,1,2,3,4,5,6,7,8,9,10,11,12,13,14,15,16,17,18],[0,1,2,3,4,5,6,7,8,9,10,11,12,13,14,15,16,17,18,19],[0,1,2,3,4,5,6,7,8,9,10,11,12,13,14,15,16,17,18,19,20],[0,1,2,3,4,5,6,7,8,9,10,11,12,13,14,15,16,17,18,19,20,21],[0,1,2,3,4,5,6,7,8,9,10,11,12,13,14,15,16,17,18,19,20,21,22]] (hR 5 rfl rfl (rCa (Jg f u L false e ‹_› ‹_› ‹_› (by omega)) Try.func54 [0,1] [(.tmp 12,pv 0 0),(.tmp 13,(Zdm e))] 2 2)::(Xl (hY · (dF hq1)) [8,9,10,11,12,13] (hS 14 (oY rfl rfl rfl rfl (X8 rfl) (dF hq1) (rCa (Uj f u L e.X4 ‹_› ‹_›) Try.func55 [0,1] [(.tmp 20,pv 0 0),(.tmp 22,vI e.X4)] 2 2))::(hY 15 (dF hq1)::(hP 16 (dF hq1)::(Xl (hN · false (cn (dF hq2))) [18,19,20,21,22] (hP 23 (cn (dF hq2))::[]))))))) ?_
 refine cT (b:=true) rfl (T.ret (rT ?_))
 exact eX [] trivial [0,1,2,3,4] rfl (ix (ix (ix (ix (ix trivial)))))
theorem Jo:Try.prog.info? 116=some Try.t116:=by kernel_rfl
theorem Xa8:Wide Try.prog 116 (some 3):=⟨_,_,Try.underlying116,.inl ⟨_,rfl⟩,Jo,rfl⟩
theorem X22:Zero Try.prog 116 [.int .i64 0,.int .i64 0,.int .i64 0]:=⟨_,_,Jo,rfl,rfl⟩
theorem X52:Elem Try.prog 68 116 3 24:=⟨Try.underlying68,_,_,Jo,rfl,rfl,rfl,rfl,by decide⟩
section
variable (f:Int) (u:Int) (L:List aE) (id:Int) (st:Int) (E:aE) (ws:List X6) (done:List Xj) (e:aE) (k:Nat)
abbrev Zdn:AV:=.tv (.agg [dI e.X4,dU e.X9])
abbrev Zdo:HS:=.live (.box 106 [dB true,dI f,dI u,.own 1 (kE false).sz 0 L.length])
abbrev Zdp:HS:=.live (Xe 48 (kE false) L)
abbrev Zdq:SV:=dI id
abbrev Zdr:SV:=dI st
abbrev Zds:SV:=dI E.X4
abbrev Zdt:SV:=dU E.X9
abbrev Zdu:SV:=.own 4 (X5 false).sz 0 done.length
abbrev Zdv:HS:=.live (.box 70 [.ptr 0 0,(Zdq id),(Zdr st),dB true,(Zds E),(Zdt E),.own 3 (X0 false).sz 0 ws.length,(Zdu done)])
abbrev Zdw:HObj:=Xe 116 (X0 false) ws
abbrev Zdx:HS:=.live ((Zdw ws))
abbrev Zdy:HS:=.live (Xe 78 (X5 false) done)
abbrev Zdz:List AV:=[pv 2 0,(Zdn e),aa,pv 5 0,aa,aa,aa,aa,aa,aa,aa,aa,aa,aa,aa,aa,aa,aa,aa,aa,aa,aa,aa,aa,aa,aa,aa,aa,aa,aa,aa,aa,vB true]
abbrev Ze0:HS:=.live (.box 48 [dI e.X4,dU e.X9])
abbrev Ze1:AV:=vI (E0 e.X9)
abbrev Ze2:List AV:=[pv 2 0,(Zdn e),aa,pv 5 0,pv 6 0,(Ze1 e),aa,aa,aa,aa,aa,aa,aa,aa,aa,aa,aa,aa,aa,aa,aa,aa,aa,aa,aa,aa,aa,aa,aa,aa,aa,aa,vB (!true),aa,aa,aa,aa,aa,aa,aa,aa,aa,aa,aa,aa,aa,aa,aa,aa,aa,aa,aa,aa,aa,aa,aa,aa,aa,aa,aa,aa,aa,aa,vB true]
abbrev Ze3:SV:=dI (Y6 e.X9).X1.Xs
abbrev Ze4:SV:=dI (Y6 e.X9).X1.Xo
abbrev Ze5:HS:=.live (.box 42 [dI (Y6 e.X9).X3,dI (Y6 e.X9).Xt,dI (Y6 e.X9).Xy,dI (Y6 e.X9).Xb,dI (Y6 e.X9).Xv,dS (Y6 e.X9).Xc,dU (Y6 e.X9).Xk,(Ze3 e),(Ze4 e),.d (dsl false false (kE false) (Y6 e.X9).Xf),.d (dsl false false (kE false) (Y6 e.X9).Xr),.d (dsl false false (kC false) (Y6 e.X9).X7)])
abbrev Ze6:List HS:=[(Zdo f u L),(Zdp L),(Zdv id st E ws done),(Zdx ws),(Zdy done),(Ze0 e),(Ze5 e)]
abbrev Ze7:List HS:=[(Zdo f u L),(Zdp L),.live (.box 70 [.ptr 0 0,(Zdq id),(Zdr st),dB true,(Zds E),(Zdt E),.own 7 (X0 false).sz 0 ws.length,(Zdu done)]),.dead,(Zdy done),(Ze0 e),(Ze5 e),(Zdx ws)]
abbrev Ze8:AV:=vB (decide ((Y6 e.X9).Xv≠st))
abbrev Ze9:List AV:=[pv 2 0,(Zdn e),aa,pv 5 0,pv 6 0,(Ze1 e),aa,aa,aa,aa,aa,aa,aa,aa,aa,aa,aa,aa,aa,aa,aa,aa,aa,aa,aa,aa,aa,aa,aa,aa,aa,aa,vB (!true),aa,aa,aa,aa,aa,aa,aa,aa,aa,aa,aa,aa,aa,aa,aa,aa,aa,aa,aa,aa,aa,aa,aa,aa,aa,aa,aa,aa,aa,aa,(Ze8 st e)]
abbrev Zea:HS:=.live (Xe 116 (X0 false) ([]:List X6))
abbrev Zeb:AV:=Y3 7 (X0 false) 0 (Yy ws e.X4 k).length
abbrev Zec:AV:=vI ((Wb ws e k:Nat):Int)
abbrev Zed:List HS:=[(Zdo f u L),(Zdp L),(Zdv id st E ws done),(Zdx ws),(Zdy done),(Ze0 e),(Ze5 e),.live (Xe 116 (X0 false) (Yy ws e.X4 k))]
abbrev Zef:DV:=.val (.int .i64 (ws.getD k Xp).X4)
abbrev Zeg:SV:=dI (ws.getD k Xp).X1.Xs
abbrev Zeh:SV:=dI (ws.getD k Xp).X1.Xo
abbrev Zei:AV:=vI ((k+1:Nat):Int)
abbrev Zek:List HS:=[(Zdo f u L),(Zdp L),(Zdv id st E ws done),(Zdx ws),(Zdy done),(Ze0 e),(Ze5 e),.live (Xe 116 (X0 false) (Yy ws e.X4 (k+1)))]
abbrev Zel:List AV:=[pv 2 0,aa,aa,pv 5 0,pv 6 0,aa,Y3 9 (X0 false) 0 (Yy ws e.X4 (k+1)).length,vI ((Wb ws e (k+1):Nat):Int),(Zei k)]
abbrev Zem:AV:=vB (decide (((k:Nat):Int)<((ws.length:Nat):Int)))
abbrev Zen:List AV:=[pv 2 0,aa,aa,pv 5 0,pv 6 0,aa,Y3 7 (X0 false) 0 (Yy ws e.X4 ws.length).length,vI ((Wb ws e ws.length:Nat):Int),aa,aa,aa,aa,aa,aa,aa,aa,aa,aa,aa,aa,aa,aa,aa,aa,aa,aa,aa,aa,aa,aa,aa,aa,aa,aa,aa,aa,aa,aa,aa,aa,aa,aa,aa,aa,aa,aa,aa,aa,aa,aa,aa,aa,aa,aa,aa,aa,aa,aa,aa,aa,aa,aa,aa,aa,aa,aa,aa,aa,aa,aa,(Zem ws k)]
abbrev Zeo:List HS:=[(Zdo f u L),(Zdp L),(Zdv id st E ws done),(Zdx ws),(Zdy done),(Ze0 e),(Ze5 e),.live (Xe 116 (X0 false) (Yy ws e.X4 ws.length))]
end
theorem X61 (f:Int) (u:Int) (L:List aE) (id:Int) (st:Int) (E:aE) (ws:List X6) (done:List Xj) (e:aE) (hf:0≤f∧f≤2) (hu:0≤u∧u≤8) (hs:-9223372036854775808≤e.X4∧e.X4≤9223372036854775807) (hb:e.X9.length≤100000000) (hLl:L.length≤1000000) (hwl:ws.length≤1000000) (hd:¬Fz (Wr f u L) f id st ws e):Holds Try.prog 30 ⟨[pv 2 0,.tv (.agg [dI e.X4,dU e.X9])],[.box 106 [dB true,dI f,dI u,.own 1 (kE false).sz 0 L.length],Xe 48 (kE false) L,.box 70 [.ptr 0 0,dI id,dI st,dB true,dI E.X4,dU E.X9,.own 3 (X0 false).sz 0 ws.length,.own 4 (X5 false).sz 0 done.length],Xe 116 (X0 false) ws,Xe 78 (X5 false) done],.tup [],[.live (.box 106 [dB true,dI f,dI u,.own 1 (kE false).sz 0 L.length]),.live (Xe 48 (kE false) L),.live (.box 70 [.ptr 0 0,dI id,dI st,dB true,dI E.X4,dU E.X9,.own 5 (X0 false).sz 0 (Uo (Wr f u L) f id st ws e).length,.own 4 (X5 false).sz 0 done.length]),.dead,.live (Xe 78 (X5 false) done),.live (Xe 116 (X0 false) (Uo (Wr f u L) f id st ws e))]⟩:=by
 refine Holds.of Try.func30 rfl (N:=151) Try.ntmps30 rfl fun w0 B0 S0 U0=>?_
 show T _ (Xz 151 5 w0 S0 U0 B0) ⟨[pv 2 0,(Zdn e)],[(Zdo f u L),(Zdp L),(Zdv id st E ws done),(Zdx ws),(Zdy done)]⟩ _ _
 have hol9:=X0p (ws:=ws) (s:=e.X4) (k:=ws.length)
 refine sR [] (T.seq ?_)
 by_cases hq1:(Wr f u L e)≠0
 ·have hx:¬V1 (Wr f u L) f id st e:=fun w=>hq1 w.2.1
  refine sD [[],[0],[0,1],[0,1,2],[],[0,1,2,3,4],[0,1,2,3,4,5],[0,1,2,3,4,5,6],[0,1,2,3,4,5,6,7],[0,1,2,3,4,5,6,7,8],[0,1,2,3,4,5,6,7,8,9],[0,1,2,3,4,5,6,7,8,9,10],[0,1,2,3,4,5,6,7],[0,1,2,3,4,5,6,7,12],[0,1,2,3,4,5,6,7,8,9,10,11,12,13],[0,1,2,3,4,5,6,7,8,9,10,11,12,13,14],[0,1,2,3,4,5,6,7,8,9,10,11,12,13,14,15],[0,1,2,3,4,5,6,7,8,9,10,11,12,13,14,15,16],[0,1,2,3,4,5,6,7,8,9,10,11,12,13,14,15,16,17],[0,1,2,3,4,5,6,7,8,9,10,11,12,13,14,15,16,17,18],[0,1,2,3,4,5,6,7,8,9,10,11,12,13,14,15,16,17,18,19],[0,1,2,3,4,5,6,7,8,9,10,11,12,13,14,15,16,17,18,19,20],[0,1,2,3,4,5,6,7,8,9,10,11,12,13,14,15,16,17,18,19,20,21],[0,1,2,3,4,5,6,7,8,9,10,11,12,13,14,15,16,17,18,19,20,21,22]] (hR 5 rfl rfl (rCa (Jg f u L false e ‹_› ‹_› ‹_› (by omega)) Try.func54 [0,1] [(.tmp 12,pv 0 0),(.tmp 13,(Zdn e))] 2 2)::(Xl (hN · false (dT hq1)) [8,9,10,11,12,13,14,15] (hP 16 (dT hq1)::(Xl hN0 [18,19,20,21,22] (hP1 23::[]))))) ?_
  refine cT (b:=true) rfl (T.ret (rT ?_))
  refine eN ⟨(Zdz e),[(Zdo f u L),(Zdp L),(Zdv id st E ws done),(Zdx ws),(Zdy done),(Ze0 e)]⟩ ?_
  refine Xm (s':=⟨(Zdz e),[(Zdo f u L),(Zdp L),.live (.box 70 [.ptr 0 0,(Zdq id),(Zdr st),dB true,(Zds E),(Zdt E),.own 6 (X0 false).sz 0 ws.length,(Zdu done)]),.dead,(Zdy done),(Ze0 e),(Zdx ws)]⟩) (fun _ _ hG=>Gs.move (s:=⟨(Zdz e),[(Zdo f u L),(Zdp L),(Zdv id st E ws done),(Zdx ws),(Zdy done),(Ze0 e)]⟩) 3 6 (o:=(Zdw ws)) rfl rfl rfl ⟨.inl rfl,(X6o trivial)⟩ ⟨(.inr pZ1),⟨(.inr pZ1),⟨(.inr pp),⟨(.inl ⟨rfl,rfl⟩),⟨(.inr pZ1),⟨(.inr pZ1),⟨(.inr (.inl ⟨rfl,rfl⟩)),trivial⟩⟩⟩⟩⟩⟩⟩ hG) ?_
  exact eX [] trivial [0,1,2,3,4,6] rfl (ix (ix ⟨⟨rfl,pZ20⟩,(ix ⟨⟨rfl,pZ10⟩,trivial⟩)⟩))
 have g2:=Classical.not_not.1 hq1
 by_cases hq2:Vl f e.X4
 rotate_left
 ·have hx:¬V1 (Wr f u L) f id st e:=fun w=>hq2 w.1
  refine sD [[],[0],[0,1],[0,1,2],[],[0,1,2,3,4],[0,1,2,3,4,5],[0,1,2,3,4,5,6],[0,1,2,3,4,5,6,7],[0,1,2,3,4,5,6,7,8],[0,1,2,3,4,5,6,7,8,9],[0,1,2,3,4,5,6,7,8,9,10],[0,1,2,3,4,5,6,7],[0,1,2,3,4,5,6,7,12],[0,1,2,3,4,5,6,7,8,9,10,11,12,13],[0,1,2,3,4,5,6,7,8,9,10,11,12,13,14],[0,1,2,3,4,5,6,7,8,9,10,11,12,13,14,15],[0,1,2,3,4,5,6,7,8,9,10,11,12,13,14,15,16],[0,1,2,3,4,5,6,7,8,9,10,11,12,13,14,15,16,17],[0,1,2,3,4,5,6,7,8,9,10,11,12,13,14,15,16,17,18],[0,1,2,3,4,5,6,7,8,9,10,11,12,13,14,15,16,17,18,19],[0,1,2,3,4,5,6,7,8,9,10,11,12,13,14,15,16,17,18,19,20],[0,1,2,3,4,5,6,7,8,9,10,11,12,13,14,15,16,17,18,19,20,21],[0,1,2,3,4,5,6,7,8,9,10,11,12,13,14,15,16,17,18,19,20,21,22]] (hR 5 rfl rfl (rCa (Jg f u L false e ‹_› ‹_› ‹_› (by omega)) Try.func54 [0,1] [(.tmp 12,pv 0 0),(.tmp 13,(Zdn e))] 2 2)::(Xl (hY · (dF hq1)) [8,9,10,11,12,13] (hS 14 (oY rfl rfl rfl rfl (X8 rfl) (dF hq1) (rCa (Uj f u L e.X4 ‹_› ‹_›) Try.func55 [0,1] [(.tmp 20,pv 0 0),(.tmp 22,vI e.X4)] 2 2))::(hY 15 (dF hq1)::(hP 16 (dF hq1)::(Xl (hN · false (cn (dF hq2))) [18,19,20,21,22] (hP 23 (cn (dF hq2))::[]))))))) ?_
  refine cT (b:=true) rfl (T.ret (rT ?_))
  refine eN ⟨(Zdz e),[(Zdo f u L),(Zdp L),(Zdv id st E ws done),(Zdx ws),(Zdy done),(Ze0 e)]⟩ ?_
  refine Xm (s':=⟨(Zdz e),[(Zdo f u L),(Zdp L),.live (.box 70 [.ptr 0 0,(Zdq id),(Zdr st),dB true,(Zds E),(Zdt E),.own 6 (X0 false).sz 0 ws.length,(Zdu done)]),.dead,(Zdy done),(Ze0 e),(Zdx ws)]⟩) (fun _ _ hG=>Gs.move (s:=⟨(Zdz e),[(Zdo f u L),(Zdp L),(Zdv id st E ws done),(Zdx ws),(Zdy done),(Ze0 e)]⟩) 3 6 (o:=(Zdw ws)) rfl rfl rfl ⟨.inl rfl,(X6o trivial)⟩ ⟨(.inr pZ1),⟨(.inr pZ1),⟨(.inr pp),⟨(.inl ⟨rfl,rfl⟩),⟨(.inr pZ1),⟨(.inr pZ1),⟨(.inr (.inl ⟨rfl,rfl⟩)),trivial⟩⟩⟩⟩⟩⟩⟩ hG) ?_
  exact eX [] trivial [0,1,2,3,4,6] rfl (ix (ix ⟨⟨rfl,pZ20⟩,(ix ⟨⟨rfl,pZ10⟩,trivial⟩)⟩))
 have g1:=hq2
 refine sD [[],[0],[0,1],[0,1,2],[],[0,1,2,3,4],[0,1,2,3,4,5],[0,1,2,3,4,5,6],[0,1,2,3,4,5,6,7],[0,1,2,3,4,5,6,7,8],[0,1,2,3,4,5,6,7,8,9],[0,1,2,3,4,5,6,7,8,9,10],[0,1,2,3,4,5,6,7],[0,1,2,3,4,5,6,7,12],[0,1,2,3,4,5,6,7,8,9,10,11,12,13],[0,1,2,3,4,5,6,7,8,9,10,11,12,13,14],[0,1,2,3,4,5,6,7,8,9,10,11,12,13,14,15],[0,1,2,3,4,5,6,7,8,9,10,11,12,13,14,15,16],[0,1,2,3,4,5,6,7,8,9,10,11,12,13,14,15,16,17],[0,1,2,3,4,5,6,7,8,9,10,11,12,13,14,15,16,17,18],[0,1,2,3,4,5,6,7,8,9,10,11,12,13,14,15,16,17,18,19],[0,1,2,3,4,5,6,7,8,9,10,11,12,13,14,15,16,17,18,19,20],[0,1,2,3,4,5,6,7,8,9,10,11,12,13,14,15,16,17,18,19,20,21],[0,1,2,3,4,5,6,7,8,9,10,11,12,13,14,15,16,17,18,19,20,21,22]] (hR 5 rfl rfl (rCa (Jg f u L false e ‹_› ‹_› ‹_› (by omega)) Try.func54 [0,1] [(.tmp 12,pv 0 0),(.tmp 13,(Zdn e))] 2 2)::(Xl (hY · (dF hq1)) [8,9,10,11,12,13] (hS 14 (oY rfl rfl rfl rfl (X8 rfl) (dF hq1) (rCa (Uj f u L e.X4 ‹_› ‹_›) Try.func55 [0,1] [(.tmp 20,pv 0 0),(.tmp 22,vI e.X4)] 2 2))::(hY 15 (dF hq1)::(hP 16 (dF hq1)::(Xl (hY · (cn (dT hq2))) [18,19,20,21,22] (hP 23 (cn (dT hq2))::[]))))))) ?_
 refine cF (b:=(!true)) rfl (T.skip (nT (sR [hR 2 rfl rfl (rCa (H9 e.X9 (by omega)) Try.func14 [] [(.tmp 35,slV false false kU8 e.X9)] 0 0)] (T.seq ?_))))
 by_cases hq3:(E0 e.X9)≠0
 ·have hx:¬V1 (Wr f u L) f id st e:=fun w=>hq3 w.2.2.1
  refine sD [[],[0],[0,1],[0,1,2],[0,1,2,3],[0,1,2,3,4],[0,1,2,3,4,5],[0,1,2,3,4,5,6],[0,1,2,3,4,5,6,7],[0,1,2,3,4,5,6,7,8],[0,1,2,3,4,5,6,7],[0,1,2,3,4,5,6,7,10],[0,1,2,3,4,5,6,7,10,11],[0,1,2,3,4,5,6,7,10,11,12],[0,1,2,3,4,5,6,7,8,9,10,11,12,13],[0,1,2,3,4,5,6,7,8,9,10,11,12,13,14],[0,1,2,3,4,5,6,7,8,9,10,11,12,13,14,15],[0,1,2,3,4,5,6,7,8,9,10,11,12,13,14,15,16],[0,1,2,3,4,5,6,7,8,9,10,11,12,13,14,15,16,17],[0,1,2,3,4,5,6,7,8,9,10,11,12,13,14,15,16],[0,1,2,3,4,5,6,7,8,9,10,11,12,13,14,15,16,19],[0,1,2,3,4,5,6,7,8,9,10,11,12,13,14,15,16,19,20],[0,1,2,3,4,5,6,7,8,9,10,11,12,13,14,15,16,19,20,21],[0,1,2,3,4,5,6,7,8,9,10,11,12,13,14,15,16,17,18,19,20,21,22],[0,1,2,3,4,5,6,7,8,9,10,11,12,13,14,15,16,17,18,19,20,21,22,23]] (Xl (hN · false (dT hq3)) [3,4,5] (hP 6 (dT hq3)::(Xl hN0 [8,9,10,11,12,13,14] (hP1 15::(Xl hN0 [17,18,19,20,21,22,23] (hP1 24::[])))))) ?_
  refine cT (b:=true) rfl (T.ret (rT ?_))
  refine eN ⟨(Ze2 e),(Ze6 f u L id st E ws done e)⟩ ?_
  refine Xm (s':=⟨(Ze2 e),(Ze7 f u L id st E ws done e)⟩) (fun _ _ hG=>Gs.move (s:=⟨(Ze2 e),(Ze6 f u L id st E ws done e)⟩) 3 7 (o:=(Zdw ws)) rfl rfl rfl p2u ⟨(.inr pZ1),⟨(.inr pZ1),⟨(.inr pp),⟨(.inl ⟨rfl,rfl⟩),⟨(.inr pZ1),⟨(.inr pZ1),⟨(.inr pZ1),⟨(.inr (.inl ⟨rfl,rfl⟩)),trivial⟩⟩⟩⟩⟩⟩⟩⟩ hG) ?_
  exact eX [] trivial [0,1,2,3,4,7] rfl (ix (ix ⟨⟨rfl,pZ13⟩,(ix ⟨⟨rfl,pZ10⟩,trivial⟩)⟩))
 have g3:=Classical.not_not.1 hq3
 by_cases hq4:(Y6 e.X9).X3≠8
 ·have hx:¬V1 (Wr f u L) f id st e:=fun w=>hq4 w.2.2.2.1
  refine sD [[],[0],[0,1],[0,1,2],[0,1,2,3],[0,1,2,3,4],[0,1,2,3,4,5],[0,1,2,3,4,5,6],[0,1,2,3,4,5,6,7],[0,1,2,3,4,5,6,7,8],[0,1,2,3,4,5,6,7],[0,1,2,3,4,5,6,7,10],[0,1,2,3,4,5,6,7,10,11],[0,1,2,3,4,5,6,7,10,11,12],[0,1,2,3,4,5,6,7,8,9,10,11,12,13],[0,1,2,3,4,5,6,7,8,9,10,11,12,13,14],[0,1,2,3,4,5,6,7,8,9,10,11,12,13,14,15],[0,1,2,3,4,5,6,7,8,9,10,11,12,13,14,15,16],[0,1,2,3,4,5,6,7,8,9,10,11,12,13,14,15,16,17],[0,1,2,3,4,5,6,7,8,9,10,11,12,13,14,15,16],[0,1,2,3,4,5,6,7,8,9,10,11,12,13,14,15,16,19],[0,1,2,3,4,5,6,7,8,9,10,11,12,13,14,15,16,19,20],[0,1,2,3,4,5,6,7,8,9,10,11,12,13,14,15,16,19,20,21],[0,1,2,3,4,5,6,7,8,9,10,11,12,13,14,15,16,17,18,19,20,21,22],[0,1,2,3,4,5,6,7,8,9,10,11,12,13,14,15,16,17,18,19,20,21,22,23]] (Xl (hY · (dF hq3)) [3,4,5] (hP 6 (dF hq3)::(Xl (hN · false (dT hq4)) [8,9,10,11,12,13,14] (hP 15 (dT hq4)::(Xl hN0 [17,18,19,20,21,22,23] (hP1 24::[])))))) ?_
  refine cT (b:=true) rfl (T.ret (rT ?_))
  refine eN ⟨(Ze2 e),(Ze6 f u L id st E ws done e)⟩ ?_
  refine Xm (s':=⟨(Ze2 e),(Ze7 f u L id st E ws done e)⟩) (fun _ _ hG=>Gs.move (s:=⟨(Ze2 e),(Ze6 f u L id st E ws done e)⟩) 3 7 (o:=(Zdw ws)) rfl rfl rfl p2u ⟨(.inr pZ1),⟨(.inr pZ1),⟨(.inr pp),⟨(.inl ⟨rfl,rfl⟩),⟨(.inr pZ1),⟨(.inr pZ1),⟨(.inr pZ1),⟨(.inr (.inl ⟨rfl,rfl⟩)),trivial⟩⟩⟩⟩⟩⟩⟩⟩ hG) ?_
  exact eX [] trivial [0,1,2,3,4,7] rfl (ix (ix ⟨⟨rfl,pZ13⟩,(ix ⟨⟨rfl,pZ10⟩,trivial⟩)⟩))
 have g4:=Classical.not_not.1 hq4
 by_cases hq5:(Y6 e.X9).Xb≠id
 ·have hx:¬V1 (Wr f u L) f id st e:=fun w=>hq5 w.2.2.2.2.1
  refine sD [[],[0],[0,1],[0,1,2],[0,1,2,3],[0,1,2,3,4],[0,1,2,3,4,5],[0,1,2,3,4,5,6],[0,1,2,3,4,5,6,7],[0,1,2,3,4,5,6,7,8],[0,1,2,3,4,5,6,7],[0,1,2,3,4,5,6,7,10],[0,1,2,3,4,5,6,7,10,11],[0,1,2,3,4,5,6,7,10,11,12],[0,1,2,3,4,5,6,7,8,9,10,11,12,13],[0,1,2,3,4,5,6,7,8,9,10,11,12,13,14],[0,1,2,3,4,5,6,7,8,9,10,11,12,13,14,15],[0,1,2,3,4,5,6,7,8,9,10,11,12,13,14,15,16],[0,1,2,3,4,5,6,7,8,9,10,11,12,13,14,15,16,17],[0,1,2,3,4,5,6,7,8,9,10,11,12,13,14,15,16],[0,1,2,3,4,5,6,7,8,9,10,11,12,13,14,15,16,19],[0,1,2,3,4,5,6,7,8,9,10,11,12,13,14,15,16,19,20],[0,1,2,3,4,5,6,7,8,9,10,11,12,13,14,15,16,19,20,21],[0,1,2,3,4,5,6,7,8,9,10,11,12,13,14,15,16,17,18,19,20,21,22],[0,1,2,3,4,5,6,7,8,9,10,11,12,13,14,15,16,17,18,19,20,21,22,23]] (Xl (hY · (dF hq3)) [3,4,5] (hP 6 (dF hq3)::(Xl (hY · (dF hq4)) [8,9,10,11,12,13,14] (hP 15 (dF hq4)::(Xl (hN · false (dT hq5)) [17,18,19,20,21,22,23] (hP 24 (dT hq5)::[])))))) ?_
  refine cT (b:=true) rfl (T.ret (rT ?_))
  refine eN ⟨(Ze2 e),(Ze6 f u L id st E ws done e)⟩ ?_
  refine Xm (s':=⟨(Ze2 e),(Ze7 f u L id st E ws done e)⟩) (fun _ _ hG=>Gs.move (s:=⟨(Ze2 e),(Ze6 f u L id st E ws done e)⟩) 3 7 (o:=(Zdw ws)) rfl rfl rfl p2u ⟨(.inr pZ1),⟨(.inr pZ1),⟨(.inr pp),⟨(.inl ⟨rfl,rfl⟩),⟨(.inr pZ1),⟨(.inr pZ1),⟨(.inr pZ1),⟨(.inr (.inl ⟨rfl,rfl⟩)),trivial⟩⟩⟩⟩⟩⟩⟩⟩ hG) ?_
  exact eX [] trivial [0,1,2,3,4,7] rfl (ix (ix ⟨⟨rfl,pZ13⟩,(ix ⟨⟨rfl,pZ10⟩,trivial⟩)⟩))
 have g5:=Classical.not_not.1 hq5
 refine sD [[],[0],[0,1],[0,1,2],[0,1,2,3],[0,1,2,3,4],[0,1,2,3,4,5],[0,1,2,3,4,5,6],[0,1,2,3,4,5,6,7],[0,1,2,3,4,5,6,7,8],[0,1,2,3,4,5,6,7],[0,1,2,3,4,5,6,7,10],[0,1,2,3,4,5,6,7,10,11],[0,1,2,3,4,5,6,7,10,11,12],[0,1,2,3,4,5,6,7,8,9,10,11,12,13],[0,1,2,3,4,5,6,7,8,9,10,11,12,13,14],[0,1,2,3,4,5,6,7,8,9,10,11,12,13,14,15],[0,1,2,3,4,5,6,7,8,9,10,11,12,13,14,15,16],[0,1,2,3,4,5,6,7,8,9,10,11,12,13,14,15,16,17],[0,1,2,3,4,5,6,7,8,9,10,11,12,13,14,15,16],[0,1,2,3,4,5,6,7,8,9,10,11,12,13,14,15,16,19],[0,1,2,3,4,5,6,7,8,9,10,11,12,13,14,15,16,19,20],[0,1,2,3,4,5,6,7,8,9,10,11,12,13,14,15,16,19,20,21],[0,1,2,3,4,5,6,7,8,9,10,11,12,13,14,15,16,17,18,19,20,21,22],[0,1,2,3,4,5,6,7,8,9,10,11,12,13,14,15,16,17,18,19,20,21,22,23]] (Xl (hY · (dF hq3)) [3,4,5] (hP 6 (dF hq3)::(Xl (hY · (dF hq4)) [8,9,10,11,12,13,14] (hP 15 (dF hq4)::(Xl (hY · (dF hq5)) [17,18,19,20,21,22,23] (hP 24 (dF hq5)::[])))))) ?_
 by_cases hq6:(Y6 e.X9).Xv≠st
 ·have hx:¬V1 (Wr f u L) f id st e:=fun w=>hq6 w.2.2.2.2.2
  refine cT (dT hq6) (T.ret (rT ?_))
  refine eN ⟨(Ze9 st e),(Ze6 f u L id st E ws done e)⟩ ?_
  refine Xm (s':=⟨(Ze9 st e),(Ze7 f u L id st E ws done e)⟩) (fun _ _ hG=>Gs.move (s:=⟨(Ze9 st e),(Ze6 f u L id st E ws done e)⟩) 3 7 (o:=(Zdw ws)) rfl rfl rfl p2u ⟨(.inr pZ1),⟨(.inr pZ1),⟨(.inr pp),⟨(.inl ⟨rfl,rfl⟩),⟨(.inr pZ1),⟨(.inr pZ1),⟨(.inr pZ1),⟨(.inr (.inl ⟨rfl,rfl⟩)),trivial⟩⟩⟩⟩⟩⟩⟩⟩ hG) ?_
  exact eX [] trivial [0,1,2,3,4,7] rfl (ix (ix ⟨⟨rfl,pZ13⟩,(ix ⟨⟨rfl,pZ10⟩,trivial⟩)⟩))
 have hh:V1 (Wr f u L) f id st e:=⟨g1,g2,g3,g4,g5,Classical.not_not.1 hq6⟩
 refine cF (dF hq6) (T.skip (nT (sR [] (sR [] (T.seq (sR [] (T.block ?_)))))))
 refine tN ⟨[pv 2 0,(Zdn e),aa,pv 5 0,pv 6 0,(Ze1 e),dv (.slice none 0 0),vI 1,vI 0,aa,aa,aa,aa,aa,aa,aa,aa,aa,aa,aa,aa,aa,aa,aa,aa,aa,aa,aa,aa,aa,aa,aa,vB (!true),aa,aa,aa,aa,aa,aa,aa,aa,aa,aa,aa,aa,aa,aa,aa,aa,aa,aa,aa,aa,aa,aa,aa,aa,aa,aa,aa,aa,aa,aa,(Ze8 st e)],(Ze6 f u L id st E ws done e)⟩ ?_
 refine Vh (s':=⟨[pv 2 0,(Zdn e),aa,pv 5 0,pv 6 0,(Ze1 e),Y3 7 (X0 false) 0 0,vI 1,vI 0,aa,aa,aa,aa,aa,aa,aa,aa,aa,aa,aa,aa,aa,aa,aa,aa,aa,aa,aa,aa,aa,aa,aa,vB (!true),aa,aa,aa,aa,aa,aa,aa,aa,aa,aa,aa,aa,aa,aa,aa,aa,aa,aa,aa,aa,aa,aa,aa,aa,aa,aa,aa,aa,aa,aa,(Ze8 st e)],[(Zdo f u L),(Zdp L),(Zdv id st E ws done),(Zdx ws),(Zdy done),(Ze0 e),(Ze5 e),Zea]⟩) (fun _ _ hG=>J9 7 6 116 (X0 false) rfl rfl hG) ?_
 refine T.loop (ι:=Nat) (fun (k:Nat)=>⟨[pv 2 0,aa,aa,pv 5 0,pv 6 0,aa,(Zeb ws e k),(Zec ws e k),vI ((k:Nat):Int)],(Zed f u L id st E ws done e k)⟩) (fun (k:Nat)=>(k≤ws.length)) (fun (k:Nat)=>ws.length-k) (0) (Nat.zero_le _) (fun _ _ hG=>Yc [0,1,2,3,4,5,6,7] (bm 9 473) (t2:=[pv 2 0,aa,aa,pv 5 0,pv 6 0,aa,Y3 7 (X0 false) 0 0,vI 1,vI 0]) (h2:=[(Zdo f u L),(Zdp L),(Zdv id st E ws done),(Zdx ws),(Zdy done),(Ze0 e),(Ze5 e),Zea]) (cg2 (fun (q1:Nat) (q2:Int)=>([pv 2 0,aa,aa,pv 5 0,pv 6 0,aa,Y3 7 (X0 false) 0 q1,vI q2,vI 0]:List AV)) (by rfl) (by rfl)) (congrArg (fun (q1:List X6)=>([(Zdo f u L),(Zdp L),(Zdv id st E ws done),(Zdx ws),(Zdy done),(Ze0 e),(Ze5 e),.live (Xe 116 (X0 false) q1)]:List HS)) (by rfl)) hG) ?_
 rintro k hk
 show T _ _ ⟨[pv 2 0,aa,aa,pv 5 0,pv 6 0,aa,(Zeb ws e k),(Zec ws e k),vI ((k:Nat):Int)],(Zed f u L id st E ws done e k)⟩ _ _
 replace hk:k≤ws.length:=hk
 have hol:=X0p (ws:=ws) (s:=e.X4) (k:=k)
 have hcl:=Xed (ws:=ws) (e:=e) (k:=k)
 refine T.seq (sR [] ?_)
 by_cases hq7:((k:Nat):Int)<((ws.length:Nat):Int)
 rotate_left
 ·have hke:k=ws.length:=(by omega)
  refine cF (dF hq7) (T.exit (xT (xT (xH (nT ?_)))))
  refine tN ⟨[pv 2 0,aa,aa,pv 5 0,pv 6 0,aa,(Zeb ws e k),(Zec ws e k),vI ((k:Nat):Int),aa,aa,aa,aa,aa,aa,aa,aa,aa,aa,aa,aa,aa,aa,aa,aa,aa,aa,aa,aa,aa,aa,aa,aa,aa,aa,aa,aa,aa,aa,aa,aa,aa,aa,aa,aa,aa,aa,aa,aa,aa,aa,aa,aa,aa,aa,aa,aa,aa,aa,aa,aa,aa,aa,aa,aa,aa,aa,aa,aa,aa,(Zem ws k)],(Zed f u L id st E ws done e k)⟩ ?_
  refine Vh (s':=⟨(Zen ws e k),(Zeo f u L id st E ws done e)⟩) (fun _ _ hG=>Yc [0,1,2,3,4,5,6,7] (bm 71 1180591620717411303641) (t2:=[pv 2 0,aa,aa,pv 5 0,pv 6 0,aa,(Zeb ws e k),(Zec ws e k),aa,aa,aa,aa,aa,aa,aa,aa,aa,aa,aa,aa,aa,aa,aa,aa,aa,aa,aa,aa,aa,aa,aa,aa,aa,aa,aa,aa,aa,aa,aa,aa,aa,aa,aa,aa,aa,aa,aa,aa,aa,aa,aa,aa,aa,aa,aa,aa,aa,aa,aa,aa,aa,aa,aa,aa,aa,aa,aa,aa,aa,aa,(Zem ws k)]) (h2:=(Zed f u L id st E ws done e k)) (by have e1:((Yy ws e.X4 ws.length).length:Nat)=(Yy ws e.X4 k).length:=p42;have e2:(((Wb ws e ws.length:Nat):Int):Int)=((Wb ws e k:Nat):Int):=p42;have hE:=congr (congrArg (fun (q1:Nat) (q2:Int)=>([pv 2 0,aa,aa,pv 5 0,pv 6 0,aa,Y3 7 (X0 false) 0 q1,vI q2,aa,aa,aa,aa,aa,aa,aa,aa,aa,aa,aa,aa,aa,aa,aa,aa,aa,aa,aa,aa,aa,aa,aa,aa,aa,aa,aa,aa,aa,aa,aa,aa,aa,aa,aa,aa,aa,aa,aa,aa,aa,aa,aa,aa,aa,aa,aa,aa,aa,aa,aa,aa,aa,aa,aa,aa,aa,aa,aa,aa,aa,aa,(Zem ws k)]:List AV)) e1) e2;exact hE) (by have e1:((Yy ws e.X4 ws.length):List X6)=(Yy ws e.X4 k):=p42;have hE:=congrArg (fun (q1:List X6)=>([(Zdo f u L),(Zdp L),(Zdv id st E ws done),(Zdx ws),(Zdy done),(Ze0 e),(Ze5 e),.live (Xe 116 (X0 false) q1)]:List HS)) e1;exact hE) hG) ?_
  refine sR [hR 7 rfl rfl (Yd 8 116 (X0 false) (W9 false) [(X6.mk e.X4 (Y6 e.X9).X1)] [⟨0,.tmp 113,.agg [dI e.X4,(Ze3 e),(Ze4 e)],0⟩] (cs:=[dI e.X4,(Ze3 e),(Ze4 e)]) Try.underlying68 Jo rfl X22 rfl rfl rfl pf (Ws rfl rfl pf Wn) pZ4 (Vz pZ4) (X8 rfl) trivial),hR 8 rfl rfl (W4 7 9 116 24 (X0 false) (W9 false) (Yy ws e.X4 ws.length) [(X6.mk e.X4 (Y6 e.X9).X1)] ((Yy ws e.X4 ws.length)++[(X6.mk e.X4 (Y6 e.X9).X1)]) (Yy ws e.X4 ws.length).length (sy:=(.own 8 (X0 false).sz 0 [(X6.mk e.X4 (Y6 e.X9).X1)].length)) (rhs:=[(8,.live (Xe 116 (X0 false) [(X6.mk e.X4 (Y6 e.X9).X1)]))]) X52 (by omega) (Up 8 116 (X0 false) [(X6.mk e.X4 (Y6 e.X9).X1)]) p1p (by (simp [maxLen,-List.getD_eq_getElem?_getD]<;>omega)) (by (simp [maxLen,-List.getD_eq_getElem?_getD]<;>omega)) (X8 rfl) trivial)] ?_
  refine sR [hR 5 rfl rfl (rCa (X64 f u L ‹_› ‹_›) Try.func56 [0,1] [(.tmp 122,pv 0 0)] 2 2)] ?_
  by_cases hq10:((Wb ws e ws.length:Nat):Int)≥(f+1)
  ·exact absurd ⟨hh,hq10⟩ hd
  refine cF (dF hq10) (T.skip ?_)
  exact tE (.inr rfl) [] trivial [0,1,2,3,4,9] rfl rfl rfl rfl rfl rfl (ix (ix ⟨⟨rfl,(by have e1:(((Yy ws e.X4 ws.length)++[(X6.mk e.X4 (Y6 e.X9).X1)]).length:Nat)=(Uo (Wr f u L) f id st ws e).length:=(by (rw [X59 hh];rfl));have hE:=congrArg (fun (q1:Nat)=>(.live (.box 70 [.ptr 0 0,(Zdq id),(Zdr st),dB true,(Zds E),(Zdt E),.own 9 (X0 false).sz 0 q1,(Zdu done)]):HS)) e1;exact Eq.trans pZ4 hE)⟩,(ix ⟨⟨rfl,(by have e1:((Yy ws e.X4 ws.length)++[(X6.mk e.X4 (Y6 e.X9).X1)]:List X6)=(Uo (Wr f u L) f id st ws e):=(by exact (X59 hh).symm);have hE:=congrArg (fun (q1:List X6)=>(.live (Xe 116 (X0 false) q1):HS)) e1;exact Eq.trans pZ4 hE)⟩,trivial⟩)⟩))
 have hkl:k<ws.length:=(by omega)
 refine cT (dT hq7) (T.skip (nT (T.seq (T.block ?_))))
 refine sD [[],[0],[0,1],[0,1,2],[],[0,1,2,3,4],[0,1,2,3,4,5],[0,1,2,3,4,5,6],[],[8],[0,1,2,3,4,5,6,7,8,9]] [hR 5 rfl rfl (Ih (k:=.i64) (l:=3) (sz:=(X0 false).sz) (off:=0) (n:=ws.length) (i:=((k:Nat):Int)) (m:=k) (o':=k*(X0 false).sz+0) Try.underlying68 Jo rfl rfl ‹_› (by simp) (X8 rfl) trivial),hR 7 rfl rfl (X2k (l:=3) (off:=k*(X0 false).sz+0) (i:=k) (j:=0) (T:=116) (sz:=(X0 false).sz) (n:=ws.length) (el:=We (X0 false) ws) (c:=(Zef ws k)) X91 rfl ‹_› (by decide) rfl (X8 rfl) trivial)] ?_
 by_cases hq8:(ws.getD k Xp).X4≠e.X4
 ·have ho9:=X4z hkl hq8;have ho8:=hq8
  refine cT (dT hq8) ?_
  refine sR [hR 6 rfl rfl (Ih (k:=.i64) (l:=3) (sz:=(X0 false).sz) (off:=0) (n:=ws.length) (i:=((k:Nat):Int)) (m:=k) (o':=k*(X0 false).sz+0) Try.underlying68 Jo rfl rfl ‹_› (by simp) (X8 rfl) trivial),hR 7 rfl rfl (X2j (l:=3) (off:=k*(X0 false).sz+0) (i:=k) (j:=0) (T:=116) (sz:=(X0 false).sz) (n:=ws.length) (el:=We (X0 false) ws) (ds:=[.d ((Zef ws k)),(Zeg ws k),(Zeh ws k)]) Xa8 rfl ‹_› (by decide) rfl (X8 rfl) trivial),hR 8 rfl rfl (Yd 8 116 (X0 false) (W9 false) [(ws.getD k Xp)] [⟨0,.tmp 91,.agg [.d ((Zef ws k)),(Zeg ws k),(Zeh ws k)],0⟩] (cs:=[.d ((Zef ws k)),(Zeg ws k),(Zeh ws k)]) Try.underlying68 Jo rfl X22 rfl rfl rfl pf (Ws rfl rfl pf Wn) pZ4 (Vz pZ4) (X8 rfl) trivial),hR 9 rfl rfl (W4 7 9 116 24 (X0 false) (W9 false) (Yy ws e.X4 k) [(ws.getD k Xp)] ((Yy ws e.X4 k)++[(ws.getD k Xp)]) (Yy ws e.X4 k).length (sy:=(.own 8 (X0 false).sz 0 [(ws.getD k Xp)].length)) (rhs:=[(8,.live (Xe 116 (X0 false) [(ws.getD k Xp)]))]) X52 (by omega) (Up 8 116 (X0 false) [(ws.getD k Xp)]) p1p (by (simp [maxLen,-List.getD_eq_getElem?_getD]<;>omega)) (by (simp [maxLen,-List.getD_eq_getElem?_getD]<;>omega)) (X8 rfl) trivial)] ?_
  refine sD [[],[0],[0,1],[0,1,2],[],[0,1,2,3,4],[0,1,2,3,4,5],[0,1,2,3,4,5,6],[],[8],[0,1,2,3,4,5,6,7,8,9]] [hR 5 rfl rfl (Ih (k:=.i64) (l:=3) (sz:=(X0 false).sz) (off:=0) (n:=ws.length) (i:=((k:Nat):Int)) (m:=k) (o':=k*(X0 false).sz+0) Try.underlying68 Jo rfl rfl ‹_› (by simp) (X8 rfl) trivial),hR 7 rfl rfl (X2j (l:=3) (off:=k*(X0 false).sz+1) (i:=k) (j:=1) (T:=116) (sz:=(X0 false).sz) (n:=ws.length) (el:=We (X0 false) ws) (ds:=[(Zeg ws k),(Zeh ws k)]) Xdc rfl ‹_› (by decide) rfl (X8 rfl) trivial),hR 10 rfl rfl (X6d (ax:=.tv (.agg [(Zeg ws k),(Zeh ws k)])) (ay:=.tv (.agg [(Ze3 e),(Ze4 e)])) (a:=(ws.getD k Xp).X1) (b:=(Y6 e.X9).X1) Ui ⟨[.int .i64 (ws.getD k Xp).X1.Xs,.int .i64 (ws.getD k Xp).X1.Xo],rfl,rfl⟩ ⟨[.int .i64 (Y6 e.X9).X1.Xs,.int .i64 (Y6 e.X9).X1.Xo],rfl,rfl⟩ (X8 rfl) trivial)] ?_
  by_cases hq9:(ws.getD k Xp).X1=(Y6 e.X9).X1
  ·have hc9:=cntW_1 (e:=e) hkl ho8 hq9
   refine cT (dT hq9) (xK [hR 1 rfl rfl (Y9 (u1:=.int .i64 ((Wb ws e k:Nat):Int)) (u2:=.int .i64 1) (v:=.int .i64 (((Wb ws e k)+1:Nat):Int)) (W6 pZ5) (X8 rfl) ⟨rfl,trivial⟩)] (nB (nT (xK [hR 1 rfl rfl (Y9 (u1:=.int .i64 ((k:Nat):Int)) (u2:=.int .i64 1) (v:=.int .i64 ((k+1:Nat):Int)) (W6 pZ5) (X8 rfl) ⟨rfl,trivial⟩)] ?_))))
   refine nL (k+1) (show (k+1)≤ws.length from (by omega)) (show (ws.length-(k+1):Nat)<ws.length-k from (by omega)) (fun _ _ hG=>Wp [0,1,2,3,4,5,6,9] (bm 9 473) (t1:=(Zel ws e k)) (t2:=[pv 2 0,aa,aa,pv 5 0,pv 6 0,aa,Y3 9 (X0 false) 0 ((Yy ws e.X4 k)++[(ws.getD k Xp)]).length,vI (((Wb ws e k)+1:Nat):Int),(Zei k)]) (h1:=(Zek f u L id st E ws done e k)) (h2:=[(Zdo f u L),(Zdp L),(Zdv id st E ws done),(Zdx ws),(Zdy done),(Ze0 e),(Ze5 e),.live (Xe 116 (X0 false) ((Yy ws e.X4 k)++[(ws.getD k Xp)]))]) (by have e1:((Yy ws e.X4 (k+1)).length:Nat)=((Yy ws e.X4 k)++[(ws.getD k Xp)]).length:=p41;have e2:(((Wb ws e (k+1):Nat):Int):Int)=(((Wb ws e k)+1:Nat):Int):=p43;have hE:=congr p3a e2;exact hE) p1h hG)
  have hc9:=cntW_2 (e:=e) hkl ho8 hq9
  refine cF (dF hq9) (T.skip (nB (nT (xK [hR 1 rfl rfl (Y9 (u1:=.int .i64 ((k:Nat):Int)) (u2:=.int .i64 1) (v:=.int .i64 ((k+1:Nat):Int)) (W6 pZ5) (X8 rfl) ⟨rfl,trivial⟩)] ?_))))
  refine nL (k+1) (show (k+1)≤ws.length from (by omega)) (show (ws.length-(k+1):Nat)<ws.length-k from (by omega)) (fun _ _ hG=>Wp [0,1,2,3,4,5,6,9] (bm 9 473) (t1:=(Zel ws e k)) (t2:=[pv 2 0,aa,aa,pv 5 0,pv 6 0,aa,Y3 9 (X0 false) 0 ((Yy ws e.X4 k)++[(ws.getD k Xp)]).length,(Zec ws e k),(Zei k)]) (h1:=(Zek f u L id st E ws done e k)) (h2:=[(Zdo f u L),(Zdp L),(Zdv id st E ws done),(Zdx ws),(Zdy done),(Ze0 e),(Ze5 e),.live (Xe 116 (X0 false) ((Yy ws e.X4 k)++[(ws.getD k Xp)]))]) (by have e1:((Yy ws e.X4 (k+1)).length:Nat)=((Yy ws e.X4 k)++[(ws.getD k Xp)]).length:=p41;have e2:(((Wb ws e (k+1):Nat):Int):Int)=((Wb ws e k:Nat):Int):=p43;have hE:=congr p3a e2;exact hE) p1h hG)
 have ho9:=Xci hkl hq8;have hc9:=Xec (e:=e) hkl hq8
 refine cF (dF hq8) (T.skip (nB (nT (xK [hR 1 rfl rfl (Y9 (u1:=.int .i64 ((k:Nat):Int)) (u2:=.int .i64 1) (v:=.int .i64 ((k+1:Nat):Int)) (W6 pZ5) (X8 rfl) ⟨rfl,trivial⟩)] ?_))))
 refine nL (k+1) (show (k+1)≤ws.length from (by omega)) (show (ws.length-(k+1):Nat)<ws.length-k from (by omega)) (fun _ _ hG=>Yc [0,1,2,3,4,5,6,7] (bm 9 473) (t2:=[pv 2 0,aa,aa,pv 5 0,pv 6 0,aa,(Zeb ws e k),(Zec ws e k),(Zei k)]) (h2:=(Zed f u L id st E ws done e k)) (by have e1:((Yy ws e.X4 (k+1)).length:Nat)=(Yy ws e.X4 k).length:=p41;have e2:(((Wb ws e (k+1):Nat):Int):Int)=((Wb ws e k:Nat):Int):=p43;have hE:=congr (congrArg (fun (q1:Nat) (q2:Int)=>([pv 2 0,aa,aa,pv 5 0,pv 6 0,aa,Y3 7 (X0 false) 0 q1,vI q2,(Zei k)]:List AV)) e1) e2;exact hE) p1h hG)
end Go.Proofs.Ythnefnknoahbkaa.Q
