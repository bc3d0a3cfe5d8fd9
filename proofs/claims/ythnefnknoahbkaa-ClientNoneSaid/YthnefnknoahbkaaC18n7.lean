import Derived.Test.YthnefnknoahbkaaC18n2
namespace Go.Proofs.Ythnefnknoahbkaa.Q
open Go Go.RowKit
set_option linter.unusedVariables false
set_option linter.unusedSimpArgs false
set_option maxRecDepth 100000
set_option maxHeartbeats 4000000
theorem Em (tb:Bool) (nb:Bool) (b:List UInt8) (n:Int) (hb:b.length≤140737488355000):Holds Try.prog 50 ⟨[slV tb nb kU8 b,vI n],[],Y3 0 kU8 0 (b++W3 n).length,[.live (Xe 5 kU8 (b++W3 n))]⟩:=by
 refine Holds.of Try.func50 rfl (N:=11) Try.ntmps50 rfl fun w0 B0 S0 U0=>?_
 show T _ (Xz 11 0 w0 S0 U0 B0) ⟨[slV tb nb kU8 b,vI n],[]⟩ _ _
 have hn:=Xa2 n
 refine sR [] (sR [hR 2 rfl rfl (X8a (k:=.i64) (a:=n) (b:=4294967295) (X8 rfl) ⟨rfl,trivial⟩),hR 3 rfl rfl (Er (k:=.i64) (a:=0) (b:=min n 4294967295) (X8 rfl) ⟨rfl,trivial⟩),hR 4 rfl rfl (I5 (u:=.int .i64 (max 0 (min n 4294967295))) (v:=.int .u64 ((Ho n:Nat):Int)) (X0a Try.underlying3 Try.underlying117 (by rw [IntKind.wrap_u64];unfold Ho;omega)) (X8 rfl) trivial),hR 5 rfl rfl (rCa (X65 tb nb b (Ho n) 4 ‹_› (by omega) (by omega)) Try.func81 [0] [(.tmp 5,slV tb nb kU8 b),(.tmp 9,dv (.int .u64 ((Ho n:Nat):Int))),(.const (.int .i64 4),vI 4)] 0 1)] (T.ret ?_))
 exact eRt 4 (.one (.own 0 kU8.sz 0 (b++(Yw (Ho n) 4)).length)) [0] p2e ⟨⟨rfl,pZ31⟩,trivial⟩
theorem En (tb:Bool) (nb:Bool) (b:List UInt8) (tx:Bool) (nx:Bool) (x:List UInt8) (hb:b.length+x.length≤140737488355000):Holds Try.prog 48 ⟨[slV tb nb kU8 b,slV tx nx kU8 x],[],Y3 0 kU8 0 (b++Wd x).length,[.live (Xe 5 kU8 (b++Wd x))]⟩:=by
 refine Holds.of Try.func48 rfl (N:=13) Try.ntmps48 rfl fun w0 B0 S0 U0=>?_
 show T _ (Xz 13 0 w0 S0 U0 B0) ⟨[slV tb nb kU8 b,slV tx nx kU8 x],[]⟩ _ _
 have hcl:=Uh ((x.length:Nat):Int)
 refine sR [] (sR [hR 3 rfl rfl (rCa (Em tb nb b ((x.length:Nat):Int) (by omega)) Try.func50 [0] [(.tmp 6,slV tb nb kU8 b),(.tmp 8,vI ((x.length:Nat):Int))] 0 1)] ?_)
 refine sR [hR 2 rfl rfl (W4 0 1 5 1 kU8 Vc (b++W3 ((x.length:Nat):Int)) x (b++W3 ((x.length:Nat):Int)++x) (b++W3 ((x.length:Nat):Int)).length (sy:=(.d (dsl tx nx kU8 x))) (rhs:=[]) J1 (by omega) (Jb tx nx kU8 x) p1p (by (simp [maxLen,-List.getD_eq_getElem?_getD]<;>omega)) (by (simp [maxLen,-List.getD_eq_getElem?_getD]<;>omega)) (X8 rfl) trivial)] ?_
 refine T.ret ?_
 exact eRt 4 (.one (.own 1 kU8.sz 0 (b++W3 ((x.length:Nat):Int)++x).length)) [1] p2o ⟨⟨rfl,p2f⟩,trivial⟩
section
variable (tb:Bool) (nb:Bool) (b:List UInt8) (k:Nat)
abbrev Z12:AV:=vI ((b.length:Nat):Int)
abbrev Z13:St:=⟨[slV tb nb kU8 b,aa,dv (.int .u64 ((Wo (b.take k):Nat):Int)),aa,aa,slV tb nb kU8 b,(Z12 b),vI ((k:Nat):Int)],[]⟩
abbrev Z15:AV:=vI ((k+1:Nat):Int)
end
theorem Ed (tb:Bool) (nb:Bool) (b:List UInt8) (hb:b.length≤8):Holds Try.prog 95 ⟨[slV tb nb kU8 b],[],dv (.int .u64 ((Wo b:Nat):Int)),[]⟩:=by
 refine Holds.of Try.func95 rfl (N:=18) Try.ntmps95 rfl fun w0 B0 S0 U0=>?_
 show T _ (Xz 18 0 w0 S0 U0 B0) ⟨[slV tb nb kU8 b],[]⟩ _ _
 refine sR [] (T.seq (sR [] (T.block ?_)))
 refine T.loop (ι:=Nat) (fun (k:Nat)=>(Z13 tb nb b k)) (fun (k:Nat)=>(k≤b.length)) (fun (k:Nat)=>b.length-k) (0) (Nat.zero_le _) (fun _ _ hG=>Yc [] (bm 8 229) (t2:=[slV tb nb kU8 b,aa,dv (.int .u64 0),aa,aa,slV tb nb kU8 b,(Z12 b),vI 0]) (congrArg (fun (q1:Int)=>([slV tb nb kU8 b,aa,dv (.int .u64 q1),aa,aa,slV tb nb kU8 b,(Z12 b),vI 0]:List AV)) (by rfl)) rfl hG) ?_
 rintro k hk
 show T _ _ (Z13 tb nb b k) _ _
 replace hk:k≤b.length:=hk
 have hk8:Wo (b.take k)<18446744073709551616:=X2n (by simp only [List.length_take];omega)
 refine sR [] (T.seq ?_)
 by_cases hq1:((k:Nat):Int)<((b.length:Nat):Int)
 ·have hk7:Wo (b.take k)<72057594037927936:=Xb0 (by simp only [List.length_take];omega);have hbt:=UInt8.toNat_lt (b.getD k 0)
  refine cT (dT hq1) (T.skip (nT (T.seq (T.block (sR [hR 0 rfl rfl (Wc tb nb kU8 b k (k:=.i64) (i:=((k:Nat):Int)) Try.underlying34 Ut rfl rfl (by omega) (X8 rfl) trivial)] ?_)))))
  refine xR [hR 1 rfl rfl (Y9 (u1:=.int .u64 ((Wo (b.take k):Nat):Int)) (u2:=.int .u64 8) (v:=.int .u64 (((Wo (b.take k))*2 ^ 8:Nat):Int)) (Ud (n:=8) rfl pj p3z) (X8 rfl) ⟨rfl,trivial⟩),hR 3 rfl rfl (I5 (u:=.int .u8 (((b.getD k 0).toNat:Nat):Int)) (v:=.int .u64 (((b.getD k 0).toNat:Nat):Int)) (X0a Try.underlying5 Try.underlying117 p3z) (X8 rfl) trivial),hR 4 rfl rfl (Y9 (u1:=.int .u64 (((Wo (b.take k))*2 ^ 8:Nat):Int)) (u2:=.int .u64 (((b.getD k 0).toNat:Nat):Int)) (v:=.int .u64 ((((Wo (b.take k))*2 ^ 8) ||| (b.getD k 0).toNat:Nat):Int)) (b_orU (by omega) (by omega)) (X8 rfl) trivial)] pZ4 pZ4 (nB (nT ?_))
  refine xK [hR 0 rfl rfl (Y9 (u1:=.int .i64 ((k:Nat):Int)) (u2:=.int .i64 1) (v:=.int .i64 ((k+1:Nat):Int)) (W6 pZ5) (X8 rfl) ⟨rfl,trivial⟩)] ?_
  refine nL (k+1) (show (k+1)≤b.length from (by omega)) (show (b.length-(k+1):Nat)<b.length-k from (by omega)) (fun _ _ hG=>Yc [] (bm 8 229) (t2:=[slV tb nb kU8 b,aa,dv (.int .u64 ((((Wo (b.take k))*2 ^ 8) ||| (b.getD k 0).toNat:Nat):Int)),aa,aa,slV tb nb kU8 b,(Z12 b),(Z15 k)]) (by have e1:(((Wo (b.take (k+1)):Nat):Int):Int)=((((Wo (b.take k))*2 ^ 8) ||| (b.getD k 0).toNat:Nat):Int):=(by (rw [X8h (by omega)]));have hE:=congrArg (fun (q1:Int)=>([slV tb nb kU8 b,aa,dv (.int .u64 q1),aa,aa,slV tb nb kU8 b,(Z12 b),(Z15 k)]:List AV)) e1;exact hE) rfl hG)
 refine cF (dF hq1) (T.exit (xT (xT (xH (nT (sR [] (T.ret ?_)))))))
 exact eRt 2 (.one (.d (.val (.int .u64 ((Wo (b.take k):Nat):Int))))) [] (by have e1:(((Wo b:Nat):Int):Int)=((Wo (b.take k):Nat):Int):=(by (rw [List.take_of_length_le (by omega)]));have hE:=congrArg (fun (q1:Int)=>(dv (.int .u64 q1):AV)) e1;exact hE) trivial
theorem wire_any (tb:Bool) (nb:Bool) (b:List UInt8):Holds Try.prog 91 ⟨[slV tb nb kU8 b],[],vI 0,[]⟩:=by
 refine Holds.of Try.func91 rfl (N:=3) Try.ntmps91 rfl fun w0 B0 S0 U0=>?_
 show T _ (Xz 3 0 w0 S0 U0 B0) ⟨[slV tb nb kU8 b],[]⟩ _ _
 refine sR [] (sR [] (T.ret ?_))
 exact eRt 2 (.one (dI 0)) [] rfl trivial
theorem Xa7 (most:Int) (tb:Bool) (nb:Bool) (b:List UInt8) (hb:b.length≤4):Holds Try.prog 96 ⟨[vI most,slV tb nb kU8 b],[],vI (Yb most b),[]⟩:=by
 refine Holds.of Try.func96 rfl (N:=11) Try.ntmps96 rfl fun w0 B0 S0 U0=>?_
 show T _ (Xz 11 0 w0 S0 U0 B0) ⟨[vI most,slV tb nb kU8 b],[]⟩ _ _
 have hnb:=X2o hb
 refine sR [] (T.seq (sR [hR 1 rfl rfl (rCa (Ed tb nb b (by omega)) Try.func95 [] [(.tmp 5,slV tb nb kU8 b)] 0 0),hR 2 rfl rfl (I5 (u:=.int .u64 ((Wo b:Nat):Int)) (v:=.int .i64 ((Wo b:Nat):Int)) (X0a Try.underlying117 Try.underlying3 pZ5) (X8 rfl) trivial),hR 4 rfl rfl (Er (k:=.i64) (a:=most) (b:=0) (X8 rfl) ⟨rfl,trivial⟩)] ?_))
 by_cases hq1:((Wo b:Nat):Int)>(max most 0)
 ·refine cT (dT hq1) (sR [] (T.ret (rT ?_)))
  exact eRt 4 (.one (dI 11)) [] (by have e1:(Yb most b:Int)=11:=(by (simp only [Yb];rw [if_pos ‹_›]));have hE:=cI e1;exact hE) trivial
 refine cF (dF hq1) (T.skip (nT (sR [] (T.ret ?_))))
 exact eRt 4 (.one (dI 0)) [] (by have e1:(Yb most b:Int)=0:=(by (simp only [Yb];rw [if_neg ‹_›]));have hE:=cI e1;exact hE) trivial
theorem wire_New (tb:Bool) (nb:Bool) (b:List UInt8) (hb:b.length≤140737488355328):Holds Try.prog 74 ⟨[slV tb nb kU8 b],[],pv 0 0,[.live (.box 144 [dU b,dI 0])]⟩:=by
 refine Holds.of Try.func74 rfl (N:=7) Try.ntmps74 rfl fun w0 B0 S0 U0=>?_
 show T _ (Xz 7 0 w0 S0 U0 B0) ⟨[slV tb nb kU8 b],[]⟩ _ _
 refine sR [] (sR [hR 1 rfl rfl (rCa (X04 tb nb b ‹_›) Try.func32 [0] [(.tmp 3,slV tb nb kU8 b)] 0 1)] (T.ret ?_))
 refine eN ⟨[slV tb nb kU8 b,aa,pv 1 0],[.live (Xe 5 kU8 b),.live (.box 144 [.own 0 kU8.sz 0 b.length,dI 0])]⟩ ?_
 refine Xm (s':=⟨[slV tb nb kU8 b,aa,pv 1 0],[.dead,.live (.box 144 [dU b,dI 0])]⟩) (fun _ _ hG=>Gs.freeze (s:=⟨[slV tb nb kU8 b,aa,pv 1 0],[.live (Xe 5 kU8 b),.live (.box 144 [.own 0 kU8.sz 0 b.length,dI 0])]⟩) 0 (el:=We kU8 b) (sz:=kU8.sz) (n:=b.length) rfl ⟨.inl rfl,(kk2 trivial)⟩ ⟨(.inl ⟨rfl,rfl⟩),⟨(.inr ⟨by decide,.inr ⟨rfl,⟨pZ6,⟨.inl rfl,trivial⟩⟩⟩⟩),trivial⟩⟩ hG) ?_
 exact eRt 2 (.one (.ptr 1 0)) [1] rfl (ix trivial)
theorem X3w (rest:List UInt8) (e:Int) (n:Int) (hr:rest.length≤140737488355328) (hn:0≤n) (hc:okT rest e n 0):Holds Try.prog 90 ⟨[pv 0 0,vI n,dv (.func (.func 91) #[] #[])],[.box 144 [dU rest,dI e]],slV false false kU8 (rest.take n.toNat),[.live (.box 144 [dU (rest.drop n.toNat),dI 0])]⟩:=by
 refine Holds.of Try.func90 rfl (N:=54) Try.ntmps90 rfl fun w0 B0 S0 U0=>?_
 show T _ (Xz 54 1 w0 S0 U0 B0) ⟨[pv 0 0,vI n,dv (.func (.func 91) #[] #[])],[.live (.box 144 [dU rest,dI e])]⟩ _ _
 have htl:(rest.take n.toNat).length≤n.toNat:=List.length_take_le _ _
 obtain ⟨hc1,hc2,hc3⟩:=hc
 have htm:(rest.take n.toNat).length=n.toNat:=by rw [List.length_take];omega
 refine sR [] (T.seq (sR (Xl hY0 [3,4,5,6,7] (hP0 8::[])) ?_))
 by_cases hq1:e≠0
 ·exact absurd hc1 hq1
 refine cF (dF hq1) (T.skip (nT (T.seq (sR [] ?_))))
 by_cases hq2:n>((rest.length:Nat):Int)
 ·exact absurd hc2 (by omega)
 refine cF (dF hq2) (T.skip (nT (sR [hR 5 rfl rfl (Fs false false kU8 rest (rest.take (n).toNat) 0 (n).toNat (lo:=none) (hi:=some (.tmp 31,n)) Try.underlying34 Ut rfl rfl rfl rfl (by omega) (by omega) (by omega) rfl (X8 rfl) trivial)] (T.seq (sR [hR 3 rfl rfl (X4x (fs:=#[]) (cs:=#[]) (wire_any false false (rest.take (n).toNat) ) Try.func91 rfl (by decide) [] [] (l:=[(.tmp 35,slV false false kU8 (rest.take (n).toNat))]) [] rfl 0 0 rfl rfl rfl rfl rfl rfl rfl rfl rfl rfl rfl ⟨.inl ⟨rfl,rfl⟩,trivial⟩ rfl (fun b hb=>by cases hb) (.inl rfl) (X8 rfl) trivial)] (sR [] (cF (b:=false) rfl (T.skip (nT ?_)))))))))
 refine sR [hR 6 rfl rfl (Fs false false kU8 rest (rest.drop (n).toNat) (n).toNat rest.length (lo:=some (.tmp 49,n)) (hi:=none) Try.underlying34 Ut rfl rfl rfl (by omega) rfl (by omega) (by omega) p1p (X8 rfl) trivial)] (sR [] (T.ret ?_))
 exact eRt 6 (.one (dU (rest.take (n).toNat))) [0] p4d ⟨⟨rfl,(by have e1:((rest.drop (n).toNat):List UInt8)=(rest.drop n.toNat):=(by rfl);have hE:=congrArg (fun (q1:List UInt8)=>(.live (.box 144 [dU q1,dI 0]):HS)) e1;exact Eq.trans pZ4 hE)⟩,trivial⟩
theorem X3x (rest:List UInt8) (e:Int) (n:Int) (hr:rest.length≤140737488355328) (hn:0≤n) (hc:¬okT rest e n 0):Holds Try.prog 90 ⟨[pv 0 0,vI n,dv (.func (.func 91) #[] #[])],[.box 144 [dU rest,dI e]],dv (.slice none 0 0),[.live (.box 144 [dU rest,dI (rdE rest e n 0)])]⟩:=by
 refine Holds.of Try.func90 rfl (N:=54) Try.ntmps90 rfl fun w0 B0 S0 U0=>?_
 show T _ (Xz 54 1 w0 S0 U0 B0) ⟨[pv 0 0,vI n,dv (.func (.func 91) #[] #[])],[.live (.box 144 [dU rest,dI e])]⟩ _ _
 have htl:(rest.take n.toNat).length≤n.toNat:=List.length_take_le _ _
 refine sR [] (T.seq (sR (Xl hY0 [3,4,5,6,7] (hP0 8::[])) ?_))
 by_cases hq1:e≠0
 ·refine cT (dT hq1) (sR [] (T.ret (rT ?_)))
  exact eRt 6 (.one (.d (.val (.slice none 0 0)))) [0] rfl ⟨⟨rfl,(by have e1:(e:Int)=(rdE rest e n 0):=(by (simp only [rdE];rw [if_pos ‹_›]));have hE:=congrArg (fun (q1:Int)=>(.live (.box 144 [dU rest,dI q1]):HS)) e1;exact Eq.trans pZ4 hE)⟩,trivial⟩
 refine cF (dF hq1) (T.skip (nT (T.seq (sR [] ?_))))
 by_cases hq2:n>((rest.length:Nat):Int)
 ·refine cT (dT hq2) (sR [] (sR [] (T.ret (rT ?_))))
  exact eRt 6 (.one (.d (.val (.slice none 0 0)))) [0] rfl ⟨⟨rfl,(by have e1:(10:Int)=(rdE rest e n 0):=(by (simp only [rdE];(rw [if_neg ‹_›];rw [if_pos ‹_›])));have hE:=congrArg (fun (q1:Int)=>(.live (.box 144 [dU rest,dI q1]):HS)) e1;exact Eq.trans pZ4 hE)⟩,trivial⟩
 exact absurd ⟨by omega,by omega,rfl⟩ hc
theorem X7f (rest:List UInt8) (e:Int) (n:Int) (most:Int) (hr:rest.length≤140737488355328) (hn:n=4) (hc:okT rest e n (Yb most (rest.take n.toNat))):Holds Try.prog 90 ⟨[pv 0 0,vI n,dv (.func (.func 96) #[.int .i64 most] #[])],[.box 144 [dU rest,dI e]],slV false false kU8 (rest.take n.toNat),[.live (.box 144 [dU (rest.drop n.toNat),dI 0])]⟩:=by
 refine Holds.of Try.func90 rfl (N:=54) Try.ntmps90 rfl fun w0 B0 S0 U0=>?_
 show T _ (Xz 54 1 w0 S0 U0 B0) ⟨[pv 0 0,vI n,dv (.func (.func 96) #[.int .i64 most] #[])],[.live (.box 144 [dU rest,dI e])]⟩ _ _
 have htl:(rest.take n.toNat).length≤n.toNat:=List.length_take_le _ _
 obtain ⟨hc1,hc2,hc3⟩:=hc
 have htm:(rest.take n.toNat).length=n.toNat:=by rw [List.length_take];omega
 refine sR [] (T.seq (sR (Xl hY0 [3,4,5,6,7] (hP0 8::[])) ?_))
 by_cases hq1:e≠0
 ·exact absurd hc1 hq1
 refine cF (dF hq1) (T.skip (nT (T.seq (sR [] ?_))))
 by_cases hq2:n>((rest.length:Nat):Int)
 ·exact absurd hc2 (by omega)
 refine cF (dF hq2) (T.skip (nT (sR [hR 5 rfl rfl (Fs false false kU8 rest (rest.take (n).toNat) 0 (n).toNat (lo:=none) (hi:=some (.tmp 31,n)) Try.underlying34 Ut rfl rfl rfl rfl (by omega) (by omega) (by omega) rfl (X8 rfl) trivial)] (T.seq (sR [hR 3 rfl rfl (X4x (fs:=#[.int .i64 most]) (cs:=#[]) (Xa7 most false false (rest.take (n).toNat) (by omega)) Try.func96 rfl (by decide) [] [] (l:=[(.tmp 35,slV false false kU8 (rest.take (n).toNat))]) [] rfl 0 0 rfl rfl rfl rfl rfl rfl rfl rfl rfl rfl rfl ⟨.inl ⟨rfl,rfl⟩,⟨.inl ⟨rfl,rfl⟩,trivial⟩⟩ rfl (fun b hb=>by cases hb) (.inl rfl) (X8 rfl) trivial)] (sR [] ?_))))))
 by_cases hq3:(Yb most (rest.take (n).toNat))≠0
 ·exact absurd hc3 hq3
 refine cF (dF hq3) (T.skip (nT (sR [hR 6 rfl rfl (Fs false false kU8 rest (rest.drop (n).toNat) (n).toNat rest.length (lo:=some (.tmp 49,n)) (hi:=none) Try.underlying34 Ut rfl rfl rfl (by omega) rfl (by omega) (by omega) p1p (X8 rfl) trivial)] (sR [] (T.ret ?_)))))
 exact eRt 6 (.one (dU (rest.take (n).toNat))) [0] p4d ⟨⟨rfl,(by have e1:((rest.drop (n).toNat):List UInt8)=(rest.drop n.toNat):=(by rfl);have e2:(Yb most (rest.take (n).toNat):Int)=0:=(by exact hc3);have hE:=congr pZr e2;exact Eq.trans pZ4 hE)⟩,trivial⟩
theorem X7g (rest:List UInt8) (e:Int) (n:Int) (most:Int) (hr:rest.length≤140737488355328) (hn:n=4) (hc:¬okT rest e n (Yb most (rest.take n.toNat))):Holds Try.prog 90 ⟨[pv 0 0,vI n,dv (.func (.func 96) #[.int .i64 most] #[])],[.box 144 [dU rest,dI e]],dv (.slice none 0 0),[.live (.box 144 [dU rest,dI (rdE rest e n (Yb most (rest.take n.toNat)))])]⟩:=by
 refine Holds.of Try.func90 rfl (N:=54) Try.ntmps90 rfl fun w0 B0 S0 U0=>?_
 show T _ (Xz 54 1 w0 S0 U0 B0) ⟨[pv 0 0,vI n,dv (.func (.func 96) #[.int .i64 most] #[])],[.live (.box 144 [dU rest,dI e])]⟩ _ _
 have htl:(rest.take n.toNat).length≤n.toNat:=List.length_take_le _ _
 refine sR [] (T.seq (sR (Xl hY0 [3,4,5,6,7] (hP0 8::[])) ?_))
 by_cases hq1:e≠0
 ·refine cT (dT hq1) (sR [] (T.ret (rT ?_)))
  exact eRt 6 (.one (.d (.val (.slice none 0 0)))) [0] rfl ⟨⟨rfl,(by have e1:(e:Int)=(rdE rest e n (Yb most (rest.take n.toNat))):=(by (simp only [rdE];rw [if_pos ‹_›]));have hE:=congrArg (fun (q1:Int)=>(.live (.box 144 [dU rest,dI q1]):HS)) e1;exact Eq.trans pZ4 hE)⟩,trivial⟩
 refine cF (dF hq1) (T.skip (nT (T.seq (sR [] ?_))))
 by_cases hq2:n>((rest.length:Nat):Int)
 ·refine cT (dT hq2) (sR [] (sR [] (T.ret (rT ?_))))
  exact eRt 6 (.one (.d (.val (.slice none 0 0)))) [0] rfl ⟨⟨rfl,(by have e1:(10:Int)=(rdE rest e n (Yb most (rest.take n.toNat))):=(by (simp only [rdE];(rw [if_neg ‹_›];rw [if_pos ‹_›])));have hE:=congrArg (fun (q1:Int)=>(.live (.box 144 [dU rest,dI q1]):HS)) e1;exact Eq.trans pZ4 hE)⟩,trivial⟩
 refine cF (dF hq2) (T.skip (nT (sR [hR 5 rfl rfl (Fs false false kU8 rest (rest.take (n).toNat) 0 (n).toNat (lo:=none) (hi:=some (.tmp 31,n)) Try.underlying34 Ut rfl rfl rfl rfl (by omega) (by omega) (by omega) rfl (X8 rfl) trivial)] (T.seq (sR [hR 3 rfl rfl (X4x (fs:=#[.int .i64 most]) (cs:=#[]) (Xa7 most false false (rest.take (n).toNat) (by omega)) Try.func96 rfl (by decide) [] [] (l:=[(.tmp 35,slV false false kU8 (rest.take (n).toNat))]) [] rfl 0 0 rfl rfl rfl rfl rfl rfl rfl rfl rfl rfl rfl ⟨.inl ⟨rfl,rfl⟩,⟨.inl ⟨rfl,rfl⟩,trivial⟩⟩ rfl (fun b hb=>by cases hb) (.inl rfl) (X8 rfl) trivial)] (sR [] ?_))))))
 by_cases hq3:(Yb most (rest.take (n).toNat))≠0
 ·refine cT (dT hq3) (sR [] (T.ret (rT ?_)))
  exact eRt 6 (.one (.d (.val (.slice none 0 0)))) [0] rfl ⟨⟨rfl,(by have e1:(Yb most (rest.take (n).toNat):Int)=(rdE rest e n (Yb most (rest.take n.toNat))):=(by (simp only [rdE];(rw [if_neg ‹_›];rw [if_neg ‹_›])));have hE:=congrArg (fun (q1:Int)=>(.live (.box 144 [dU rest,dI q1]):HS)) e1;exact Eq.trans pZ4 hE)⟩,trivial⟩
 exact absurd ⟨by omega,by omega,Classical.not_not.1 hq3⟩ hc
theorem rd_Int (rest:List UInt8) (e:Int) (hr:rest.length≤140737488355328):Holds Try.prog 88 ⟨[pv 0 0],[.box 144 [dU rest,dI e]],vI (rdI rest e),[.live (.box 144 [dU (rdR rest e 8 0),dI (rdE rest e 8 0)])]⟩:=by
 refine Holds.of Try.func88 rfl (N:=11) Try.ntmps88 rfl fun w0 B0 S0 U0=>?_
 show T _ (Xz 11 1 w0 S0 U0 B0) ⟨[pv 0 0],[.live (.box 144 [dU rest,dI e])]⟩ _ _
 have hi8:Wo (rest.take 8)<18446744073709551616:=X2n (List.length_take_le _ _)
 refine sR [] (T.seq ?_)
 by_cases hq1:okT rest e 8 0
 ·have hk:=id hq1;simp only [okT] at hk
  refine sR [hR 1 rfl rfl (rCa (X3w rest e 8 ‹_› (by omega) ‹_›) Try.func90 [0] [(.tmp 4,pv 0 0),(.const (.int .i64 8),vI 8),(.func 91,dv (.func (.func 91) #[] #[]))] 1 1)] ?_
  refine sR [hR 1 rfl rfl (Xdl (s:=dU (rest.take 8)) Try.underlying34 (.inr (by (simp [maxLen,-List.getD_eq_getElem?_getD]<;>omega))) (X8 rfl) ⟨rfl,trivial⟩)] ?_
  refine cT (b:=true) rfl ?_
  refine sR [hR 1 rfl rfl (rCa (Ed false false (rest.take 8) (by (simp [maxLen,-List.getD_eq_getElem?_getD]<;>omega))) Try.func95 [] [(.tmp 8,slV false false kU8 (rest.take 8))] 0 0),hR 2 rfl rfl (I5 (u:=.int .u64 ((Wo (rest.take 8):Nat):Int)) (v:=.int .i64 (Ee (Wo (rest.take 8)))) (c_i64 ‹_› Try.underlying117 Try.underlying2) (X8 rfl) trivial)] ?_
  refine T.ret (rT ?_)
  exact eRt 2 (.one (dI (Ee (Wo (rest.take 8))))) [0] (by have e1:(rdI rest e:Int)=Ee (Wo (rest.take 8)):=(by (simp only [rdI];(rw [if_pos ‹_›];done)));have hE:=cI e1;exact hE) ⟨⟨rfl,(by have e1:((rest.drop 8):List UInt8)=(rdR rest e 8 0):=(by (rw [X1n ‹_›];rfl));have e2:(0:Int)=(rdE rest e 8 0):=(by (rw [X1o ‹_›]));have hE:=congr pZr e2;exact Eq.trans pZ4 hE)⟩,trivial⟩
 refine sR [hR 1 rfl rfl (rCa (X3x rest e 8 ‹_› (by omega) ‹_›) Try.func90 [0] [(.tmp 4,pv 0 0),(.const (.int .i64 8),vI 8),(.func 91,dv (.func (.func 91) #[] #[]))] 1 1)] (sR [hR 1 rfl rfl (Y9 (u1:=.slice none 0 0) (u2:=.slice none 0 0) (v:=.bool false) (X8w Try.underlying34) (X8 rfl) ⟨rfl,trivial⟩)] (cF (b:=false) rfl (T.skip (nT (sR [] (T.ret ?_))))))
 exact eRt 2 (.one (dI 0)) [0] (by have e1:(rdI rest e:Int)=0:=(by (simp only [rdI];(rw [if_neg ‹_›];done)));have hE:=cI e1;exact hE) ⟨⟨rfl,(by have e1:(rest:List UInt8)=(rdR rest e 8 0):=(by (rw [Xcf ‹_›]));have hE:=congrArg (fun (q1:List UInt8)=>(.live (.box 144 [dU q1,dI (rdE rest e 8 0)]):HS)) e1;exact Eq.trans pZ4 hE)⟩,trivial⟩
theorem X67 (rest:List UInt8) (e:Int) (most:Int) (hr:rest.length≤140737488355328):Holds Try.prog 89 ⟨[pv 0 0,vI most],[.box 144 [dU rest,dI e]],vI ((rdC rest e most:Nat):Int),[.live (.box 144 [dU (rdR rest e 4 (Yb most (rest.take 4))),dI (rdE rest e 4 (Yb most (rest.take 4)))])]⟩:=by
 refine Holds.of Try.func89 rfl (N:=15) Try.ntmps89 rfl fun w0 B0 S0 U0=>?_
 show T _ (Xz 15 1 w0 S0 U0 B0) ⟨[pv 0 0,vI most],[.live (.box 144 [dU rest,dI e])]⟩ _ _
 have hi4:Wo (rest.take 4)<4294967296:=X2o (List.length_take_le _ _)
 refine sR [] (T.seq ?_)
 by_cases hq1:okT rest e 4 (Yb most (rest.take 4))
 ·have hk:=id hq1;simp only [okT] at hk
  refine sR [hR 2 rfl rfl (X6c (fs:=[(.tmp 7,.int .i64 most)]) (cs:=[]) rfl rfl (X8 rfl) trivial),hR 3 rfl rfl (rCa (X7f rest e 4 most ‹_› (by omega) ‹_›) Try.func90 [0] [(.tmp 6,pv 0 0),(.const (.int .i64 4),vI 4),(.tmp 8,dv (.func (.func 96) #[.int .i64 most] #[]))] 1 1)] ?_
  refine sR [hR 1 rfl rfl (Xdl (s:=dU (rest.take 4)) Try.underlying34 (.inr (by (simp [maxLen,-List.getD_eq_getElem?_getD]<;>omega))) (X8 rfl) ⟨rfl,trivial⟩)] ?_
  refine cT (b:=true) rfl ?_
  refine sR [hR 1 rfl rfl (rCa (Ed false false (rest.take 4) (by (simp [maxLen,-List.getD_eq_getElem?_getD]<;>omega))) Try.func95 [] [(.tmp 12,slV false false kU8 (rest.take 4))] 0 0),hR 2 rfl rfl (I5 (u:=.int .u64 ((Wo (rest.take 4):Nat):Int)) (v:=.int .i64 ((Wo (rest.take 4):Nat):Int)) (X0a Try.underlying117 Try.underlying3 pZ5) (X8 rfl) trivial)] ?_
  refine T.ret (rT ?_)
  exact eRt 4 (.one (dI ((Wo (rest.take 4):Nat):Int))) [0] (by have e1:(((rdC rest e most:Nat):Int):Int)=((Wo (rest.take 4):Nat):Int):=(by (simp only [rdC];(rw [if_pos ‹_›];done)));have hE:=cI e1;exact hE) ⟨⟨rfl,(by have e1:((rest.drop 4):List UInt8)=(rdR rest e 4 (Yb most (rest.take 4))):=(by (rw [X1n ‹_›];rfl));have e2:(0:Int)=(rdE rest e 4 (Yb most (rest.take 4))):=(by (rw [X1o ‹_›]));have hE:=congr pZr e2;exact Eq.trans pZ4 hE)⟩,trivial⟩
 refine sR [hR 2 rfl rfl (X6c (fs:=[(.tmp 7,.int .i64 most)]) (cs:=[]) rfl rfl (X8 rfl) trivial),hR 3 rfl rfl (rCa (X7g rest e 4 most ‹_› (by omega) ‹_›) Try.func90 [0] [(.tmp 6,pv 0 0),(.const (.int .i64 4),vI 4),(.tmp 8,dv (.func (.func 96) #[.int .i64 most] #[]))] 1 1)] (sR [hR 1 rfl rfl (Y9 (u1:=.slice none 0 0) (u2:=.slice none 0 0) (v:=.bool false) (X8w Try.underlying34) (X8 rfl) ⟨rfl,trivial⟩)] (cF (b:=false) rfl (T.skip (nT (sR [] (T.ret ?_))))))
 exact eRt 4 (.one (dI 0)) [0] (by have e1:(((rdC rest e most:Nat):Int):Int)=0:=(by (simp only [rdC];(rw [if_neg ‹_›];rfl)));have hE:=cI e1;exact hE) ⟨⟨rfl,(by have e1:(rest:List UInt8)=(rdR rest e 4 (Yb most (rest.take 4))):=(by (rw [Xcf ‹_›]));have hE:=congrArg (fun (q1:List UInt8)=>(.live (.box 144 [dU q1,dI (rdE rest e 4 (Yb most (rest.take 4)))]):HS)) e1;exact Eq.trans pZ4 hE)⟩,trivial⟩
theorem rd_End (rest:List UInt8) (e:Int) (hr:rest.length≤140737488355328):Holds Try.prog 79 ⟨[pv 0 0],[.box 144 [dU rest,dI e]],.tup [],[.live (.box 144 [dU rest,dI (rdX rest e)])]⟩:=by
 refine Holds.of Try.func79 rfl (N:=22) Try.ntmps79 rfl fun w0 B0 S0 U0=>?_
 show T _ (Xz 22 1 w0 S0 U0 B0) ⟨[pv 0 0],[.live (.box 144 [dU rest,dI e])]⟩ _ _
 by_cases hq1:e=0
 ·refine sR (Xl hY1 [3,4,5,6,7] (hP1 8::(Xl (hY · (dT hq1)) [10,11,12,13,14,15] (hP 16 (dT hq1)::[])))) ?_
  by_cases hq2:((rest.length:Nat):Int)>0
  ·refine cT (dT hq2) (xK [] ?_)
   exact tE (.inr rfl) [] trivial [0] rfl rfl rfl rfl rfl rfl ⟨⟨rfl,(by have e1:(13:Int)=(rdX rest e):=(by (simp only [rdX];rw [if_pos ⟨by assumption,by assumption⟩]));have hE:=congrArg (fun (q1:Int)=>(.live (.box 144 [dU rest,dI q1]):HS)) e1;exact Eq.trans pZ4 hE)⟩,trivial⟩
  refine cF (dF hq2) (T.skip ?_)
  exact tE (.inr rfl) [] trivial [0] rfl rfl rfl rfl rfl rfl ⟨⟨rfl,(by have e1:(e:Int)=(rdX rest e):=(by (simp only [rdX];rw [if_neg (fun h=>by exact absurd h.2 ‹_›)]));have hE:=congrArg (fun (q1:Int)=>(.live (.box 144 [dU rest,dI q1]):HS)) e1;exact Eq.trans pZ4 hE)⟩,trivial⟩
 refine sR (Xl hY1 [3,4,5,6,7] (hP1 8::(Xl (hN · true (dF hq1)) [10,11,12,13,14,15] (hP 16 (dF hq1)::[])))) (cF (b:=false) rfl (T.skip ?_))
 exact tE (.inr rfl) [] trivial [0] rfl rfl rfl rfl rfl rfl ⟨⟨rfl,(by have e1:(e:Int)=(rdX rest e):=(by (simp only [rdX];rw [if_neg (fun h=>by exact absurd h.1 ‹_›)]));have hE:=congrArg (fun (q1:Int)=>(.live (.box 144 [dU rest,dI q1]):HS)) e1;exact Eq.trans pZ4 hE)⟩,trivial⟩
theorem rd_Err (rest:List UInt8) (e:Int):Holds Try.prog 80 ⟨[pv 0 0],[.box 144 [dU rest,dI e]],vI e,[.live (.box 144 [dU rest,dI e])]⟩:=by
 refine Holds.of Try.func80 rfl (N:=9) Try.ntmps80 rfl fun w0 B0 S0 U0=>?_
 show T _ (Xz 9 1 w0 S0 U0 B0) ⟨[pv 0 0],[.live (.box 144 [dU rest,dI e])]⟩ _ _
 refine sR [] (T.seq (sR [] (cF (b:=false) rfl (T.skip (nT (sR [] (T.ret ?_)))))))
 exact eRt 2 (.one (dI e)) [0] rfl (ix trivial)
abbrev Z16 (rest:List UInt8) (e:Int) (most:Int):HS:=.live (.box 144 [dU (rdR rest e 4 (Yb most (rest.take 4))),dI (rdE rest e 4 (Yb most (rest.take 4)))])
theorem X68 (rest:List UInt8) (e:Int) (most:Int) (hr:rest.length≤140737488355328):Holds Try.prog 76 ⟨[pv 0 0,vI most],[.box 144 [dU rest,dI e]],Y3 1 kU8 0 (rdY rest e most).length,[.live (.box 144 [dU (Ju rest e most),dI (J4 rest e most)]),.live (Xe 5 kU8 (rdY rest e most))]⟩:=by
 refine Holds.of Try.func76 rfl (N:=36) Try.ntmps76 rfl fun w0 B0 S0 U0=>?_
 show T _ (Xz 36 1 w0 S0 U0 B0) ⟨[pv 0 0,vI most],[.live (.box 144 [dU rest,dI e])]⟩ _ _
 have hrc:=rdC_lt rest e most
 have hrl:=U7 rest e 4 (Yb most (rest.take 4))
 refine sR [] (T.seq (sR [] (cF (b:=false) rfl (T.skip (nT (sR [] (sR [hR 2 rfl rfl (rCa (X67 rest e most ‹_›) Try.func89 [0] [(.tmp 14,pv 0 0),(.tmp 15,vI most)] 1 1)] (T.seq (sR [] ?_)))))))))
 by_cases hq1:(rdE rest e 4 (Yb most (rest.take 4)))≠0
 ·have hy:=rdY_fail hq1
  refine cT (dT hq1) (sR [] (T.ret (rT ?_)))
  refine eN ⟨[pv 0 0,vI most,aa,aa,dv (.slice none 0 0),slV false false kU8 rest,vI ((rdC rest e most:Nat):Int),aa,aa,vB false,aa,aa,aa,aa,aa,aa,aa,aa,aa,aa,aa,vB (decide ((rdE rest e 4 (Yb most (rest.take 4)))≠0))],[(Z16 rest e most)]⟩ ?_
  refine Xm (s':=⟨[pv 0 0,vI most,aa,aa,Y3 1 kU8 0 0,slV false false kU8 rest,vI ((rdC rest e most:Nat):Int),aa,aa,vB false,aa,aa,aa,aa,aa,aa,aa,aa,aa,aa,aa,vB (decide ((rdE rest e 4 (Yb most (rest.take 4)))≠0))],[(Z16 rest e most),.live (Xe 5 kU8 ([]:List UInt8))]⟩) (fun _ _ hG=>J9 1 4 5 kU8 rfl rfl hG) ?_
  exact eRt 4 (.one (.own 1 kU8.sz 0 0)) [0,1] (by have e1:((rdY rest e most).length:Nat)=0:=(by (rw [hy.1];rfl));have hE:=congrArg (fun (q1:Nat)=>(Y3 1 kU8 0 q1:AV)) e1;exact hE) ⟨⟨rfl,(by have e1:((rdR rest e 4 (Yb most (rest.take 4))):List UInt8)=(Ju rest e most):=(by (rw [hy.2.1,hy.2.2.2]));have e2:((rdE rest e 4 (Yb most (rest.take 4))):Int)=(J4 rest e most):=(by (rw [hy.2.2.1];done));have hE:=congr pZr e2;exact Eq.trans pZ4 hE)⟩,⟨⟨rfl,p2y⟩,trivial⟩⟩
 have hz:=Classical.not_not.1 hq1
 refine cF (dF hq1) (T.skip (nT ?_))
 by_cases hq2:okT (rdR rest e 4 (Yb most (rest.take 4))) (rdE rest e 4 (Yb most (rest.take 4))) ((rdC rest e most:Nat):Int) 0
 ·have hy:=rdY_ok hz hq2
  refine sR [hR 2 rfl rfl (rCa (X3w (rdR rest e 4 (Yb most (rest.take 4))) (rdE rest e 4 (Yb most (rest.take 4))) ((rdC rest e most:Nat):Int) (by omega) (by omega) ‹_›) Try.func90 [0] [(.tmp 22,pv 0 0),(.tmp 23,vI ((rdC rest e most:Nat):Int)),(.func 91,dv (.func (.func 91) #[] #[]))] 1 1)] (T.seq (sR [] (cF (b:=false) rfl (T.skip (nT ?_)))))
  refine sR [hR 1 rfl rfl (rCa (X04 false false ((rdR rest e 4 (Yb most (rest.take 4))).take ((rdC rest e most:Nat):Int).toNat) (by (simp [maxLen,-List.getD_eq_getElem?_getD]<;>omega))) Try.func32 [1] [(.tmp 34,slV false false kU8 ((rdR rest e 4 (Yb most (rest.take 4))).take ((rdC rest e most:Nat):Int).toNat))] 0 1)] ?_
  refine T.ret ?_
  exact eRt 4 (.one (.own 1 kU8.sz 0 ((rdR rest e 4 (Yb most (rest.take 4))).take ((rdC rest e most:Nat):Int).toNat).length)) [0,1] (by have e1:((rdY rest e most).length:Nat)=((rdR rest e 4 (Yb most (rest.take 4))).take ((rdC rest e most:Nat):Int).toNat).length:=(by (rw [hy.1];done));have hE:=congrArg (fun (q1:Nat)=>(Y3 1 kU8 0 q1:AV)) e1;exact hE) ⟨⟨rfl,(by have e1:(((rdR rest e 4 (Yb most (rest.take 4))).drop ((rdC rest e most:Nat):Int).toNat):List UInt8)=(Ju rest e most):=(by (rw [hy.2.1];done));have e2:(0:Int)=(J4 rest e most):=(by (rw [hy.2.2];done));have hE:=congr pZr e2;exact Eq.trans pZ4 hE)⟩,⟨⟨rfl,(by have e1:(((rdR rest e 4 (Yb most (rest.take 4))).take ((rdC rest e most:Nat):Int).toNat):List UInt8)=(rdY rest e most):=(by (rw [hy.1];done));have hE:=congrArg (fun (q1:List UInt8)=>(.live (Xe 5 kU8 q1):HS)) e1;exact Eq.trans pZ4 hE)⟩,trivial⟩⟩
 have hy:=Xf9 hz hq2
 refine sR [hR 2 rfl rfl (rCa (X3x (rdR rest e 4 (Yb most (rest.take 4))) (rdE rest e 4 (Yb most (rest.take 4))) ((rdC rest e most:Nat):Int) (by omega) (by omega) ‹_›) Try.func90 [0] [(.tmp 22,pv 0 0),(.tmp 23,vI ((rdC rest e most:Nat):Int)),(.func 91,dv (.func (.func 91) #[] #[]))] 1 1)] (T.seq (sR [] ?_))
 by_cases hq3:(rdE (rdR rest e 4 (Yb most (rest.take 4))) (rdE rest e 4 (Yb most (rest.take 4))) ((rdC rest e most:Nat):Int) 0)≠0
 ·refine cT (dT hq3) (xK [] (nT ?_))
  refine sR [hR 1 rfl rfl (rCn (X04 false false ([]:List UInt8) (by (simp [maxLen,-List.getD_eq_getElem?_getD]<;>omega))) Try.func32 [1] [(.tmp 34,dv (.slice none 0 0))] 0 1 ⟨.inr pZ9,trivial⟩ trivial)] ?_
  refine T.ret ?_
  exact eRt 4 (.one (.own 1 kU8.sz 0 ([]:List UInt8).length)) [0,1] (by have e1:((rdY rest e most).length:Nat)=([]:List UInt8).length:=(by (rw [hy.1];done));have hE:=congrArg (fun (q1:Nat)=>(Y3 1 kU8 0 q1:AV)) e1;exact hE) ⟨⟨rfl,(by have e1:(rest:List UInt8)=(Ju rest e most):=(by (rw [hy.2.1];done));have e2:((rdE (rdR rest e 4 (Yb most (rest.take 4))) (rdE rest e 4 (Yb most (rest.take 4))) ((rdC rest e most:Nat):Int) 0):Int)=(J4 rest e most):=(by (rw [hy.2.2];done));have hE:=congr pZr e2;exact Eq.trans pZ4 hE)⟩,⟨⟨rfl,p2y⟩,trivial⟩⟩
 exact absurd (Xcg hq2) hq3
section
variable (B:List UInt8) (a:Nat) (m:Nat) (e:Int) (k:Nat)
abbrev Z17:AV:=vI ((m:Nat):Int)
abbrev Z18:List HS:=[.live (.box 87 [dU B,dI ((a:Nat):Int),dI e])]
abbrev Z19:AV:=vB (decide (((m:Nat):Int)>(((B.length:Nat):Int)-((a:Nat):Int))))
abbrev Z1a:List AV:=[pv 0 0,(Z17 m),aa,aa,dv (.int .u64 0),vB false,dv (.int .u64 ((Wo ((B.drop a).take k):Nat):Int)),vI ((k:Nat):Int),aa,aa,aa,aa,aa,aa,aa,aa,aa,aa,aa,(Z19 B a m)]
abbrev Z1c:AV:=vI ((k+1:Nat):Int)
end
theorem X2i (B:List UInt8) (a:Nat) (e:Int) (m:Nat) (ha:a≤B.length) (hB:B.length≤140737488350000) (hm:m≤8):Holds Try.prog 57 ⟨[pv 0 0,vI ((m:Nat):Int)],[.box 87 [dU B,dI ((a:Nat):Int),dI e]],.tup [.one (.d (.val (.int .u64 ((rfN B a m:Nat):Int)))),.one (dB (decide (a+m≤B.length)))],[.live (.box 87 [dU B,dI ((a:Nat):Int),dI e])]⟩:=by
 refine Holds.of Try.func57 rfl (N:=42) Try.ntmps57 rfl fun w0 B0 S0 U0=>?_
 show T _ (Xz 42 1 w0 S0 U0 B0) ⟨[pv 0 0,(Z17 m)],(Z18 B a e)⟩ _ _
 refine sR [] (T.seq ?_)
 refine sD [[],[],[1],[1,2],[1,2,3],[1,2,3,4],[],[6],[6,7],[6,7,8],[1,2,3,4,5,6,7,8,9],[0,1,2,3,4,5,6,7,8,9,10]] [hR 10 rfl rfl (Y9 (u1:=.int .i64 ((B.length:Nat):Int)) (u2:=.int .i64 ((a:Nat):Int)) (v:=.int .i64 (((B.length:Nat):Int)-((a:Nat):Int))) (X1d pZ5) (X8 rfl) trivial)] ?_
 by_cases hq1:((m:Nat):Int)>(((B.length:Nat):Int)-((a:Nat):Int))
 ·refine cT (dT hq1) (sR [] (T.ret (rT ?_)))
  exact eX [.t 4 (.one (.d (.val (.int .u64 0)))),.t 5 (.one (dB false))] ⟨⟨rfl,by kernel_rfl⟩,⟨⟨rfl,by kernel_rfl⟩,trivial⟩⟩ [0] (by have e1:(((rfN B a m:Nat):Int):Int)=0:=(by (simp only [rfN];rw [if_neg (by omega)];rfl));have e2:((decide (a+m≤B.length)):Bool)=false:=(by exact dF (by omega));have hE:=congr p3t e2;exact hE) (ix trivial)
 refine cF (dF hq1) (T.skip (nT (sR [] (T.seq (sR [] (T.block ?_))))))
 refine T.loop (ι:=Nat) (fun (k:Nat)=>⟨(Z1a B a m k),(Z18 B a e)⟩) (fun (k:Nat)=>(k≤m)) (fun (k:Nat)=>m-k) (0) (Nat.zero_le _) (fun _ _ hG=>Yc [0] (bm 20 524531) (t2:=[pv 0 0,(Z17 m),aa,aa,dv (.int .u64 0),vB false,dv (.int .u64 0),vI 0,aa,aa,aa,aa,aa,aa,aa,aa,aa,aa,aa,(Z19 B a m)]) (congrArg (fun (q1:Int)=>([pv 0 0,(Z17 m),aa,aa,dv (.int .u64 0),vB false,dv (.int .u64 q1),vI 0,aa,aa,aa,aa,aa,aa,aa,aa,aa,aa,aa,(Z19 B a m)]:List AV)) (by rfl)) rfl hG) ?_
 rintro k hk
 show T _ _ ⟨(Z1a B a m k),(Z18 B a e)⟩ _ _
 replace hk:k≤m:=hk
 have hk8:Wo ((B.drop a).take k)<18446744073709551616:=X2n (Nat.le_trans (List.length_take_le _ _) (by omega))
 refine T.seq (sR [] ?_)
 by_cases hq2:((k:Nat):Int)<((m:Nat):Int)
 ·have hk7:Wo ((B.drop a).take k)<72057594037927936:=Xb0 (Nat.le_trans (List.length_take_le _ _) (by omega));have hbt:=UInt8.toNat_lt (B.getD (a+k) 0)
  refine cT (dT hq2) (T.skip (nT (T.seq (T.block ?_))))
  refine xD [[],[0],[],[2],[2,3],[2,3,4],[],[6],[6,7],[6,7,8],[],[6,7,8,9,10],[2,3,4,5,6,7,8,9,10,11],[2,3,4,5,6,7,8,9,10,11,12],[2,3,4,5,6,7,8,9,10,11,12,13],[0,1,2,3,4,5,6,7,8,9,10,11,12,13,14],[0,1,2,3,4,5,6,7,8,9,10,11,12,13,14,15]] [hR 1 rfl rfl (Y9 (u1:=.int .u64 ((Wo ((B.drop a).take k):Nat):Int)) (u2:=.int .u64 8) (v:=.int .u64 (((Wo ((B.drop a).take k))*2 ^ 8:Nat):Int)) (Ud (n:=8) rfl pj p3z) (X8 rfl) ⟨rfl,trivial⟩),hR 11 rfl rfl (Y9 (u1:=.int .i64 ((a:Nat):Int)) (u2:=.int .i64 ((k:Nat):Int)) (v:=.int .i64 ((a+k:Nat):Int)) (W6 pZ5) (X8 rfl) trivial),hR 12 rfl rfl (Wc false false kU8 B (a+k) (k:=.i64) (i:=((a+k:Nat):Int)) Try.underlying34 Ut rfl rfl (by omega) (X8 rfl) trivial),hR 14 rfl rfl (I5 (u:=.int .u8 (((B.getD (a+k) 0).toNat:Nat):Int)) (v:=.int .u64 (((B.getD (a+k) 0).toNat:Nat):Int)) (X0a Try.underlying5 Try.underlying117 p3z) (X8 rfl) trivial),hR 15 rfl rfl (Y9 (u1:=.int .u64 (((Wo ((B.drop a).take k))*2 ^ 8:Nat):Int)) (u2:=.int .u64 (((B.getD (a+k) 0).toNat:Nat):Int)) (v:=.int .u64 ((((Wo ((B.drop a).take k))*2 ^ 8) ||| (B.getD (a+k) 0).toNat:Nat):Int)) (b_orU (by omega) (by omega)) (X8 rfl) trivial)] pZ4 pZ4 pZ4 pZ4 pZ4 pZ4 ?_
  refine nB (nT (xK [hR 1 rfl rfl (Y9 (u1:=.int .i64 ((k:Nat):Int)) (u2:=.int .i64 1) (v:=.int .i64 ((k+1:Nat):Int)) (W6 pZ5) (X8 rfl) ⟨rfl,trivial⟩)] ?_))
  refine nL (k+1) (show (k+1)≤m from (by omega)) (show (m-(k+1):Nat)<m-k from (by omega)) (fun _ _ hG=>Yc [0] (bm 20 524531) (t2:=[pv 0 0,(Z17 m),aa,aa,dv (.int .u64 0),vB false,dv (.int .u64 ((((Wo ((B.drop a).take k))*2 ^ 8) ||| (B.getD (a+k) 0).toNat:Nat):Int)),(Z1c k),aa,aa,aa,aa,aa,aa,aa,aa,aa,aa,aa,(Z19 B a m)]) (by have e1:(((Wo ((B.drop a).take (k+1)):Nat):Int):Int)=((((Wo ((B.drop a).take k))*2 ^ 8) ||| (B.getD (a+k) 0).toNat:Nat):Int):=(by (rw [Xcl (by omega)]));have hE:=congrArg (fun (q1:Int)=>([pv 0 0,(Z17 m),aa,aa,dv (.int .u64 0),vB false,dv (.int .u64 q1),(Z1c k),aa,aa,aa,aa,aa,aa,aa,aa,aa,aa,aa,(Z19 B a m)]:List AV)) e1;exact hE) rfl hG)
 refine cF (dF hq2) (T.exit (xT (xT (xH (nT (sR [] (T.ret ?_)))))))
 exact eX [.t 4 (.one (.d (.val (.int .u64 ((Wo ((B.drop a).take k):Nat):Int))))),.t 5 (.one (dB true))] ⟨⟨rfl,by kernel_rfl⟩,⟨⟨rfl,by kernel_rfl⟩,trivial⟩⟩ [0] (by have e1:(((rfN B a m:Nat):Int):Int)=((Wo ((B.drop a).take k):Nat):Int):=(by (have hke:k=m:=(by omega);subst hke;rw [X94 (by omega)]));have e2:((decide (a+m≤B.length)):Bool)=true:=(by exact dT (by omega));have hE:=congr p3t e2;exact hE) (ix trivial)
theorem Xcd (B:List UInt8) (a:Nat) (e:Int) (ha:a≤B.length) (hB:B.length≤140737488350000):Holds Try.prog 34 ⟨[pv 0 0],[.box 87 [dU B,dI ((a:Nat):Int),dI e]],vI (rdI (B.drop a) e),[.live (.box 87 [dU B,dI ((rfA B a e 8 0:Nat):Int),dI (rdE (B.drop a) e 8 0)])]⟩:=by
 refine Holds.of Try.func34 rfl (N:=29) Try.ntmps34 rfl fun w0 B0 S0 U0=>?_
 show T _ (Xz 29 1 w0 S0 U0 B0) ⟨[pv 0 0],[.live (.box 87 [dU B,dI ((a:Nat):Int),dI e])]⟩ _ _
 have hn8:=rfN_lt B a (m:=8) (by decide)
 refine sR [] (T.seq (sR [] ?_))
 by_cases hq1:e≠0
 ·have hr:=rf_e (B:=B) (a:=a) hq1 8 0
  refine cT (dT hq1) (sR [] (T.ret (rT ?_)))
  exact eRt 2 (.one (dI 0)) [0] p3g ⟨⟨rfl,(by have e1:(((a:Nat):Int):Int)=((rfA B a e 8 0:Nat):Int):=p4c;have e2:(e:Int)=(rdE (B.drop a) e 8 0):=p4f;have hE:=congr pZ28 e2;exact Eq.trans pZ4 hE)⟩,trivial⟩
 refine cF (dF hq1) (T.skip (nT (sR [hR 1 rfl rfl (rCa (X2i B a e 8 ‹_› ‹_› (by omega)) Try.func57 [0] [(.tmp 11,pv 0 0),(.const (.int .i64 8),vI 8)] 1 1)] (T.seq (sR [] ?_)))))
 by_cases hq2:a+8≤B.length
 ·have hr:=rf_ok (n:=8) (k:=8) (m:=0) rfl ‹_› hq2 rfl
  refine cF (cn (dT hq2)) (T.skip (nT (sR [hR 4 rfl rfl (Y9 (u1:=.int .i64 ((a:Nat):Int)) (u2:=.int .i64 8) (v:=.int .i64 ((a+8:Nat):Int)) (W6 pZ5) (X8 rfl) ⟨rfl,trivial⟩)] (sR [hR 1 rfl rfl (I5 (u:=.int .u64 ((rfN B a 8:Nat):Int)) (v:=.int .i64 (Ee (rfN B a 8))) (c_i64 ‹_› Try.underlying117 Try.underlying2) (X8 rfl) trivial)] (T.ret ?_)))))
  exact eRt 2 (.one (dI (Ee (rfN B a 8)))) [0] (by have e1:(rdI (B.drop a) e:Int)=Ee (rfN B a 8):=(by (simp only [rdI];(rw [if_pos hr.1,← X94 ‹_›];done)));have hE:=cI e1;exact hE) ⟨⟨rfl,(by have e1:(((a+8:Nat):Int):Int)=((rfA B a e 8 0:Nat):Int):=(by (rw [X5v hr.1];rfl));have e2:(e:Int)=(rdE (B.drop a) e 8 0):=(by (rw [hr.2];omega));have hE:=congr pZ28 e2;exact Eq.trans pZ4 hE)⟩,trivial⟩
 have hr:=Xao (n:=8) (k:=8) rfl ‹_› hq2 ha 0
 refine cT (cn (dF hq2)) (sR [] (sR [] (T.ret (rT ?_))))
 exact eRt 2 (.one (dI 0)) [0] p3g ⟨⟨rfl,(by have e1:(((a:Nat):Int):Int)=((rfA B a e 8 0:Nat):Int):=p4c;have e2:(10:Int)=(rdE (B.drop a) e 8 0):=p4f;have hE:=congr pZ28 e2;exact Eq.trans pZ4 hE)⟩,trivial⟩
abbrev Z1e (B:List UInt8):SV:=dU B
abbrev Z1f:TV:=.one (dI 0)
theorem X2h (B:List UInt8) (a:Nat) (e:Int) (most:Int) (ha:a≤B.length) (hB:B.length≤140737488350000):Holds Try.prog 60 ⟨[pv 0 0,vI most],[.box 87 [dU B,dI ((a:Nat):Int),dI e]],vI ((rdC (B.drop a) e most:Nat):Int),[.live (.box 87 [dU B,dI ((rfA B a e 4 (Yb most ((B.drop a).take 4)):Nat):Int),dI (rdE (B.drop a) e 4 (Yb most ((B.drop a).take 4)))])]⟩:=by
 refine Holds.of Try.func60 rfl (N:=39) Try.ntmps60 rfl fun w0 B0 S0 U0=>?_
 show T _ (Xz 39 1 w0 S0 U0 B0) ⟨[pv 0 0,vI most],[.live (.box 87 [(Z1e B),dI ((a:Nat):Int),dI e])]⟩ _ _
 have hn4:=rfN_lt4 B a
 refine sR [] (T.seq (sR [] ?_))
 by_cases hq1:e≠0
 ·have hr:=rf_e (B:=B) (a:=a) hq1 4 (Yb most ((B.drop a).take 4))
  refine cT (dT hq1) (sR [] (T.ret (rT ?_)))
  exact eRt 4 (Z1f) [0] pZ24 ⟨⟨rfl,(by have e1:(((a:Nat):Int):Int)=((rfA B a e 4 (Yb most ((B.drop a).take 4)):Nat):Int):=p4c;have e2:(e:Int)=(rdE (B.drop a) e 4 (Yb most ((B.drop a).take 4))):=p4f;have hE:=congr pZ26 e2;exact Eq.trans pZ4 hE)⟩,trivial⟩
 refine cF (dF hq1) (T.skip (nT (sR [hR 1 rfl rfl (rCa (X2i B a e 4 ‹_› ‹_› (by omega)) Try.func57 [0] [(.tmp 13,pv 0 0),(.const (.int .i64 4),vI 4)] 1 1)] (T.seq (sR [] ?_)))))
 by_cases hq2:a+4≤B.length
 ·refine cF (cn (dT hq2)) (T.skip (nT (T.seq (sR [hR 1 rfl rfl (I5 (u:=.int .u64 ((rfN B a 4:Nat):Int)) (v:=.int .i64 ((rfN B a 4:Nat):Int)) (X0a Try.underlying117 Try.underlying3 pZ5) (X8 rfl) trivial),hR 3 rfl rfl (Er (k:=.i64) (a:=0) (b:=most) (X8 rfl) ⟨rfl,trivial⟩)] ?_))))
  by_cases hq3:((rfN B a 4:Nat):Int)>(max 0 most)
  ·have hr:=rf_m (n:=4) (k:=4) (c:=11) (m:=(Yb most ((B.drop a).take 4))) rfl ‹_› ‹_› (by rw [lim_of ‹_›,if_pos ‹_›]) (by decide)
   refine cT (dT hq3) (sR [] (sR [] (T.ret (rT ?_))))
   exact eRt 4 (Z1f) [0] pZ24 ⟨⟨rfl,(by have e1:(((a:Nat):Int):Int)=((rfA B a e 4 (Yb most ((B.drop a).take 4)):Nat):Int):=p4c;have e2:(11:Int)=(rdE (B.drop a) e 4 (Yb most ((B.drop a).take 4))):=p4f;have hE:=congr pZ26 e2;exact Eq.trans pZ4 hE)⟩,trivial⟩
  have hr:=rf_ok (n:=4) (k:=4) (m:=(Yb most ((B.drop a).take 4))) rfl ‹_› ‹_› (by rw [lim_of ‹_›,if_neg ‹_›])
  refine cF (dF hq3) (T.skip (nT (sR [hR 4 rfl rfl (Y9 (u1:=.int .i64 ((a:Nat):Int)) (u2:=.int .i64 4) (v:=.int .i64 ((a+4:Nat):Int)) (W6 pZ5) (X8 rfl) ⟨rfl,trivial⟩)] (sR [hR 1 rfl rfl (I5 (u:=.int .u64 ((rfN B a 4:Nat):Int)) (v:=.int .i64 ((rfN B a 4:Nat):Int)) (X0a Try.underlying117 Try.underlying3 pZ5) (X8 rfl) trivial)] (T.ret ?_)))))
  exact eRt 4 (.one (dI ((rfN B a 4:Nat):Int))) [0] (by have e1:(((rdC (B.drop a) e most:Nat):Int):Int)=((rfN B a 4:Nat):Int):=(by (simp only [rdC];(rw [if_pos hr.1,← X94 ‹_›];done)));have hE:=cI e1;exact hE) ⟨⟨rfl,(by have e1:(((a+4:Nat):Int):Int)=((rfA B a e 4 (Yb most ((B.drop a).take 4)):Nat):Int):=(by (rw [X5v hr.1];rfl));have e2:(e:Int)=(rdE (B.drop a) e 4 (Yb most ((B.drop a).take 4))):=(by (rw [hr.2];omega));have hE:=congr pZ26 e2;exact Eq.trans pZ4 hE)⟩,trivial⟩
 have hr:=Xao (n:=4) (k:=4) rfl ‹_› hq2 ha (Yb most ((B.drop a).take 4))
 refine cT (cn (dF hq2)) (sR [] (sR [] (T.ret (rT ?_))))
 exact eRt 4 (Z1f) [0] pZ24 ⟨⟨rfl,(by have e1:(((a:Nat):Int):Int)=((rfA B a e 4 (Yb most ((B.drop a).take 4)):Nat):Int):=p4c;have e2:(10:Int)=(rdE (B.drop a) e 4 (Yb most ((B.drop a).take 4))):=p4f;have hE:=congr pZ26 e2;exact Eq.trans pZ4 hE)⟩,trivial⟩
abbrev Z1g (a:Nat):SV:=dI ((a:Nat):Int)
theorem Xce (B:List UInt8) (a:Nat) (e:Int) (ha:a≤B.length) (hB:B.length≤140737488350000):Holds Try.prog 37 ⟨[pv 0 0],[.box 87 [dU B,dI ((a:Nat):Int),dI e]],.tup [],[.live (.box 87 [dU B,dI ((a:Nat):Int),dI (rdX (B.drop a) e)])]⟩:=by
 refine Holds.of Try.func37 rfl (N:=22) Try.ntmps37 rfl fun w0 B0 S0 U0=>?_
 show T _ (Xz 22 1 w0 S0 U0 B0) ⟨[pv 0 0],[.live (.box 87 [dU B,(Z1g a),dI e])]⟩ _ _
 by_cases hq1:e=0
 ·refine sD [[],[0],[0,1],[0,1,2],[0,1,2,3],[0,1,2,3,4],[0,1,2,3,4,5],[0,1,2,3,4,5,6],[0,1,2,3,4,5,6,7],[0,1,2,3,4,5,6,7,8],[0,1,2,3,4,5],[0,1,2,3,4,5,10],[0,1,2,3,4,5,10,11],[0,1,2,3,4,5,10,11,12],[0,1,2,3,4,5,10,11,12,13],[0,1,2,3,4,5,6,7,8,9,10,11,12,13,14],[0,1,2,3,4,5,6,7,8,9,10,11,12,13,14,15]] (Xl (hY · (dT hq1)) [6,7,8,9,10,11,12,13,14,15] (hP 16 (dT hq1)::[])) ?_
  by_cases hq2:((a:Nat):Int)<((B.length:Nat):Int)
  ·refine cT (dT hq2) (xK [] ?_)
   exact tE (.inr rfl) [] trivial [0] rfl rfl rfl rfl rfl rfl ⟨⟨rfl,(by have e1:(13:Int)=(rdX (B.drop a) e):=(by (simp only [rdX,List.length_drop];rw [if_pos ⟨by assumption,by omega⟩]));have hE:=congrArg (fun (q1:Int)=>(.live (.box 87 [dU B,(Z1g a),dI q1]):HS)) e1;exact Eq.trans pZ4 hE)⟩,trivial⟩
  refine cF (dF hq2) (T.skip ?_)
  exact tE (.inr rfl) [] trivial [0] rfl rfl rfl rfl rfl rfl ⟨⟨rfl,(by have e1:(e:Int)=(rdX (B.drop a) e):=(by (simp only [rdX,List.length_drop];rw [if_neg (fun h=>by (have:=h.2;omega))]));have hE:=congrArg (fun (q1:Int)=>(.live (.box 87 [dU B,(Z1g a),dI q1]):HS)) e1;exact Eq.trans pZ4 hE)⟩,trivial⟩
 refine sD [[],[0],[0,1],[0,1,2],[0,1,2,3],[0,1,2,3,4],[0,1,2,3,4,5],[0,1,2,3,4,5,6],[0,1,2,3,4,5,6,7],[0,1,2,3,4,5,6,7,8],[0,1,2,3,4,5],[0,1,2,3,4,5,10],[0,1,2,3,4,5,10,11],[0,1,2,3,4,5,10,11,12],[0,1,2,3,4,5,10,11,12,13],[0,1,2,3,4,5,6,7,8,9,10,11,12,13,14],[0,1,2,3,4,5,6,7,8,9,10,11,12,13,14,15]] (Xl (hN · true (dF hq1)) [6,7,8,9,10,11,12,13,14,15] (hP 16 (dF hq1)::[])) (cF (b:=false) rfl (T.skip ?_))
 exact tE (.inr rfl) [] trivial [0] rfl rfl rfl rfl rfl rfl ⟨⟨rfl,(by have e1:(e:Int)=(rdX (B.drop a) e):=(by (simp only [rdX,List.length_drop];rw [if_neg (fun h=>by exact absurd h.1 ‹_›)]));have hE:=congrArg (fun (q1:Int)=>(.live (.box 87 [dU B,(Z1g a),dI q1]):HS)) e1;exact Eq.trans pZ4 hE)⟩,trivial⟩
section
variable (B:List UInt8) (a:Nat) (e:Int) (most:Int)
abbrev Z1h:SV:=dU B
abbrev Z1i:AV:=vI ((a:Nat):Int)
abbrev Z1j:AV:=vI ((rdC (B.drop a) e most:Nat):Int)
abbrev Z1k:AV:=vB (decide (((rdC (B.drop a) e most:Nat):Int)>(((B.length:Nat):Int)-((rfA B a e 4 (Yb most ((B.drop a).take 4)):Nat):Int))))
abbrev Z1l:AV:=vB (decide ((rdE (B.drop a) e 4 (Yb most ((B.drop a).take 4)))≠0))
abbrev Z1m:HS:=.live (.box 87 [(Z1h B),dI ((rfA B a e 4 (Yb most ((B.drop a).take 4)):Nat):Int),dI (rdE (B.drop a) e 4 (Yb most ((B.drop a).take 4)))])
abbrev Z1n:=(rfA B a e 4 (Yb most ((B.drop a).take 4)))
end
theorem X97 (B:List UInt8) (a:Nat) (e:Int) (most:Int) (ha:a≤B.length) (hB:B.length≤140737488350000):Holds Try.prog 58 ⟨[pv 0 0,vI most],[.box 87 [dU B,dI ((a:Nat):Int),dI e]],Y3 1 kU8 0 (rdY (B.drop a) e most).length,[.live (.box 87 [dU B,dI ((X4h B a e most:Nat):Int),dI (J4 (B.drop a) e most)]),.live (Xe 5 kU8 (rdY (B.drop a) e most))]⟩:=by
 refine Holds.of Try.func58 rfl (N:=72) Try.ntmps58 rfl fun w0 B0 S0 U0=>?_
 show T _ (Xz 72 1 w0 S0 U0 B0) ⟨[pv 0 0,vI most],[.live (.box 87 [(Z1h B),dI ((a:Nat):Int),dI e])]⟩ _ _
 have hrc:=rdC_lt (B.drop a) e most
 have hra:=rfA_le (B:=B) (a:=a) (e:=e) (n:=4) (m:=(Yb most ((B.drop a).take 4))) ha
 refine sR [] (sR [] (sR [hR 2 rfl rfl (rCa (X2h B a e most ‹_› ‹_›) Try.func60 [0] [(.tmp 12,pv 0 0),(.tmp 13,vI most)] 1 1)] (T.seq ?_)))
 by_cases hq1:(rdE (B.drop a) e 4 (Yb most ((B.drop a).take 4)))=0
 ·refine sD [[],[0],[0,1],[0,1,2],[0,1,2,3],[0,1,2,3,4],[0,1,2,3,4,5],[0,1,2,3,4,5],[0,1,2,3,4,5,7],[0,1,2,3,4,5,7,8],[0,1,2,3,4,5,7,8,9],[0,1,2,3,4,5,7,8,9,10],[0,1,2,3,4,5],[0,1,2,3,4,5,12],[0,1,2,3,4,5,12,13],[0,1,2,3,4,5,12,13,14],[0,1,2,3,4,5,7,8,9,10,11,12,13,14,15],[0,1,2,3,4,5,6,7,8,9,10,11,12,13,14,15,16],[0,1,2,3,4,5,6,7,8,9,10,11,12,13,14,15,16,17]] (Xl (hY · (dT hq1)) [6,7,8,9,10,11,12,13,14,15] (hS 16 (oY rfl rfl rfl rfl (X8 rfl) (dT hq1) (Y9 (u1:=.int .i64 ((B.length:Nat):Int)) (u2:=.int .i64 ((rfA B a e 4 (Yb most ((B.drop a).take 4)):Nat):Int)) (v:=.int .i64 (((B.length:Nat):Int)-((rfA B a e 4 (Yb most ((B.drop a).take 4)):Nat):Int))) (X1d pZ5) (X8 rfl) p1n))::(hY 17 (dT hq1)::(hP 18 (dT hq1)::[])))) ?_
  by_cases hq2:((rdC (B.drop a) e most:Nat):Int)>(((B.length:Nat):Int)-((rfA B a e 4 (Yb most ((B.drop a).take 4)):Nat):Int))
  ·have hy:=Xf3 ‹_› hq2 ha
   refine cT (dT hq2) (sR [] (xK [] (nT (T.seq (sR [] (cT (b:=true) rfl (sR [] (T.ret (rT ?_)))))))))
   refine eN ⟨[pv 0 0,vI most,aa,aa,dv (.slice none 0 0),(Z1i a),(Z1j B a e most),aa,aa,aa,aa,aa,aa,aa,aa,aa,aa,aa,aa,aa,aa,aa,aa,aa,aa,aa,aa,aa,aa,aa,aa,aa,aa,(Z1k B a e most),aa,aa,aa,aa,aa,aa,aa,aa,aa,aa,aa,vB true],[.live (.box 87 [(Z1h B),dI ((a:Nat):Int),dI 10])]⟩ ?_
   refine Xm (s':=⟨[pv 0 0,vI most,aa,aa,Y3 1 kU8 0 0,(Z1i a),(Z1j B a e most),aa,aa,aa,aa,aa,aa,aa,aa,aa,aa,aa,aa,aa,aa,aa,aa,aa,aa,aa,aa,aa,aa,aa,aa,aa,aa,(Z1k B a e most),aa,aa,aa,aa,aa,aa,aa,aa,aa,aa,aa,vB true],[.live (.box 87 [(Z1h B),dI ((a:Nat):Int),dI 10]),.live (Xe 5 kU8 ([]:List UInt8))]⟩) (fun _ _ hG=>J9 1 4 5 kU8 rfl rfl hG) ?_
   exact eRt 4 (.one (.own 1 kU8.sz 0 0)) [0,1] p37 ⟨⟨rfl,(by have e1:(((a:Nat):Int):Int)=((X4h B a e most:Nat):Int):=(by omega);have e2:(10:Int)=(J4 (B.drop a) e most):=(by omega);have hE:=congr (congrArg (fun (q1:Int) (q2:Int)=>(.live (.box 87 [(Z1h B),dI q1,dI q2]):HS)) e1) e2;exact Eq.trans pZ4 hE)⟩,⟨⟨rfl,p2v⟩,trivial⟩⟩
  have hy:=rfY_ok ‹_› hq2 ha
  refine cF (dF hq2) (T.skip (nT (T.seq (sR [] ?_))))
  by_cases hq3:(rdE (B.drop a) e 4 (Yb most ((B.drop a).take 4)))≠0
  ·refine cT (dT hq3) (sR [] (T.ret (rT ?_)))
   refine eN ⟨[pv 0 0,vI most,aa,aa,dv (.slice none 0 0),(Z1i a),(Z1j B a e most),aa,aa,aa,aa,aa,aa,aa,aa,aa,aa,aa,aa,aa,aa,aa,aa,aa,aa,aa,aa,aa,aa,aa,aa,aa,aa,(Z1k B a e most),aa,aa,aa,aa,aa,aa,aa,aa,aa,aa,aa,(Z1l B a e most)],[(Z1m B a e most)]⟩ ?_
   refine Xm (s':=⟨[pv 0 0,vI most,aa,aa,Y3 1 kU8 0 0,(Z1i a),(Z1j B a e most),aa,aa,aa,aa,aa,aa,aa,aa,aa,aa,aa,aa,aa,aa,aa,aa,aa,aa,aa,aa,aa,aa,aa,aa,aa,aa,(Z1k B a e most),aa,aa,aa,aa,aa,aa,aa,aa,aa,aa,aa,(Z1l B a e most)],[(Z1m B a e most),.live (Xe 5 kU8 ([]:List UInt8))]⟩) (fun _ _ hG=>J9 1 4 5 kU8 rfl rfl hG) ?_
   exact eRt 4 (.one (.own 1 kU8.sz 0 0)) [0,1] (congrArg (fun (q1:Nat)=>(Y3 1 kU8 0 q1:AV)) (show ((rdY (B.drop a) e most).length:Nat)=0 from (by omega))) ⟨⟨rfl,p1m⟩,⟨⟨rfl,(by have e1:(([]:List UInt8):List UInt8)=(rdY (B.drop a) e most):=(by omega);have hE:=congrArg (fun (q1:List UInt8)=>(.live (Xe 5 kU8 q1):HS)) e1;exact Eq.trans pZ4 hE)⟩,trivial⟩⟩
  refine cF (dF hq3) (T.skip (nT ?_))
  refine sD [[],[],[1],[1,2],[1,2,3],[],[5],[5,6],[5,6,7],[],[9],[9,10],[9,10,11],[],[9,10,11,12,13],[1,2,3,4,5,6,7,8,9,10,11,12,13,14],[0,1,2,3,4,5,6,7,8,9,10,11,12,13,14,15],[0,1,2,3,4,5,6,7,8,9,10,11,12,13,14,15,16]] [hR 0 rfl rfl (Yd 1 5 kU8 Vc ([]:List UInt8) [] (cs:=[]) Try.underlying34 Ut rfl I4 rfl rfl rfl pf Wn pZ4 (Vz pZ4) (X8 rfl) trivial),hR 14 rfl rfl (Y9 (u1:=.int .i64 ((rfA B a e 4 (Yb most ((B.drop a).take 4)):Nat):Int)) (u2:=.int .i64 ((rdC (B.drop a) e most:Nat):Int)) (v:=.int .i64 (((rfA B a e 4 (Yb most ((B.drop a).take 4)))+(rdC (B.drop a) e most):Nat):Int)) (W6 pZ5) (X8 rfl) trivial),hR 15 rfl rfl (Fs false false kU8 B ((B.take ((rfA B a e 4 (Yb most ((B.drop a).take 4)))+(rdC (B.drop a) e most))).drop (rfA B a e 4 (Yb most ((B.drop a).take 4)))) (rfA B a e 4 (Yb most ((B.drop a).take 4))) ((rfA B a e 4 (Yb most ((B.drop a).take 4)))+(rdC (B.drop a) e most)) (lo:=some (.tmp 54,((rfA B a e 4 (Yb most ((B.drop a).take 4)):Nat):Int))) (hi:=some (.tmp 60,(((rfA B a e 4 (Yb most ((B.drop a).take 4)))+(rdC (B.drop a) e most):Nat):Int))) Try.underlying34 Ut rfl rfl rfl rfl rfl (by omega) (by omega) rfl (X8 rfl) trivial),hR 16 rfl rfl (W4 1 2 5 1 kU8 Vc ([]:List UInt8) ((B.take ((rfA B a e 4 (Yb most ((B.drop a).take 4)))+(rdC (B.drop a) e most))).drop (rfA B a e 4 (Yb most ((B.drop a).take 4)))) ((B.take ((rfA B a e 4 (Yb most ((B.drop a).take 4)))+(rdC (B.drop a) e most))).drop (rfA B a e 4 (Yb most ((B.drop a).take 4)))) ([]:List UInt8).length (sy:=(dU ((B.take ((Z1n B a e most)+(rdC (B.drop a) e most))).drop (Z1n B a e most)))) (rhs:=[]) J1 (by omega) (Jb false false kU8 ((B.take ((rfA B a e 4 (Yb most ((B.drop a).take 4)))+(rdC (B.drop a) e most))).drop (rfA B a e 4 (Yb most ((B.drop a).take 4))))) (by simp) (by (simp [maxLen,-List.getD_eq_getElem?_getD]<;>omega)) (by (simp [maxLen,-List.getD_eq_getElem?_getD]<;>omega)) (X8 rfl) trivial)] ?_
  refine sR [hR 5 rfl rfl (Y9 (u1:=.int .i64 ((rfA B a e 4 (Yb most ((B.drop a).take 4)):Nat):Int)) (u2:=.int .i64 ((rdC (B.drop a) e most:Nat):Int)) (v:=.int .i64 (((rfA B a e 4 (Yb most ((B.drop a).take 4)))+(rdC (B.drop a) e most):Nat):Int)) (W6 pZ5) (X8 rfl) trivial)] (sR [] (T.ret ?_))
  exact eRt 4 (.one (.own 2 kU8.sz 0 ((B.take ((Z1n B a e most)+(rdC (B.drop a) e most))).drop (Z1n B a e most)).length)) [0,2] (by have e1:((rdY (B.drop a) e most).length:Nat)=((B.take ((rfA B a e 4 (Yb most ((B.drop a).take 4)))+(rdC (B.drop a) e most))).drop (rfA B a e 4 (Yb most ((B.drop a).take 4)))).length:=(by (rw [hy.2.2.2.1,hy.1,hy.2.1];done));have hE:=congrArg (fun (q1:Nat)=>(Y3 2 kU8 0 q1:AV)) e1;exact hE) ⟨⟨rfl,p1j⟩,⟨⟨rfl,(by have e1:(((B.take ((rfA B a e 4 (Yb most ((B.drop a).take 4)))+(rdC (B.drop a) e most))).drop (rfA B a e 4 (Yb most ((B.drop a).take 4)))):List UInt8)=(rdY (B.drop a) e most):=(by (rw [hy.2.2.2.1,hy.1,hy.2.1];done));have hE:=congrArg (fun (q1:List UInt8)=>(.live (Xe 5 kU8 q1):HS)) e1;exact Eq.trans pZ4 hE)⟩,trivial⟩⟩
 have hy:=rfY_fail hq1
 refine sD [[],[0],[0,1],[0,1,2],[0,1,2,3],[0,1,2,3,4],[0,1,2,3,4,5],[0,1,2,3,4,5],[0,1,2,3,4,5,7],[0,1,2,3,4,5,7,8],[0,1,2,3,4,5,7,8,9],[0,1,2,3,4,5,7,8,9,10],[0,1,2,3,4,5],[0,1,2,3,4,5,12],[0,1,2,3,4,5,12,13],[0,1,2,3,4,5,12,13,14],[0,1,2,3,4,5,7,8,9,10,11,12,13,14,15],[0,1,2,3,4,5,6,7,8,9,10,11,12,13,14,15,16],[0,1,2,3,4,5,6,7,8,9,10,11,12,13,14,15,16,17]] (Xl (hN · true (dF hq1)) [6,7,8,9,10,11,12,13,14,15,16,17] (hP 18 (dF hq1)::[])) (cF (b:=false) rfl (T.skip (nT (T.seq (sR [] ?_)))))
 by_cases hq4:(rdE (B.drop a) e 4 (Yb most ((B.drop a).take 4)))≠0
 ·refine cT (dT hq4) (sR [] (T.ret (rT ?_)))
  refine eN ⟨[pv 0 0,vI most,aa,aa,dv (.slice none 0 0),(Z1i a),(Z1j B a e most),aa,aa,aa,aa,aa,aa,aa,aa,aa,aa,aa,aa,aa,aa,aa,aa,aa,aa,aa,aa,aa,aa,aa,aa,aa,aa,vB false,aa,aa,aa,aa,aa,aa,aa,aa,aa,aa,aa,(Z1l B a e most)],[(Z1m B a e most)]⟩ ?_
  refine Xm (s':=⟨[pv 0 0,vI most,aa,aa,Y3 1 kU8 0 0,(Z1i a),(Z1j B a e most),aa,aa,aa,aa,aa,aa,aa,aa,aa,aa,aa,aa,aa,aa,aa,aa,aa,aa,aa,aa,aa,aa,aa,aa,aa,aa,vB false,aa,aa,aa,aa,aa,aa,aa,aa,aa,aa,aa,(Z1l B a e most)],[(Z1m B a e most),.live (Xe 5 kU8 ([]:List UInt8))]⟩) (fun _ _ hG=>J9 1 4 5 kU8 rfl rfl hG) ?_
  exact eRt 4 (.one (.own 1 kU8.sz 0 0)) [0,1] p37 ⟨⟨rfl,p1m⟩,⟨⟨rfl,p2v⟩,trivial⟩⟩
 refine cF (dF hq4) (T.skip (nT ?_))
 refine sD [[],[],[1],[1,2],[1,2,3],[],[5],[5,6],[5,6,7],[],[9],[9,10],[9,10,11],[],[9,10,11,12,13],[1,2,3,4,5,6,7,8,9,10,11,12,13,14],[0,1,2,3,4,5,6,7,8,9,10,11,12,13,14,15],[0,1,2,3,4,5,6,7,8,9,10,11,12,13,14,15,16]] [hR 0 rfl rfl (Yd 1 5 kU8 Vc ([]:List UInt8) [] (cs:=[]) Try.underlying34 Ut rfl I4 rfl rfl rfl pf Wn pZ4 (Vz pZ4) (X8 rfl) trivial),hR 14 rfl rfl (Y9 (u1:=.int .i64 ((rfA B a e 4 (Yb most ((B.drop a).take 4)):Nat):Int)) (u2:=.int .i64 ((rdC (B.drop a) e most:Nat):Int)) (v:=.int .i64 (((rfA B a e 4 (Yb most ((B.drop a).take 4)))+(rdC (B.drop a) e most):Nat):Int)) (W6 pZ5) (X8 rfl) trivial),hR 15 rfl rfl (Fs false false kU8 B ((B.take ((rfA B a e 4 (Yb most ((B.drop a).take 4)))+(rdC (B.drop a) e most))).drop (rfA B a e 4 (Yb most ((B.drop a).take 4)))) (rfA B a e 4 (Yb most ((B.drop a).take 4))) ((rfA B a e 4 (Yb most ((B.drop a).take 4)))+(rdC (B.drop a) e most)) (lo:=some (.tmp 54,((rfA B a e 4 (Yb most ((B.drop a).take 4)):Nat):Int))) (hi:=some (.tmp 60,(((rfA B a e 4 (Yb most ((B.drop a).take 4)))+(rdC (B.drop a) e most):Nat):Int))) Try.underlying34 Ut rfl rfl rfl rfl rfl (by omega) (by omega) rfl (X8 rfl) trivial),hR 16 rfl rfl (W4 1 2 5 1 kU8 Vc ([]:List UInt8) ((B.take ((rfA B a e 4 (Yb most ((B.drop a).take 4)))+(rdC (B.drop a) e most))).drop (rfA B a e 4 (Yb most ((B.drop a).take 4)))) ((B.take ((rfA B a e 4 (Yb most ((B.drop a).take 4)))+(rdC (B.drop a) e most))).drop (rfA B a e 4 (Yb most ((B.drop a).take 4)))) ([]:List UInt8).length (sy:=(dU ((B.take ((Z1n B a e most)+(rdC (B.drop a) e most))).drop (Z1n B a e most)))) (rhs:=[]) J1 (by omega) (Jb false false kU8 ((B.take ((rfA B a e 4 (Yb most ((B.drop a).take 4)))+(rdC (B.drop a) e most))).drop (rfA B a e 4 (Yb most ((B.drop a).take 4))))) (by simp) (by omega) (by omega) (X8 rfl) trivial)] ?_
 refine sR [hR 5 rfl rfl (Y9 (u1:=.int .i64 ((rfA B a e 4 (Yb most ((B.drop a).take 4)):Nat):Int)) (u2:=.int .i64 ((rdC (B.drop a) e most:Nat):Int)) (v:=.int .i64 (((rfA B a e 4 (Yb most ((B.drop a).take 4)))+(rdC (B.drop a) e most):Nat):Int)) (W6 pZ5) (X8 rfl) trivial)] (sR [] (T.ret ?_))
 exact eRt 4 (.one (.own 2 kU8.sz 0 ((B.take ((Z1n B a e most)+(rdC (B.drop a) e most))).drop (Z1n B a e most)).length)) [0,2] (congrArg (fun (q1:Nat)=>(Y3 2 kU8 0 q1:AV)) (show ((rdY (B.drop a) e most).length:Nat)=((B.take ((rfA B a e 4 (Yb most ((B.drop a).take 4)))+(rdC (B.drop a) e most))).drop (rfA B a e 4 (Yb most ((B.drop a).take 4)))).length from (by omega))) ⟨⟨rfl,p1j⟩,⟨⟨rfl,(by have e1:(((B.take ((rfA B a e 4 (Yb most ((B.drop a).take 4)))+(rdC (B.drop a) e most))).drop (rfA B a e 4 (Yb most ((B.drop a).take 4)))):List UInt8)=(rdY (B.drop a) e most):=(by omega);have hE:=congrArg (fun (q1:List UInt8)=>(.live (Xe 5 kU8 q1):HS)) e1;exact Eq.trans pZ4 hE)⟩,trivial⟩⟩
theorem iat_128:Try.prog.info? 128=some Try.t128:=by kernel_rfl
theorem J3:Wide Try.prog 128 (some 4):=⟨_,_,Try.underlying128,.inl ⟨_,rfl⟩,iat_128,rfl⟩
abbrev Z1o:TV:=.one (dB true)
abbrev Z1p:TV:=.agg [dI 11,dI 0,dI 1,dI 7]
theorem Eu (k:Int):Holds Try.prog 67 ⟨[vI k],[],.tup [.agg [dI (Y4 k).V3,dI (Y4 k).Wa,dI (Y4 k).Wq,dI (Y4 k).V6],.one (dB (decide (okK k)))],[]⟩:=by
 refine Holds.of Try.func67 rfl (N:=54) Try.ntmps67 rfl fun w0 B0 S0 U0=>?_
 show T _ (Xz 54 0 w0 S0 U0 B0) ⟨[vI k],[]⟩ _ _
 refine sR [] (sR [] (T.seq (sR [] (T.block (T.seq (T.block (T.seq (T.block (T.seq (T.block (T.seq (T.block (T.seq (T.block (T.seq (T.block (T.seq (T.block (T.seq (T.block (T.seq (T.block (T.seq (T.block (T.seq (T.block (T.seq (T.seq (sR [] ?_)))))))))))))))))))))))))))))
 by_cases hq1:k=1
 ·refine cT (dT hq1) (T.exit (xT (xT (xH (nT (sR [] (T.exit (xM rfl (xT (xM rfl (xT (xM rfl (xT (xM rfl (xT (xM rfl (xT (xM rfl (xT (xM rfl (xT (xM rfl (xT (xM rfl (xT (xM rfl (xT (xH (nT (sR [] (T.ret ?_)))))))))))))))))))))))))))))))
  exact eX [.c 2 0 128 0 128 [dI 20,dI 0,dI 1,dI 7] (.agg [dI 20,dI 0,dI 1,dI 7]),.t 3 (Z1o)] ⟨⟨rfl,rfl,by kernel_rfl,by kernel_rfl,.inl ⟨4,J3,rfl,Nat.le_of_ble_eq_true rfl⟩⟩,⟨⟨rfl,by kernel_rfl⟩,trivial⟩⟩ [] (gc2 (show (Y4 k)=⟨20,0,1,7⟩ from pu) (show ((decide (okK k)):Bool)=true from pu) (fun qq0 (q5:Bool)=>(.tup [.agg [dI (qq0.V3),dI (qq0.Wa),dI (qq0.Wq),dI (qq0.V6)],.one (dB q5)]:AV))) trivial
 refine cF (dF hq1) (T.skip (nT (T.seq (sR [] ?_))))
 by_cases hq2:k=2
 ·refine cT (dT hq2) (T.exit (xT (xT (xM rfl (xT (xH (nT (sR [hR 2 rfl rfl (Y9 (u1:=.int .i64 0) (u2:=.int .i64 64) (v:=.int .i64 64) (X4b p3k) (X8 rfl) ⟨rfl,trivial⟩)] (xK [] (nB (nT (xK [hR 2 rfl rfl (Y9 (u1:=.int .i64 64) (u2:=.int .i64 1) (v:=.int .i64 65) (X4b p3k) (X8 rfl) ⟨rfl,trivial⟩)] (nB (nT (sR [hR 2 rfl rfl (Y9 (u1:=.int .i64 65) (u2:=.int .i64 10) (v:=.int .i64 75) (X4b p3k) (X8 rfl) ⟨rfl,trivial⟩)] (T.exit (xM rfl (xT (xM rfl (xT (xM rfl (xT (xM rfl (xT (xM rfl (xT (xM rfl (xT (xM rfl (xT (xH (nT (sR [] (T.ret ?_))))))))))))))))))))))))))))))))))
  exact eX [.c 2 0 128 0 128 [dI 75,dI 0,dI 1,dI 4] (.agg [dI 75,dI 0,dI 1,dI 4]),.t 3 (Z1o)] ⟨⟨rfl,rfl,by kernel_rfl,by kernel_rfl,.inl ⟨4,J3,rfl,Nat.le_of_ble_eq_true rfl⟩⟩,⟨⟨rfl,by kernel_rfl⟩,trivial⟩⟩ [] (gc2 (show (Y4 k)=⟨75,0,1,4⟩ from pu) (show ((decide (okK k)):Bool)=true from pu) (fun qq0 (q5:Bool)=>(.tup [.agg [dI (qq0.V3),dI (qq0.Wa),dI (qq0.Wq),dI (qq0.V6)],.one (dB q5)]:AV))) trivial
 refine cF (dF hq2) (T.skip (nT (T.seq (T.seq (sR [] ?_)))))
 by_cases hq3:k=3
 ·refine cT (dT hq3) (T.skip (nT (cT (dT hq3) (T.exit (xT (xT (xM rfl (xT (xM rfl (xT (xH (nT (xK [hR 2 rfl rfl (Y9 (u1:=.int .i64 0) (u2:=.int .i64 1) (v:=.int .i64 1) (X4b p3k) (X8 rfl) ⟨rfl,trivial⟩)] (nB (nT (sR [hR 2 rfl rfl (Y9 (u1:=.int .i64 1) (u2:=.int .i64 10) (v:=.int .i64 11) (X4b p3k) (X8 rfl) ⟨rfl,trivial⟩)] (T.exit (xM rfl (xT (xM rfl (xT (xM rfl (xT (xM rfl (xT (xM rfl (xT (xM rfl (xT (xM rfl (xT (xH (nT (sR [] (T.ret ?_)))))))))))))))))))))))))))))))))))
  exact eX [.c 2 0 128 0 128 [dI 11,dI 0,dI 1,dI 7] (Z1p),.t 3 (Z1o)] ⟨⟨rfl,rfl,by kernel_rfl,by kernel_rfl,.inl ⟨4,J3,rfl,Nat.le_of_ble_eq_true rfl⟩⟩,⟨⟨rfl,by kernel_rfl⟩,trivial⟩⟩ [] p2j trivial
 refine cF (dF hq3) (xK [] (nT ?_))
 by_cases hq4:k=4
 ·refine cT (dT hq4) (T.exit (xT (xT (xM rfl (xT (xM rfl (xT (xH (nT (xK [hR 2 rfl rfl (Y9 (u1:=.int .i64 0) (u2:=.int .i64 1) (v:=.int .i64 1) (X4b p3k) (X8 rfl) ⟨rfl,trivial⟩)] (nB (nT (sR [hR 2 rfl rfl (Y9 (u1:=.int .i64 1) (u2:=.int .i64 10) (v:=.int .i64 11) (X4b p3k) (X8 rfl) ⟨rfl,trivial⟩)] (T.exit (xM rfl (xT (xM rfl (xT (xM rfl (xT (xM rfl (xT (xM rfl (xT (xM rfl (xT (xM rfl (xT (xH (nT (sR [] (T.ret ?_))))))))))))))))))))))))))))))))
  exact eX [.c 2 0 128 0 128 [dI 11,dI 0,dI 1,dI 7] (Z1p),.t 3 (Z1o)] ⟨⟨rfl,rfl,by kernel_rfl,by kernel_rfl,.inl ⟨4,J3,rfl,Nat.le_of_ble_eq_true rfl⟩⟩,⟨⟨rfl,by kernel_rfl⟩,trivial⟩⟩ [] p2j trivial
 refine cF (dF hq4) (T.skip (nT (T.seq (sR [] ?_))))
 by_cases hq5:k=5
 ·refine cT (dT hq5) (T.exit (xT (xT (xM rfl (xT (xM rfl (xT (xM rfl (xT (xH (nT (sR [hR 2 rfl rfl (Y9 (u1:=.int .i64 0) (u2:=.int .i64 10) (v:=.int .i64 10) (X4b p3k) (X8 rfl) ⟨rfl,trivial⟩)] (T.exit (xM rfl (xT (xM rfl (xT (xM rfl (xT (xM rfl (xT (xM rfl (xT (xM rfl (xT (xM rfl (xT (xH (nT (sR [] (T.ret ?_)))))))))))))))))))))))))))))))
  exact eX [.c 2 0 128 0 128 [dI 10,dI 0,dI 1,dI 7] (.agg [dI 10,dI 0,dI 1,dI 7]),.t 3 (Z1o)] ⟨⟨rfl,rfl,by kernel_rfl,by kernel_rfl,.inl ⟨4,J3,rfl,Nat.le_of_ble_eq_true rfl⟩⟩,⟨⟨rfl,by kernel_rfl⟩,trivial⟩⟩ [] (gc2 (show (Y4 k)=⟨10,0,1,7⟩ from pu) (show ((decide (okK k)):Bool)=true from pu) (fun qq0 (q5:Bool)=>(.tup [.agg [dI (qq0.V3),dI (qq0.Wa),dI (qq0.Wq),dI (qq0.V6)],.one (dB q5)]:AV))) trivial
 refine cF (dF hq5) (T.skip (nT (T.seq (sR [] ?_))))
 by_cases hq6:k=6
 ·refine cT (dT hq6) (T.exit (xT (xT (xM rfl (xT (xM rfl (xT (xM rfl (xT (xM rfl (xT (xH (nT (sR [] (T.exit (xM rfl (xT (xM rfl (xT (xM rfl (xT (xM rfl (xT (xM rfl (xT (xM rfl (xT (xH (nT (sR [] (T.ret ?_)))))))))))))))))))))))))))))))
  exact eX [.c 2 0 128 0 128 [dI 323,dI 1,dI 0,dI 7] (.agg [dI 323,dI 1,dI 0,dI 7]),.t 3 (Z1o)] ⟨⟨rfl,rfl,by kernel_rfl,by kernel_rfl,.inl ⟨4,J3,rfl,Nat.le_of_ble_eq_true rfl⟩⟩,⟨⟨rfl,by kernel_rfl⟩,trivial⟩⟩ [] (gc2 (show (Y4 k)=⟨323,1,0,7⟩ from pu) (show ((decide (okK k)):Bool)=true from pu) (fun qq0 (q5:Bool)=>(.tup [.agg [dI (qq0.V3),dI (qq0.Wa),dI (qq0.Wq),dI (qq0.V6)],.one (dB q5)]:AV))) trivial
 refine cF (dF hq6) (T.skip (nT (T.seq (sR [] ?_))))
 by_cases hq7:k=7
 ·refine cT (dT hq7) (T.exit (xT (xT (xM rfl (xT (xM rfl (xT (xM rfl (xT (xM rfl (xT (xM rfl (xT (xH (nT (sR [] (T.exit (xM rfl (xT (xM rfl (xT (xM rfl (xT (xM rfl (xT (xM rfl (xT (xH (nT (sR [] (T.ret ?_)))))))))))))))))))))))))))))))
  exact eX [.c 2 0 128 0 128 [dI 193,dI 1,dI 1,dI 7] (.agg [dI 193,dI 1,dI 1,dI 7]),.t 3 (Z1o)] ⟨⟨rfl,rfl,by kernel_rfl,by kernel_rfl,.inl ⟨4,J3,rfl,Nat.le_of_ble_eq_true rfl⟩⟩,⟨⟨rfl,by kernel_rfl⟩,trivial⟩⟩ [] (gc2 (show (Y4 k)=⟨193,1,1,7⟩ from pu) (show ((decide (okK k)):Bool)=true from pu) (fun qq0 (q5:Bool)=>(.tup [.agg [dI (qq0.V3),dI (qq0.Wa),dI (qq0.Wq),dI (qq0.V6)],.one (dB q5)]:AV))) trivial
 refine cF (dF hq7) (T.skip (nT (T.seq (sR [] ?_))))
 by_cases hq8:k=8
 ·refine cT (dT hq8) (T.exit (xT (xT (xM rfl (xT (xM rfl (xT (xM rfl (xT (xM rfl (xT (xM rfl (xT (xM rfl (xT (xH (nT (sR [] (T.exit (xM rfl (xT (xM rfl (xT (xM rfl (xT (xM rfl (xT (xH (nT (sR [] (T.ret ?_)))))))))))))))))))))))))))))))
  exact eX [.c 2 0 128 0 128 [dI 37,dI 0,dI 1,dI 7] (.agg [dI 37,dI 0,dI 1,dI 7]),.t 3 (Z1o)] ⟨⟨rfl,rfl,by kernel_rfl,by kernel_rfl,.inl ⟨4,J3,rfl,Nat.le_of_ble_eq_true rfl⟩⟩,⟨⟨rfl,by kernel_rfl⟩,trivial⟩⟩ [] (gc2 (show (Y4 k)=⟨37,0,1,7⟩ from pu) (show ((decide (okK k)):Bool)=true from pu) (fun qq0 (q5:Bool)=>(.tup [.agg [dI (qq0.V3),dI (qq0.Wa),dI (qq0.Wq),dI (qq0.V6)],.one (dB q5)]:AV))) trivial
 refine cF (dF hq8) (T.skip (nT (T.seq (sR [] ?_))))
 by_cases hq9:k=9
 ·refine cT (dT hq9) (T.exit (xT (xT (xM rfl (xT (xM rfl (xT (xM rfl (xT (xM rfl (xT (xM rfl (xT (xM rfl (xT (xM rfl (xT (xH (nT (sR [] (T.exit (xM rfl (xT (xM rfl (xT (xM rfl (xT (xH (nT (sR [] (T.ret ?_)))))))))))))))))))))))))))))))
  exact eX [.c 2 0 128 0 128 [dI 2,dI 0,dI 0,dI 7] (.agg [dI 2,dI 0,dI 0,dI 7]),.t 3 (Z1o)] ⟨⟨rfl,rfl,by kernel_rfl,by kernel_rfl,.inl ⟨4,J3,rfl,Nat.le_of_ble_eq_true rfl⟩⟩,⟨⟨rfl,by kernel_rfl⟩,trivial⟩⟩ [] (gc2 (show (Y4 k)=⟨2,0,0,7⟩ from pu) (show ((decide (okK k)):Bool)=true from pu) (fun qq0 (q5:Bool)=>(.tup [.agg [dI (qq0.V3),dI (qq0.Wa),dI (qq0.Wq),dI (qq0.V6)],.one (dB q5)]:AV))) trivial
 refine cF (dF hq9) (T.skip (nT (T.seq (sR [] ?_))))
 by_cases hq10:k=10
 ·refine cT (dT hq10) (T.exit (xT (xT (xM rfl (xT (xM rfl (xT (xM rfl (xT (xM rfl (xT (xM rfl (xT (xM rfl (xT (xM rfl (xT (xM rfl (xT (xH (nT (sR [] (T.exit (xM rfl (xT (xM rfl (xT (xH (nT (sR [] (T.ret ?_)))))))))))))))))))))))))))))))
  exact eX [.c 2 0 128 0 128 [dI 256,dI 0,dI 1,dI 7] (.agg [dI 256,dI 0,dI 1,dI 7]),.t 3 (Z1o)] ⟨⟨rfl,rfl,by kernel_rfl,by kernel_rfl,.inl ⟨4,J3,rfl,Nat.le_of_ble_eq_true rfl⟩⟩,⟨⟨rfl,by kernel_rfl⟩,trivial⟩⟩ [] (gc2 (show (Y4 k)=⟨256,0,1,7⟩ from pu) (show ((decide (okK k)):Bool)=true from pu) (fun qq0 (q5:Bool)=>(.tup [.agg [dI (qq0.V3),dI (qq0.Wa),dI (qq0.Wq),dI (qq0.V6)],.one (dB q5)]:AV))) trivial
 refine cF (dF hq10) (T.skip (nT (sR [] ?_)))
 by_cases hq11:k=11
 ·refine cT (dT hq11) (T.exit (xT (xM rfl (xT (xM rfl (xT (xM rfl (xT (xM rfl (xT (xM rfl (xT (xM rfl (xT (xM rfl (xT (xM rfl (xT (xM rfl (xT (xH (nT (sR [] (T.exit (xM rfl (xT (xH (nT (sR [] (T.ret ?_))))))))))))))))))))))))))))))
  exact eX [.c 2 0 128 0 128 [dI 82,dI 0,dI 1,dI 7] (.agg [dI 82,dI 0,dI 1,dI 7]),.t 3 (Z1o)] ⟨⟨rfl,rfl,by kernel_rfl,by kernel_rfl,.inl ⟨4,J3,rfl,Nat.le_of_ble_eq_true rfl⟩⟩,⟨⟨rfl,by kernel_rfl⟩,trivial⟩⟩ [] (gc2 (show (Y4 k)=⟨82,0,1,7⟩ from pu) (show ((decide (okK k)):Bool)=true from pu) (fun qq0 (q5:Bool)=>(.tup [.agg [dI (qq0.V3),dI (qq0.Wa),dI (qq0.Wq),dI (qq0.V6)],.one (dB q5)]:AV))) trivial
 refine cF (dF hq11) (T.skip (nT (T.exit (xM rfl (xT (xM rfl (xT (xM rfl (xT (xM rfl (xT (xM rfl (xT (xM rfl (xT (xM rfl (xT (xM rfl (xT (xM rfl (xT (xM rfl (xT (xH (nT (T.seq (sR [] (T.ret (rT (rB (rT ?_)))))))))))))))))))))))))))))))
 exact eX [.c 2 0 128 0 128 [dI 0,dI 0,dI 1,dI 7] (.agg [dI 0,dI 0,dI 1,dI 7]),.t 3 (.one (dB false))] ⟨⟨rfl,rfl,by kernel_rfl,by kernel_rfl,.inl ⟨4,J3,rfl,Nat.le_of_ble_eq_true rfl⟩⟩,⟨⟨rfl,by kernel_rfl⟩,trivial⟩⟩ [] (gc2 (show (Y4 k)=⟨0,0,1,7⟩ from pu) (by exact dF (by unfold okK;omega)) (fun qq0 (q5:Bool)=>(.tup [.agg [dI (qq0.V3),dI (qq0.Wa),dI (qq0.Wq),dI (qq0.V6)],.one (dB q5)]:AV))) trivial
theorem U5 (s:Uk) (f:Int) (n:Int) (lo:Int) (hi:Int):Holds Try.prog 84 ⟨[.tv (.agg [dI s.V3,dI s.Wa,dI s.Wq,dI s.V6]),vI f,vI n,vI lo,vI hi],[],vB (decide (inM s f n lo hi)),[]⟩:=by
 refine Holds.of Try.func84 rfl (N:=24) Try.ntmps84 rfl fun w0 B0 S0 U0=>?_
 show T _ (Xz 24 0 w0 S0 U0 B0) ⟨[.tv (.agg [dI s.V3,dI s.Wa,dI s.Wq,dI s.V6]),vI f,vI n,vI lo,vI hi],[]⟩ _ _
 refine sR [] (T.seq (sR [hR 3 rfl rfl (Y9 (u1:=.int .i64 s.V3) (u2:=.int .i64 f) (v:=.int .i64 (J2 s.V3 f)) (X75 rfl) (X8 rfl) trivial)] ?_))
 by_cases hq1:(J2 s.V3 f)=0
 ·refine cT (dT hq1) (xK [] (nT ?_))
  by_cases hq2:0≤n
  ·refine sR (Xl (hY · (dT hq2)) [4,5,6] (hP 7 (dT hq2)::[])) (T.ret ?_)
   exact eRt 10 (.one (dB (decide (n≤0)))) [] (by have e1:((decide (inM s f n lo hi)):Bool)=(decide (n≤0)):=(by (simp [inM, *];done));have hE:=cB e1;exact hE) trivial
  refine sR (Xl (hN · true (dF hq2)) [4,5,6] (hP 7 (dF hq2)::[])) (T.ret ?_)
  exact eRt 10 (.one (dB false)) [] p3j trivial
 refine cF (dF hq1) (T.skip (nT ?_))
 by_cases hq3:lo≤n
 ·refine sR (Xl (hY · (dT hq3)) [4,5,6] (hP 7 (dT hq3)::[])) (T.ret ?_)
  exact eRt 10 (.one (dB (decide (n≤hi)))) [] (by have e1:((decide (inM s f n lo hi)):Bool)=(decide (n≤hi)):=(by (simp [inM, *];done));have hE:=cB e1;exact hE) trivial
 refine sR (Xl (hN · true (dF hq3)) [4,5,6] (hP 7 (dF hq3)::[])) (T.ret ?_)
 exact eRt 10 (.one (dB false)) [] p3j trivial
theorem Xcp (tc:Bool) (c:aC):Holds Try.prog 86 ⟨[.tv (.agg [dI c.V4.X4,.d (dsl tc false kU8 c.V4.X9),.d (dsl tc false (kE tc) c.Yg)])],[],vB (decide (((c.Yg.length:Nat):Int)>7)),[]⟩:=by
 refine Holds.of Try.func86 rfl (N:=7) Try.ntmps86 rfl fun w0 B0 S0 U0=>?_
 show T _ (Xz 7 0 w0 S0 U0 B0) ⟨[.tv (.agg [dI c.V4.X4,.d (dsl tc false kU8 c.V4.X9),.d (dsl tc false (kE tc) c.Yg)])],[]⟩ _ _
 refine sR [] (sR [] (T.ret ?_))
 exact eRt 2 (.one (dB (decide (((c.Yg.length:Nat):Int)>7)))) [] rfl trivial
theorem I3:Try.prog.info? 113=some Try.t113:=by kernel_rfl
abbrev Z1q:AV:=dv (.func (.func 86) #[] #[])
abbrev Z1r (l:List aC):AV:=vI ((l.length:Nat):Int)
theorem idx_Cert (tl:Bool) (nl:Bool) (sl_:Bool) (l:List aC) (hl:l.length≤9223372036854775807):Holds Try.prog 93 ⟨[slV tl nl (kC sl_) l,dv (.func (.func 86) #[] #[])],[],vI (idxV l),[]⟩:=by
 refine Holds.of Try.func93 rfl (N:=19) Try.ntmps93 rfl fun w0 B0 S0 U0=>?_
 show T _ (Xz 19 0 w0 S0 U0 B0) ⟨[slV tl nl (kC sl_) l,Z1q],[]⟩ _ _
 refine sR [] (T.seq (sR [] (T.block ?_)))
 refine T.loop (ι:=Nat) (fun (k:Nat)=>⟨[slV tl nl (kC sl_) l,Z1q,aa,aa,vI 0,aa,aa,(Z1r l),vI ((k:Nat):Int)],[]⟩) (fun (k:Nat)=>(k≤l.length)∧(∀ j,j<k→(l.getD j zC).Yg.length≤7)) (fun (k:Nat)=>l.length-k) (0) ⟨(Nat.zero_le _),(fun j hj=>absurd hj (Nat.not_lt_zero _))⟩ (fun _ _ hG=>Yc [] (bm 9 403) rfl rfl hG) ?_
 rintro k ⟨hk,hb⟩
 show T _ _ ⟨[slV tl nl (kC sl_) l,Z1q,aa,aa,vI 0,aa,aa,(Z1r l),vI ((k:Nat):Int)],[]⟩ _ _
 replace hk:k≤l.length:=hk
 replace hb:∀ j,j<k→(l.getD j zC).Yg.length≤7:=hb
 refine sR [] (T.seq ?_)
 by_cases hq1:((k:Nat):Int)<((l.length:Nat):Int)
 ·refine cT (dT hq1) (T.skip (nT (T.seq (T.block (sR [] (sR [hR 3 rfl rfl (Wc tl nl (kC sl_) l k (k:=.i64) (i:=((k:Nat):Int)) Try.underlying40 I3 rfl rfl (by omega) (X8 rfl) trivial),hR 5 rfl rfl (X4x (fs:=#[]) (cs:=#[]) (Xcp sl_ (l.getD k zC) ) Try.func86 rfl (by decide) [] [] (l:=[(.tmp 15,.tv (.agg [dI (l.getD k zC).V4.X4,.d (dsl sl_ false kU8 (l.getD k zC).V4.X9),.d (dsl sl_ false (kE sl_) (l.getD k zC).Yg)]))]) [] rfl 0 0 rfl rfl rfl rfl rfl rfl rfl rfl rfl rfl rfl ⟨⟨.inl ⟨rfl,rfl⟩,⟨.inl ⟨rfl,rfl⟩,⟨.inl ⟨rfl,rfl⟩,trivial⟩⟩⟩,trivial⟩ rfl (fun b hb=>by cases hb) (.inl rfl) (X8 rfl) trivial)] ?_))))))
  by_cases hq2:(((l.getD k zC).Yg.length:Nat):Int)>7
  ·refine cT (dT hq2) (sR [] (T.ret (rB (rT (rT (rB (rT ?_)))))))
   exact eRt 4 (.one (dI ((k:Nat):Int))) [] (cI (by exact idx_at hb (by omega) (by omega))) trivial
  refine cF (dF hq2) (T.skip (nB (nT (xK [hR 0 rfl rfl (Y9 (u1:=.int .i64 ((k:Nat):Int)) (u2:=.int .i64 1) (v:=.int .i64 ((k+1:Nat):Int)) (W6 pZ5) (X8 rfl) ⟨rfl,trivial⟩)] ?_))))
  refine nL (k+1) ⟨(show (k+1)≤l.length from (by omega)),(show ∀ j,j<(k+1)→(l.getD j zC).Yg.length≤7 from (Jy hb (by omega)))⟩ (show (l.length-(k+1):Nat)<l.length-k from (by omega)) (fun _ _ hG=>Yc [] (bm 9 403) rfl rfl hG)
 refine cF (dF hq1) (T.exit (xT (xT (xH (nT (sR [] (T.ret ?_)))))))
 exact eRt 4 (.one (dI (-1))) [] (cI (by exact idx_no hb (by omega))) trivial
theorem Iz (tl:Bool) (nl:Bool) (sl_:Bool) (l:List aC) (hl:l.length≤9223372036854775807):Holds Try.prog 85 ⟨[slV tl nl (kC sl_) l,dv (.func (.func 86) #[] #[])],[],vB (decide (¬X03 l)),[]⟩:=by
 refine Holds.of Try.func85 rfl (N:=9) Try.ntmps85 rfl fun w0 B0 S0 U0=>?_
 show T _ (Xz 9 0 w0 S0 U0 B0) ⟨[slV tl nl (kC sl_) l,dv (.func (.func 86) #[] #[])],[]⟩ _ _
 refine sR [] (sR [hR 2 rfl rfl (rCa (idx_Cert tl nl sl_ l ‹_›) Try.func93 [] [(.tmp 5,slV tl nl (kC sl_) l),(.tmp 6,dv (.func (.func 86) #[] #[]))] 0 0)] (T.ret ?_))
 exact eRt 4 (.one (dB (decide ((idxV l)≥0)))) [] (by have e1:((decide (¬X03 l)):Bool)=(decide ((idxV l)≥0)):=(by (rw [decide_eq_decide];exact (idx_few _).symm));have hE:=cB e1;exact hE) trivial
theorem iat_38:Try.prog.info? 38=some Try.t38:=by kernel_rfl
theorem Xdc:Wide Try.prog 38 (some 2):=⟨_,_,Try.underlying38,.inl ⟨_,rfl⟩,iat_38,rfl⟩
theorem Ui:SEq Try.prog 38 (fun x:Xd=>.agg #[.int .i64 x.Xs,.int .i64 x.Xo]):=seq_of (g:=fun x:Xd=>#[.int .i64 x.Xs,.int .i64 x.Xo]) (bs':=fun a b=>[decide (a.Xs=b.Xs),decide (a.Xo=b.Xo)]) Try.underlying38 pZ4 pZ4 (fun a b=>⟨by decide,⟨_,_,rfl,rfl,.int Try.underlying36⟩,⟨by decide,⟨_,_,rfl,rfl,.int Try.underlying3⟩,trivial⟩⟩) (fun a b=>by rw [Bool.eq_iff_iff];simp [X0e])
section
variable (tm:Bool) (m:aM)
abbrev Z1s:AV:=.tv (.agg [dI (Y4 m.X3).V3,dI (Y4 m.X3).Wa,dI (Y4 m.X3).Wq,dI (Y4 m.X3).V6])
abbrev Z1t:AV:=vI (Y4 m.X3).Wa
abbrev Z1u:AV:=vI 1099511627776
abbrev Z1v:AV:=vI (Y4 m.X3).Wq
abbrev Z1w:AV:=vI ((m.Xf.length:Nat):Int)
abbrev Z1x:AV:=vI (Y4 m.X3).V6
abbrev Z1y:AV:=vI ((m.Xc.length:Nat):Int)
abbrev Z1z:AV:=vI ((m.Xk.length:Nat):Int)
abbrev Z20:AV:=slV tm false (kC tm) m.X7
abbrev Z21:AV:=dv (.func (.func 86) #[] #[])
abbrev Z22:TV:=.one (dI 120)
abbrev Z23:TV:=.one (dI 0)
abbrev Z24:AV:=vB (decide (((m.X7.length:Nat):Int)=1))
end
theorem X8i (tm:Bool) (m:aM) (hq:m.Xf.length≤9223372036854775807) (hr:m.Xr.length≤9223372036854775807) (hc:m.X7.length≤9223372036854775807) (hd:m.Xk.length≤9223372036854775807) (hg:m.Xc.length≤9223372036854775807):Holds Try.prog 66 ⟨[.tv (.agg [dI m.X3,dI m.Xt,dI m.Xy,dI m.Xb,dI m.Xv,dS m.Xc,.d (dsl tm false kU8 m.Xk),dI m.X1.Xs,dI m.X1.Xo,.d (dsl tm false (kE tm) m.Xf),.d (dsl tm false (kE tm) m.Xr),.d (dsl tm false (kC tm) m.X7)])],[],vI (X20 m),[]⟩:=by
 refine Holds.of Try.func66 rfl (N:=129) Try.ntmps66 rfl fun w0 B0 S0 U0=>?_
 show T _ (Xz 129 0 w0 S0 U0 B0) ⟨[.tv (.agg [dI m.X3,dI m.Xt,dI m.Xy,dI m.Xb,dI m.Xv,dS m.Xc,.d (dsl tm false kU8 m.Xk),dI m.X1.Xs,dI m.X1.Xo,.d (dsl tm false (kE tm) m.Xf),.d (dsl tm false (kE tm) m.Xr),.d (dsl tm false (kC tm) m.X7)])],[]⟩ _ _
 refine sR [] (sR [hR 2 rfl rfl (rCa (Eu m.X3 ) Try.func67 [] [(.tmp 7,vI m.X3)] 0 0)] ?_)
 by_cases hq1:okK m.X3
 rotate_left
 ·refine sR (Xl (hN · true (dF hq1)) [2,3,4,5,6,7] (hP 8 (dF hq1)::(Xl hN1 [10,11,12,13,14,15] (hP0 16::(Xl hN1 [18,19,20,21] (hP0 22::(Xl hN1 [24,25,26,27] (hP0 28::[])))))))) (sR (Xl hN1 [2,3,4,5,6,7,8] (hP0 9::(Xl hN1 [11,12,13,14,15] (hP0 16::(Xl hN1 [18,19,20,21,22] (hP0 23::[])))))) (sR (Xl hN1 [2,3,4,5,6,7,8,9] (hP0 10::(Xl hN1 [12,13,14,15,16,17,18,19] (hP0 20::(Xl hN1 [22,23,24,25,26] (hU 27::(hU 28::(hU 29::(hU 30::(hN1 31::(hP0 32::[]))))))))))) (sR (Xl hN1 [2,3,4,5] (hU 6::(hU 7::(hU 8::(hU 9::(hN1 10::(hP0 11::[]))))))) (sR (Xl hN1 [2,3,4,5] (hU 6::(hU 7::(hU 8::(hU 9::(hN1 10::(hP0 11::(Xl hN1 [13,14,15,16] (hP0 17::[]))))))))) (T.seq (sR [] (cT (b:=(!false)) rfl (sR [] (T.ret (rT ?_))))))))))
  exact eRt 2 (Z22) [] (cI (by exact if_neg (fun h9=>by exact absurd h9.1 ‹_›))) trivial
 by_cases hq2:inM (Y4 m.X3) 1 m.Xt (Y4 m.X3).Wa 1099511627776
 rotate_left
 ·refine sR (Xl (hY · (dT hq1)) [2,3,4,5,6] (hS 7 (oY rfl rfl rfl rfl (X8 rfl) (dT hq1) (rCa (U5 (Y4 m.X3) 1 m.Xt (Y4 m.X3).Wa 1099511627776 ) Try.func84 [] [(.tmp 13,(Z1s m)),(.const (.int .i64 1),vI 1),(.tmp 15,vI m.Xt),(.tmp 17,(Z1t m)),(.const (.int .i64 1099511627776),Z1u)] 0 0))::(hP 8 (dT hq1)::(Xl (hN · true (dF hq2)) [10,11,12,13,14,15] (hP 16 (dF hq2)::(Xl hN1 [18,19,20,21] (hP0 22::(Xl hN1 [24,25,26,27] (hP0 28::[]))))))))) (sR (Xl hN1 [2,3,4,5,6,7,8] (hP0 9::(Xl hN1 [11,12,13,14,15] (hP0 16::(Xl hN1 [18,19,20,21,22] (hP0 23::[])))))) (sR (Xl hN1 [2,3,4,5,6,7,8,9] (hP0 10::(Xl hN1 [12,13,14,15,16,17,18,19] (hP0 20::(Xl hN1 [22,23,24,25,26] (hU 27::(hU 28::(hU 29::(hU 30::(hN1 31::(hP0 32::[]))))))))))) ?_))
  refine sR (Xl hN1 [2,3,4,5] (hU 6::(hU 7::(hU 8::(hU 9::(hN1 10::(hP0 11::[]))))))) (sR (Xl hN1 [2,3,4,5] (hU 6::(hU 7::(hU 8::(hU 9::(hN1 10::(hP0 11::(Xl hN1 [13,14,15,16] (hP0 17::[]))))))))) (T.seq (sR [] (cT (b:=(!false)) rfl (sR [] (T.ret (rT ?_)))))))
  exact eRt 2 (Z22) [] (cI (by exact if_neg (fun h9=>by exact absurd h9.2.1 ‹_›))) trivial
 by_cases hq3:inM (Y4 m.X3) 2 m.Xy (Y4 m.X3).Wq 1099511627776
 rotate_left
 ·refine sR (Xl (hY · (dT hq1)) [2,3,4,5,6] (hS 7 (oY rfl rfl rfl rfl (X8 rfl) (dT hq1) (rCa (U5 (Y4 m.X3) 1 m.Xt (Y4 m.X3).Wa 1099511627776 ) Try.func84 [] [(.tmp 13,(Z1s m)),(.const (.int .i64 1),vI 1),(.tmp 15,vI m.Xt),(.tmp 17,(Z1t m)),(.const (.int .i64 1099511627776),Z1u)] 0 0))::(hP 8 (dT hq1)::(Xl (hY · (dT hq2)) [10,11,12,13,14] (hS 15 (oY rfl rfl rfl rfl (X8 rfl) (dT hq2) (rCa (U5 (Y4 m.X3) 2 m.Xy (Y4 m.X3).Wq 1099511627776 ) Try.func84 [] [(.tmp 21,(Z1s m)),(.const (.int .i64 2),vI 2),(.tmp 23,vI m.Xy),(.tmp 25,(Z1v m)),(.const (.int .i64 1099511627776),Z1u)] 0 0))::(hP 16 (dT hq2)::(Xl (hN · true (dF hq3)) [18,19,20,21] (hP 22 (dF hq3)::(Xl hN1 [24,25,26,27] (hP0 28::[])))))))))) ?_
  refine sR (Xl hN1 [2,3,4,5,6,7,8] (hP0 9::(Xl hN1 [11,12,13,14,15] (hP0 16::(Xl hN1 [18,19,20,21,22] (hP0 23::[])))))) (sR (Xl hN1 [2,3,4,5,6,7,8,9] (hP0 10::(Xl hN1 [12,13,14,15,16,17,18,19] (hP0 20::(Xl hN1 [22,23,24,25,26] (hU 27::(hU 28::(hU 29::(hU 30::(hN1 31::(hP0 32::[]))))))))))) (sR (Xl hN1 [2,3,4,5] (hU 6::(hU 7::(hU 8::(hU 9::(hN1 10::(hP0 11::[]))))))) (sR (Xl hN1 [2,3,4,5] (hU 6::(hU 7::(hU 8::(hU 9::(hN1 10::(hP0 11::(Xl hN1 [13,14,15,16] (hP0 17::[]))))))))) (T.seq (sR [] (cT (b:=(!false)) rfl (sR [] (T.ret (rT ?_)))))))))
  exact eRt 2 (Z22) [] (cI (by exact if_neg (fun h9=>by exact absurd h9.2.2.1 ‹_›))) trivial
 by_cases hq4:inM (Y4 m.X3) 4 m.Xb 0 1099511627776
 rotate_left
 ·refine sR (Xl (hY · (dT hq1)) [2,3,4,5,6] (hS 7 (oY rfl rfl rfl rfl (X8 rfl) (dT hq1) (rCa (U5 (Y4 m.X3) 1 m.Xt (Y4 m.X3).Wa 1099511627776 ) Try.func84 [] [(.tmp 13,(Z1s m)),(.const (.int .i64 1),vI 1),(.tmp 15,vI m.Xt),(.tmp 17,(Z1t m)),(.const (.int .i64 1099511627776),Z1u)] 0 0))::(hP 8 (dT hq1)::(Xl (hY · (dT hq2)) [10,11,12,13,14] (hS 15 (oY rfl rfl rfl rfl (X8 rfl) (dT hq2) (rCa (U5 (Y4 m.X3) 2 m.Xy (Y4 m.X3).Wq 1099511627776 ) Try.func84 [] [(.tmp 21,(Z1s m)),(.const (.int .i64 2),vI 2),(.tmp 23,vI m.Xy),(.tmp 25,(Z1v m)),(.const (.int .i64 1099511627776),Z1u)] 0 0))::(hP 16 (dT hq2)::(Xl (hY · (dT hq3)) [18,19,20] (hS 21 (oY rfl rfl rfl rfl (X8 rfl) (dT hq3) (rCa (U5 (Y4 m.X3) 4 m.Xb 0 1099511627776 ) Try.func84 [] [(.tmp 29,(Z1s m)),(.const (.int .i64 4),vI 4),(.tmp 31,vI m.Xb),(.const (.int .i64 0),vI 0),(.const (.int .i64 1099511627776),Z1u)] 0 0))::(hP 22 (dT hq3)::(Xl (hN · true (dF hq4)) [24,25,26,27] (hP 28 (dF hq4)::[]))))))))))) ?_
  refine sR (Xl hN1 [2,3,4,5,6,7,8] (hP0 9::(Xl hN1 [11,12,13,14,15] (hP0 16::(Xl hN1 [18,19,20,21,22] (hP0 23::[])))))) (sR (Xl hN1 [2,3,4,5,6,7,8,9] (hP0 10::(Xl hN1 [12,13,14,15,16,17,18,19] (hP0 20::(Xl hN1 [22,23,24,25,26] (hU 27::(hU 28::(hU 29::(hU 30::(hN1 31::(hP0 32::[]))))))))))) (sR (Xl hN1 [2,3,4,5] (hU 6::(hU 7::(hU 8::(hU 9::(hN1 10::(hP0 11::[]))))))) (sR (Xl hN1 [2,3,4,5] (hU 6::(hU 7::(hU 8::(hU 9::(hN1 10::(hP0 11::(Xl hN1 [13,14,15,16] (hP0 17::[]))))))))) (T.seq (sR [] (cT (b:=(!false)) rfl (sR [] (T.ret (rT ?_)))))))))
  exact eRt 2 (Z22) [] (cI (by exact if_neg (fun h9=>by exact absurd h9.2.2.2.1 ‹_›))) trivial
 refine sR (Xl (hY · (dT hq1)) [2,3,4,5,6] (hS 7 (oY rfl rfl rfl rfl (X8 rfl) (dT hq1) (rCa (U5 (Y4 m.X3) 1 m.Xt (Y4 m.X3).Wa 1099511627776 ) Try.func84 [] [(.tmp 13,(Z1s m)),(.const (.int .i64 1),vI 1),(.tmp 15,vI m.Xt),(.tmp 17,(Z1t m)),(.const (.int .i64 1099511627776),Z1u)] 0 0))::(hP 8 (dT hq1)::(Xl (hY · (dT hq2)) [10,11,12,13,14] (hS 15 (oY rfl rfl rfl rfl (X8 rfl) (dT hq2) (rCa (U5 (Y4 m.X3) 2 m.Xy (Y4 m.X3).Wq 1099511627776 ) Try.func84 [] [(.tmp 21,(Z1s m)),(.const (.int .i64 2),vI 2),(.tmp 23,vI m.Xy),(.tmp 25,(Z1v m)),(.const (.int .i64 1099511627776),Z1u)] 0 0))::(hP 16 (dT hq2)::(Xl (hY · (dT hq3)) [18,19,20] (hS 21 (oY rfl rfl rfl rfl (X8 rfl) (dT hq3) (rCa (U5 (Y4 m.X3) 4 m.Xb 0 1099511627776 ) Try.func84 [] [(.tmp 29,(Z1s m)),(.const (.int .i64 4),vI 4),(.tmp 31,vI m.Xb),(.const (.int .i64 0),vI 0),(.const (.int .i64 1099511627776),Z1u)] 0 0))::(hP 22 (dT hq3)::(Xl (hY · (dT hq4)) [24,25,26] (hS 27 (oY rfl rfl rfl rfl (X8 rfl) (dT hq4) (rCa (U5 (Y4 m.X3) 4 m.Xv 1 1099511627776 ) Try.func84 [] [(.tmp 35,(Z1s m)),(.const (.int .i64 4),vI 4),(.tmp 37,vI m.Xv),(.const (.int .i64 1),vI 1),(.const (.int .i64 1099511627776),Z1u)] 0 0))::(hP 28 (dT hq4)::[])))))))))))) ?_
 by_cases hq5:inM (Y4 m.X3) 4 m.Xv 1 1099511627776
 rotate_left
 ·refine sR (Xl (hN · true (dF hq5)) [2,3,4,5,6,7,8] (hP 9 (dF hq5)::(Xl hN1 [11,12,13,14,15] (hP0 16::(Xl hN1 [18,19,20,21,22] (hP0 23::[])))))) (sR (Xl hN1 [2,3,4,5,6,7,8,9] (hP0 10::(Xl hN1 [12,13,14,15,16,17,18,19] (hP0 20::(Xl hN1 [22,23,24,25,26] (hU 27::(hU 28::(hU 29::(hU 30::(hN1 31::(hP0 32::[]))))))))))) (sR (Xl hN1 [2,3,4,5] (hU 6::(hU 7::(hU 8::(hU 9::(hN1 10::(hP0 11::[]))))))) (sR (Xl hN1 [2,3,4,5] (hU 6::(hU 7::(hU 8::(hU 9::(hN1 10::(hP0 11::(Xl hN1 [13,14,15,16] (hP0 17::[]))))))))) (T.seq (sR [] (cT (b:=(!false)) rfl (sR [] (T.ret (rT ?_)))))))))
  exact eRt 2 (Z22) [] (cI (by exact if_neg (fun h9=>by exact absurd h9.2.2.2.2.1 ‹_›))) trivial
 by_cases hq6:inM (Y4 m.X3) 64 ((m.Xf.length:Nat):Int) 0 (Y4 m.X3).V6
 rotate_left
 ·refine sR (Xl (hY · (dT hq5)) [2,3,4,5,6,7] (hS 8 (oY rfl rfl rfl rfl (X8 rfl) (dT hq5) (rCa (U5 (Y4 m.X3) 64 ((m.Xf.length:Nat):Int) 0 (Y4 m.X3).V6 ) Try.func84 [] [(.tmp 42,(Z1s m)),(.const (.int .i64 64),vI 64),(.tmp 45,(Z1w m)),(.const (.int .i64 0),vI 0),(.tmp 47,(Z1x m))] 0 0))::(hP 9 (dT hq5)::(Xl (hN · true (dF hq6)) [11,12,13,14,15] (hP 16 (dF hq6)::(Xl hN1 [18,19,20,21,22] (hP0 23::[]))))))) (sR (Xl hN1 [2,3,4,5,6,7,8,9] (hP0 10::(Xl hN1 [12,13,14,15,16,17,18,19] (hP0 20::(Xl hN1 [22,23,24,25,26] (hU 27::(hU 28::(hU 29::(hU 30::(hN1 31::(hP0 32::[]))))))))))) (sR (Xl hN1 [2,3,4,5] (hU 6::(hU 7::(hU 8::(hU 9::(hN1 10::(hP0 11::[]))))))) ?_))
  refine sR (Xl hN1 [2,3,4,5] (hU 6::(hU 7::(hU 8::(hU 9::(hN1 10::(hP0 11::(Xl hN1 [13,14,15,16] (hP0 17::[]))))))))) (T.seq (sR [] (cT (b:=(!false)) rfl (sR [] (T.ret (rT ?_))))))
  exact eRt 2 (Z22) [] (cI (by exact if_neg (fun h9=>by exact absurd h9.2.2.2.2.2.1 ‹_›))) trivial
 by_cases hq7:inM (Y4 m.X3) 128 ((m.Xr.length:Nat):Int) 0 8
 rotate_left
 ·refine sR (Xl (hY · (dT hq5)) [2,3,4,5,6,7] (hS 8 (oY rfl rfl rfl rfl (X8 rfl) (dT hq5) (rCa (U5 (Y4 m.X3) 64 ((m.Xf.length:Nat):Int) 0 (Y4 m.X3).V6 ) Try.func84 [] [(.tmp 42,(Z1s m)),(.const (.int .i64 64),vI 64),(.tmp 45,(Z1w m)),(.const (.int .i64 0),vI 0),(.tmp 47,(Z1x m))] 0 0))::(hP 9 (dT hq5)::(Xl (hY · (dT hq6)) [11,12,13,14] (hS 15 (oY rfl rfl rfl rfl (X8 rfl) (dT hq6) (rCa (U5 (Y4 m.X3) 128 ((m.Xr.length:Nat):Int) 0 8 ) Try.func84 [] [(.tmp 51,(Z1s m)),(.const (.int .i64 128),vI 128),(.tmp 54,vI ((m.Xr.length:Nat):Int)),(.const (.int .i64 0),vI 0),(.const (.int .i64 8),vI 8)] 0 0))::(hP 16 (dT hq6)::(Xl (hN · true (dF hq7)) [18,19,20,21,22] (hP 23 (dF hq7)::[])))))))) ?_
  refine sR (Xl hN1 [2,3,4,5,6,7,8,9] (hP0 10::(Xl hN1 [12,13,14,15,16,17,18,19] (hP0 20::(Xl hN1 [22,23,24,25,26] (hU 27::(hU 28::(hU 29::(hU 30::(hN1 31::(hP0 32::[]))))))))))) (sR (Xl hN1 [2,3,4,5] (hU 6::(hU 7::(hU 8::(hU 9::(hN1 10::(hP0 11::[]))))))) (sR (Xl hN1 [2,3,4,5] (hU 6::(hU 7::(hU 8::(hU 9::(hN1 10::(hP0 11::(Xl hN1 [13,14,15,16] (hP0 17::[]))))))))) (T.seq (sR [] (cT (b:=(!false)) rfl (sR [] (T.ret (rT ?_))))))))
  exact eRt 2 (Z22) [] (cI (by exact if_neg (fun h9=>by exact absurd h9.2.2.2.2.2.2.1 ‹_›))) trivial
 refine sR (Xl (hY · (dT hq5)) [2,3,4,5,6,7] (hS 8 (oY rfl rfl rfl rfl (X8 rfl) (dT hq5) (rCa (U5 (Y4 m.X3) 64 ((m.Xf.length:Nat):Int) 0 (Y4 m.X3).V6 ) Try.func84 [] [(.tmp 42,(Z1s m)),(.const (.int .i64 64),vI 64),(.tmp 45,(Z1w m)),(.const (.int .i64 0),vI 0),(.tmp 47,(Z1x m))] 0 0))::(hP 9 (dT hq5)::(Xl (hY · (dT hq6)) [11,12,13,14] (hS 15 (oY rfl rfl rfl rfl (X8 rfl) (dT hq6) (rCa (U5 (Y4 m.X3) 128 ((m.Xr.length:Nat):Int) 0 8 ) Try.func84 [] [(.tmp 51,(Z1s m)),(.const (.int .i64 128),vI 128),(.tmp 54,vI ((m.Xr.length:Nat):Int)),(.const (.int .i64 0),vI 0),(.const (.int .i64 8),vI 8)] 0 0))::(hP 16 (dT hq6)::(Xl (hY · (dT hq7)) [18,19,20,21] (hS 22 (oY rfl rfl rfl rfl (X8 rfl) (dT hq7) (rCa (U5 (Y4 m.X3) 256 ((m.X7.length:Nat):Int) 0 8 ) Try.func84 [] [(.tmp 58,(Z1s m)),(.const (.int .i64 256),vI 256),(.tmp 61,vI ((m.X7.length:Nat):Int)),(.const (.int .i64 0),vI 0),(.const (.int .i64 8),vI 8)] 0 0))::(hP 23 (dT hq7)::[]))))))))) ?_
 by_cases hq8:inM (Y4 m.X3) 256 ((m.X7.length:Nat):Int) 0 8
 rotate_left
 ·refine sR (Xl (hN · true (dF hq8)) [2,3,4,5,6,7,8,9] (hP 10 (dF hq8)::(Xl hN1 [12,13,14,15,16,17,18,19] (hP0 20::(Xl hN1 [22,23,24,25,26] (hU 27::(hU 28::(hU 29::(hU 30::(hN1 31::(hP0 32::[]))))))))))) (sR (Xl hN1 [2,3,4,5] (hU 6::(hU 7::(hU 8::(hU 9::(hN1 10::(hP0 11::[]))))))) (sR (Xl hN1 [2,3,4,5] (hU 6::(hU 7::(hU 8::(hU 9::(hN1 10::(hP0 11::(Xl hN1 [13,14,15,16] (hP0 17::[]))))))))) (T.seq (sR [] (cT (b:=(!false)) rfl (sR [] (T.ret (rT ?_))))))))
  exact eRt 2 (Z22) [] (cI (by exact if_neg (fun h9=>by exact absurd h9.2.2.2.2.2.2.2.1 ‹_›))) trivial
 by_cases hq9:inM (Y4 m.X3) 8 ((m.Xc.length:Nat):Int) 0 ((m.Xc.length:Nat):Int)
 rotate_left
 ·refine sR (Xl (hY · (dT hq8)) [2,3,4,5,6,7,8] (hS 9 (oY rfl rfl rfl rfl (X8 rfl) (dT hq8) (rCa (U5 (Y4 m.X3) 8 ((m.Xc.length:Nat):Int) 0 ((m.Xc.length:Nat):Int) ) Try.func84 [] [(.tmp 66,(Z1s m)),(.const (.int .i64 8),vI 8),(.tmp 69,(Z1y m)),(.const (.int .i64 0),vI 0),(.tmp 72,(Z1y m))] 0 0))::(hP 10 (dT hq8)::(Xl (hN · true (dF hq9)) [12,13,14,15,16,17,18,19] (hP 20 (dF hq9)::(Xl hN1 [22,23,24,25,26] (hU 27::(hU 28::(hU 29::(hU 30::(hN1 31::(hP0 32::[])))))))))))) (sR (Xl hN1 [2,3,4,5] (hU 6::(hU 7::(hU 8::(hU 9::(hN1 10::(hP0 11::[]))))))) (sR (Xl hN1 [2,3,4,5] (hU 6::(hU 7::(hU 8::(hU 9::(hN1 10::(hP0 11::(Xl hN1 [13,14,15,16] (hP0 17::[]))))))))) (T.seq (sR [] (cT (b:=(!false)) rfl (sR [] (T.ret (rT ?_))))))))
  exact eRt 2 (Z22) [] (cI (by exact if_neg (fun h9=>by exact absurd h9.2.2.2.2.2.2.2.2.1 ‹_›))) trivial
 by_cases hq10:inM (Y4 m.X3) 16 ((m.Xk.length:Nat):Int) 0 ((m.Xk.length:Nat):Int)
 rotate_left
 ·refine sR (Xl (hY · (dT hq8)) [2,3,4,5,6,7,8] (hS 9 (oY rfl rfl rfl rfl (X8 rfl) (dT hq8) (rCa (U5 (Y4 m.X3) 8 ((m.Xc.length:Nat):Int) 0 ((m.Xc.length:Nat):Int) ) Try.func84 [] [(.tmp 66,(Z1s m)),(.const (.int .i64 8),vI 8),(.tmp 69,(Z1y m)),(.const (.int .i64 0),vI 0),(.tmp 72,(Z1y m))] 0 0))::(hP 10 (dT hq8)::(Xl (hY · (dT hq9)) [12,13,14,15,16,17,18] (hS 19 (oY rfl rfl rfl rfl (X8 rfl) (dT hq9) (rCa (U5 (Y4 m.X3) 16 ((m.Xk.length:Nat):Int) 0 ((m.Xk.length:Nat):Int) ) Try.func84 [] [(.tmp 76,(Z1s m)),(.const (.int .i64 16),vI 16),(.tmp 79,(Z1z m)),(.const (.int .i64 0),vI 0),(.tmp 82,(Z1z m))] 0 0))::(hP 20 (dT hq9)::(Xl (hN · true (dF hq10)) [22,23,24,25,26] (hU 27::(hU 28::(hU 29::(hU 30::(hN 31 true (dF hq10)::(hP 32 (dF hq10)::[]))))))))))))) ?_
  refine sR (Xl hN1 [2,3,4,5] (hU 6::(hU 7::(hU 8::(hU 9::(hN1 10::(hP0 11::[]))))))) (sR (Xl hN1 [2,3,4,5] (hU 6::(hU 7::(hU 8::(hU 9::(hN1 10::(hP0 11::(Xl hN1 [13,14,15,16] (hP0 17::[]))))))))) (T.seq (sR [] (cT (b:=(!false)) rfl (sR [] (T.ret (rT ?_)))))))
  exact eRt 2 (Z22) [] (cI (by exact if_neg (fun h9=>by exact absurd h9.2.2.2.2.2.2.2.2.2.1 ‹_›))) trivial
 by_cases hq11:(J2 (Y4 m.X3).V3 32)≠0
 ·refine sR (Xl (hY · (dT hq8)) [2,3,4,5,6,7,8] (hS 9 (oY rfl rfl rfl rfl (X8 rfl) (dT hq8) (rCa (U5 (Y4 m.X3) 8 ((m.Xc.length:Nat):Int) 0 ((m.Xc.length:Nat):Int) ) Try.func84 [] [(.tmp 66,(Z1s m)),(.const (.int .i64 8),vI 8),(.tmp 69,(Z1y m)),(.const (.int .i64 0),vI 0),(.tmp 72,(Z1y m))] 0 0))::(hP 10 (dT hq8)::(Xl (hY · (dT hq9)) [12,13,14,15,16,17,18] (hS 19 (oY rfl rfl rfl rfl (X8 rfl) (dT hq9) (rCa (U5 (Y4 m.X3) 16 ((m.Xk.length:Nat):Int) 0 ((m.Xk.length:Nat):Int) ) Try.func84 [] [(.tmp 76,(Z1s m)),(.const (.int .i64 16),vI 16),(.tmp 79,(Z1z m)),(.const (.int .i64 0),vI 0),(.tmp 82,(Z1z m))] 0 0))::(hP 20 (dT hq9)::(hY 22 (dT hq10)::(hY 23 (dT hq10)::(hS 24 (oY rfl rfl rfl rfl (X8 rfl) (dT hq10) (Y9 (u1:=.int .i64 (Y4 m.X3).V3) (u2:=.int .i64 32) (v:=.int .i64 (J2 (Y4 m.X3).V3 32)) (X75 rfl) (X8 rfl) ⟨rfl,trivial⟩))::(hY 25 (dT hq10)::(hY 26 (dT hq10)::(Xl (hN · false (dT hq11)) [27,28,29,30] (hS 31 (oY rfl rfl rfl rfl (X8 rfl) (dT hq10) (Yq (b:=(decide ((J2 (Y4 m.X3).V3 32)≠0))) (av:=vB true) (X8 rfl) ⟨rfl,trivial⟩ (dT hq11)))::(hP 32 (dT hq10)::[])))))))))))))) ?_
  by_cases hq12:m.X3≠1
  ·refine sR (Xl hY1 [2,3,4,5] (Xl (hN · false (dT hq12)) [6,7,8,9] (hS 10 (oY (b:=true) rfl rfl rfl rfl (X8 rfl) rfl (Yq (b:=(decide (m.X3≠1))) (av:=vB true) (X8 rfl) ⟨rfl,trivial⟩ (dT hq12)))::(hP1 11::[])))) ?_
   by_cases hq13:m.X3≠10
   ·refine sR (Xl hY1 [2,3,4,5] (Xl (hN · false (dT hq13)) [6,7,8,9] (hS 10 (oY (b:=true) rfl rfl rfl rfl (X8 rfl) rfl (Yq (b:=(decide (m.X3≠10))) (av:=vB true) (X8 rfl) ⟨rfl,trivial⟩ (dT hq13)))::(hP1 11::(hY1 13::(hY1 14::(hS 15 (oY (b:=true) rfl rfl rfl rfl (X8 rfl) rfl (rCa (Iz tm false tm m.X7 ‹_›) Try.func85 [] [(.tmp 123,(Z20 tm m)),(.func 86,Z21)] 0 0))::(hY1 16::(hP1 17::[]))))))))) (T.seq (sR [] ?_))
    by_cases hq14:¬X03 m.X7
    ·refine cT (cn (cn (dT hq14))) (sR [] (T.ret (rT ?_)))
     exact eRt 2 (Z22) [] pZ16 trivial
    refine cF (cn (cn (dF hq14))) (T.skip (nT (sR [] (T.ret ?_))))
    exact eRt 2 (Z23) [] (cI (by exact if_pos ⟨‹_›,‹_›,‹_›,‹_›,‹_›,‹_›,‹_›,‹_›,‹_›,‹_›,p2n,p2n,p2n,pZ21⟩)) trivial
   by_cases hq15:((m.X7.length:Nat):Int)=1
   ·refine sR (Xl hY1 [2,3,4,5] (Xl (hY · (dF hq13)) [6,7,8,9] (hS 10 (oY (b:=true) rfl rfl rfl rfl (X8 rfl) rfl (Yz (b:=(decide (m.X3≠10))) (av:=(Z24 m)) (X8 rfl) trivial (dF hq13)))::(hP1 11::(hY 13 (dT hq15)::(hY 14 (dT hq15)::(hS 15 (oY rfl rfl rfl rfl (X8 rfl) (dT hq15) (rCa (Iz tm false tm m.X7 ‹_›) Try.func85 [] [(.tmp 123,(Z20 tm m)),(.func 86,Z21)] 0 0))::(hY 16 (dT hq15)::(hP 17 (dT hq15)::[]))))))))) (T.seq (sR [] ?_))
    by_cases hq16:¬X03 m.X7
    ·refine cT (cn (cn (dT hq16))) (sR [] (T.ret (rT ?_)))
     exact eRt 2 (Z22) [] pZ16 trivial
    refine cF (cn (cn (dF hq16))) (T.skip (nT (sR [] (T.ret ?_))))
    exact eRt 2 (Z23) [] (cI (by exact if_pos ⟨‹_›,‹_›,‹_›,‹_›,‹_›,‹_›,‹_›,‹_›,‹_›,‹_›,p2n,p2n,p2m,pZ21⟩)) trivial
   refine sR (Xl hY1 [2,3,4,5] (Xl (hY · (dF hq13)) [6,7,8,9] (hS 10 (oY (b:=true) rfl rfl rfl rfl (X8 rfl) rfl (Yz (b:=(decide (m.X3≠10))) (av:=(Z24 m)) (X8 rfl) trivial (dF hq13)))::(hP1 11::(Xl (hN · true (dF hq15)) [13,14,15,16] (hP 17 (dF hq15)::[])))))) (T.seq (sR [] (cT (b:=(!false)) rfl (sR [] (T.ret (rT ?_))))))
   exact eRt 2 (Z22) [] p1v trivial
  refine sR (Xl hY1 [2,3,4,5] (Xl (hY · (dF hq12)) [6,7,8,9] (hS 10 (oY (b:=true) rfl rfl rfl rfl (X8 rfl) rfl (Yz (b:=(decide (m.X3≠1))) (av:=vB (decide (((m.Xk.length:Nat):Int)≤4096))) (X8 rfl) trivial (dF hq12)))::(hP1 11::[])))) ?_
  by_cases hq17:((m.Xk.length:Nat):Int)≤4096
  rotate_left
  ·refine sR (Xl (hN · true (dF hq17)) [2,3,4,5] (hU 6::(hU 7::(hU 8::(hU 9::(hN 10 true (dF hq17)::(hP 11 (dF hq17)::(Xl hN1 [13,14,15,16] (hP0 17::[]))))))))) (T.seq (sR [] (cT (b:=(!false)) rfl (sR [] (T.ret (rT ?_))))))
   exact eRt 2 (Z22) [] p3l trivial
  by_cases hq18:m.X3≠10
  ·refine sR (Xl (hY · (dT hq17)) [2,3,4,5] (Xl (hN · false (dT hq18)) [6,7,8,9] (hS 10 (oY rfl rfl rfl rfl (X8 rfl) (dT hq17) (Yq (b:=(decide (m.X3≠10))) (av:=vB true) (X8 rfl) ⟨rfl,trivial⟩ (dT hq18)))::(hP 11 (dT hq17)::(hY1 13::(hY1 14::(hS 15 (oY (b:=true) rfl rfl rfl rfl (X8 rfl) rfl (rCa (Iz tm false tm m.X7 ‹_›) Try.func85 [] [(.tmp 123,(Z20 tm m)),(.func 86,Z21)] 0 0))::(hY1 16::(hP1 17::[]))))))))) (T.seq (sR [] ?_))
   by_cases hq19:¬X03 m.X7
   ·refine cT (cn (cn (dT hq19))) (sR [] (T.ret (rT ?_)))
    exact eRt 2 (Z22) [] pZ16 trivial
   refine cF (cn (cn (dF hq19))) (T.skip (nT (sR [] (T.ret ?_))))
   exact eRt 2 (Z23) [] (cI (by exact if_pos ⟨‹_›,‹_›,‹_›,‹_›,‹_›,‹_›,‹_›,‹_›,‹_›,‹_›,p2n,p2m,p2n,pZ21⟩)) trivial
  by_cases hq20:((m.X7.length:Nat):Int)=1
  ·refine sR (Xl (hY · (dT hq17)) [2,3,4,5] (Xl (hY · (dF hq18)) [6,7,8,9] (hS 10 (oY rfl rfl rfl rfl (X8 rfl) (dT hq17) (Yz (b:=(decide (m.X3≠10))) (av:=(Z24 m)) (X8 rfl) trivial (dF hq18)))::(hP 11 (dT hq17)::(hY 13 (dT hq20)::(hY 14 (dT hq20)::(hS 15 (oY rfl rfl rfl rfl (X8 rfl) (dT hq20) (rCa (Iz tm false tm m.X7 ‹_›) Try.func85 [] [(.tmp 123,(Z20 tm m)),(.func 86,Z21)] 0 0))::(hY 16 (dT hq20)::(hP 17 (dT hq20)::[]))))))))) (T.seq (sR [] ?_))
   by_cases hq21:¬X03 m.X7
   ·refine cT (cn (cn (dT hq21))) (sR [] (T.ret (rT ?_)))
    exact eRt 2 (Z22) [] pZ16 trivial
   refine cF (cn (cn (dF hq21))) (T.skip (nT (sR [] (T.ret ?_))))
   exact eRt 2 (Z23) [] (cI (by exact if_pos ⟨‹_›,‹_›,‹_›,‹_›,‹_›,‹_›,‹_›,‹_›,‹_›,‹_›,p2n,p2m,p2m,pZ21⟩)) trivial
  refine sR (Xl (hY · (dT hq17)) [2,3,4,5] (Xl (hY · (dF hq18)) [6,7,8,9] (hS 10 (oY rfl rfl rfl rfl (X8 rfl) (dT hq17) (Yz (b:=(decide (m.X3≠10))) (av:=(Z24 m)) (X8 rfl) trivial (dF hq18)))::(hP 11 (dT hq17)::(Xl (hN · true (dF hq20)) [13,14,15,16] (hP 17 (dF hq20)::[])))))) (T.seq (sR [] (cT (b:=(!false)) rfl (sR [] (T.ret (rT ?_))))))
  exact eRt 2 (Z22) [] p1v trivial
 refine sR (Xl (hY · (dT hq8)) [2,3,4,5,6,7,8] (hS 9 (oY rfl rfl rfl rfl (X8 rfl) (dT hq8) (rCa (U5 (Y4 m.X3) 8 ((m.Xc.length:Nat):Int) 0 ((m.Xc.length:Nat):Int) ) Try.func84 [] [(.tmp 66,(Z1s m)),(.const (.int .i64 8),vI 8),(.tmp 69,(Z1y m)),(.const (.int .i64 0),vI 0),(.tmp 72,(Z1y m))] 0 0))::(hP 10 (dT hq8)::(Xl (hY · (dT hq9)) [12,13,14,15,16,17,18] (hS 19 (oY rfl rfl rfl rfl (X8 rfl) (dT hq9) (rCa (U5 (Y4 m.X3) 16 ((m.Xk.length:Nat):Int) 0 ((m.Xk.length:Nat):Int) ) Try.func84 [] [(.tmp 76,(Z1s m)),(.const (.int .i64 16),vI 16),(.tmp 79,(Z1z m)),(.const (.int .i64 0),vI 0),(.tmp 82,(Z1z m))] 0 0))::(hP 20 (dT hq9)::(hY 22 (dT hq10)::(hY 23 (dT hq10)::(hS 24 (oY rfl rfl rfl rfl (X8 rfl) (dT hq10) (Y9 (u1:=.int .i64 (Y4 m.X3).V3) (u2:=.int .i64 32) (v:=.int .i64 (J2 (Y4 m.X3).V3 32)) (X75 rfl) (X8 rfl) ⟨rfl,trivial⟩))::(hY 25 (dT hq10)::(hY 26 (dT hq10)::(Xl (hY · (dF hq11)) [27,28,29] (hS 30 (oY rfl rfl rfl rfl (X8 rfl) (dF hq11) (X6d (ax:=.tv (.agg [dI m.X1.Xs,dI m.X1.Xo])) (ay:=.tv (.agg [dI 0,dI 0])) (a:=m.X1) (b:=(Xd.mk 0 0)) Ui ⟨[.int .i64 m.X1.Xs,.int .i64 m.X1.Xo],rfl,rfl⟩ ⟨[.int .i64 0,.int .i64 0],rfl,rfl⟩ (X8 rfl) p1n))::(hS 31 (oY rfl rfl rfl rfl (X8 rfl) (dT hq10) (Yz (b:=(decide ((J2 (Y4 m.X3).V3 32)≠0))) (av:=vB (decide (m.X1=(Xd.mk 0 0)))) (X8 rfl) trivial (dF hq11)))::(hP 32 (dT hq10)::[]))))))))))))))) ?_
 by_cases hq22:m.X1=(Xd.mk 0 0)
 rotate_left
 ·refine sR (Xl (hN · true (dF hq22)) [2,3,4,5] (hU 6::(hU 7::(hU 8::(hU 9::(hN 10 true (dF hq22)::(hP 11 (dF hq22)::[]))))))) (sR (Xl hN1 [2,3,4,5] (hU 6::(hU 7::(hU 8::(hU 9::(hN1 10::(hP0 11::(Xl hN1 [13,14,15,16] (hP0 17::[]))))))))) (T.seq (sR [] (cT (b:=(!false)) rfl (sR [] (T.ret (rT ?_)))))))
  exact eRt 2 (Z22) [] (cI (by exact if_neg (fun h9=>by (rcases h9.2.2.2.2.2.2.2.2.2.2.1 with h8|h8<;>exact absurd h8 ‹_›)))) trivial
 by_cases hq23:m.X3≠1
 ·refine sR (Xl (hY · (dT hq22)) [2,3,4,5] (Xl (hN · false (dT hq23)) [6,7,8,9] (hS 10 (oY rfl rfl rfl rfl (X8 rfl) (dT hq22) (Yq (b:=(decide (m.X3≠1))) (av:=vB true) (X8 rfl) ⟨rfl,trivial⟩ (dT hq23)))::(hP 11 (dT hq22)::[])))) ?_
  by_cases hq24:m.X3≠10
  ·refine sR (Xl hY1 [2,3,4,5] (Xl (hN · false (dT hq24)) [6,7,8,9] (hS 10 (oY (b:=true) rfl rfl rfl rfl (X8 rfl) rfl (Yq (b:=(decide (m.X3≠10))) (av:=vB true) (X8 rfl) ⟨rfl,trivial⟩ (dT hq24)))::(hP1 11::(hY1 13::(hY1 14::(hS 15 (oY (b:=true) rfl rfl rfl rfl (X8 rfl) rfl (rCa (Iz tm false tm m.X7 ‹_›) Try.func85 [] [(.tmp 123,(Z20 tm m)),(.func 86,Z21)] 0 0))::(hY1 16::(hP1 17::[]))))))))) (T.seq (sR [] ?_))
   by_cases hq25:¬X03 m.X7
   ·refine cT (cn (cn (dT hq25))) (sR [] (T.ret (rT ?_)))
    exact eRt 2 (Z22) [] pZ16 trivial
   refine cF (cn (cn (dF hq25))) (T.skip (nT (sR [] (T.ret ?_))))
   exact eRt 2 (Z23) [] (cI (by exact if_pos ⟨‹_›,‹_›,‹_›,‹_›,‹_›,‹_›,‹_›,‹_›,‹_›,‹_›,p2m,p2n,p2n,pZ21⟩)) trivial
  by_cases hq26:((m.X7.length:Nat):Int)=1
  ·refine sR (Xl hY1 [2,3,4,5] (Xl (hY · (dF hq24)) [6,7,8,9] (hS 10 (oY (b:=true) rfl rfl rfl rfl (X8 rfl) rfl (Yz (b:=(decide (m.X3≠10))) (av:=(Z24 m)) (X8 rfl) trivial (dF hq24)))::(hP1 11::(hY 13 (dT hq26)::(hY 14 (dT hq26)::(hS 15 (oY rfl rfl rfl rfl (X8 rfl) (dT hq26) (rCa (Iz tm false tm m.X7 ‹_›) Try.func85 [] [(.tmp 123,(Z20 tm m)),(.func 86,Z21)] 0 0))::(hY 16 (dT hq26)::(hP 17 (dT hq26)::[]))))))))) (T.seq (sR [] ?_))
   by_cases hq27:¬X03 m.X7
   ·refine cT (cn (cn (dT hq27))) (sR [] (T.ret (rT ?_)))
    exact eRt 2 (Z22) [] pZ16 trivial
   refine cF (cn (cn (dF hq27))) (T.skip (nT (sR [] (T.ret ?_))))
   exact eRt 2 (Z23) [] (cI (by exact if_pos ⟨‹_›,‹_›,‹_›,‹_›,‹_›,‹_›,‹_›,‹_›,‹_›,‹_›,p2m,p2n,p2m,pZ21⟩)) trivial
  refine sR (Xl hY1 [2,3,4,5] (Xl (hY · (dF hq24)) [6,7,8,9] (hS 10 (oY (b:=true) rfl rfl rfl rfl (X8 rfl) rfl (Yz (b:=(decide (m.X3≠10))) (av:=(Z24 m)) (X8 rfl) trivial (dF hq24)))::(hP1 11::(Xl (hN · true (dF hq26)) [13,14,15,16] (hP 17 (dF hq26)::[])))))) (T.seq (sR [] (cT (b:=(!false)) rfl (sR [] (T.ret (rT ?_))))))
  exact eRt 2 (Z22) [] p1v trivial
 refine sR (Xl (hY · (dT hq22)) [2,3,4,5] (Xl (hY · (dF hq23)) [6,7,8,9] (hS 10 (oY rfl rfl rfl rfl (X8 rfl) (dT hq22) (Yz (b:=(decide (m.X3≠1))) (av:=vB (decide (((m.Xk.length:Nat):Int)≤4096))) (X8 rfl) trivial (dF hq23)))::(hP 11 (dT hq22)::[])))) ?_
 by_cases hq28:((m.Xk.length:Nat):Int)≤4096
 rotate_left
 ·refine sR (Xl (hN · true (dF hq28)) [2,3,4,5] (hU 6::(hU 7::(hU 8::(hU 9::(hN 10 true (dF hq28)::(hP 11 (dF hq28)::(Xl hN1 [13,14,15,16] (hP0 17::[]))))))))) (T.seq (sR [] (cT (b:=(!false)) rfl (sR [] (T.ret (rT ?_))))))
  exact eRt 2 (Z22) [] p3l trivial
 by_cases hq29:m.X3≠10
 ·refine sR (Xl (hY · (dT hq28)) [2,3,4,5] (Xl (hN · false (dT hq29)) [6,7,8,9] (hS 10 (oY rfl rfl rfl rfl (X8 rfl) (dT hq28) (Yq (b:=(decide (m.X3≠10))) (av:=vB true) (X8 rfl) ⟨rfl,trivial⟩ (dT hq29)))::(hP 11 (dT hq28)::(hY1 13::(hY1 14::(hS 15 (oY (b:=true) rfl rfl rfl rfl (X8 rfl) rfl (rCa (Iz tm false tm m.X7 ‹_›) Try.func85 [] [(.tmp 123,(Z20 tm m)),(.func 86,Z21)] 0 0))::(hY1 16::(hP1 17::[]))))))))) (T.seq (sR [] ?_))
  by_cases hq30:¬X03 m.X7
  ·refine cT (cn (cn (dT hq30))) (sR [] (T.ret (rT ?_)))
   exact eRt 2 (Z22) [] pZ16 trivial
  refine cF (cn (cn (dF hq30))) (T.skip (nT (sR [] (T.ret ?_))))
  exact eRt 2 (Z23) [] (cI (by exact if_pos ⟨‹_›,‹_›,‹_›,‹_›,‹_›,‹_›,‹_›,‹_›,‹_›,‹_›,p2m,p2m,p2n,pZ21⟩)) trivial
 by_cases hq31:((m.X7.length:Nat):Int)=1
 ·refine sR (Xl (hY · (dT hq28)) [2,3,4,5] (Xl (hY · (dF hq29)) [6,7,8,9] (hS 10 (oY rfl rfl rfl rfl (X8 rfl) (dT hq28) (Yz (b:=(decide (m.X3≠10))) (av:=(Z24 m)) (X8 rfl) trivial (dF hq29)))::(hP 11 (dT hq28)::(hY 13 (dT hq31)::(hY 14 (dT hq31)::(hS 15 (oY rfl rfl rfl rfl (X8 rfl) (dT hq31) (rCa (Iz tm false tm m.X7 ‹_›) Try.func85 [] [(.tmp 123,(Z20 tm m)),(.func 86,Z21)] 0 0))::(hY 16 (dT hq31)::(hP 17 (dT hq31)::[]))))))))) (T.seq (sR [] ?_))
  by_cases hq32:¬X03 m.X7
  ·refine cT (cn (cn (dT hq32))) (sR [] (T.ret (rT ?_)))
   exact eRt 2 (Z22) [] pZ16 trivial
  refine cF (cn (cn (dF hq32))) (T.skip (nT (sR [] (T.ret ?_))))
  exact eRt 2 (Z23) [] (cI (by exact if_pos ⟨‹_›,‹_›,‹_›,‹_›,‹_›,‹_›,‹_›,‹_›,‹_›,‹_›,p2m,p2m,p2m,pZ21⟩)) trivial
 refine sR (Xl (hY · (dT hq28)) [2,3,4,5] (Xl (hY · (dF hq29)) [6,7,8,9] (hS 10 (oY rfl rfl rfl rfl (X8 rfl) (dT hq28) (Yz (b:=(decide (m.X3≠10))) (av:=(Z24 m)) (X8 rfl) trivial (dF hq29)))::(hP 11 (dT hq28)::(Xl (hN · true (dF hq31)) [13,14,15,16] (hP 17 (dF hq31)::[])))))) (T.seq (sR [] (cT (b:=(!false)) rfl (sR [] (T.ret (rT ?_))))))
 exact eRt 2 (Z22) [] p1v trivial
theorem iat_90:Try.prog.info? 90=some Try.t90:=by kernel_rfl
theorem I0:Wide Try.prog 90 (some 9):=⟨_,_,Try.underlying90,.inl ⟨_,rfl⟩,iat_90,rfl⟩
abbrev Z25:TV:=.one (dB true)
abbrev Z26:TV:=.agg [dB true,dB true,dB false,dB true,dB false,dB false,dB false,dB false,dB false]
theorem Fp (k:Int):Holds Try.prog 35 ⟨[vI k],[],.tup [.agg [dB (Xh k).Xt,dB (Xh k).Xy,dB (Xh k).Xb,dB (Xh k).Xc,dB (Xh k).Xk,dB (Xh k).X1,dB (Xh k).Xf,dB (Xh k).Xr,dB (Xh k).X7],.one (dB (decide (okK k)))],[]⟩:=by
 refine Holds.of Try.func35 rfl (N:=37) Try.ntmps35 rfl fun w0 B0 S0 U0=>?_
 show T _ (Xz 37 0 w0 S0 U0 B0) ⟨[vI k],[]⟩ _ _
 refine sR [] (T.seq (sR [] (T.block (sR [] ?_))))
 by_cases hq1:k=1
 ·refine cT (dT hq1) (sR [] (T.ret (rB (rT ?_))))
  exact eX [.c 2 0 90 0 90 [dB false,dB false,dB true,dB false,dB true,dB false,dB false,dB false,dB false] (.agg [dB false,dB false,dB true,dB false,dB true,dB false,dB false,dB false,dB false]),.t 3 (Z25)] ⟨⟨rfl,rfl,by kernel_rfl,by kernel_rfl,.inl ⟨9,I0,rfl,Nat.le_of_ble_eq_true rfl⟩⟩,⟨⟨rfl,by kernel_rfl⟩,trivial⟩⟩ [] (gc2 (show (Xh k)=⟨false,false,true,false,true,false,false,false,false⟩ from py) (show ((decide (okK k)):Bool)=true from py) (fun qq0 (q10:Bool)=>(.tup [.agg [dB (qq0.Xt),dB (qq0.Xy),dB (qq0.Xb),dB (qq0.Xc),dB (qq0.Xk),dB (qq0.X1),dB (qq0.Xf),dB (qq0.Xr),dB (qq0.X7)],.one (dB q10)]:AV))) trivial
 refine cF (dF hq1) (sR [] ?_)
 by_cases hq2:k=2
 ·refine cT (dT hq2) (sR [] (T.ret (rB (rT ?_))))
  exact eX [.c 2 0 90 0 90 [dB true,dB true,dB false,dB true,dB false,dB false,dB true,dB false,dB false] (.agg [dB true,dB true,dB false,dB true,dB false,dB false,dB true,dB false,dB false]),.t 3 (Z25)] ⟨⟨rfl,rfl,by kernel_rfl,by kernel_rfl,.inl ⟨9,I0,rfl,Nat.le_of_ble_eq_true rfl⟩⟩,⟨⟨rfl,by kernel_rfl⟩,trivial⟩⟩ [] (gc2 (show (Xh k)=⟨true,true,false,true,false,false,true,false,false⟩ from py) (show ((decide (okK k)):Bool)=true from py) (fun qq0 (q10:Bool)=>(.tup [.agg [dB (qq0.Xt),dB (qq0.Xy),dB (qq0.Xb),dB (qq0.Xc),dB (qq0.Xk),dB (qq0.X1),dB (qq0.Xf),dB (qq0.Xr),dB (qq0.X7)],.one (dB q10)]:AV))) trivial
 refine cF (dF hq2) (T.seq (sR [] ?_))
 by_cases hq3:k=3
 ·refine cT (dT hq3) (T.skip (nT (cT (dT hq3) (sR [] (T.ret (rB (rT ?_)))))))
  exact eX [.c 2 0 90 0 90 [dB true,dB true,dB false,dB true,dB false,dB false,dB false,dB false,dB false] (Z26),.t 3 (Z25)] ⟨⟨rfl,rfl,by kernel_rfl,by kernel_rfl,.inl ⟨9,I0,rfl,Nat.le_of_ble_eq_true rfl⟩⟩,⟨⟨rfl,by kernel_rfl⟩,trivial⟩⟩ [] p1r trivial
 refine cF (dF hq3) (xK [] (nT ?_))
 by_cases hq4:k=4
 ·refine cT (dT hq4) (sR [] (T.ret (rB (rT ?_))))
  exact eX [.c 2 0 90 0 90 [dB true,dB true,dB false,dB true,dB false,dB false,dB false,dB false,dB false] (Z26),.t 3 (Z25)] ⟨⟨rfl,rfl,by kernel_rfl,by kernel_rfl,.inl ⟨9,I0,rfl,Nat.le_of_ble_eq_true rfl⟩⟩,⟨⟨rfl,by kernel_rfl⟩,trivial⟩⟩ [] p1r trivial
 refine cF (dF hq4) (sR [] ?_)
 by_cases hq5:k=5
 ·refine cT (dT hq5) (sR [] (T.ret (rB (rT ?_))))
  exact eX [.c 2 0 90 0 90 [dB false,dB true,dB false,dB true,dB false,dB false,dB false,dB false,dB false] (.agg [dB false,dB true,dB false,dB true,dB false,dB false,dB false,dB false,dB false]),.t 3 (Z25)] ⟨⟨rfl,rfl,by kernel_rfl,by kernel_rfl,.inl ⟨9,I0,rfl,Nat.le_of_ble_eq_true rfl⟩⟩,⟨⟨rfl,by kernel_rfl⟩,trivial⟩⟩ [] (gc2 (show (Xh k)=⟨false,true,false,true,false,false,false,false,false⟩ from py) (show ((decide (okK k)):Bool)=true from py) (fun qq0 (q10:Bool)=>(.tup [.agg [dB (qq0.Xt),dB (qq0.Xy),dB (qq0.Xb),dB (qq0.Xc),dB (qq0.Xk),dB (qq0.X1),dB (qq0.Xf),dB (qq0.Xr),dB (qq0.X7)],.one (dB q10)]:AV))) trivial
 refine cF (dF hq5) (sR [] ?_)
 by_cases hq6:k=6
 ·refine cT (dT hq6) (sR [] (T.ret (rB (rT ?_))))
  exact eX [.c 2 0 90 0 90 [dB true,dB true,dB false,dB false,dB false,dB false,dB true,dB false,dB true] (.agg [dB true,dB true,dB false,dB false,dB false,dB false,dB true,dB false,dB true]),.t 3 (Z25)] ⟨⟨rfl,rfl,by kernel_rfl,by kernel_rfl,.inl ⟨9,I0,rfl,Nat.le_of_ble_eq_true rfl⟩⟩,⟨⟨rfl,by kernel_rfl⟩,trivial⟩⟩ [] (gc2 (show (Xh k)=⟨true,true,false,false,false,false,true,false,true⟩ from py) (show ((decide (okK k)):Bool)=true from py) (fun qq0 (q10:Bool)=>(.tup [.agg [dB (qq0.Xt),dB (qq0.Xy),dB (qq0.Xb),dB (qq0.Xc),dB (qq0.Xk),dB (qq0.X1),dB (qq0.Xf),dB (qq0.Xr),dB (qq0.X7)],.one (dB q10)]:AV))) trivial
 refine cF (dF hq6) (sR [] ?_)
 by_cases hq7:k=7
 ·refine cT (dT hq7) (sR [] (T.ret (rB (rT ?_))))
  exact eX [.c 2 0 90 0 90 [dB true,dB false,dB false,dB false,dB false,dB false,dB true,dB true,dB false] (.agg [dB true,dB false,dB false,dB false,dB false,dB false,dB true,dB true,dB false]),.t 3 (Z25)] ⟨⟨rfl,rfl,by kernel_rfl,by kernel_rfl,.inl ⟨9,I0,rfl,Nat.le_of_ble_eq_true rfl⟩⟩,⟨⟨rfl,by kernel_rfl⟩,trivial⟩⟩ [] (gc2 (show (Xh k)=⟨true,false,false,false,false,false,true,true,false⟩ from py) (show ((decide (okK k)):Bool)=true from py) (fun qq0 (q10:Bool)=>(.tup [.agg [dB (qq0.Xt),dB (qq0.Xy),dB (qq0.Xb),dB (qq0.Xc),dB (qq0.Xk),dB (qq0.X1),dB (qq0.Xf),dB (qq0.Xr),dB (qq0.X7)],.one (dB q10)]:AV))) trivial
 refine cF (dF hq7) (sR [] ?_)
 by_cases hq8:k=8
 ·refine cT (dT hq8) (sR [] (T.ret (rB (rT ?_))))
  exact eX [.c 2 0 90 0 90 [dB true,dB false,dB true,dB false,dB false,dB true,dB false,dB false,dB false] (.agg [dB true,dB false,dB true,dB false,dB false,dB true,dB false,dB false,dB false]),.t 3 (Z25)] ⟨⟨rfl,rfl,by kernel_rfl,by kernel_rfl,.inl ⟨9,I0,rfl,Nat.le_of_ble_eq_true rfl⟩⟩,⟨⟨rfl,by kernel_rfl⟩,trivial⟩⟩ [] (gc2 (show (Xh k)=⟨true,false,true,false,false,true,false,false,false⟩ from py) (show ((decide (okK k)):Bool)=true from py) (fun qq0 (q10:Bool)=>(.tup [.agg [dB (qq0.Xt),dB (qq0.Xy),dB (qq0.Xb),dB (qq0.Xc),dB (qq0.Xk),dB (qq0.X1),dB (qq0.Xf),dB (qq0.Xr),dB (qq0.X7)],.one (dB q10)]:AV))) trivial
 refine cF (dF hq8) (sR [] ?_)
 by_cases hq9:k=9
 ·refine cT (dT hq9) (sR [] (T.ret (rB (rT ?_))))
  exact eX [.c 2 0 90 0 90 [dB false,dB true,dB false,dB false,dB false,dB false,dB false,dB false,dB false] (.agg [dB false,dB true,dB false,dB false,dB false,dB false,dB false,dB false,dB false]),.t 3 (Z25)] ⟨⟨rfl,rfl,by kernel_rfl,by kernel_rfl,.inl ⟨9,I0,rfl,Nat.le_of_ble_eq_true rfl⟩⟩,⟨⟨rfl,by kernel_rfl⟩,trivial⟩⟩ [] (gc2 (show (Xh k)=⟨false,true,false,false,false,false,false,false,false⟩ from py) (show ((decide (okK k)):Bool)=true from py) (fun qq0 (q10:Bool)=>(.tup [.agg [dB (qq0.Xt),dB (qq0.Xy),dB (qq0.Xb),dB (qq0.Xc),dB (qq0.Xk),dB (qq0.X1),dB (qq0.Xf),dB (qq0.Xr),dB (qq0.X7)],.one (dB q10)]:AV))) trivial
 refine cF (dF hq9) (sR [] ?_)
 by_cases hq10:k=10
 ·refine cT (dT hq10) (sR [] (T.ret (rB (rT ?_))))
  exact eX [.c 2 0 90 0 90 [dB false,dB false,dB false,dB false,dB false,dB false,dB false,dB false,dB true] (.agg [dB false,dB false,dB false,dB false,dB false,dB false,dB false,dB false,dB true]),.t 3 (Z25)] ⟨⟨rfl,rfl,by kernel_rfl,by kernel_rfl,.inl ⟨9,I0,rfl,Nat.le_of_ble_eq_true rfl⟩⟩,⟨⟨rfl,by kernel_rfl⟩,trivial⟩⟩ [] (gc2 (show (Xh k)=⟨false,false,false,false,false,false,false,false,true⟩ from py) (show ((decide (okK k)):Bool)=true from py) (fun qq0 (q10:Bool)=>(.tup [.agg [dB (qq0.Xt),dB (qq0.Xy),dB (qq0.Xb),dB (qq0.Xc),dB (qq0.Xk),dB (qq0.X1),dB (qq0.Xf),dB (qq0.Xr),dB (qq0.X7)],.one (dB q10)]:AV))) trivial
 refine cF (dF hq10) (sR [] ?_)
 by_cases hq11:k=11
 ·refine cT (dT hq11) (sR [] (T.ret (rB (rT ?_))))
  exact eX [.c 2 0 90 0 90 [dB false,dB true,dB false,dB false,dB true,dB false,dB true,dB false,dB false] (.agg [dB false,dB true,dB false,dB false,dB true,dB false,dB true,dB false,dB false]),.t 3 (Z25)] ⟨⟨rfl,rfl,by kernel_rfl,by kernel_rfl,.inl ⟨9,I0,rfl,Nat.le_of_ble_eq_true rfl⟩⟩,⟨⟨rfl,by kernel_rfl⟩,trivial⟩⟩ [] (gc2 (show (Xh k)=⟨false,true,false,false,true,false,true,false,false⟩ from py) (show ((decide (okK k)):Bool)=true from py) (fun qq0 (q10:Bool)=>(.tup [.agg [dB (qq0.Xt),dB (qq0.Xy),dB (qq0.Xb),dB (qq0.Xc),dB (qq0.Xk),dB (qq0.X1),dB (qq0.Xf),dB (qq0.Xr),dB (qq0.X7)],.one (dB q10)]:AV))) trivial
 refine cF (dF hq11) (T.skip (nB (nT (sR [] (T.ret ?_)))))
 exact eX [.c 2 0 90 0 90 [dB false,dB false,dB false,dB false,dB false,dB false,dB false,dB false,dB false] (.agg [dB false,dB false,dB false,dB false,dB false,dB false,dB false,dB false,dB false]),.t 3 (.one (dB false))] ⟨⟨rfl,rfl,by kernel_rfl,by kernel_rfl,.inl ⟨9,I0,rfl,Nat.le_of_ble_eq_true rfl⟩⟩,⟨⟨rfl,by kernel_rfl⟩,trivial⟩⟩ [] (gc2 (show (Xh k)=⟨false,false,false,false,false,false,false,false,false⟩ from py) (by exact dF (by unfold okK;omega)) (fun qq0 (q10:Bool)=>(.tup [.agg [dB (qq0.Xt),dB (qq0.Xy),dB (qq0.Xb),dB (qq0.Xc),dB (qq0.Xk),dB (qq0.X1),dB (qq0.Xf),dB (qq0.Xr),dB (qq0.X7)],.one (dB q10)]:AV))) trivial
abbrev Z27:TV:=.one (dI 1)
abbrev Z28:TV:=.one (dI 0)
theorem X96 (k:Int):Holds Try.prog 62 ⟨[vI k],[],.tup [.one (dI (Ez k)),.one (dI (Ea k))],[]⟩:=by
 refine Holds.of Try.func62 rfl (N:=15) Try.ntmps62 rfl fun w0 B0 S0 U0=>?_
 show T _ (Xz 15 0 w0 S0 U0 B0) ⟨[vI k],[]⟩ _ _
 refine sR [] (sR [] (T.seq (sR [] (T.block (sR [] ?_)))))
 by_cases hq1:k=6
 ·refine cT (dT hq1) (sR [] (xK [] (nB (nT (sR [] (T.ret ?_))))))
  exact eX [.t 2 (Z27),.t 3 (Z28)] ⟨⟨rfl,by kernel_rfl⟩,⟨⟨rfl,by kernel_rfl⟩,trivial⟩⟩ [] (by have e1:(Ez k:Int)=1:=p2q;have e2:(Ea k:Int)=0:=p2q;have hE:=congr p2a e2;exact hE) trivial
 refine cF (dF hq1) (sR [] ?_)
 by_cases hq2:k=7
 ·refine cT (dT hq2) (xK [] (nB (nT (sR [] (T.ret ?_)))))
  exact eX [.t 2 (Z27),.t 3 (Z27)] ⟨⟨rfl,by kernel_rfl⟩,⟨⟨rfl,by kernel_rfl⟩,trivial⟩⟩ [] (by have e1:(Ez k:Int)=1:=p2q;have e2:(Ea k:Int)=1:=p2q;have hE:=congr p2a e2;exact hE) trivial
 refine cF (dF hq2) (sR [] ?_)
 by_cases hq3:k=9
 ·refine cT (dT hq3) (xK [] (nB (nT (sR [] (T.ret ?_)))))
  exact eX [.t 2 (Z28),.t 3 (Z28)] ⟨⟨rfl,by kernel_rfl⟩,⟨⟨rfl,by kernel_rfl⟩,trivial⟩⟩ [] (by have e1:(Ez k:Int)=0:=p2q;have e2:(Ea k:Int)=0:=p2q;have hE:=congr p2a e2;exact hE) trivial
 refine cF (dF hq3) (T.skip (nB (nT (sR [] (T.ret ?_)))))
 exact eX [.t 2 (Z28),.t 3 (Z27)] ⟨⟨rfl,by kernel_rfl⟩,⟨⟨rfl,by kernel_rfl⟩,trivial⟩⟩ [] (by have e1:(Ez k:Int)=0:=p2q;have e2:(Ea k:Int)=1:=p2q;have hE:=congr p2a e2;exact hE) trivial
theorem Vm (n:Int) (had:Bool) (lo:Int):Holds Try.prog 63 ⟨[vI n,vB had,vI lo],[],vB (decide (Hh n had lo)),[]⟩:=by
 refine Holds.of Try.func63 rfl (N:=18) Try.ntmps63 rfl fun w0 B0 S0 U0=>?_
 show T _ (Xz 18 0 w0 S0 U0 B0) ⟨[vI n,vB had,vI lo],[]⟩ _ _
 refine sR [] (T.seq (sR [] ?_))
 by_cases hq1:had=true
 ·refine cF (cn hq1) (T.skip (nT ?_))
  by_cases hq2:n≥lo
  ·refine sR [hY 4 (dT hq2),hY 5 (dT hq2),hP 6 (dT hq2)] (T.ret ?_)
   exact eRt 6 (.one (dB (decide (n≤1099511627776)))) [] (by have e1:((decide (Hh n had lo)):Bool)=(decide (n≤1099511627776)):=(by (simp [Hh, *];done));have hE:=cB e1;exact hE) trivial
  refine sR [hN 4 true (dF hq2),hN 5 true (dF hq2),hP 6 (dF hq2)] (T.ret ?_)
  exact eRt 6 (.one (dB false)) [] (by have e1:((decide (Hh n had lo)):Bool)=false:=(by (simp [Hh, *];done));have hE:=cB e1;exact hE) trivial
 replace hq1:=Bool.eq_false_iff.2 hq1
 refine cT (cn hq1) (sR [] (T.ret (rT ?_)))
 exact eRt 6 (.one (dB (decide (n=0)))) [] (by have e1:((decide (Hh n had lo)):Bool)=(decide (n=0)):=(by (simp [Hh, *];done));have hE:=cB e1;exact hE) trivial
end Go.Proofs.Ythnefnknoahbkaa.Q
