import Derived.Test.YthnefnknoahbkaaGreatC18n6
namespace Go.Proofs.YthnefnknoahbkaaGreat.Q
open Go Go.RowKit
set_option linter.unusedVariables false
set_option linter.unusedSimpArgs false
set_option maxRecDepth 100000
set_option maxHeartbeats 4000000
theorem Vz (s:Uj) (f:Int) (n:Int) (lo:Int) (hi:Int):Holds Tryz.prog 99 ⟨[.tv (.agg [dI s.V4,dI s.W4,dI s.Wm,dI s.V7]),vI f,vI n,vI lo,vI hi],[],vB (decide (inM s f n lo hi)),[]⟩:=by
 refine Holds.of Tryz.func99 rfl (N:=24) Tryz.ntmps99 rfl fun w0 B0 S0 U0=>?_
 show T _ (Y0 24 0 w0 S0 U0 B0) ⟨[.tv (.agg [dI s.V4,dI s.W4,dI s.Wm,dI s.V7]),vI f,vI n,vI lo,vI hi],[]⟩ _ _
 refine sR [] (T.seq (sR [hR 3 rfl rfl (Y4 (u1:=.int .i64 s.V4) (u2:=.int .i64 f) (v:=.int .i64 (J0 s.V4 f)) (X71 rfl) (X4 rfl) trivial)] ?_))
 by_cases hq1:(J0 s.V4 f)=0
 ·refine cT (dT hq1) (xK [] (nT ?_))
  by_cases hq2:0≤n
  ·refine sR (Xf (hY · (dT hq2)) [4,5,6] (hP 7 (dT hq2)::[])) (T.ret ?_)
   exact eRt 10 (.one (dB (decide (n≤0)))) [] (by have e1:((decide (inM s f n lo hi)):Bool)=(decide (n≤0)):=(by (simp [inM, *];done));have hE:=cB e1;exact hE) trivial
  refine sR (Xf (hN · true (dF hq2)) [4,5,6] (hP 7 (dF hq2)::[])) (T.ret ?_)
  exact eRt 10 (.one (dB false)) [] p3s trivial
 refine cF (dF hq1) (T.skip (nT ?_))
 by_cases hq3:lo≤n
 ·refine sR (Xf (hY · (dT hq3)) [4,5,6] (hP 7 (dT hq3)::[])) (T.ret ?_)
  exact eRt 10 (.one (dB (decide (n≤hi)))) [] (by have e1:((decide (inM s f n lo hi)):Bool)=(decide (n≤hi)):=(by (simp [inM, *];done));have hE:=cB e1;exact hE) trivial
 refine sR (Xf (hN · true (dF hq3)) [4,5,6] (hP 7 (dF hq3)::[])) (T.ret ?_)
 exact eRt 10 (.one (dB false)) [] p3s trivial
theorem Xca (tc:Bool) (c:aC):Holds Tryz.prog 101 ⟨[.tv (.agg [dI c.Vg.f_Signer,.d (dsl tc false kU8 c.Vg.X7),.d (dsl tc false (kE tc) c.Yi)])],[],vB (decide (((c.Yi.length:Nat):Int)>7)),[]⟩:=by
 refine Holds.of Tryz.func101 rfl (N:=7) Tryz.ntmps101 rfl fun w0 B0 S0 U0=>?_
 show T _ (Y0 7 0 w0 S0 U0 B0) ⟨[.tv (.agg [dI c.Vg.f_Signer,.d (dsl tc false kU8 c.Vg.X7),.d (dsl tc false (kE tc) c.Yi)])],[]⟩ _ _
 refine sR [] (sR [] (T.ret ?_))
 exact eRt 2 (.one (dB (decide (((c.Yi.length:Nat):Int)>7)))) [] rfl trivial
theorem Jz:Tryz.prog.info? 110=some Tryz.t110:=by kernel_rfl
abbrev Z2g:AV:=dv (.func (.func 101) #[] #[])
abbrev Z2h (l:List aC):AV:=vI ((l.length:Nat):Int)
theorem idx_Cert (tl:Bool) (nl:Bool) (sl_:Bool) (l:List aC) (hl:l.length≤9223372036854775807):Holds Tryz.prog 114 ⟨[slV tl nl (kC sl_) l,dv (.func (.func 101) #[] #[])],[],vI (idxV l),[]⟩:=by
 refine Holds.of Tryz.func114 rfl (N:=19) Tryz.ntmps114 rfl fun w0 B0 S0 U0=>?_
 show T _ (Y0 19 0 w0 S0 U0 B0) ⟨[slV tl nl (kC sl_) l,Z2g],[]⟩ _ _
 refine sR [] (T.seq (sR [] (T.block ?_)))
 refine T.loop (ι:=Nat) (fun (k:Nat)=>⟨[slV tl nl (kC sl_) l,Z2g,aa,aa,vI 0,aa,aa,(Z2h l),vI ((k:Nat):Int)],[]⟩) (fun (k:Nat)=>(k≤l.length)∧(∀ j,j<k→(l.getD j zC).Yi.length≤7)) (fun (k:Nat)=>l.length-k) (0) ⟨(Nat.zero_le _),(fun j hj=>absurd hj (Nat.not_lt_zero _))⟩ (fun _ _ hG=>Y9 [] (bm 9 403) rfl rfl hG) ?_
 rintro k ⟨hk,hb⟩
 show T _ _ ⟨[slV tl nl (kC sl_) l,Z2g,aa,aa,vI 0,aa,aa,(Z2h l),vI ((k:Nat):Int)],[]⟩ _ _
 replace hk:k≤l.length:=hk
 replace hb:∀ j,j<k→(l.getD j zC).Yi.length≤7:=hb
 refine sR [] (T.seq ?_)
 by_cases hq1:((k:Nat):Int)<((l.length:Nat):Int)
 ·refine cT (dT hq1) (T.skip (nT (T.seq (T.block (sR [] (sR [hR 3 rfl rfl (Yo tl nl (kC sl_) l k (k:=.i64) (i:=((k:Nat):Int)) Tryz.underlying40 Jz rfl rfl (by omega) (X4 rfl) trivial),hR 5 rfl rfl (X4v (fs:=#[]) (cs:=#[]) (Xca sl_ (l.getD k zC) ) Tryz.func101 rfl (by decide) [] [] (l:=[(.tmp 15,.tv (.agg [dI (l.getD k zC).Vg.f_Signer,.d (dsl sl_ false kU8 (l.getD k zC).Vg.X7),.d (dsl sl_ false (kE sl_) (l.getD k zC).Yi)]))]) [] rfl 0 0 rfl rfl rfl rfl rfl rfl rfl rfl rfl rfl rfl ⟨⟨.inl ⟨rfl,rfl⟩,⟨.inl ⟨rfl,rfl⟩,⟨.inl ⟨rfl,rfl⟩,trivial⟩⟩⟩,trivial⟩ rfl p3w (.inl rfl) (X4 rfl) trivial)] ?_))))))
  by_cases hq2:(((l.getD k zC).Yi.length:Nat):Int)>7
  ·refine cT (dT hq2) (sR [] (T.ret (rB (rT (rT (rB (rT ?_)))))))
   exact eRt 4 (.one (dI ((k:Nat):Int))) [] (cI (by exact idx_at hb (by omega) (by omega))) trivial
  refine cF (dF hq2) (T.skip (nB (nT (xK [hR 0 rfl rfl (Y4 (u1:=.int .i64 ((k:Nat):Int)) (u2:=.int .i64 1) (v:=.int .i64 ((k+1:Nat):Int)) (Yn pZ5) (X4 rfl) ⟨rfl,trivial⟩)] ?_))))
  refine nL (k+1) ⟨(show (k+1)≤l.length from (by omega)),(show ∀ j,j<(k+1)→(l.getD j zC).Yi.length≤7 from (Ju hb (by omega)))⟩ (show (l.length-(k+1):Nat)<l.length-k from (by omega)) (fun _ _ hG=>Y9 [] (bm 9 403) rfl rfl hG)
 refine cF (dF hq1) (T.exit (xT (xT (xH (nT (sR [] (T.ret ?_)))))))
 exact eRt 4 (.one (dI (-1))) [] (cI (by exact idx_no hb (by omega))) trivial
theorem H0 (tl:Bool) (nl:Bool) (sl_:Bool) (l:List aC) (hl:l.length≤9223372036854775807):Holds Tryz.prog 100 ⟨[slV tl nl (kC sl_) l,dv (.func (.func 101) #[] #[])],[],vB (decide (¬X03 l)),[]⟩:=by
 refine Holds.of Tryz.func100 rfl (N:=9) Tryz.ntmps100 rfl fun w0 B0 S0 U0=>?_
 show T _ (Y0 9 0 w0 S0 U0 B0) ⟨[slV tl nl (kC sl_) l,dv (.func (.func 101) #[] #[])],[]⟩ _ _
 refine sR [] (sR [hR 2 rfl rfl (rCa (idx_Cert tl nl sl_ l ‹_›) Tryz.func114 [] [(.tmp 5,slV tl nl (kC sl_) l),(.tmp 6,dv (.func (.func 101) #[] #[]))] 0 0)] (T.ret ?_))
 exact eRt 4 (.one (dB (decide ((idxV l)≥0)))) [] (by have e1:((decide (¬X03 l)):Bool)=(decide ((idxV l)≥0)):=(by (rw [decide_eq_decide];exact (idx_few _).symm));have hE:=cB e1;exact hE) trivial
theorem iat_38:Tryz.prog.info? 38=some Tryz.t38:=by kernel_rfl
theorem Xd5:Wide Tryz.prog 38 (some 2):=⟨_,_,Tryz.underlying38,.inl ⟨_,rfl⟩,iat_38,rfl⟩
theorem Vx:SEq Tryz.prog 38 (fun x:Xd=>.agg #[.int .i64 x.Xt,.int .i64 x.Xn]):=seq_of (g:=fun x:Xd=>#[.int .i64 x.Xt,.int .i64 x.Xn]) (bs':=fun a b=>[decide (a.Xt=b.Xt),decide (a.Xn=b.Xn)]) Tryz.underlying38 pZ2 pZ2 (fun a b=>⟨by decide,⟨_,_,rfl,rfl,.int Tryz.underlying36⟩,⟨by decide,⟨_,_,rfl,rfl,.int Tryz.underlying3⟩,trivial⟩⟩) (fun a b=>by rw [Bool.eq_iff_iff];simp [X76])
section
variable (tm:Bool) (m:aM)
abbrev Z2i:AV:=.tv (.agg [dI (Y3 m.X2).V4,dI (Y3 m.X2).W4,dI (Y3 m.X2).Wm,dI (Y3 m.X2).V7])
abbrev Z2j:AV:=vI (Y3 m.X2).W4
abbrev Z2k:AV:=vI 1099511627776
abbrev Z2l:AV:=vI (Y3 m.X2).Wm
abbrev Z2m:AV:=vI ((m.Xe.length:Nat):Int)
abbrev Z2n:AV:=vI (Y3 m.X2).V7
abbrev Z2o:AV:=vI ((m.Xb.length:Nat):Int)
abbrev Z2p:AV:=vI ((m.Xi.length:Nat):Int)
abbrev Z2q:AV:=slV tm false (kC tm) m.X5
abbrev Z2r:AV:=dv (.func (.func 101) #[] #[])
abbrev Z2s:TV:=.one (dI 120)
abbrev Z2t:TV:=.one (dI 0)
abbrev Z2u:AV:=vB (decide (((m.X5.length:Nat):Int)=1))
end
theorem X8b (tm:Bool) (m:aM) (hq:m.Xe.length≤9223372036854775807) (hr:m.Xp.length≤9223372036854775807) (hc:m.X5.length≤9223372036854775807) (hd:m.Xi.length≤9223372036854775807) (hg:m.Xb.length≤9223372036854775807):Holds Tryz.prog 70 ⟨[.tv (.agg [dI m.X2,dI m.Xr,dI m.Xy,dI m.Xa,dI m.Xw,dS m.Xb,.d (dsl tm false kU8 m.Xi),dI m.X1.Xt,dI m.X1.Xn,.d (dsl tm false (kE tm) m.Xe),.d (dsl tm false (kE tm) m.Xp),.d (dsl tm false (kC tm) m.X5)])],[],vI (X1t m),[]⟩:=by
 refine Holds.of Tryz.func70 rfl (N:=129) Tryz.ntmps70 rfl fun w0 B0 S0 U0=>?_
 show T _ (Y0 129 0 w0 S0 U0 B0) ⟨[.tv (.agg [dI m.X2,dI m.Xr,dI m.Xy,dI m.Xa,dI m.Xw,dS m.Xb,.d (dsl tm false kU8 m.Xi),dI m.X1.Xt,dI m.X1.Xn,.d (dsl tm false (kE tm) m.Xe),.d (dsl tm false (kE tm) m.Xp),.d (dsl tm false (kC tm) m.X5)])],[]⟩ _ _
 refine sR [] (sR [hR 2 rfl rfl (rCa (Eu m.X2 ) Tryz.func71 [] [(.tmp 7,vI m.X2)] 0 0)] ?_)
 by_cases hq1:okK m.X2
 rotate_left
 ·refine sR (Xf (hN · true (dF hq1)) [2,3,4,5,6,7] (hP 8 (dF hq1)::(Xf hN1 [10,11,12,13,14,15] (hP0 16::(Xf hN1 [18,19,20,21] (hP0 22::(Xf hN1 [24,25,26,27] (hP0 28::[])))))))) (sR (Xf hN1 [2,3,4,5,6,7,8] (hP0 9::(Xf hN1 [11,12,13,14,15] (hP0 16::(Xf hN1 [18,19,20,21,22] (hP0 23::[])))))) (sR (Xf hN1 [2,3,4,5,6,7,8,9] (hP0 10::(Xf hN1 [12,13,14,15,16,17,18,19] (hP0 20::(Xf hN1 [22,23,24,25,26] (hU 27::(hU 28::(hU 29::(hU 30::(hN1 31::(hP0 32::[]))))))))))) (sR (Xf hN1 [2,3,4,5] (hU 6::(hU 7::(hU 8::(hU 9::(hN1 10::(hP0 11::[]))))))) (sR (Xf hN1 [2,3,4,5] (hU 6::(hU 7::(hU 8::(hU 9::(hN1 10::(hP0 11::(Xf hN1 [13,14,15,16] (hP0 17::[]))))))))) (T.seq (sR [] (cT (b:=(!false)) rfl (sR [] (T.ret (rT ?_))))))))))
  exact eRt 2 (Z2s) [] (cI (by exact if_neg (fun h9=>by exact absurd h9.1 ‹_›))) trivial
 by_cases hq2:inM (Y3 m.X2) 1 m.Xr (Y3 m.X2).W4 1099511627776
 rotate_left
 ·refine sR (Xf (hY · (dT hq1)) [2,3,4,5,6] (hS 7 (oY rfl rfl rfl rfl (X4 rfl) (dT hq1) (rCa (Vz (Y3 m.X2) 1 m.Xr (Y3 m.X2).W4 1099511627776 ) Tryz.func99 [] [(.tmp 13,(Z2i m)),(.const (.int .i64 1),vI 1),(.tmp 15,vI m.Xr),(.tmp 17,(Z2j m)),(.const (.int .i64 1099511627776),Z2k)] 0 0))::(hP 8 (dT hq1)::(Xf (hN · true (dF hq2)) [10,11,12,13,14,15] (hP 16 (dF hq2)::(Xf hN1 [18,19,20,21] (hP0 22::(Xf hN1 [24,25,26,27] (hP0 28::[]))))))))) (sR (Xf hN1 [2,3,4,5,6,7,8] (hP0 9::(Xf hN1 [11,12,13,14,15] (hP0 16::(Xf hN1 [18,19,20,21,22] (hP0 23::[])))))) (sR (Xf hN1 [2,3,4,5,6,7,8,9] (hP0 10::(Xf hN1 [12,13,14,15,16,17,18,19] (hP0 20::(Xf hN1 [22,23,24,25,26] (hU 27::(hU 28::(hU 29::(hU 30::(hN1 31::(hP0 32::[]))))))))))) ?_))
  refine sR (Xf hN1 [2,3,4,5] (hU 6::(hU 7::(hU 8::(hU 9::(hN1 10::(hP0 11::[]))))))) (sR (Xf hN1 [2,3,4,5] (hU 6::(hU 7::(hU 8::(hU 9::(hN1 10::(hP0 11::(Xf hN1 [13,14,15,16] (hP0 17::[]))))))))) (T.seq (sR [] (cT (b:=(!false)) rfl (sR [] (T.ret (rT ?_)))))))
  exact eRt 2 (Z2s) [] (cI (by exact if_neg (fun h9=>by exact absurd h9.2.1 ‹_›))) trivial
 by_cases hq3:inM (Y3 m.X2) 2 m.Xy (Y3 m.X2).Wm 1099511627776
 rotate_left
 ·refine sR (Xf (hY · (dT hq1)) [2,3,4,5,6] (hS 7 (oY rfl rfl rfl rfl (X4 rfl) (dT hq1) (rCa (Vz (Y3 m.X2) 1 m.Xr (Y3 m.X2).W4 1099511627776 ) Tryz.func99 [] [(.tmp 13,(Z2i m)),(.const (.int .i64 1),vI 1),(.tmp 15,vI m.Xr),(.tmp 17,(Z2j m)),(.const (.int .i64 1099511627776),Z2k)] 0 0))::(hP 8 (dT hq1)::(Xf (hY · (dT hq2)) [10,11,12,13,14] (hS 15 (oY rfl rfl rfl rfl (X4 rfl) (dT hq2) (rCa (Vz (Y3 m.X2) 2 m.Xy (Y3 m.X2).Wm 1099511627776 ) Tryz.func99 [] [(.tmp 21,(Z2i m)),(.const (.int .i64 2),vI 2),(.tmp 23,vI m.Xy),(.tmp 25,(Z2l m)),(.const (.int .i64 1099511627776),Z2k)] 0 0))::(hP 16 (dT hq2)::(Xf (hN · true (dF hq3)) [18,19,20,21] (hP 22 (dF hq3)::(Xf hN1 [24,25,26,27] (hP0 28::[])))))))))) ?_
  refine sR (Xf hN1 [2,3,4,5,6,7,8] (hP0 9::(Xf hN1 [11,12,13,14,15] (hP0 16::(Xf hN1 [18,19,20,21,22] (hP0 23::[])))))) (sR (Xf hN1 [2,3,4,5,6,7,8,9] (hP0 10::(Xf hN1 [12,13,14,15,16,17,18,19] (hP0 20::(Xf hN1 [22,23,24,25,26] (hU 27::(hU 28::(hU 29::(hU 30::(hN1 31::(hP0 32::[]))))))))))) (sR (Xf hN1 [2,3,4,5] (hU 6::(hU 7::(hU 8::(hU 9::(hN1 10::(hP0 11::[]))))))) (sR (Xf hN1 [2,3,4,5] (hU 6::(hU 7::(hU 8::(hU 9::(hN1 10::(hP0 11::(Xf hN1 [13,14,15,16] (hP0 17::[]))))))))) (T.seq (sR [] (cT (b:=(!false)) rfl (sR [] (T.ret (rT ?_)))))))))
  exact eRt 2 (Z2s) [] (cI (by exact if_neg (fun h9=>by exact absurd h9.2.2.1 ‹_›))) trivial
 by_cases hq4:inM (Y3 m.X2) 4 m.Xa 0 1099511627776
 rotate_left
 ·refine sR (Xf (hY · (dT hq1)) [2,3,4,5,6] (hS 7 (oY rfl rfl rfl rfl (X4 rfl) (dT hq1) (rCa (Vz (Y3 m.X2) 1 m.Xr (Y3 m.X2).W4 1099511627776 ) Tryz.func99 [] [(.tmp 13,(Z2i m)),(.const (.int .i64 1),vI 1),(.tmp 15,vI m.Xr),(.tmp 17,(Z2j m)),(.const (.int .i64 1099511627776),Z2k)] 0 0))::(hP 8 (dT hq1)::(Xf (hY · (dT hq2)) [10,11,12,13,14] (hS 15 (oY rfl rfl rfl rfl (X4 rfl) (dT hq2) (rCa (Vz (Y3 m.X2) 2 m.Xy (Y3 m.X2).Wm 1099511627776 ) Tryz.func99 [] [(.tmp 21,(Z2i m)),(.const (.int .i64 2),vI 2),(.tmp 23,vI m.Xy),(.tmp 25,(Z2l m)),(.const (.int .i64 1099511627776),Z2k)] 0 0))::(hP 16 (dT hq2)::(Xf (hY · (dT hq3)) [18,19,20] (hS 21 (oY rfl rfl rfl rfl (X4 rfl) (dT hq3) (rCa (Vz (Y3 m.X2) 4 m.Xa 0 1099511627776 ) Tryz.func99 [] [(.tmp 29,(Z2i m)),(.const (.int .i64 4),vI 4),(.tmp 31,vI m.Xa),(.const (.int .i64 0),vI 0),(.const (.int .i64 1099511627776),Z2k)] 0 0))::(hP 22 (dT hq3)::(Xf (hN · true (dF hq4)) [24,25,26,27] (hP 28 (dF hq4)::[]))))))))))) ?_
  refine sR (Xf hN1 [2,3,4,5,6,7,8] (hP0 9::(Xf hN1 [11,12,13,14,15] (hP0 16::(Xf hN1 [18,19,20,21,22] (hP0 23::[])))))) (sR (Xf hN1 [2,3,4,5,6,7,8,9] (hP0 10::(Xf hN1 [12,13,14,15,16,17,18,19] (hP0 20::(Xf hN1 [22,23,24,25,26] (hU 27::(hU 28::(hU 29::(hU 30::(hN1 31::(hP0 32::[]))))))))))) (sR (Xf hN1 [2,3,4,5] (hU 6::(hU 7::(hU 8::(hU 9::(hN1 10::(hP0 11::[]))))))) (sR (Xf hN1 [2,3,4,5] (hU 6::(hU 7::(hU 8::(hU 9::(hN1 10::(hP0 11::(Xf hN1 [13,14,15,16] (hP0 17::[]))))))))) (T.seq (sR [] (cT (b:=(!false)) rfl (sR [] (T.ret (rT ?_)))))))))
  exact eRt 2 (Z2s) [] (cI (by exact if_neg (fun h9=>by exact absurd h9.2.2.2.1 ‹_›))) trivial
 refine sR (Xf (hY · (dT hq1)) [2,3,4,5,6] (hS 7 (oY rfl rfl rfl rfl (X4 rfl) (dT hq1) (rCa (Vz (Y3 m.X2) 1 m.Xr (Y3 m.X2).W4 1099511627776 ) Tryz.func99 [] [(.tmp 13,(Z2i m)),(.const (.int .i64 1),vI 1),(.tmp 15,vI m.Xr),(.tmp 17,(Z2j m)),(.const (.int .i64 1099511627776),Z2k)] 0 0))::(hP 8 (dT hq1)::(Xf (hY · (dT hq2)) [10,11,12,13,14] (hS 15 (oY rfl rfl rfl rfl (X4 rfl) (dT hq2) (rCa (Vz (Y3 m.X2) 2 m.Xy (Y3 m.X2).Wm 1099511627776 ) Tryz.func99 [] [(.tmp 21,(Z2i m)),(.const (.int .i64 2),vI 2),(.tmp 23,vI m.Xy),(.tmp 25,(Z2l m)),(.const (.int .i64 1099511627776),Z2k)] 0 0))::(hP 16 (dT hq2)::(Xf (hY · (dT hq3)) [18,19,20] (hS 21 (oY rfl rfl rfl rfl (X4 rfl) (dT hq3) (rCa (Vz (Y3 m.X2) 4 m.Xa 0 1099511627776 ) Tryz.func99 [] [(.tmp 29,(Z2i m)),(.const (.int .i64 4),vI 4),(.tmp 31,vI m.Xa),(.const (.int .i64 0),vI 0),(.const (.int .i64 1099511627776),Z2k)] 0 0))::(hP 22 (dT hq3)::(Xf (hY · (dT hq4)) [24,25,26] (hS 27 (oY rfl rfl rfl rfl (X4 rfl) (dT hq4) (rCa (Vz (Y3 m.X2) 4 m.Xw 1 1099511627776 ) Tryz.func99 [] [(.tmp 35,(Z2i m)),(.const (.int .i64 4),vI 4),(.tmp 37,vI m.Xw),(.const (.int .i64 1),vI 1),(.const (.int .i64 1099511627776),Z2k)] 0 0))::(hP 28 (dT hq4)::[])))))))))))) ?_
 by_cases hq5:inM (Y3 m.X2) 4 m.Xw 1 1099511627776
 rotate_left
 ·refine sR (Xf (hN · true (dF hq5)) [2,3,4,5,6,7,8] (hP 9 (dF hq5)::(Xf hN1 [11,12,13,14,15] (hP0 16::(Xf hN1 [18,19,20,21,22] (hP0 23::[])))))) (sR (Xf hN1 [2,3,4,5,6,7,8,9] (hP0 10::(Xf hN1 [12,13,14,15,16,17,18,19] (hP0 20::(Xf hN1 [22,23,24,25,26] (hU 27::(hU 28::(hU 29::(hU 30::(hN1 31::(hP0 32::[]))))))))))) (sR (Xf hN1 [2,3,4,5] (hU 6::(hU 7::(hU 8::(hU 9::(hN1 10::(hP0 11::[]))))))) (sR (Xf hN1 [2,3,4,5] (hU 6::(hU 7::(hU 8::(hU 9::(hN1 10::(hP0 11::(Xf hN1 [13,14,15,16] (hP0 17::[]))))))))) (T.seq (sR [] (cT (b:=(!false)) rfl (sR [] (T.ret (rT ?_)))))))))
  exact eRt 2 (Z2s) [] (cI (by exact if_neg (fun h9=>by exact absurd h9.2.2.2.2.1 ‹_›))) trivial
 by_cases hq6:inM (Y3 m.X2) 64 ((m.Xe.length:Nat):Int) 0 (Y3 m.X2).V7
 rotate_left
 ·refine sR (Xf (hY · (dT hq5)) [2,3,4,5,6,7] (hS 8 (oY rfl rfl rfl rfl (X4 rfl) (dT hq5) (rCa (Vz (Y3 m.X2) 64 ((m.Xe.length:Nat):Int) 0 (Y3 m.X2).V7 ) Tryz.func99 [] [(.tmp 42,(Z2i m)),(.const (.int .i64 64),vI 64),(.tmp 45,(Z2m m)),(.const (.int .i64 0),vI 0),(.tmp 47,(Z2n m))] 0 0))::(hP 9 (dT hq5)::(Xf (hN · true (dF hq6)) [11,12,13,14,15] (hP 16 (dF hq6)::(Xf hN1 [18,19,20,21,22] (hP0 23::[]))))))) (sR (Xf hN1 [2,3,4,5,6,7,8,9] (hP0 10::(Xf hN1 [12,13,14,15,16,17,18,19] (hP0 20::(Xf hN1 [22,23,24,25,26] (hU 27::(hU 28::(hU 29::(hU 30::(hN1 31::(hP0 32::[]))))))))))) (sR (Xf hN1 [2,3,4,5] (hU 6::(hU 7::(hU 8::(hU 9::(hN1 10::(hP0 11::[]))))))) ?_))
  refine sR (Xf hN1 [2,3,4,5] (hU 6::(hU 7::(hU 8::(hU 9::(hN1 10::(hP0 11::(Xf hN1 [13,14,15,16] (hP0 17::[]))))))))) (T.seq (sR [] (cT (b:=(!false)) rfl (sR [] (T.ret (rT ?_))))))
  exact eRt 2 (Z2s) [] (cI (by exact if_neg (fun h9=>by exact absurd h9.2.2.2.2.2.1 ‹_›))) trivial
 by_cases hq7:inM (Y3 m.X2) 128 ((m.Xp.length:Nat):Int) 0 8
 rotate_left
 ·refine sR (Xf (hY · (dT hq5)) [2,3,4,5,6,7] (hS 8 (oY rfl rfl rfl rfl (X4 rfl) (dT hq5) (rCa (Vz (Y3 m.X2) 64 ((m.Xe.length:Nat):Int) 0 (Y3 m.X2).V7 ) Tryz.func99 [] [(.tmp 42,(Z2i m)),(.const (.int .i64 64),vI 64),(.tmp 45,(Z2m m)),(.const (.int .i64 0),vI 0),(.tmp 47,(Z2n m))] 0 0))::(hP 9 (dT hq5)::(Xf (hY · (dT hq6)) [11,12,13,14] (hS 15 (oY rfl rfl rfl rfl (X4 rfl) (dT hq6) (rCa (Vz (Y3 m.X2) 128 ((m.Xp.length:Nat):Int) 0 8 ) Tryz.func99 [] [(.tmp 51,(Z2i m)),(.const (.int .i64 128),vI 128),(.tmp 54,vI ((m.Xp.length:Nat):Int)),(.const (.int .i64 0),vI 0),(.const (.int .i64 8),vI 8)] 0 0))::(hP 16 (dT hq6)::(Xf (hN · true (dF hq7)) [18,19,20,21,22] (hP 23 (dF hq7)::[])))))))) ?_
  refine sR (Xf hN1 [2,3,4,5,6,7,8,9] (hP0 10::(Xf hN1 [12,13,14,15,16,17,18,19] (hP0 20::(Xf hN1 [22,23,24,25,26] (hU 27::(hU 28::(hU 29::(hU 30::(hN1 31::(hP0 32::[]))))))))))) (sR (Xf hN1 [2,3,4,5] (hU 6::(hU 7::(hU 8::(hU 9::(hN1 10::(hP0 11::[]))))))) (sR (Xf hN1 [2,3,4,5] (hU 6::(hU 7::(hU 8::(hU 9::(hN1 10::(hP0 11::(Xf hN1 [13,14,15,16] (hP0 17::[]))))))))) (T.seq (sR [] (cT (b:=(!false)) rfl (sR [] (T.ret (rT ?_))))))))
  exact eRt 2 (Z2s) [] (cI (by exact if_neg (fun h9=>by exact absurd h9.2.2.2.2.2.2.1 ‹_›))) trivial
 refine sR (Xf (hY · (dT hq5)) [2,3,4,5,6,7] (hS 8 (oY rfl rfl rfl rfl (X4 rfl) (dT hq5) (rCa (Vz (Y3 m.X2) 64 ((m.Xe.length:Nat):Int) 0 (Y3 m.X2).V7 ) Tryz.func99 [] [(.tmp 42,(Z2i m)),(.const (.int .i64 64),vI 64),(.tmp 45,(Z2m m)),(.const (.int .i64 0),vI 0),(.tmp 47,(Z2n m))] 0 0))::(hP 9 (dT hq5)::(Xf (hY · (dT hq6)) [11,12,13,14] (hS 15 (oY rfl rfl rfl rfl (X4 rfl) (dT hq6) (rCa (Vz (Y3 m.X2) 128 ((m.Xp.length:Nat):Int) 0 8 ) Tryz.func99 [] [(.tmp 51,(Z2i m)),(.const (.int .i64 128),vI 128),(.tmp 54,vI ((m.Xp.length:Nat):Int)),(.const (.int .i64 0),vI 0),(.const (.int .i64 8),vI 8)] 0 0))::(hP 16 (dT hq6)::(Xf (hY · (dT hq7)) [18,19,20,21] (hS 22 (oY rfl rfl rfl rfl (X4 rfl) (dT hq7) (rCa (Vz (Y3 m.X2) 256 ((m.X5.length:Nat):Int) 0 8 ) Tryz.func99 [] [(.tmp 58,(Z2i m)),(.const (.int .i64 256),vI 256),(.tmp 61,vI ((m.X5.length:Nat):Int)),(.const (.int .i64 0),vI 0),(.const (.int .i64 8),vI 8)] 0 0))::(hP 23 (dT hq7)::[]))))))))) ?_
 by_cases hq8:inM (Y3 m.X2) 256 ((m.X5.length:Nat):Int) 0 8
 rotate_left
 ·refine sR (Xf (hN · true (dF hq8)) [2,3,4,5,6,7,8,9] (hP 10 (dF hq8)::(Xf hN1 [12,13,14,15,16,17,18,19] (hP0 20::(Xf hN1 [22,23,24,25,26] (hU 27::(hU 28::(hU 29::(hU 30::(hN1 31::(hP0 32::[]))))))))))) (sR (Xf hN1 [2,3,4,5] (hU 6::(hU 7::(hU 8::(hU 9::(hN1 10::(hP0 11::[]))))))) (sR (Xf hN1 [2,3,4,5] (hU 6::(hU 7::(hU 8::(hU 9::(hN1 10::(hP0 11::(Xf hN1 [13,14,15,16] (hP0 17::[]))))))))) (T.seq (sR [] (cT (b:=(!false)) rfl (sR [] (T.ret (rT ?_))))))))
  exact eRt 2 (Z2s) [] (cI (by exact if_neg (fun h9=>by exact absurd h9.2.2.2.2.2.2.2.1 ‹_›))) trivial
 by_cases hq9:inM (Y3 m.X2) 8 ((m.Xb.length:Nat):Int) 0 ((m.Xb.length:Nat):Int)
 rotate_left
 ·refine sR (Xf (hY · (dT hq8)) [2,3,4,5,6,7,8] (hS 9 (oY rfl rfl rfl rfl (X4 rfl) (dT hq8) (rCa (Vz (Y3 m.X2) 8 ((m.Xb.length:Nat):Int) 0 ((m.Xb.length:Nat):Int) ) Tryz.func99 [] [(.tmp 66,(Z2i m)),(.const (.int .i64 8),vI 8),(.tmp 69,(Z2o m)),(.const (.int .i64 0),vI 0),(.tmp 72,(Z2o m))] 0 0))::(hP 10 (dT hq8)::(Xf (hN · true (dF hq9)) [12,13,14,15,16,17,18,19] (hP 20 (dF hq9)::(Xf hN1 [22,23,24,25,26] (hU 27::(hU 28::(hU 29::(hU 30::(hN1 31::(hP0 32::[])))))))))))) (sR (Xf hN1 [2,3,4,5] (hU 6::(hU 7::(hU 8::(hU 9::(hN1 10::(hP0 11::[]))))))) (sR (Xf hN1 [2,3,4,5] (hU 6::(hU 7::(hU 8::(hU 9::(hN1 10::(hP0 11::(Xf hN1 [13,14,15,16] (hP0 17::[]))))))))) (T.seq (sR [] (cT (b:=(!false)) rfl (sR [] (T.ret (rT ?_))))))))
  exact eRt 2 (Z2s) [] (cI (by exact if_neg (fun h9=>by exact absurd h9.2.2.2.2.2.2.2.2.1 ‹_›))) trivial
 by_cases hq10:inM (Y3 m.X2) 16 ((m.Xi.length:Nat):Int) 0 ((m.Xi.length:Nat):Int)
 rotate_left
 ·refine sR (Xf (hY · (dT hq8)) [2,3,4,5,6,7,8] (hS 9 (oY rfl rfl rfl rfl (X4 rfl) (dT hq8) (rCa (Vz (Y3 m.X2) 8 ((m.Xb.length:Nat):Int) 0 ((m.Xb.length:Nat):Int) ) Tryz.func99 [] [(.tmp 66,(Z2i m)),(.const (.int .i64 8),vI 8),(.tmp 69,(Z2o m)),(.const (.int .i64 0),vI 0),(.tmp 72,(Z2o m))] 0 0))::(hP 10 (dT hq8)::(Xf (hY · (dT hq9)) [12,13,14,15,16,17,18] (hS 19 (oY rfl rfl rfl rfl (X4 rfl) (dT hq9) (rCa (Vz (Y3 m.X2) 16 ((m.Xi.length:Nat):Int) 0 ((m.Xi.length:Nat):Int) ) Tryz.func99 [] [(.tmp 76,(Z2i m)),(.const (.int .i64 16),vI 16),(.tmp 79,(Z2p m)),(.const (.int .i64 0),vI 0),(.tmp 82,(Z2p m))] 0 0))::(hP 20 (dT hq9)::(Xf (hN · true (dF hq10)) [22,23,24,25,26] (hU 27::(hU 28::(hU 29::(hU 30::(hN 31 true (dF hq10)::(hP 32 (dF hq10)::[]))))))))))))) ?_
  refine sR (Xf hN1 [2,3,4,5] (hU 6::(hU 7::(hU 8::(hU 9::(hN1 10::(hP0 11::[]))))))) (sR (Xf hN1 [2,3,4,5] (hU 6::(hU 7::(hU 8::(hU 9::(hN1 10::(hP0 11::(Xf hN1 [13,14,15,16] (hP0 17::[]))))))))) (T.seq (sR [] (cT (b:=(!false)) rfl (sR [] (T.ret (rT ?_)))))))
  exact eRt 2 (Z2s) [] (cI (by exact if_neg (fun h9=>by exact absurd h9.2.2.2.2.2.2.2.2.2.1 ‹_›))) trivial
 by_cases hq11:(J0 (Y3 m.X2).V4 32)≠0
 ·refine sR (Xf (hY · (dT hq8)) [2,3,4,5,6,7,8] (hS 9 (oY rfl rfl rfl rfl (X4 rfl) (dT hq8) (rCa (Vz (Y3 m.X2) 8 ((m.Xb.length:Nat):Int) 0 ((m.Xb.length:Nat):Int) ) Tryz.func99 [] [(.tmp 66,(Z2i m)),(.const (.int .i64 8),vI 8),(.tmp 69,(Z2o m)),(.const (.int .i64 0),vI 0),(.tmp 72,(Z2o m))] 0 0))::(hP 10 (dT hq8)::(Xf (hY · (dT hq9)) [12,13,14,15,16,17,18] (hS 19 (oY rfl rfl rfl rfl (X4 rfl) (dT hq9) (rCa (Vz (Y3 m.X2) 16 ((m.Xi.length:Nat):Int) 0 ((m.Xi.length:Nat):Int) ) Tryz.func99 [] [(.tmp 76,(Z2i m)),(.const (.int .i64 16),vI 16),(.tmp 79,(Z2p m)),(.const (.int .i64 0),vI 0),(.tmp 82,(Z2p m))] 0 0))::(hP 20 (dT hq9)::(hY 22 (dT hq10)::(hY 23 (dT hq10)::(hS 24 (oY rfl rfl rfl rfl (X4 rfl) (dT hq10) (Y4 (u1:=.int .i64 (Y3 m.X2).V4) (u2:=.int .i64 32) (v:=.int .i64 (J0 (Y3 m.X2).V4 32)) (X71 rfl) (X4 rfl) ⟨rfl,trivial⟩))::(hY 25 (dT hq10)::(hY 26 (dT hq10)::(Xf (hN · false (dT hq11)) [27,28,29,30] (hS 31 (oY rfl rfl rfl rfl (X4 rfl) (dT hq10) (Yp (b:=(decide ((J0 (Y3 m.X2).V4 32)≠0))) (av:=vB true) (X4 rfl) ⟨rfl,trivial⟩ (dT hq11)))::(hP 32 (dT hq10)::[])))))))))))))) ?_
  by_cases hq12:m.X2≠1
  ·refine sR (Xf hY1 [2,3,4,5] (Xf (hN · false (dT hq12)) [6,7,8,9] (hS 10 (oY (b:=true) rfl rfl rfl rfl (X4 rfl) rfl (Yp (b:=(decide (m.X2≠1))) (av:=vB true) (X4 rfl) ⟨rfl,trivial⟩ (dT hq12)))::(hP1 11::[])))) ?_
   by_cases hq13:m.X2≠10
   ·refine sR (Xf hY1 [2,3,4,5] (Xf (hN · false (dT hq13)) [6,7,8,9] (hS 10 (oY (b:=true) rfl rfl rfl rfl (X4 rfl) rfl (Yp (b:=(decide (m.X2≠10))) (av:=vB true) (X4 rfl) ⟨rfl,trivial⟩ (dT hq13)))::(hP1 11::(hY1 13::(hY1 14::(hS 15 (oY (b:=true) rfl rfl rfl rfl (X4 rfl) rfl (rCa (H0 tm false tm m.X5 ‹_›) Tryz.func100 [] [(.tmp 123,(Z2q tm m)),(.func 101,Z2r)] 0 0))::(hY1 16::(hP1 17::[]))))))))) (T.seq (sR [] ?_))
    by_cases hq14:¬X03 m.X5
    ·refine cT (cn (cn (dT hq14))) (sR [] (T.ret (rT ?_)))
     exact eRt 2 (Z2s) [] p1c trivial
    refine cF (cn (cn (dF hq14))) (T.skip (nT (sR [] (T.ret ?_))))
    exact eRt 2 (Z2t) [] (cI (by exact if_pos ⟨‹_›,‹_›,‹_›,‹_›,‹_›,‹_›,‹_›,‹_›,‹_›,‹_›,p2s,p2s,p2s,pZ29⟩)) trivial
   by_cases hq15:((m.X5.length:Nat):Int)=1
   ·refine sR (Xf hY1 [2,3,4,5] (Xf (hY · (dF hq13)) [6,7,8,9] (hS 10 (oY (b:=true) rfl rfl rfl rfl (X4 rfl) rfl (W9 (b:=(decide (m.X2≠10))) (av:=(Z2u m)) (X4 rfl) trivial (dF hq13)))::(hP1 11::(hY 13 (dT hq15)::(hY 14 (dT hq15)::(hS 15 (oY rfl rfl rfl rfl (X4 rfl) (dT hq15) (rCa (H0 tm false tm m.X5 ‹_›) Tryz.func100 [] [(.tmp 123,(Z2q tm m)),(.func 101,Z2r)] 0 0))::(hY 16 (dT hq15)::(hP 17 (dT hq15)::[]))))))))) (T.seq (sR [] ?_))
    by_cases hq16:¬X03 m.X5
    ·refine cT (cn (cn (dT hq16))) (sR [] (T.ret (rT ?_)))
     exact eRt 2 (Z2s) [] p1c trivial
    refine cF (cn (cn (dF hq16))) (T.skip (nT (sR [] (T.ret ?_))))
    exact eRt 2 (Z2t) [] (cI (by exact if_pos ⟨‹_›,‹_›,‹_›,‹_›,‹_›,‹_›,‹_›,‹_›,‹_›,‹_›,p2s,p2s,p2r,pZ29⟩)) trivial
   refine sR (Xf hY1 [2,3,4,5] (Xf (hY · (dF hq13)) [6,7,8,9] (hS 10 (oY (b:=true) rfl rfl rfl rfl (X4 rfl) rfl (W9 (b:=(decide (m.X2≠10))) (av:=(Z2u m)) (X4 rfl) trivial (dF hq13)))::(hP1 11::(Xf (hN · true (dF hq15)) [13,14,15,16] (hP 17 (dF hq15)::[])))))) (T.seq (sR [] (cT (b:=(!false)) rfl (sR [] (T.ret (rT ?_))))))
   exact eRt 2 (Z2s) [] pZ20 trivial
  refine sR (Xf hY1 [2,3,4,5] (Xf (hY · (dF hq12)) [6,7,8,9] (hS 10 (oY (b:=true) rfl rfl rfl rfl (X4 rfl) rfl (W9 (b:=(decide (m.X2≠1))) (av:=vB (decide (((m.Xi.length:Nat):Int)≤4096))) (X4 rfl) trivial (dF hq12)))::(hP1 11::[])))) ?_
  by_cases hq17:((m.Xi.length:Nat):Int)≤4096
  rotate_left
  ·refine sR (Xf (hN · true (dF hq17)) [2,3,4,5] (hU 6::(hU 7::(hU 8::(hU 9::(hN 10 true (dF hq17)::(hP 11 (dF hq17)::(Xf hN1 [13,14,15,16] (hP0 17::[]))))))))) (T.seq (sR [] (cT (b:=(!false)) rfl (sR [] (T.ret (rT ?_))))))
   exact eRt 2 (Z2s) [] p3u trivial
  by_cases hq18:m.X2≠10
  ·refine sR (Xf (hY · (dT hq17)) [2,3,4,5] (Xf (hN · false (dT hq18)) [6,7,8,9] (hS 10 (oY rfl rfl rfl rfl (X4 rfl) (dT hq17) (Yp (b:=(decide (m.X2≠10))) (av:=vB true) (X4 rfl) ⟨rfl,trivial⟩ (dT hq18)))::(hP 11 (dT hq17)::(hY1 13::(hY1 14::(hS 15 (oY (b:=true) rfl rfl rfl rfl (X4 rfl) rfl (rCa (H0 tm false tm m.X5 ‹_›) Tryz.func100 [] [(.tmp 123,(Z2q tm m)),(.func 101,Z2r)] 0 0))::(hY1 16::(hP1 17::[]))))))))) (T.seq (sR [] ?_))
   by_cases hq19:¬X03 m.X5
   ·refine cT (cn (cn (dT hq19))) (sR [] (T.ret (rT ?_)))
    exact eRt 2 (Z2s) [] p1c trivial
   refine cF (cn (cn (dF hq19))) (T.skip (nT (sR [] (T.ret ?_))))
   exact eRt 2 (Z2t) [] (cI (by exact if_pos ⟨‹_›,‹_›,‹_›,‹_›,‹_›,‹_›,‹_›,‹_›,‹_›,‹_›,p2s,p2r,p2s,pZ29⟩)) trivial
  by_cases hq20:((m.X5.length:Nat):Int)=1
  ·refine sR (Xf (hY · (dT hq17)) [2,3,4,5] (Xf (hY · (dF hq18)) [6,7,8,9] (hS 10 (oY rfl rfl rfl rfl (X4 rfl) (dT hq17) (W9 (b:=(decide (m.X2≠10))) (av:=(Z2u m)) (X4 rfl) trivial (dF hq18)))::(hP 11 (dT hq17)::(hY 13 (dT hq20)::(hY 14 (dT hq20)::(hS 15 (oY rfl rfl rfl rfl (X4 rfl) (dT hq20) (rCa (H0 tm false tm m.X5 ‹_›) Tryz.func100 [] [(.tmp 123,(Z2q tm m)),(.func 101,Z2r)] 0 0))::(hY 16 (dT hq20)::(hP 17 (dT hq20)::[]))))))))) (T.seq (sR [] ?_))
   by_cases hq21:¬X03 m.X5
   ·refine cT (cn (cn (dT hq21))) (sR [] (T.ret (rT ?_)))
    exact eRt 2 (Z2s) [] p1c trivial
   refine cF (cn (cn (dF hq21))) (T.skip (nT (sR [] (T.ret ?_))))
   exact eRt 2 (Z2t) [] (cI (by exact if_pos ⟨‹_›,‹_›,‹_›,‹_›,‹_›,‹_›,‹_›,‹_›,‹_›,‹_›,p2s,p2r,p2r,pZ29⟩)) trivial
  refine sR (Xf (hY · (dT hq17)) [2,3,4,5] (Xf (hY · (dF hq18)) [6,7,8,9] (hS 10 (oY rfl rfl rfl rfl (X4 rfl) (dT hq17) (W9 (b:=(decide (m.X2≠10))) (av:=(Z2u m)) (X4 rfl) trivial (dF hq18)))::(hP 11 (dT hq17)::(Xf (hN · true (dF hq20)) [13,14,15,16] (hP 17 (dF hq20)::[])))))) (T.seq (sR [] (cT (b:=(!false)) rfl (sR [] (T.ret (rT ?_))))))
  exact eRt 2 (Z2s) [] pZ20 trivial
 refine sR (Xf (hY · (dT hq8)) [2,3,4,5,6,7,8] (hS 9 (oY rfl rfl rfl rfl (X4 rfl) (dT hq8) (rCa (Vz (Y3 m.X2) 8 ((m.Xb.length:Nat):Int) 0 ((m.Xb.length:Nat):Int) ) Tryz.func99 [] [(.tmp 66,(Z2i m)),(.const (.int .i64 8),vI 8),(.tmp 69,(Z2o m)),(.const (.int .i64 0),vI 0),(.tmp 72,(Z2o m))] 0 0))::(hP 10 (dT hq8)::(Xf (hY · (dT hq9)) [12,13,14,15,16,17,18] (hS 19 (oY rfl rfl rfl rfl (X4 rfl) (dT hq9) (rCa (Vz (Y3 m.X2) 16 ((m.Xi.length:Nat):Int) 0 ((m.Xi.length:Nat):Int) ) Tryz.func99 [] [(.tmp 76,(Z2i m)),(.const (.int .i64 16),vI 16),(.tmp 79,(Z2p m)),(.const (.int .i64 0),vI 0),(.tmp 82,(Z2p m))] 0 0))::(hP 20 (dT hq9)::(hY 22 (dT hq10)::(hY 23 (dT hq10)::(hS 24 (oY rfl rfl rfl rfl (X4 rfl) (dT hq10) (Y4 (u1:=.int .i64 (Y3 m.X2).V4) (u2:=.int .i64 32) (v:=.int .i64 (J0 (Y3 m.X2).V4 32)) (X71 rfl) (X4 rfl) ⟨rfl,trivial⟩))::(hY 25 (dT hq10)::(hY 26 (dT hq10)::(Xf (hY · (dF hq11)) [27,28,29] (hS 30 (oY rfl rfl rfl rfl (X4 rfl) (dF hq11) (X1j (ax:=.tv (.agg [dI m.X1.Xt,dI m.X1.Xn])) (ay:=.tv (.agg [dI 0,dI 0])) (a:=m.X1) (b:=(Xd.mk 0 0)) Vx ⟨[.int .i64 m.X1.Xt,.int .i64 m.X1.Xn],rfl,rfl⟩ ⟨[.int .i64 0,.int .i64 0],rfl,rfl⟩ (X4 rfl) py))::(hS 31 (oY rfl rfl rfl rfl (X4 rfl) (dT hq10) (W9 (b:=(decide ((J0 (Y3 m.X2).V4 32)≠0))) (av:=vB (decide (m.X1=(Xd.mk 0 0)))) (X4 rfl) trivial (dF hq11)))::(hP 32 (dT hq10)::[]))))))))))))))) ?_
 by_cases hq22:m.X1=(Xd.mk 0 0)
 rotate_left
 ·refine sR (Xf (hN · true (dF hq22)) [2,3,4,5] (hU 6::(hU 7::(hU 8::(hU 9::(hN 10 true (dF hq22)::(hP 11 (dF hq22)::[]))))))) (sR (Xf hN1 [2,3,4,5] (hU 6::(hU 7::(hU 8::(hU 9::(hN1 10::(hP0 11::(Xf hN1 [13,14,15,16] (hP0 17::[]))))))))) (T.seq (sR [] (cT (b:=(!false)) rfl (sR [] (T.ret (rT ?_)))))))
  exact eRt 2 (Z2s) [] (cI (by exact if_neg (fun h9=>by (rcases h9.2.2.2.2.2.2.2.2.2.2.1 with h8|h8<;>exact absurd h8 ‹_›)))) trivial
 by_cases hq23:m.X2≠1
 ·refine sR (Xf (hY · (dT hq22)) [2,3,4,5] (Xf (hN · false (dT hq23)) [6,7,8,9] (hS 10 (oY rfl rfl rfl rfl (X4 rfl) (dT hq22) (Yp (b:=(decide (m.X2≠1))) (av:=vB true) (X4 rfl) ⟨rfl,trivial⟩ (dT hq23)))::(hP 11 (dT hq22)::[])))) ?_
  by_cases hq24:m.X2≠10
  ·refine sR (Xf hY1 [2,3,4,5] (Xf (hN · false (dT hq24)) [6,7,8,9] (hS 10 (oY (b:=true) rfl rfl rfl rfl (X4 rfl) rfl (Yp (b:=(decide (m.X2≠10))) (av:=vB true) (X4 rfl) ⟨rfl,trivial⟩ (dT hq24)))::(hP1 11::(hY1 13::(hY1 14::(hS 15 (oY (b:=true) rfl rfl rfl rfl (X4 rfl) rfl (rCa (H0 tm false tm m.X5 ‹_›) Tryz.func100 [] [(.tmp 123,(Z2q tm m)),(.func 101,Z2r)] 0 0))::(hY1 16::(hP1 17::[]))))))))) (T.seq (sR [] ?_))
   by_cases hq25:¬X03 m.X5
   ·refine cT (cn (cn (dT hq25))) (sR [] (T.ret (rT ?_)))
    exact eRt 2 (Z2s) [] p1c trivial
   refine cF (cn (cn (dF hq25))) (T.skip (nT (sR [] (T.ret ?_))))
   exact eRt 2 (Z2t) [] (cI (by exact if_pos ⟨‹_›,‹_›,‹_›,‹_›,‹_›,‹_›,‹_›,‹_›,‹_›,‹_›,p2r,p2s,p2s,pZ29⟩)) trivial
  by_cases hq26:((m.X5.length:Nat):Int)=1
  ·refine sR (Xf hY1 [2,3,4,5] (Xf (hY · (dF hq24)) [6,7,8,9] (hS 10 (oY (b:=true) rfl rfl rfl rfl (X4 rfl) rfl (W9 (b:=(decide (m.X2≠10))) (av:=(Z2u m)) (X4 rfl) trivial (dF hq24)))::(hP1 11::(hY 13 (dT hq26)::(hY 14 (dT hq26)::(hS 15 (oY rfl rfl rfl rfl (X4 rfl) (dT hq26) (rCa (H0 tm false tm m.X5 ‹_›) Tryz.func100 [] [(.tmp 123,(Z2q tm m)),(.func 101,Z2r)] 0 0))::(hY 16 (dT hq26)::(hP 17 (dT hq26)::[]))))))))) (T.seq (sR [] ?_))
   by_cases hq27:¬X03 m.X5
   ·refine cT (cn (cn (dT hq27))) (sR [] (T.ret (rT ?_)))
    exact eRt 2 (Z2s) [] p1c trivial
   refine cF (cn (cn (dF hq27))) (T.skip (nT (sR [] (T.ret ?_))))
   exact eRt 2 (Z2t) [] (cI (by exact if_pos ⟨‹_›,‹_›,‹_›,‹_›,‹_›,‹_›,‹_›,‹_›,‹_›,‹_›,p2r,p2s,p2r,pZ29⟩)) trivial
  refine sR (Xf hY1 [2,3,4,5] (Xf (hY · (dF hq24)) [6,7,8,9] (hS 10 (oY (b:=true) rfl rfl rfl rfl (X4 rfl) rfl (W9 (b:=(decide (m.X2≠10))) (av:=(Z2u m)) (X4 rfl) trivial (dF hq24)))::(hP1 11::(Xf (hN · true (dF hq26)) [13,14,15,16] (hP 17 (dF hq26)::[])))))) (T.seq (sR [] (cT (b:=(!false)) rfl (sR [] (T.ret (rT ?_))))))
  exact eRt 2 (Z2s) [] pZ20 trivial
 refine sR (Xf (hY · (dT hq22)) [2,3,4,5] (Xf (hY · (dF hq23)) [6,7,8,9] (hS 10 (oY rfl rfl rfl rfl (X4 rfl) (dT hq22) (W9 (b:=(decide (m.X2≠1))) (av:=vB (decide (((m.Xi.length:Nat):Int)≤4096))) (X4 rfl) trivial (dF hq23)))::(hP 11 (dT hq22)::[])))) ?_
 by_cases hq28:((m.Xi.length:Nat):Int)≤4096
 rotate_left
 ·refine sR (Xf (hN · true (dF hq28)) [2,3,4,5] (hU 6::(hU 7::(hU 8::(hU 9::(hN 10 true (dF hq28)::(hP 11 (dF hq28)::(Xf hN1 [13,14,15,16] (hP0 17::[]))))))))) (T.seq (sR [] (cT (b:=(!false)) rfl (sR [] (T.ret (rT ?_))))))
  exact eRt 2 (Z2s) [] p3u trivial
 by_cases hq29:m.X2≠10
 ·refine sR (Xf (hY · (dT hq28)) [2,3,4,5] (Xf (hN · false (dT hq29)) [6,7,8,9] (hS 10 (oY rfl rfl rfl rfl (X4 rfl) (dT hq28) (Yp (b:=(decide (m.X2≠10))) (av:=vB true) (X4 rfl) ⟨rfl,trivial⟩ (dT hq29)))::(hP 11 (dT hq28)::(hY1 13::(hY1 14::(hS 15 (oY (b:=true) rfl rfl rfl rfl (X4 rfl) rfl (rCa (H0 tm false tm m.X5 ‹_›) Tryz.func100 [] [(.tmp 123,(Z2q tm m)),(.func 101,Z2r)] 0 0))::(hY1 16::(hP1 17::[]))))))))) (T.seq (sR [] ?_))
  by_cases hq30:¬X03 m.X5
  ·refine cT (cn (cn (dT hq30))) (sR [] (T.ret (rT ?_)))
   exact eRt 2 (Z2s) [] p1c trivial
  refine cF (cn (cn (dF hq30))) (T.skip (nT (sR [] (T.ret ?_))))
  exact eRt 2 (Z2t) [] (cI (by exact if_pos ⟨‹_›,‹_›,‹_›,‹_›,‹_›,‹_›,‹_›,‹_›,‹_›,‹_›,p2r,p2r,p2s,pZ29⟩)) trivial
 by_cases hq31:((m.X5.length:Nat):Int)=1
 ·refine sR (Xf (hY · (dT hq28)) [2,3,4,5] (Xf (hY · (dF hq29)) [6,7,8,9] (hS 10 (oY rfl rfl rfl rfl (X4 rfl) (dT hq28) (W9 (b:=(decide (m.X2≠10))) (av:=(Z2u m)) (X4 rfl) trivial (dF hq29)))::(hP 11 (dT hq28)::(hY 13 (dT hq31)::(hY 14 (dT hq31)::(hS 15 (oY rfl rfl rfl rfl (X4 rfl) (dT hq31) (rCa (H0 tm false tm m.X5 ‹_›) Tryz.func100 [] [(.tmp 123,(Z2q tm m)),(.func 101,Z2r)] 0 0))::(hY 16 (dT hq31)::(hP 17 (dT hq31)::[]))))))))) (T.seq (sR [] ?_))
  by_cases hq32:¬X03 m.X5
  ·refine cT (cn (cn (dT hq32))) (sR [] (T.ret (rT ?_)))
   exact eRt 2 (Z2s) [] p1c trivial
  refine cF (cn (cn (dF hq32))) (T.skip (nT (sR [] (T.ret ?_))))
  exact eRt 2 (Z2t) [] (cI (by exact if_pos ⟨‹_›,‹_›,‹_›,‹_›,‹_›,‹_›,‹_›,‹_›,‹_›,‹_›,p2r,p2r,p2r,pZ29⟩)) trivial
 refine sR (Xf (hY · (dT hq28)) [2,3,4,5] (Xf (hY · (dF hq29)) [6,7,8,9] (hS 10 (oY rfl rfl rfl rfl (X4 rfl) (dT hq28) (W9 (b:=(decide (m.X2≠10))) (av:=(Z2u m)) (X4 rfl) trivial (dF hq29)))::(hP 11 (dT hq28)::(Xf (hN · true (dF hq31)) [13,14,15,16] (hP 17 (dF hq31)::[])))))) (T.seq (sR [] (cT (b:=(!false)) rfl (sR [] (T.ret (rT ?_))))))
 exact eRt 2 (Z2s) [] pZ20 trivial
theorem iat_86:Tryz.prog.info? 86=some Tryz.t86:=by kernel_rfl
theorem Jw:Wide Tryz.prog 86 (some 9):=⟨_,_,Tryz.underlying86,.inl ⟨_,rfl⟩,iat_86,rfl⟩
abbrev Z2v:TV:=.one (dB true)
abbrev Z2w:TV:=.agg [dB true,dB true,dB false,dB true,dB false,dB false,dB false,dB false,dB false]
theorem Fl (k:Int):Holds Tryz.prog 28 ⟨[vI k],[],.tup [.agg [dB (Xg k).Xr,dB (Xg k).Xy,dB (Xg k).Xa,dB (Xg k).Xb,dB (Xg k).Xi,dB (Xg k).X1,dB (Xg k).Xe,dB (Xg k).Xp,dB (Xg k).X5],.one (dB (decide (okK k)))],[]⟩:=by
 refine Holds.of Tryz.func28 rfl (N:=37) Tryz.ntmps28 rfl fun w0 B0 S0 U0=>?_
 show T _ (Y0 37 0 w0 S0 U0 B0) ⟨[vI k],[]⟩ _ _
 refine sR [] (T.seq (sR [] (T.block (sR [] ?_))))
 by_cases hq1:k=1
 ·refine cT (dT hq1) (sR [] (T.ret (rB (rT ?_))))
  exact eX [.c 2 0 86 0 86 [dB false,dB false,dB true,dB false,dB true,dB false,dB false,dB false,dB false] (.agg [dB false,dB false,dB true,dB false,dB true,dB false,dB false,dB false,dB false]),.t 3 (Z2v)] ⟨⟨rfl,rfl,by kernel_rfl,by kernel_rfl,.inl ⟨9,Jw,rfl,Nat.le_of_ble_eq_true rfl⟩⟩,⟨⟨rfl,by kernel_rfl⟩,trivial⟩⟩ [] (gc2 (show (Xg k)=⟨false,false,true,false,true,false,false,false,false⟩ from F6) (show ((decide (okK k)):Bool)=true from F6) (fun qq0 (q10:Bool)=>(.tup [.agg [dB (qq0.Xr),dB (qq0.Xy),dB (qq0.Xa),dB (qq0.Xb),dB (qq0.Xi),dB (qq0.X1),dB (qq0.Xe),dB (qq0.Xp),dB (qq0.X5)],.one (dB q10)]:AV))) trivial
 refine cF (dF hq1) (sR [] ?_)
 by_cases hq2:k=2
 ·refine cT (dT hq2) (sR [] (T.ret (rB (rT ?_))))
  exact eX [.c 2 0 86 0 86 [dB true,dB true,dB false,dB true,dB false,dB false,dB true,dB false,dB false] (.agg [dB true,dB true,dB false,dB true,dB false,dB false,dB true,dB false,dB false]),.t 3 (Z2v)] ⟨⟨rfl,rfl,by kernel_rfl,by kernel_rfl,.inl ⟨9,Jw,rfl,Nat.le_of_ble_eq_true rfl⟩⟩,⟨⟨rfl,by kernel_rfl⟩,trivial⟩⟩ [] (gc2 (show (Xg k)=⟨true,true,false,true,false,false,true,false,false⟩ from F6) (show ((decide (okK k)):Bool)=true from F6) (fun qq0 (q10:Bool)=>(.tup [.agg [dB (qq0.Xr),dB (qq0.Xy),dB (qq0.Xa),dB (qq0.Xb),dB (qq0.Xi),dB (qq0.X1),dB (qq0.Xe),dB (qq0.Xp),dB (qq0.X5)],.one (dB q10)]:AV))) trivial
 refine cF (dF hq2) (T.seq (sR [] ?_))
 by_cases hq3:k=3
 ·refine cT (dT hq3) (T.skip (nT (cT (dT hq3) (sR [] (T.ret (rB (rT ?_)))))))
  exact eX [.c 2 0 86 0 86 [dB true,dB true,dB false,dB true,dB false,dB false,dB false,dB false,dB false] (Z2w),.t 3 (Z2v)] ⟨⟨rfl,rfl,by kernel_rfl,by kernel_rfl,.inl ⟨9,Jw,rfl,Nat.le_of_ble_eq_true rfl⟩⟩,⟨⟨rfl,by kernel_rfl⟩,trivial⟩⟩ [] p1v trivial
 refine cF (dF hq3) (xK [] (nT ?_))
 by_cases hq4:k=4
 ·refine cT (dT hq4) (sR [] (T.ret (rB (rT ?_))))
  exact eX [.c 2 0 86 0 86 [dB true,dB true,dB false,dB true,dB false,dB false,dB false,dB false,dB false] (Z2w),.t 3 (Z2v)] ⟨⟨rfl,rfl,by kernel_rfl,by kernel_rfl,.inl ⟨9,Jw,rfl,Nat.le_of_ble_eq_true rfl⟩⟩,⟨⟨rfl,by kernel_rfl⟩,trivial⟩⟩ [] p1v trivial
 refine cF (dF hq4) (sR [] ?_)
 by_cases hq5:k=5
 ·refine cT (dT hq5) (sR [] (T.ret (rB (rT ?_))))
  exact eX [.c 2 0 86 0 86 [dB false,dB true,dB false,dB true,dB false,dB false,dB false,dB false,dB false] (.agg [dB false,dB true,dB false,dB true,dB false,dB false,dB false,dB false,dB false]),.t 3 (Z2v)] ⟨⟨rfl,rfl,by kernel_rfl,by kernel_rfl,.inl ⟨9,Jw,rfl,Nat.le_of_ble_eq_true rfl⟩⟩,⟨⟨rfl,by kernel_rfl⟩,trivial⟩⟩ [] (gc2 (show (Xg k)=⟨false,true,false,true,false,false,false,false,false⟩ from F6) (show ((decide (okK k)):Bool)=true from F6) (fun qq0 (q10:Bool)=>(.tup [.agg [dB (qq0.Xr),dB (qq0.Xy),dB (qq0.Xa),dB (qq0.Xb),dB (qq0.Xi),dB (qq0.X1),dB (qq0.Xe),dB (qq0.Xp),dB (qq0.X5)],.one (dB q10)]:AV))) trivial
 refine cF (dF hq5) (sR [] ?_)
 by_cases hq6:k=6
 ·refine cT (dT hq6) (sR [] (T.ret (rB (rT ?_))))
  exact eX [.c 2 0 86 0 86 [dB true,dB true,dB false,dB false,dB false,dB false,dB true,dB false,dB true] (.agg [dB true,dB true,dB false,dB false,dB false,dB false,dB true,dB false,dB true]),.t 3 (Z2v)] ⟨⟨rfl,rfl,by kernel_rfl,by kernel_rfl,.inl ⟨9,Jw,rfl,Nat.le_of_ble_eq_true rfl⟩⟩,⟨⟨rfl,by kernel_rfl⟩,trivial⟩⟩ [] (gc2 (show (Xg k)=⟨true,true,false,false,false,false,true,false,true⟩ from F6) (show ((decide (okK k)):Bool)=true from F6) (fun qq0 (q10:Bool)=>(.tup [.agg [dB (qq0.Xr),dB (qq0.Xy),dB (qq0.Xa),dB (qq0.Xb),dB (qq0.Xi),dB (qq0.X1),dB (qq0.Xe),dB (qq0.Xp),dB (qq0.X5)],.one (dB q10)]:AV))) trivial
 refine cF (dF hq6) (sR [] ?_)
 by_cases hq7:k=7
 ·refine cT (dT hq7) (sR [] (T.ret (rB (rT ?_))))
  exact eX [.c 2 0 86 0 86 [dB true,dB false,dB false,dB false,dB false,dB false,dB true,dB true,dB false] (.agg [dB true,dB false,dB false,dB false,dB false,dB false,dB true,dB true,dB false]),.t 3 (Z2v)] ⟨⟨rfl,rfl,by kernel_rfl,by kernel_rfl,.inl ⟨9,Jw,rfl,Nat.le_of_ble_eq_true rfl⟩⟩,⟨⟨rfl,by kernel_rfl⟩,trivial⟩⟩ [] (gc2 (show (Xg k)=⟨true,false,false,false,false,false,true,true,false⟩ from F6) (show ((decide (okK k)):Bool)=true from F6) (fun qq0 (q10:Bool)=>(.tup [.agg [dB (qq0.Xr),dB (qq0.Xy),dB (qq0.Xa),dB (qq0.Xb),dB (qq0.Xi),dB (qq0.X1),dB (qq0.Xe),dB (qq0.Xp),dB (qq0.X5)],.one (dB q10)]:AV))) trivial
 refine cF (dF hq7) (sR [] ?_)
 by_cases hq8:k=8
 ·refine cT (dT hq8) (sR [] (T.ret (rB (rT ?_))))
  exact eX [.c 2 0 86 0 86 [dB true,dB false,dB true,dB false,dB false,dB true,dB false,dB false,dB false] (.agg [dB true,dB false,dB true,dB false,dB false,dB true,dB false,dB false,dB false]),.t 3 (Z2v)] ⟨⟨rfl,rfl,by kernel_rfl,by kernel_rfl,.inl ⟨9,Jw,rfl,Nat.le_of_ble_eq_true rfl⟩⟩,⟨⟨rfl,by kernel_rfl⟩,trivial⟩⟩ [] (gc2 (show (Xg k)=⟨true,false,true,false,false,true,false,false,false⟩ from F6) (show ((decide (okK k)):Bool)=true from F6) (fun qq0 (q10:Bool)=>(.tup [.agg [dB (qq0.Xr),dB (qq0.Xy),dB (qq0.Xa),dB (qq0.Xb),dB (qq0.Xi),dB (qq0.X1),dB (qq0.Xe),dB (qq0.Xp),dB (qq0.X5)],.one (dB q10)]:AV))) trivial
 refine cF (dF hq8) (sR [] ?_)
 by_cases hq9:k=9
 ·refine cT (dT hq9) (sR [] (T.ret (rB (rT ?_))))
  exact eX [.c 2 0 86 0 86 [dB false,dB true,dB false,dB false,dB false,dB false,dB false,dB false,dB false] (.agg [dB false,dB true,dB false,dB false,dB false,dB false,dB false,dB false,dB false]),.t 3 (Z2v)] ⟨⟨rfl,rfl,by kernel_rfl,by kernel_rfl,.inl ⟨9,Jw,rfl,Nat.le_of_ble_eq_true rfl⟩⟩,⟨⟨rfl,by kernel_rfl⟩,trivial⟩⟩ [] (gc2 (show (Xg k)=⟨false,true,false,false,false,false,false,false,false⟩ from F6) (show ((decide (okK k)):Bool)=true from F6) (fun qq0 (q10:Bool)=>(.tup [.agg [dB (qq0.Xr),dB (qq0.Xy),dB (qq0.Xa),dB (qq0.Xb),dB (qq0.Xi),dB (qq0.X1),dB (qq0.Xe),dB (qq0.Xp),dB (qq0.X5)],.one (dB q10)]:AV))) trivial
 refine cF (dF hq9) (sR [] ?_)
 by_cases hq10:k=10
 ·refine cT (dT hq10) (sR [] (T.ret (rB (rT ?_))))
  exact eX [.c 2 0 86 0 86 [dB false,dB false,dB false,dB false,dB false,dB false,dB false,dB false,dB true] (.agg [dB false,dB false,dB false,dB false,dB false,dB false,dB false,dB false,dB true]),.t 3 (Z2v)] ⟨⟨rfl,rfl,by kernel_rfl,by kernel_rfl,.inl ⟨9,Jw,rfl,Nat.le_of_ble_eq_true rfl⟩⟩,⟨⟨rfl,by kernel_rfl⟩,trivial⟩⟩ [] (gc2 (show (Xg k)=⟨false,false,false,false,false,false,false,false,true⟩ from F6) (show ((decide (okK k)):Bool)=true from F6) (fun qq0 (q10:Bool)=>(.tup [.agg [dB (qq0.Xr),dB (qq0.Xy),dB (qq0.Xa),dB (qq0.Xb),dB (qq0.Xi),dB (qq0.X1),dB (qq0.Xe),dB (qq0.Xp),dB (qq0.X5)],.one (dB q10)]:AV))) trivial
 refine cF (dF hq10) (sR [] ?_)
 by_cases hq11:k=11
 ·refine cT (dT hq11) (sR [] (T.ret (rB (rT ?_))))
  exact eX [.c 2 0 86 0 86 [dB false,dB true,dB false,dB false,dB true,dB false,dB true,dB false,dB false] (.agg [dB false,dB true,dB false,dB false,dB true,dB false,dB true,dB false,dB false]),.t 3 (Z2v)] ⟨⟨rfl,rfl,by kernel_rfl,by kernel_rfl,.inl ⟨9,Jw,rfl,Nat.le_of_ble_eq_true rfl⟩⟩,⟨⟨rfl,by kernel_rfl⟩,trivial⟩⟩ [] (gc2 (show (Xg k)=⟨false,true,false,false,true,false,true,false,false⟩ from F6) (show ((decide (okK k)):Bool)=true from F6) (fun qq0 (q10:Bool)=>(.tup [.agg [dB (qq0.Xr),dB (qq0.Xy),dB (qq0.Xa),dB (qq0.Xb),dB (qq0.Xi),dB (qq0.X1),dB (qq0.Xe),dB (qq0.Xp),dB (qq0.X5)],.one (dB q10)]:AV))) trivial
 refine cF (dF hq11) (T.skip (nB (nT (sR [] (T.ret ?_)))))
 exact eX [.c 2 0 86 0 86 [dB false,dB false,dB false,dB false,dB false,dB false,dB false,dB false,dB false] (.agg [dB false,dB false,dB false,dB false,dB false,dB false,dB false,dB false,dB false]),.t 3 (.one (dB false))] ⟨⟨rfl,rfl,by kernel_rfl,by kernel_rfl,.inl ⟨9,Jw,rfl,Nat.le_of_ble_eq_true rfl⟩⟩,⟨⟨rfl,by kernel_rfl⟩,trivial⟩⟩ [] (gc2 (show (Xg k)=⟨false,false,false,false,false,false,false,false,false⟩ from F6) (by exact dF (by unfold okK;omega)) (fun qq0 (q10:Bool)=>(.tup [.agg [dB (qq0.Xr),dB (qq0.Xy),dB (qq0.Xa),dB (qq0.Xb),dB (qq0.Xi),dB (qq0.X1),dB (qq0.Xe),dB (qq0.Xp),dB (qq0.X5)],.one (dB q10)]:AV))) trivial
abbrev Z2x:TV:=.one (dI 1)
abbrev Z2y:TV:=.one (dI 0)
theorem X8z (k:Int):Holds Tryz.prog 63 ⟨[vI k],[],.tup [.one (dI (X1q k)),.one (dI (X10 k))],[]⟩:=by
 refine Holds.of Tryz.func63 rfl (N:=15) Tryz.ntmps63 rfl fun w0 B0 S0 U0=>?_
 show T _ (Y0 15 0 w0 S0 U0 B0) ⟨[vI k],[]⟩ _ _
 refine sR [] (sR [] (T.seq (sR [] (T.block (sR [] ?_)))))
 by_cases hq1:k=6
 ·refine cT (dT hq1) (sR [] (xK [] (nB (nT (sR [] (T.ret ?_))))))
  exact eX [.t 2 (Z2x),.t 3 (Z2y)] ⟨⟨rfl,by kernel_rfl⟩,⟨⟨rfl,by kernel_rfl⟩,trivial⟩⟩ [] (by have e1:(X1q k:Int)=1:=p2v;have e2:(X10 k:Int)=0:=p2v;have hE:=congr p2g e2;exact hE) trivial
 refine cF (dF hq1) (sR [] ?_)
 by_cases hq2:k=7
 ·refine cT (dT hq2) (xK [] (nB (nT (sR [] (T.ret ?_)))))
  exact eX [.t 2 (Z2x),.t 3 (Z2x)] ⟨⟨rfl,by kernel_rfl⟩,⟨⟨rfl,by kernel_rfl⟩,trivial⟩⟩ [] (by have e1:(X1q k:Int)=1:=p2v;have e2:(X10 k:Int)=1:=p2v;have hE:=congr p2g e2;exact hE) trivial
 refine cF (dF hq2) (sR [] ?_)
 by_cases hq3:k=9
 ·refine cT (dT hq3) (xK [] (nB (nT (sR [] (T.ret ?_)))))
  exact eX [.t 2 (Z2y),.t 3 (Z2y)] ⟨⟨rfl,by kernel_rfl⟩,⟨⟨rfl,by kernel_rfl⟩,trivial⟩⟩ [] (by have e1:(X1q k:Int)=0:=p2v;have e2:(X10 k:Int)=0:=p2v;have hE:=congr p2g e2;exact hE) trivial
 refine cF (dF hq3) (T.skip (nB (nT (sR [] (T.ret ?_)))))
 exact eX [.t 2 (Z2y),.t 3 (Z2x)] ⟨⟨rfl,by kernel_rfl⟩,⟨⟨rfl,by kernel_rfl⟩,trivial⟩⟩ [] (by have e1:(X1q k:Int)=0:=p2v;have e2:(X10 k:Int)=1:=p2v;have hE:=congr p2g e2;exact hE) trivial
theorem Vj (n:Int) (had:Bool) (lo:Int):Holds Tryz.prog 64 ⟨[vI n,vB had,vI lo],[],vB (decide (Fs n had lo)),[]⟩:=by
 refine Holds.of Tryz.func64 rfl (N:=18) Tryz.ntmps64 rfl fun w0 B0 S0 U0=>?_
 show T _ (Y0 18 0 w0 S0 U0 B0) ⟨[vI n,vB had,vI lo],[]⟩ _ _
 refine sR [] (T.seq (sR [] ?_))
 by_cases hq1:had=true
 ·refine cF (cn hq1) (T.skip (nT ?_))
  by_cases hq2:n≥lo
  ·refine sR [hY 4 (dT hq2),hY 5 (dT hq2),hP 6 (dT hq2)] (T.ret ?_)
   exact eRt 6 (.one (dB (decide (n≤1099511627776)))) [] (by have e1:((decide (Fs n had lo)):Bool)=(decide (n≤1099511627776)):=(by (simp [Fs, *];done));have hE:=cB e1;exact hE) trivial
  refine sR [hN 4 true (dF hq2),hN 5 true (dF hq2),hP 6 (dF hq2)] (T.ret ?_)
  exact eRt 6 (.one (dB false)) [] (by have e1:((decide (Fs n had lo)):Bool)=false:=(by (simp [Fs, *];done));have hE:=cB e1;exact hE) trivial
 replace hq1:=Bool.eq_false_iff.2 hq1
 refine cT (cn hq1) (sR [] (T.ret (rT ?_)))
 exact eRt 6 (.one (dB (decide (n=0)))) [] (by have e1:((decide (Fs n had lo)):Bool)=(decide (n=0)):=(by (simp [Fs, *];done));have hE:=cB e1;exact hE) trivial
section
variable (tm:Bool) (m:aM) (h:aH) (k:Nat)
abbrev Z2z:List SV:=[dI m.X2,dI m.Xr,dI m.Xy,dI m.Xa,dI m.Xw,dS m.Xb,.d (dsl tm false kU8 m.Xi),dI m.X1.Xt,dI m.X1.Xn,.d (dsl tm false (kE tm) m.Xe),.d (dsl tm false (kE tm) m.Xp),.d (dsl tm false (kC tm) m.X5)]
abbrev Z30:AV:=.tv (.agg (Z2z tm m))
abbrev Z31:List SV:=[dB h.Xr,dB h.Xy,dB h.Xa,dB h.Xb,dB h.Xi,dB h.X1,dB h.Xe,dB h.Xp,dB h.X5]
abbrev Z32:AV:=.tv (.agg (Z31 h))
abbrev Z33:List AV:=[(Z30 tm m),(Z32 h),pv 0 0,pv 1 0,vB false,vI (if h.Xe=true then 7 else 0),aa,aa,aa,vB h.Xe]
abbrev Z34:List HS:=[.live (.box 42 (Z2z tm m)),.live (.box 86 (Z31 h))]
abbrev Z35:List AV:=[(Z30 tm m),(Z32 h),pv 0 0,pv 1 0,vB false,vI 7,aa,aa,aa,vB h.Xe]
abbrev Z36:List AV:=[(Z30 tm m),(Z32 h),pv 0 0,pv 1 0,vB false,vI 0,aa,aa,aa,vB h.Xe]
abbrev Z37:AV:=vI (maxB m.X2 h)
abbrev Z38:AV:=vB (decide (m.X2=2))
abbrev Z39:List AV:=[(Z30 tm m),(Z32 h),pv 0 0,pv 1 0,vB false,(Z37 m h),aa,aa,aa,vB h.Xe,aa,aa,(Z38 m)]
abbrev Z3a:List AV:=[(Z30 tm m),(Z32 h),pv 0 0,pv 1 0,vB false,vI 4,aa,aa,aa,vB h.Xe,aa,aa,(Z38 m)]
abbrev Z3b:List AV:=[(Z30 tm m),(Z32 h),pv 0 0,pv 1 0,vB false,vI (if h.Xe=true then 7 else 0),aa,aa,aa,vB h.Xe,aa,aa,(Z38 m)]
abbrev Z3c:List AV:=[(Z30 tm m),(Z32 h),pv 0 0,pv 1 0,vB false,(Z37 m h),vI (maxP h),aa,aa,vB h.Xe,aa,aa,(Z38 m),aa,vB h.Xp]
abbrev Z3d:List AV:=[(Z30 tm m),(Z32 h),pv 0 0,pv 1 0,vB false,(Z37 m h),vI 8,aa,aa,vB h.Xe,aa,aa,(Z38 m),aa,vB h.Xp]
abbrev Z3e:List AV:=[(Z30 tm m),(Z32 h),pv 0 0,pv 1 0,vB false,(Z37 m h),vI 0,aa,aa,vB h.Xe,aa,aa,(Z38 m),aa,vB h.Xp]
abbrev Z3f:TV:=.one (dB false)
abbrev Z3g:AV:=vB (decide (((m.Xp.length:Nat):Int)>(maxP h)))
abbrev Z3h:AV:=vB (decide (((m.X5.length:Nat):Int)>8))
abbrev Z3i:St:=⟨[(Z30 tm m),(Z32 h),pv 0 0,pv 1 0,vB false,(Z37 m h),vI (maxP h),vI ((k:Nat):Int),aa,vB h.Xe,aa,aa,(Z38 m),aa,vB h.Xp,aa,aa,aa,aa,aa,aa,aa,aa,aa,aa,aa,(Z3g m h),aa,aa,aa,aa,aa,aa,aa,aa,aa,aa,aa,aa,aa,aa,aa,aa,aa,aa,aa,aa,aa,aa,aa,aa,aa,(Z3h m)],(Z34 tm m h)⟩
abbrev Z3l:TV:=.one (dB true)
abbrev Z3m:AV:=vB (decide (((m.X5.length:Nat):Int)>0))
end
theorem Wd (tm:Bool) (m:aM) (h:aH) (hq:m.Xe.length≤9223372036854775807) (hr:m.Xp.length≤9223372036854775807) (hc:m.X5.length≤9223372036854775807):Holds Tryz.prog 65 ⟨[.tv (.agg [dI m.X2,dI m.Xr,dI m.Xy,dI m.Xa,dI m.Xw,dS m.Xb,.d (dsl tm false kU8 m.Xi),dI m.X1.Xt,dI m.X1.Xn,.d (dsl tm false (kE tm) m.Xe),.d (dsl tm false (kE tm) m.Xp),.d (dsl tm false (kC tm) m.X5)]),.tv (.agg [dB h.Xr,dB h.Xy,dB h.Xa,dB h.Xb,dB h.Xi,dB h.X1,dB h.Xe,dB h.Xp,dB h.X5])],[],vB (decide (F9 m h)),[]⟩:=by
 refine Holds.of Tryz.func65 rfl (N:=68) Tryz.ntmps65 rfl fun w0 B0 S0 U0=>?_
 show T _ (Y0 68 0 w0 S0 U0 B0) ⟨[(Z30 tm m),(Z32 h)],[]⟩ _ _
 refine sR [] (sR [] ?_)
 refine Va ⟨(Z33 tm m h),(Z34 tm m h)⟩ ?_ ?_
 ·refine sR [] ?_
  by_cases hq1:h.Xe=true
  ·refine cT hq1 (xK [] ?_)
   refine eN ⟨(Z35 tm m h),(Z34 tm m h)⟩ ?_
   refine Xh (s':=⟨(Z33 tm m h),(Z34 tm m h)⟩) (fun _ _ hG=>Y9 [0,1] (bm 10 575) (t2:=(Z35 tm m h)) (congrArg (fun (q1:Int)=>([(Z30 tm m),(Z32 h),pv 0 0,pv 1 0,vB false,vI q1,aa,aa,aa,vB h.Xe]:List AV)) (by exact if_pos ‹_›)) rfl hG) ?_
   exact nJ
  replace hq1:=Bool.eq_false_iff.2 hq1
  refine cF hq1 (T.skip ?_)
  refine eN ⟨(Z36 tm m h),(Z34 tm m h)⟩ ?_
  refine Xh (s':=⟨(Z33 tm m h),(Z34 tm m h)⟩) (fun _ _ hG=>Y9 [0,1] (bm 10 575) (t2:=(Z36 tm m h)) (congrArg (fun (q1:Int)=>([(Z30 tm m),(Z32 h),pv 0 0,pv 1 0,vB false,vI q1,aa,aa,aa,vB h.Xe]:List AV)) (by exact if_neg (nbB ‹_›))) rfl hG) ?_
  exact nJ
 refine Va ⟨(Z39 tm m h),(Z34 tm m h)⟩ ?_ ?_
 ·refine sR [] ?_
  by_cases hq2:m.X2=2
  ·refine cT (dT hq2) (xK [] ?_)
   refine eN ⟨(Z3a tm m h),(Z34 tm m h)⟩ ?_
   refine Xh (s':=⟨(Z39 tm m h),(Z34 tm m h)⟩) (fun _ _ hG=>Y9 [0,1] (bm 13 4671) (t2:=(Z3a tm m h)) (congrArg (fun (q1:Int)=>([(Z30 tm m),(Z32 h),pv 0 0,pv 1 0,vB false,vI q1,aa,aa,aa,vB h.Xe,aa,aa,(Z38 m)]:List AV)) (by exact if_pos ‹_›)) rfl hG) ?_
   exact nJ
  refine cF (dF hq2) (T.skip ?_)
  refine eN ⟨(Z3b tm m h),(Z34 tm m h)⟩ ?_
  refine Xh (s':=⟨(Z39 tm m h),(Z34 tm m h)⟩) (fun _ _ hG=>Y9 [0,1] (bm 13 4671) (t2:=(Z3b tm m h)) (congrArg (fun (q1:Int)=>([(Z30 tm m),(Z32 h),pv 0 0,pv 1 0,vB false,vI q1,aa,aa,aa,vB h.Xe,aa,aa,(Z38 m)]:List AV)) (by exact if_neg ‹_›)) rfl hG) ?_
  exact nJ
 refine sR [] ?_
 refine Va ⟨(Z3c tm m h),(Z34 tm m h)⟩ ?_ ?_
 ·refine sR [] ?_
  by_cases hq3:h.Xp=true
  ·refine cT hq3 (xK [] ?_)
   refine eN ⟨(Z3d tm m h),(Z34 tm m h)⟩ ?_
   refine Xh (s':=⟨(Z3c tm m h),(Z34 tm m h)⟩) (fun _ _ hG=>Y9 [0,1] (bm 15 21119) (t2:=(Z3d tm m h)) (congrArg (fun (q1:Int)=>([(Z30 tm m),(Z32 h),pv 0 0,pv 1 0,vB false,(Z37 m h),vI q1,aa,aa,vB h.Xe,aa,aa,(Z38 m),aa,vB h.Xp]:List AV)) (by exact if_pos ‹_›)) rfl hG) ?_
   exact nJ
  replace hq3:=Bool.eq_false_iff.2 hq3
  refine cF hq3 (T.skip ?_)
  refine eN ⟨(Z3e tm m h),(Z34 tm m h)⟩ ?_
  refine Xh (s':=⟨(Z3c tm m h),(Z34 tm m h)⟩) (fun _ _ hG=>Y9 [0,1] (bm 15 21119) (t2:=(Z3e tm m h)) (congrArg (fun (q1:Int)=>([(Z30 tm m),(Z32 h),pv 0 0,pv 1 0,vB false,(Z37 m h),vI q1,aa,aa,vB h.Xe,aa,aa,(Z38 m),aa,vB h.Xp]:List AV)) (by exact if_neg (nbB ‹_›))) rfl hG) ?_
  exact nJ
 refine T.seq ?_
 by_cases hq4:((m.Xe.length:Nat):Int)>(maxB m.X2 h)
 ·refine sR (Xf (hN · false (dT hq4)) [6,7,8,9,10] (hP 11 (dT hq4)::[])) (cT (b:=true) rfl (sR [] (T.ret (rT ?_))))
  exact eRt 4 (Z3f) [] (cB (by (refine dF (fun h9=>?_);exact absurd h9.1 (by omega)))) trivial
 refine sR (Xf (hY · (dF hq4)) [6,7,8,9,10] (hP 11 (dF hq4)::[])) ?_
 by_cases hq5:((m.Xp.length:Nat):Int)>(maxP h)
 ·refine cT (dT hq5) (sR [] (T.ret (rT ?_)))
  exact eRt 4 (Z3f) [] (cB (by (refine dF (fun h9=>?_);exact absurd h9.2.1 (by omega)))) trivial
 refine cF (dF hq5) (T.skip (nT (T.seq ?_)))
 by_cases hq6:m.X2=10
 ·by_cases hq7:((m.X5.length:Nat):Int)≠1
  ·refine sR (Xf (hY · (dT hq6)) [4,5,6,7] (hP 8 (dT hq6)::(Xf (hN · false (dT hq7)) [10,11,12,13] (hU 14::(hU 15::(hU 16::(hU 17::(hN 18 false (dT hq7)::(hP 19 (dT hq7)::(Xf hN0 [21,22,23,24] (hP1 25::[]))))))))))) (cT (b:=true) rfl (sR [] (T.ret (rT ?_))))
   exact eRt 4 (Z3f) [] (cB (by (refine dF (fun h9=>?_);exact h9.2.2.1 ⟨by assumption,by assumption⟩))) trivial
  by_cases hq8:h.X5=true
  ·refine sR (Xf (hY · (dT hq6)) [4,5,6,7] (hP 8 (dT hq6)::(Xf (hY · (dF hq7)) [10,11,12,13] (Xf (hN · true (cn hq8)) [14,15,16,17] (hS 18 (oY rfl rfl rfl rfl (X4 rfl) (dF hq7) (W9 (b:=(!h.X5)) (av:=vB false) (X4 rfl) ⟨rfl,trivial⟩ (cn hq8)))::(hP 19 (dF hq7)::(Xf hY0 [21,22,23,24] (hP0 25::[])))))))) ?_
   by_cases hq9:((m.X5.length:Nat):Int)>8
   ·refine cT (dT hq9) (sR [] (T.ret (rT ?_)))
    exact eRt 4 (Z3f) [] (cB (by (refine dF (fun h9=>?_);exact absurd h9.2.2.2.2.1 (by omega)))) trivial
   refine cF (dF hq9) (T.skip (nT (T.seq (sR [] (T.block ?_)))))
   refine T.loop (ι:=Nat) (fun (k:Nat)=>(Z3i tm m h k)) (fun (k:Nat)=>(k≤m.X5.length)∧(∀ j,j<k→(m.X5.getD j zC).Yi.length≤7)) (fun (k:Nat)=>m.X5.length-k) (0) ⟨(Nat.zero_le _),(fun j hj=>absurd hj (Nat.not_lt_zero _))⟩ (fun _ _ hG=>Y9 [0,1] (bm 53 4503599694500607) rfl rfl hG) ?_
   rintro k ⟨hk,hb⟩
   show T _ _ (Z3i tm m h k) _ _
   replace hk:k≤m.X5.length:=hk
   replace hb:∀ j,j<k→(m.X5.getD j zC).Yi.length≤7:=hb
   refine T.seq (sR [] ?_)
   by_cases hq10:((k:Nat):Int)<((m.X5.length:Nat):Int)
   ·refine cT (dT hq10) (T.skip (nT (T.seq (T.block (sR [hR 3 rfl rfl (Yo tm false (kC tm) m.X5 k (k:=.i64) (i:=((k:Nat):Int)) Tryz.underlying40 Jz rfl rfl (by omega) (X4 rfl) trivial)] ?_)))))
    by_cases hq11:(((m.X5.getD k zC).Yi.length:Nat):Int)>7
    ·refine cT (dT hq11) (sR [] (T.ret (rB (rT (rT (rB (rT ?_)))))))
     exact eRt 4 (Z3f) [] (cB (by (refine dF (fun h9=>?_);exact absurd (h9.2.2.2.2.2 _ (Vn (z:=zC) (k:=k) (by omega))) (by omega)))) trivial
    refine cF (dF hq11) (T.skip (nB (nT (xK [hR 1 rfl rfl (Y4 (u1:=.int .i64 ((k:Nat):Int)) (u2:=.int .i64 1) (v:=.int .i64 ((k+1:Nat):Int)) (Yn pZ5) (X4 rfl) ⟨rfl,trivial⟩)] ?_))))
    refine nL (k+1) ⟨(show (k+1)≤m.X5.length from (by omega)),(show ∀ j,j<(k+1)→(m.X5.getD j zC).Yi.length≤7 from (Ju hb (by omega)))⟩ (show (m.X5.length-(k+1):Nat)<m.X5.length-k from (by omega)) (fun _ _ hG=>Y9 [0,1] (bm 53 4503599694500607) rfl rfl hG)
   refine cF (dF hq10) (T.exit (xT (xT (xH (nT (sR [] (T.ret ?_)))))))
   exact eRt 4 (Z3l) [] (cB (by (refine dT ⟨by omega,by omega,(fun h8=>by exact absurd h8.2 ‹_›),(fun h8=>by exact absurd ‹_› h8.1),by omega,X02 hb (by omega)⟩))) trivial
  replace hq8:=Bool.eq_false_iff.2 hq8
  by_cases hq12:((m.X5.length:Nat):Int)>0
  ·refine sR (Xf (hY · (dT hq6)) [4,5,6,7] (hP 8 (dT hq6)::(Xf (hY · (dF hq7)) [10,11,12,13] (Xf (hY · (cn hq8)) [14,15,16,17] (hS 18 (oY rfl rfl rfl rfl (X4 rfl) (dF hq7) (Yp (b:=(!h.X5)) (av:=(Z3m m)) (X4 rfl) trivial (cn hq8)))::(hP 19 (dF hq7)::(Xf (hN · false (dT hq12)) [21,22,23,24] (hP 25 (dT hq12)::[])))))))) (cT (b:=true) rfl (sR [] (T.ret (rT ?_))))
   exact eRt 4 (Z3f) [] (cB (by (refine dF (fun h9=>?_);exact h9.2.2.2.1 ⟨(by exact nbB ‹_›),by assumption⟩))) trivial
  refine sR (Xf (hY · (dT hq6)) [4,5,6,7] (hP 8 (dT hq6)::(Xf (hY · (dF hq7)) [10,11,12,13] (Xf (hY · (cn hq8)) [14,15,16,17] (hS 18 (oY rfl rfl rfl rfl (X4 rfl) (dF hq7) (Yp (b:=(!h.X5)) (av:=(Z3m m)) (X4 rfl) trivial (cn hq8)))::(hP 19 (dF hq7)::(Xf (hY · (dF hq12)) [21,22,23,24] (hP 25 (dF hq12)::[])))))))) ?_
  by_cases hq13:((m.X5.length:Nat):Int)>8
  ·refine cT (dT hq13) (sR [] (T.ret (rT ?_)))
   exact eRt 4 (Z3f) [] (cB (by (refine dF (fun h9=>?_);exact absurd h9.2.2.2.2.1 (by omega)))) trivial
  refine cF (dF hq13) (T.skip (nT (T.seq (sR [] (T.block ?_)))))
  refine T.loop (ι:=Nat) (fun (k:Nat)=>(Z3i tm m h k)) (fun (k:Nat)=>(k≤m.X5.length)∧(∀ j,j<k→(m.X5.getD j zC).Yi.length≤7)) (fun (k:Nat)=>m.X5.length-k) (0) ⟨(Nat.zero_le _),(fun j hj=>absurd hj (Nat.not_lt_zero _))⟩ (fun _ _ hG=>Y9 [0,1] (bm 53 4503599694500607) rfl rfl hG) ?_
  rintro k ⟨hk,hb⟩
  show T _ _ (Z3i tm m h k) _ _
  replace hk:k≤m.X5.length:=hk
  replace hb:∀ j,j<k→(m.X5.getD j zC).Yi.length≤7:=hb
  refine T.seq (sR [] ?_)
  by_cases hq14:((k:Nat):Int)<((m.X5.length:Nat):Int)
  ·refine cT (dT hq14) (T.skip (nT (T.seq (T.block (sR [hR 3 rfl rfl (Yo tm false (kC tm) m.X5 k (k:=.i64) (i:=((k:Nat):Int)) Tryz.underlying40 Jz rfl rfl (by omega) (X4 rfl) trivial)] ?_)))))
   by_cases hq15:(((m.X5.getD k zC).Yi.length:Nat):Int)>7
   ·refine cT (dT hq15) (sR [] (T.ret (rB (rT (rT (rB (rT ?_)))))))
    exact eRt 4 (Z3f) [] (cB (by (refine dF (fun h9=>?_);exact absurd h9.2.2.2.2.1 (by omega)))) trivial
   refine cF (dF hq15) (T.skip (nB (nT (xK [hR 1 rfl rfl (Y4 (u1:=.int .i64 ((k:Nat):Int)) (u2:=.int .i64 1) (v:=.int .i64 ((k+1:Nat):Int)) (Yn pZ5) (X4 rfl) ⟨rfl,trivial⟩)] ?_))))
   refine nL (k+1) ⟨(show (k+1)≤m.X5.length from (by omega)),(show ∀ j,j<(k+1)→(m.X5.getD j zC).Yi.length≤7 from (Ju hb (by omega)))⟩ (show (m.X5.length-(k+1):Nat)<m.X5.length-k from (by omega)) (fun _ _ hG=>Y9 [0,1] (bm 53 4503599694500607) rfl rfl hG)
  refine cF (dF hq14) (T.exit (xT (xT (xH (nT (sR [] (T.ret ?_)))))))
  exact eRt 4 (Z3l) [] (cB (by (refine dT ⟨by omega,by omega,(fun h8=>by exact absurd h8.2 ‹_›),(fun h8=>by exact absurd h8.2 ‹_›),by omega,X02 hb (by omega)⟩))) trivial
 by_cases hq16:h.X5=true
 ·refine sR (Xf (hN · true (dF hq6)) [4,5,6,7] (hP 8 (dF hq6)::(Xf hY0 [10,11,12,13] (Xf (hN · true (cn hq16)) [14,15,16,17] (hS 18 (oY (b:=false) rfl rfl rfl rfl (X4 rfl) rfl (W9 (b:=(!h.X5)) (av:=vB false) (X4 rfl) ⟨rfl,trivial⟩ (cn hq16)))::(hP0 19::(Xf hY0 [21,22,23,24] (hP0 25::[])))))))) ?_
  by_cases hq17:((m.X5.length:Nat):Int)>8
  ·refine cT (dT hq17) (sR [] (T.ret (rT ?_)))
   exact eRt 4 (Z3f) [] (cB (by (refine dF (fun h9=>?_);exact absurd h9.2.2.2.2.1 (by omega)))) trivial
  refine cF (dF hq17) (T.skip (nT (T.seq (sR [] (T.block ?_)))))
  refine T.loop (ι:=Nat) (fun (k:Nat)=>(Z3i tm m h k)) (fun (k:Nat)=>(k≤m.X5.length)∧(∀ j,j<k→(m.X5.getD j zC).Yi.length≤7)) (fun (k:Nat)=>m.X5.length-k) (0) ⟨(Nat.zero_le _),(fun j hj=>absurd hj (Nat.not_lt_zero _))⟩ (fun _ _ hG=>Y9 [0,1] (bm 53 4503599694500607) rfl rfl hG) ?_
  rintro k ⟨hk,hb⟩
  show T _ _ (Z3i tm m h k) _ _
  replace hk:k≤m.X5.length:=hk
  replace hb:∀ j,j<k→(m.X5.getD j zC).Yi.length≤7:=hb
  refine T.seq (sR [] ?_)
  by_cases hq18:((k:Nat):Int)<((m.X5.length:Nat):Int)
  ·refine cT (dT hq18) (T.skip (nT (T.seq (T.block (sR [hR 3 rfl rfl (Yo tm false (kC tm) m.X5 k (k:=.i64) (i:=((k:Nat):Int)) Tryz.underlying40 Jz rfl rfl (by omega) (X4 rfl) trivial)] ?_)))))
   by_cases hq19:(((m.X5.getD k zC).Yi.length:Nat):Int)>7
   ·refine cT (dT hq19) (sR [] (T.ret (rB (rT (rT (rB (rT ?_)))))))
    exact eRt 4 (Z3f) [] (cB (by (refine dF (fun h9=>?_);exact absurd (h9.2.2.2.2.2 _ (Vn (z:=zC) (k:=k) (by omega))) (by omega)))) trivial
   refine cF (dF hq19) (T.skip (nB (nT (xK [hR 1 rfl rfl (Y4 (u1:=.int .i64 ((k:Nat):Int)) (u2:=.int .i64 1) (v:=.int .i64 ((k+1:Nat):Int)) (Yn pZ5) (X4 rfl) ⟨rfl,trivial⟩)] ?_))))
   refine nL (k+1) ⟨(show (k+1)≤m.X5.length from (by omega)),(show ∀ j,j<(k+1)→(m.X5.getD j zC).Yi.length≤7 from (Ju hb (by omega)))⟩ (show (m.X5.length-(k+1):Nat)<m.X5.length-k from (by omega)) (fun _ _ hG=>Y9 [0,1] (bm 53 4503599694500607) rfl rfl hG)
  refine cF (dF hq18) (T.exit (xT (xT (xH (nT (sR [] (T.ret ?_)))))))
  exact eRt 4 (Z3l) [] (cB (by (refine dT ⟨by omega,by omega,(fun h8=>by exact absurd h8.1 ‹_›),(fun h8=>by exact absurd ‹_› h8.1),by omega,X02 hb (by omega)⟩))) trivial
 replace hq16:=Bool.eq_false_iff.2 hq16
 by_cases hq20:((m.X5.length:Nat):Int)>0
 ·refine sR (Xf (hN · true (dF hq6)) [4,5,6,7] (hP 8 (dF hq6)::(Xf hY0 [10,11,12,13] (Xf (hY · (cn hq16)) [14,15,16,17] (hS 18 (oY (b:=false) rfl rfl rfl rfl (X4 rfl) rfl (Yp (b:=(!h.X5)) (av:=(Z3m m)) (X4 rfl) trivial (cn hq16)))::(hP0 19::(Xf (hN · false (dT hq20)) [21,22,23,24] (hP 25 (dT hq20)::[])))))))) (cT (b:=true) rfl (sR [] (T.ret (rT ?_))))
  exact eRt 4 (Z3f) [] (cB (by (refine dF (fun h9=>?_);exact h9.2.2.2.1 ⟨(by exact nbB ‹_›),by assumption⟩))) trivial
 refine sR (Xf (hN · true (dF hq6)) [4,5,6,7] (hP 8 (dF hq6)::(Xf hY0 [10,11,12,13] (Xf (hY · (cn hq16)) [14,15,16,17] (hS 18 (oY (b:=false) rfl rfl rfl rfl (X4 rfl) rfl (Yp (b:=(!h.X5)) (av:=(Z3m m)) (X4 rfl) trivial (cn hq16)))::(hP0 19::(Xf (hY · (dF hq20)) [21,22,23,24] (hP 25 (dF hq20)::[])))))))) ?_
 by_cases hq21:((m.X5.length:Nat):Int)>8
 ·refine cT (dT hq21) (sR [] (T.ret (rT ?_)))
  exact eRt 4 (Z3f) [] (cB (by (refine dF (fun h9=>?_);exact absurd h9.2.2.2.2.1 (by omega)))) trivial
 refine cF (dF hq21) (T.skip (nT (T.seq (sR [] (T.block ?_)))))
 refine T.loop (ι:=Nat) (fun (k:Nat)=>(Z3i tm m h k)) (fun (k:Nat)=>(k≤m.X5.length)∧(∀ j,j<k→(m.X5.getD j zC).Yi.length≤7)) (fun (k:Nat)=>m.X5.length-k) (0) ⟨(Nat.zero_le _),(fun j hj=>absurd hj (Nat.not_lt_zero _))⟩ (fun _ _ hG=>Y9 [0,1] (bm 53 4503599694500607) rfl rfl hG) ?_
 rintro k ⟨hk,hb⟩
 show T _ _ (Z3i tm m h k) _ _
 replace hk:k≤m.X5.length:=hk
 replace hb:∀ j,j<k→(m.X5.getD j zC).Yi.length≤7:=hb
 refine T.seq (sR [] ?_)
 by_cases hq22:((k:Nat):Int)<((m.X5.length:Nat):Int)
 ·refine cT (dT hq22) (T.skip (nT (T.seq (T.block (sR [hR 3 rfl rfl (Yo tm false (kC tm) m.X5 k (k:=.i64) (i:=((k:Nat):Int)) Tryz.underlying40 Jz rfl rfl (by omega) (X4 rfl) trivial)] ?_)))))
  by_cases hq23:(((m.X5.getD k zC).Yi.length:Nat):Int)>7
  ·refine cT (dT hq23) (sR [] (T.ret (rB (rT (rT (rB (rT ?_)))))))
   exact eRt 4 (Z3f) [] (cB (by (refine dF (fun h9=>?_);exact absurd h9.2.2.2.2.1 (by omega)))) trivial
  refine cF (dF hq23) (T.skip (nB (nT (xK [hR 1 rfl rfl (Y4 (u1:=.int .i64 ((k:Nat):Int)) (u2:=.int .i64 1) (v:=.int .i64 ((k+1:Nat):Int)) (Yn pZ5) (X4 rfl) ⟨rfl,trivial⟩)] ?_))))
  refine nL (k+1) ⟨(show (k+1)≤m.X5.length from (by omega)),(show ∀ j,j<(k+1)→(m.X5.getD j zC).Yi.length≤7 from (Ju hb (by omega)))⟩ (show (m.X5.length-(k+1):Nat)<m.X5.length-k from (by omega)) (fun _ _ hG=>Y9 [0,1] (bm 53 4503599694500607) rfl rfl hG)
 refine cF (dF hq22) (T.exit (xT (xT (xH (nT (sR [] (T.ret ?_)))))))
 exact eRt 4 (Z3l) [] (cB (by (refine dT ⟨by omega,by omega,(fun h8=>by exact absurd h8.1 ‹_›),(fun h8=>by exact absurd h8.2 ‹_›),by omega,X02 hb (by omega)⟩))) trivial
theorem iat_42:Tryz.prog.info? 42=some Tryz.t42:=by kernel_rfl
theorem Jx:Wide Tryz.prog 42 (some 12):=⟨_,_,Tryz.underlying42,.inl ⟨_,rfl⟩,iat_42,rfl⟩
section
variable (tm:Bool) (m:aM)
abbrev Z3n:AV:=.tv (.agg [dI m.X2,dI m.Xr,dI m.Xy,dI m.Xa,dI m.Xw,dS m.Xb,.d (dsl tm false kU8 m.Xi),dI m.X1.Xt,dI m.X1.Xn,.d (dsl tm false (kE tm) m.Xe),.d (dsl tm false (kE tm) m.Xp),.d (dsl tm false (kC tm) m.X5)])
abbrev Z3o:AV:=vB (Xg m.X2).Xr
abbrev Z3p:AV:=vI (X1q m.X2)
abbrev Z3q:TV:=.one (dI 120)
abbrev Z3r:AV:=.tv (.agg [dB (Xg m.X2).Xr,dB (Xg m.X2).Xy,dB (Xg m.X2).Xa,dB (Xg m.X2).Xb,dB (Xg m.X2).Xi,dB (Xg m.X2).X1,dB (Xg m.X2).Xe,dB (Xg m.X2).Xp,dB (Xg m.X2).X5])
abbrev Z3s:TV:=.one (dI 0)
abbrev Z3t:AV:=.tv (.agg [dI m.X1.Xt,dI m.X1.Xn])
abbrev Z3u:AV:=.tv (.agg [dI 0,dI 0])
abbrev Z3v:AV:=vB (decide (m.X1≠(Xd.mk 0 0)))
abbrev Z3w:AV:=vB (decide (((m.Xi.length:Nat):Int)>0))
end
theorem X41 (tm:Bool) (m:aM) (hq:m.Xe.length≤9223372036854775807) (hr:m.Xp.length≤9223372036854775807) (hc:m.X5.length≤9223372036854775807) (hd:m.Xi.length≤9223372036854775807) (hg:m.Xb.length≤9223372036854775807):Holds Tryz.prog 31 ⟨[.tv (.agg [dI m.X2,dI m.Xr,dI m.Xy,dI m.Xa,dI m.Xw,dS m.Xb,.d (dsl tm false kU8 m.Xi),dI m.X1.Xt,dI m.X1.Xn,.d (dsl tm false (kE tm) m.Xe),.d (dsl tm false (kE tm) m.Xp),.d (dsl tm false (kC tm) m.X5)])],[],vI (X1t m),[]⟩:=by
 refine Holds.of Tryz.func31 rfl (N:=100) Tryz.ntmps31 rfl fun w0 B0 S0 U0=>?_
 show T _ (Y0 100 0 w0 S0 U0 B0) ⟨[(Z3n tm m)],[]⟩ _ _
 refine sR [] (sR [hR 2 rfl rfl (rCa (Fl m.X2 ) Tryz.func28 [] [(.tmp 9,vI m.X2)] 0 0)] (sR [hR 2 rfl rfl (rCa (X8z m.X2 ) Tryz.func63 [] [(.tmp 15,vI m.X2)] 0 0)] (T.seq ?_)))
 by_cases hq1:okK m.X2
 rotate_left
 ·refine sR (Xf (hN · false (cn (dF hq1))) [3,4,5,6,7,8,9] (hP 10 (cn (dF hq1))::(Xf hN0 [12,13,14,15,16,17,18] (hP1 19::(Xf hN0 [21,22,23,24,25,26] (hP1 27::(Xf hN0 [29,30,31,32,33,34] (hP1 35::[])))))))) (cT (b:=true) rfl (sR [] (T.ret (rT ?_))))
  exact eRt 2 (Z3q) [] (cI (by exact if_neg (fun h9=>by obtain ⟨q1,q2,q3,q4,q5,q6,q7,q8,q9,q10⟩:=(Wg m).1 h9;exact absurd q1 ‹_›))) trivial
 by_cases hq2:Fs m.Xr (Xg m.X2).Xr (X1q m.X2)
 rotate_left
 ·refine sR (Xf (hY · (cn (dT hq1))) [3,4,5,6,7] (hS 8 (oY rfl rfl rfl rfl (X4 rfl) (cn (dT hq1)) (rCa (Vj m.Xr (Xg m.X2).Xr (X1q m.X2) ) Tryz.func64 [] [(.tmp 23,vI m.Xr),(.tmp 25,(Z3o m)),(.tmp 26,(Z3p m))] 0 0))::(hY 9 (cn (dT hq1))::(hP 10 (cn (dT hq1))::(Xf (hN · false (cn (dF hq2))) [12,13,14,15,16,17,18] (hP 19 (cn (dF hq2))::(Xf hN0 [21,22,23,24,25,26] (hP1 27::(Xf hN0 [29,30,31,32,33,34] (hP1 35::[])))))))))) (cT (b:=true) rfl (sR [] (T.ret (rT ?_))))
  exact eRt 2 (Z3q) [] (cI (by exact if_neg (fun h9=>by obtain ⟨q1,q2,q3,q4,q5,q6,q7,q8,q9,q10⟩:=(Wg m).1 h9;exact absurd q2 ‹_›))) trivial
 by_cases hq3:Fs m.Xy (Xg m.X2).Xy (X10 m.X2)
 rotate_left
 ·refine sR (Xf (hY · (cn (dT hq1))) [3,4,5,6,7] (hS 8 (oY rfl rfl rfl rfl (X4 rfl) (cn (dT hq1)) (rCa (Vj m.Xr (Xg m.X2).Xr (X1q m.X2) ) Tryz.func64 [] [(.tmp 23,vI m.Xr),(.tmp 25,(Z3o m)),(.tmp 26,(Z3p m))] 0 0))::(hY 9 (cn (dT hq1))::(hP 10 (cn (dT hq1))::(Xf (hY · (cn (dT hq2))) [12,13,14,15,16] (hS 17 (oY rfl rfl rfl rfl (X4 rfl) (cn (dT hq2)) (rCa (Vj m.Xy (Xg m.X2).Xy (X10 m.X2) ) Tryz.func64 [] [(.tmp 32,vI m.Xy),(.tmp 34,vB (Xg m.X2).Xy),(.tmp 35,vI (X10 m.X2))] 0 0))::(hY 18 (cn (dT hq2))::(hP 19 (cn (dT hq2))::(Xf (hN · false (cn (dF hq3))) [21,22,23,24,25,26] (hP 27 (cn (dF hq3))::(Xf hN0 [29,30,31,32,33,34] (hP1 35::[])))))))))))) (cT (b:=true) rfl (sR [] (T.ret (rT ?_))))
  exact eRt 2 (Z3q) [] (cI (by exact if_neg (fun h9=>by obtain ⟨q1,q2,q3,q4,q5,q6,q7,q8,q9,q10⟩:=(Wg m).1 h9;exact absurd q3 ‹_›))) trivial
 by_cases hq4:Fs m.Xa (Xg m.X2).Xa 0
 rotate_left
 ·refine sR (Xf (hY · (cn (dT hq1))) [3,4,5,6,7] (hS 8 (oY rfl rfl rfl rfl (X4 rfl) (cn (dT hq1)) (rCa (Vj m.Xr (Xg m.X2).Xr (X1q m.X2) ) Tryz.func64 [] [(.tmp 23,vI m.Xr),(.tmp 25,(Z3o m)),(.tmp 26,(Z3p m))] 0 0))::(hY 9 (cn (dT hq1))::(hP 10 (cn (dT hq1))::(Xf (hY · (cn (dT hq2))) [12,13,14,15,16] (hS 17 (oY rfl rfl rfl rfl (X4 rfl) (cn (dT hq2)) (rCa (Vj m.Xy (Xg m.X2).Xy (X10 m.X2) ) Tryz.func64 [] [(.tmp 32,vI m.Xy),(.tmp 34,vB (Xg m.X2).Xy),(.tmp 35,vI (X10 m.X2))] 0 0))::(hY 18 (cn (dT hq2))::(hP 19 (cn (dT hq2))::(Xf (hY · (cn (dT hq3))) [21,22,23,24] (hS 25 (oY rfl rfl rfl rfl (X4 rfl) (cn (dT hq3)) (rCa (Vj m.Xa (Xg m.X2).Xa 0 ) Tryz.func64 [] [(.tmp 41,vI m.Xa),(.tmp 43,vB (Xg m.X2).Xa),(.const (.int .i64 0),vI 0)] 0 0))::(hY 26 (cn (dT hq3))::(hP 27 (cn (dT hq3))::(Xf (hN · false (cn (dF hq4))) [29,30,31,32,33,34] (hP 35 (cn (dF hq4))::[])))))))))))))) ?_
  refine cT (b:=true) rfl (sR [] (T.ret (rT ?_)))
  exact eRt 2 (Z3q) [] (cI (by exact if_neg (fun h9=>by obtain ⟨q1,q2,q3,q4,q5,q6,q7,q8,q9,q10⟩:=(Wg m).1 h9;exact absurd q4 ‹_›))) trivial
 refine sR (Xf (hY · (cn (dT hq1))) [3,4,5,6,7] (hS 8 (oY rfl rfl rfl rfl (X4 rfl) (cn (dT hq1)) (rCa (Vj m.Xr (Xg m.X2).Xr (X1q m.X2) ) Tryz.func64 [] [(.tmp 23,vI m.Xr),(.tmp 25,(Z3o m)),(.tmp 26,(Z3p m))] 0 0))::(hY 9 (cn (dT hq1))::(hP 10 (cn (dT hq1))::(Xf (hY · (cn (dT hq2))) [12,13,14,15,16] (hS 17 (oY rfl rfl rfl rfl (X4 rfl) (cn (dT hq2)) (rCa (Vj m.Xy (Xg m.X2).Xy (X10 m.X2) ) Tryz.func64 [] [(.tmp 32,vI m.Xy),(.tmp 34,vB (Xg m.X2).Xy),(.tmp 35,vI (X10 m.X2))] 0 0))::(hY 18 (cn (dT hq2))::(hP 19 (cn (dT hq2))::(Xf (hY · (cn (dT hq3))) [21,22,23,24] (hS 25 (oY rfl rfl rfl rfl (X4 rfl) (cn (dT hq3)) (rCa (Vj m.Xa (Xg m.X2).Xa 0 ) Tryz.func64 [] [(.tmp 41,vI m.Xa),(.tmp 43,vB (Xg m.X2).Xa),(.const (.int .i64 0),vI 0)] 0 0))::(hY 26 (cn (dT hq3))::(hP 27 (cn (dT hq3))::(Xf (hY · (cn (dT hq4))) [29,30,31,32] (hS 33 (oY rfl rfl rfl rfl (X4 rfl) (cn (dT hq4)) (rCa (Vj m.Xw (Xg m.X2).Xa 1 ) Tryz.func64 [] [(.tmp 49,vI m.Xw),(.tmp 51,vB (Xg m.X2).Xa),(.const (.int .i64 1),vI 1)] 0 0))::(hY 34 (cn (dT hq4))::(hP 35 (cn (dT hq4))::[])))))))))))))))) ?_
 by_cases hq5:Fs m.Xw (Xg m.X2).Xa 1
 rotate_left
 ·refine cT (cn (dF hq5)) (sR [] (T.ret (rT ?_)))
  exact eRt 2 (Z3q) [] (cI (by exact if_neg (fun h9=>by obtain ⟨q1,q2,q3,q4,q5,q6,q7,q8,q9,q10⟩:=(Wg m).1 h9;exact absurd q5 ‹_›))) trivial
 refine cF (cn (dT hq5)) (T.skip (nT (T.seq ?_)))
 by_cases hq6:m.X2=1
 ·refine sR (Xf (hY · (dT hq6)) [4,5,6,7] (hP 8 (dT hq6)::[])) ?_
  by_cases hq7:((m.Xi.length:Nat):Int)>4096
  ·refine cT (dT hq7) (sR [] (T.ret (rT ?_)))
   exact eRt 2 (Z3q) [] (cI (by exact if_neg (fun h9=>by obtain ⟨q1,q2,q3,q4,q5,q6,q7,q8,q9,q10⟩:=(Wg m).1 h9;exact q6 ⟨by assumption,by assumption⟩))) trivial
  refine cF (dF hq7) (T.skip (nT (T.seq ?_)))
  by_cases hq8:(Xg m.X2).Xb=true
  ·by_cases hq9:(Xg m.X2).Xi=true
   ·by_cases hq10:(Xg m.X2).X1=true
    ·refine sR (Xf (hN · true (cn hq8)) [4,5,6] (hP 7 (cn hq8)::(Xf hY0 [9,10,11,12] (Xf (hN · true (cn hq9)) [13,14,15,16] (hS 17 (oY (b:=false) rfl rfl rfl rfl (X4 rfl) rfl (W9 (b:=(!(Xg m.X2).Xi)) (av:=vB false) (X4 rfl) ⟨rfl,trivial⟩ (cn hq9)))::(hP0 18::(Xf hY0 [20,21,22,23] (Xf (hN · true (cn hq10)) [24,25,26,27] (hS 28 (oY (b:=false) rfl rfl rfl rfl (X4 rfl) rfl (W9 (b:=(!(Xg m.X2).X1)) (av:=vB false) (X4 rfl) ⟨rfl,trivial⟩ (cn hq10)))::(hP0 29::(hY0 31::(hY0 32::(hS 33 (oY (b:=false) rfl rfl rfl rfl (X4 rfl) rfl (rCa (Wd tm m (aH.mk (Xg m.X2).Xr (Xg m.X2).Xy (Xg m.X2).Xa (Xg m.X2).Xb (Xg m.X2).Xi (Xg m.X2).X1 (Xg m.X2).Xe (Xg m.X2).Xp (Xg m.X2).X5) ‹_› ‹_› ‹_›) Tryz.func65 [] [(.tmp 95,(Z3n tm m)),(.tmp 96,(Z3r m))] 0 0))::(hY0 34::(hP0 35::[]))))))))))))))) ?_
     by_cases hq11:F9 m (aH.mk (Xg m.X2).Xr (Xg m.X2).Xy (Xg m.X2).Xa (Xg m.X2).Xb (Xg m.X2).Xi (Xg m.X2).X1 (Xg m.X2).Xe (Xg m.X2).Xp (Xg m.X2).X5)
     ·refine cF (cn (dT hq11)) (T.skip (nT (sR [] (T.ret ?_))))
      exact eRt 2 (Z3s) [] (cI (by exact if_pos ((Wg m).2 ⟨‹_›,‹_›,‹_›,‹_›,‹_›,(fun h8=>by exact absurd h8.2 ‹_›),(fun h8=>by exact absurd ‹_› h8.1),(fun h8=>by exact absurd ‹_› h8.1),(fun h8=>by exact absurd ‹_› h8.1),‹_›⟩))) trivial
     refine cT (cn (dF hq11)) (sR [] (T.ret (rT ?_)))
     exact eRt 2 (Z3q) [] pb trivial
    replace hq10:=Bool.eq_false_iff.2 hq10
    by_cases hq12:m.X1≠(Xd.mk 0 0)
    ·refine sR (Xf (hN · true (cn hq8)) [4,5,6] (hP 7 (cn hq8)::(Xf hY0 [9,10,11,12] (Xf (hN · true (cn hq9)) [13,14,15,16] (hS 17 (oY (b:=false) rfl rfl rfl rfl (X4 rfl) rfl (W9 (b:=(!(Xg m.X2).Xi)) (av:=vB false) (X4 rfl) ⟨rfl,trivial⟩ (cn hq9)))::(hP0 18::(Xf hY0 [20,21,22,23] (Xf (hY · (cn hq10)) [24,25,26] (hS 27 (oY rfl rfl rfl rfl (X4 rfl) (cn hq10) (Jn (ax:=(Z3t m)) (ay:=Z3u) (a:=m.X1) (b:=(Xd.mk 0 0)) Vx ⟨[.int .i64 m.X1.Xt,.int .i64 m.X1.Xn],rfl,rfl⟩ ⟨[.int .i64 0,.int .i64 0],rfl,rfl⟩ (X4 rfl) py))::(hS 28 (oY (b:=false) rfl rfl rfl rfl (X4 rfl) rfl (Yp (b:=(!(Xg m.X2).X1)) (av:=(Z3v m)) (X4 rfl) trivial (cn hq10)))::(hP0 29::(Xf (hN · false (dT hq12)) [31,32,33,34] (hP 35 (dT hq12)::[]))))))))))))) ?_
     refine cT (b:=true) rfl (sR [] (T.ret (rT ?_)))
     exact eRt 2 (Z3q) [] ph trivial
    refine sR (Xf (hN · true (cn hq8)) [4,5,6] (hP 7 (cn hq8)::(Xf hY0 [9,10,11,12] (Xf (hN · true (cn hq9)) [13,14,15,16] (hS 17 (oY (b:=false) rfl rfl rfl rfl (X4 rfl) rfl (W9 (b:=(!(Xg m.X2).Xi)) (av:=vB false) (X4 rfl) ⟨rfl,trivial⟩ (cn hq9)))::(hP0 18::(Xf hY0 [20,21,22,23] (Xf (hY · (cn hq10)) [24,25,26] (hS 27 (oY rfl rfl rfl rfl (X4 rfl) (cn hq10) (Jn (ax:=(Z3t m)) (ay:=Z3u) (a:=m.X1) (b:=(Xd.mk 0 0)) Vx ⟨[.int .i64 m.X1.Xt,.int .i64 m.X1.Xn],rfl,rfl⟩ ⟨[.int .i64 0,.int .i64 0],rfl,rfl⟩ (X4 rfl) py))::(hS 28 (oY (b:=false) rfl rfl rfl rfl (X4 rfl) rfl (Yp (b:=(!(Xg m.X2).X1)) (av:=(Z3v m)) (X4 rfl) trivial (cn hq10)))::(hP0 29::(hY 31 (dF hq12)::(hY 32 (dF hq12)::(hS 33 (oY rfl rfl rfl rfl (X4 rfl) (dF hq12) (rCa (Wd tm m (aH.mk (Xg m.X2).Xr (Xg m.X2).Xy (Xg m.X2).Xa (Xg m.X2).Xb (Xg m.X2).Xi (Xg m.X2).X1 (Xg m.X2).Xe (Xg m.X2).Xp (Xg m.X2).X5) ‹_› ‹_› ‹_›) Tryz.func65 [] [(.tmp 95,(Z3n tm m)),(.tmp 96,(Z3r m))] 0 0))::(hY 34 (dF hq12)::(hP 35 (dF hq12)::[])))))))))))))))) ?_
    by_cases hq13:F9 m (aH.mk (Xg m.X2).Xr (Xg m.X2).Xy (Xg m.X2).Xa (Xg m.X2).Xb (Xg m.X2).Xi (Xg m.X2).X1 (Xg m.X2).Xe (Xg m.X2).Xp (Xg m.X2).X5)
    ·refine cF (cn (dT hq13)) (T.skip (nT (sR [] (T.ret ?_))))
     exact eRt 2 (Z3s) [] (cI (by exact if_pos ((Wg m).2 ⟨‹_›,‹_›,‹_›,‹_›,‹_›,(fun h8=>by exact absurd h8.2 ‹_›),(fun h8=>by exact absurd ‹_› h8.1),(fun h8=>by exact absurd ‹_› h8.1),(fun h8=>by exact absurd h8.2 ‹_›),‹_›⟩))) trivial
    refine cT (cn (dF hq13)) (sR [] (T.ret (rT ?_)))
    exact eRt 2 (Z3q) [] pb trivial
   replace hq9:=Bool.eq_false_iff.2 hq9
   by_cases hq14:((m.Xi.length:Nat):Int)>0
   ·refine sR (Xf (hN · true (cn hq8)) [4,5,6] (hP 7 (cn hq8)::(Xf hY0 [9,10,11,12] (Xf (hY · (cn hq9)) [13,14,15,16] (hS 17 (oY (b:=false) rfl rfl rfl rfl (X4 rfl) rfl (Yp (b:=(!(Xg m.X2).Xi)) (av:=(Z3w m)) (X4 rfl) trivial (cn hq9)))::(hP0 18::(Xf (hN · false (dT hq14)) [20,21,22,23] (hU 24::(hU 25::(hU 26::(hU 27::(hN 28 false (dT hq14)::(hP 29 (dT hq14)::(Xf hN0 [31,32,33,34] (hP1 35::[]))))))))))))))) (cT (b:=true) rfl (sR [] (T.ret (rT ?_))))
    exact eRt 2 (Z3q) [] p1j trivial
   by_cases hq15:(Xg m.X2).X1=true
   ·refine sR (Xf (hN · true (cn hq8)) [4,5,6] (hP 7 (cn hq8)::(Xf hY0 [9,10,11,12] (Xf (hY · (cn hq9)) [13,14,15,16] (hS 17 (oY (b:=false) rfl rfl rfl rfl (X4 rfl) rfl (Yp (b:=(!(Xg m.X2).Xi)) (av:=(Z3w m)) (X4 rfl) trivial (cn hq9)))::(hP0 18::(Xf (hY · (dF hq14)) [20,21,22,23] (Xf (hN · true (cn hq15)) [24,25,26,27] (hS 28 (oY rfl rfl rfl rfl (X4 rfl) (dF hq14) (W9 (b:=(!(Xg m.X2).X1)) (av:=vB false) (X4 rfl) ⟨rfl,trivial⟩ (cn hq15)))::(hP 29 (dF hq14)::(hY0 31::(hY0 32::(hS 33 (oY (b:=false) rfl rfl rfl rfl (X4 rfl) rfl (rCa (Wd tm m (aH.mk (Xg m.X2).Xr (Xg m.X2).Xy (Xg m.X2).Xa (Xg m.X2).Xb (Xg m.X2).Xi (Xg m.X2).X1 (Xg m.X2).Xe (Xg m.X2).Xp (Xg m.X2).X5) ‹_› ‹_› ‹_›) Tryz.func65 [] [(.tmp 95,(Z3n tm m)),(.tmp 96,(Z3r m))] 0 0))::(hY0 34::(hP0 35::[]))))))))))))))) ?_
    by_cases hq16:F9 m (aH.mk (Xg m.X2).Xr (Xg m.X2).Xy (Xg m.X2).Xa (Xg m.X2).Xb (Xg m.X2).Xi (Xg m.X2).X1 (Xg m.X2).Xe (Xg m.X2).Xp (Xg m.X2).X5)
    ·refine cF (cn (dT hq16)) (T.skip (nT (sR [] (T.ret ?_))))
     exact eRt 2 (Z3s) [] (cI (by exact if_pos ((Wg m).2 ⟨‹_›,‹_›,‹_›,‹_›,‹_›,(fun h8=>by exact absurd h8.2 ‹_›),(fun h8=>by exact absurd ‹_› h8.1),(fun h8=>by exact absurd h8.2 ‹_›),(fun h8=>by exact absurd ‹_› h8.1),‹_›⟩))) trivial
    refine cT (cn (dF hq16)) (sR [] (T.ret (rT ?_)))
    exact eRt 2 (Z3q) [] pb trivial
   replace hq15:=Bool.eq_false_iff.2 hq15
   by_cases hq17:m.X1≠(Xd.mk 0 0)
   ·refine sR (Xf (hN · true (cn hq8)) [4,5,6] (hP 7 (cn hq8)::(Xf hY0 [9,10,11,12] (Xf (hY · (cn hq9)) [13,14,15,16] (hS 17 (oY (b:=false) rfl rfl rfl rfl (X4 rfl) rfl (Yp (b:=(!(Xg m.X2).Xi)) (av:=(Z3w m)) (X4 rfl) trivial (cn hq9)))::(hP0 18::(Xf (hY · (dF hq14)) [20,21,22,23] (Xf (hY · (cn hq15)) [24,25,26] (hS 27 (oY rfl rfl rfl rfl (X4 rfl) (cn hq15) (Jn (ax:=(Z3t m)) (ay:=Z3u) (a:=m.X1) (b:=(Xd.mk 0 0)) Vx ⟨[.int .i64 m.X1.Xt,.int .i64 m.X1.Xn],rfl,rfl⟩ ⟨[.int .i64 0,.int .i64 0],rfl,rfl⟩ (X4 rfl) py))::(hS 28 (oY rfl rfl rfl rfl (X4 rfl) (dF hq14) (Yp (b:=(!(Xg m.X2).X1)) (av:=(Z3v m)) (X4 rfl) trivial (cn hq15)))::(hP 29 (dF hq14)::(Xf (hN · false (dT hq17)) [31,32,33,34] (hP 35 (dT hq17)::[]))))))))))))) ?_
    refine cT (b:=true) rfl (sR [] (T.ret (rT ?_)))
    exact eRt 2 (Z3q) [] ph trivial
   refine sR (Xf (hN · true (cn hq8)) [4,5,6] (hP 7 (cn hq8)::(Xf hY0 [9,10,11,12] (Xf (hY · (cn hq9)) [13,14,15,16] (hS 17 (oY (b:=false) rfl rfl rfl rfl (X4 rfl) rfl (Yp (b:=(!(Xg m.X2).Xi)) (av:=(Z3w m)) (X4 rfl) trivial (cn hq9)))::(hP0 18::(Xf (hY · (dF hq14)) [20,21,22,23] (Xf (hY · (cn hq15)) [24,25,26] (hS 27 (oY rfl rfl rfl rfl (X4 rfl) (cn hq15) (Jn (ax:=(Z3t m)) (ay:=Z3u) (a:=m.X1) (b:=(Xd.mk 0 0)) Vx ⟨[.int .i64 m.X1.Xt,.int .i64 m.X1.Xn],rfl,rfl⟩ ⟨[.int .i64 0,.int .i64 0],rfl,rfl⟩ (X4 rfl) py))::(hS 28 (oY rfl rfl rfl rfl (X4 rfl) (dF hq14) (Yp (b:=(!(Xg m.X2).X1)) (av:=(Z3v m)) (X4 rfl) trivial (cn hq15)))::(hP 29 (dF hq14)::(hY 31 (dF hq17)::(hY 32 (dF hq17)::(hS 33 (oY rfl rfl rfl rfl (X4 rfl) (dF hq17) (rCa (Wd tm m (aH.mk (Xg m.X2).Xr (Xg m.X2).Xy (Xg m.X2).Xa (Xg m.X2).Xb (Xg m.X2).Xi (Xg m.X2).X1 (Xg m.X2).Xe (Xg m.X2).Xp (Xg m.X2).X5) ‹_› ‹_› ‹_›) Tryz.func65 [] [(.tmp 95,(Z3n tm m)),(.tmp 96,(Z3r m))] 0 0))::(hY 34 (dF hq17)::(hP 35 (dF hq17)::[])))))))))))))))) ?_
   by_cases hq18:F9 m (aH.mk (Xg m.X2).Xr (Xg m.X2).Xy (Xg m.X2).Xa (Xg m.X2).Xb (Xg m.X2).Xi (Xg m.X2).X1 (Xg m.X2).Xe (Xg m.X2).Xp (Xg m.X2).X5)
   ·refine cF (cn (dT hq18)) (T.skip (nT (sR [] (T.ret ?_))))
    exact eRt 2 (Z3s) [] (cI (by exact if_pos ((Wg m).2 ⟨‹_›,‹_›,‹_›,‹_›,‹_›,(fun h8=>by exact absurd h8.2 ‹_›),(fun h8=>by exact absurd ‹_› h8.1),(fun h8=>by exact absurd h8.2 ‹_›),(fun h8=>by exact absurd h8.2 ‹_›),‹_›⟩))) trivial
   refine cT (cn (dF hq18)) (sR [] (T.ret (rT ?_)))
   exact eRt 2 (Z3q) [] pb trivial
  replace hq8:=Bool.eq_false_iff.2 hq8
  by_cases hq19:m.Xb≠[]
  ·refine sR (Xf (hY · (cn hq8)) [4,5,6] (hP 7 (cn hq8)::(Xf (hN · false (dT hq19)) [9,10,11,12] (hU 13::(hU 14::(hU 15::(hU 16::(hN 17 false (dT hq19)::(hP 18 (dT hq19)::(Xf hN0 [20,21,22,23] (hU 24::(hU 25::(hU 26::(hU 27::(hN0 28::(hP1 29::(Xf hN0 [31,32,33,34] (hP1 35::[])))))))))))))))))) (cT (b:=true) rfl (sR [] (T.ret (rT ?_))))
   exact eRt 2 (Z3q) [] p3c trivial
  by_cases hq20:(Xg m.X2).Xi=true
  ·by_cases hq21:(Xg m.X2).X1=true
   ·refine sR (Xf (hY · (cn hq8)) [4,5,6] (hP 7 (cn hq8)::(Xf (hY · (dF hq19)) [9,10,11,12] (Xf (hN · true (cn hq20)) [13,14,15,16] (hS 17 (oY rfl rfl rfl rfl (X4 rfl) (dF hq19) (W9 (b:=(!(Xg m.X2).Xi)) (av:=vB false) (X4 rfl) ⟨rfl,trivial⟩ (cn hq20)))::(hP 18 (dF hq19)::(Xf hY0 [20,21,22,23] (Xf (hN · true (cn hq21)) [24,25,26,27] (hS 28 (oY (b:=false) rfl rfl rfl rfl (X4 rfl) rfl (W9 (b:=(!(Xg m.X2).X1)) (av:=vB false) (X4 rfl) ⟨rfl,trivial⟩ (cn hq21)))::(hP0 29::(hY0 31::(hY0 32::(hS 33 (oY (b:=false) rfl rfl rfl rfl (X4 rfl) rfl (rCa (Wd tm m (aH.mk (Xg m.X2).Xr (Xg m.X2).Xy (Xg m.X2).Xa (Xg m.X2).Xb (Xg m.X2).Xi (Xg m.X2).X1 (Xg m.X2).Xe (Xg m.X2).Xp (Xg m.X2).X5) ‹_› ‹_› ‹_›) Tryz.func65 [] [(.tmp 95,(Z3n tm m)),(.tmp 96,(Z3r m))] 0 0))::(hY0 34::(hP0 35::[]))))))))))))))) ?_
    by_cases hq22:F9 m (aH.mk (Xg m.X2).Xr (Xg m.X2).Xy (Xg m.X2).Xa (Xg m.X2).Xb (Xg m.X2).Xi (Xg m.X2).X1 (Xg m.X2).Xe (Xg m.X2).Xp (Xg m.X2).X5)
    ·refine cF (cn (dT hq22)) (T.skip (nT (sR [] (T.ret ?_))))
     exact eRt 2 (Z3s) [] (cI (by exact if_pos ((Wg m).2 ⟨‹_›,‹_›,‹_›,‹_›,‹_›,(fun h8=>by exact absurd h8.2 ‹_›),(fun h8=>by exact absurd h8.2 ‹_›),(fun h8=>by exact absurd ‹_› h8.1),(fun h8=>by exact absurd ‹_› h8.1),‹_›⟩))) trivial
    refine cT (cn (dF hq22)) (sR [] (T.ret (rT ?_)))
    exact eRt 2 (Z3q) [] pb trivial
   replace hq21:=Bool.eq_false_iff.2 hq21
   by_cases hq23:m.X1≠(Xd.mk 0 0)
   ·refine sR (Xf (hY · (cn hq8)) [4,5,6] (hP 7 (cn hq8)::(Xf (hY · (dF hq19)) [9,10,11,12] (Xf (hN · true (cn hq20)) [13,14,15,16] (hS 17 (oY rfl rfl rfl rfl (X4 rfl) (dF hq19) (W9 (b:=(!(Xg m.X2).Xi)) (av:=vB false) (X4 rfl) ⟨rfl,trivial⟩ (cn hq20)))::(hP 18 (dF hq19)::(Xf hY0 [20,21,22,23] (Xf (hY · (cn hq21)) [24,25,26] (hS 27 (oY rfl rfl rfl rfl (X4 rfl) (cn hq21) (Jn (ax:=(Z3t m)) (ay:=Z3u) (a:=m.X1) (b:=(Xd.mk 0 0)) Vx ⟨[.int .i64 m.X1.Xt,.int .i64 m.X1.Xn],rfl,rfl⟩ ⟨[.int .i64 0,.int .i64 0],rfl,rfl⟩ (X4 rfl) py))::(hS 28 (oY (b:=false) rfl rfl rfl rfl (X4 rfl) rfl (Yp (b:=(!(Xg m.X2).X1)) (av:=(Z3v m)) (X4 rfl) trivial (cn hq21)))::(hP0 29::(Xf (hN · false (dT hq23)) [31,32,33,34] (hP 35 (dT hq23)::[]))))))))))))) ?_
    refine cT (b:=true) rfl (sR [] (T.ret (rT ?_)))
    exact eRt 2 (Z3q) [] ph trivial
   refine sR (Xf (hY · (cn hq8)) [4,5,6] (hP 7 (cn hq8)::(Xf (hY · (dF hq19)) [9,10,11,12] (Xf (hN · true (cn hq20)) [13,14,15,16] (hS 17 (oY rfl rfl rfl rfl (X4 rfl) (dF hq19) (W9 (b:=(!(Xg m.X2).Xi)) (av:=vB false) (X4 rfl) ⟨rfl,trivial⟩ (cn hq20)))::(hP 18 (dF hq19)::(Xf hY0 [20,21,22,23] (Xf (hY · (cn hq21)) [24,25,26] (hS 27 (oY rfl rfl rfl rfl (X4 rfl) (cn hq21) (Jn (ax:=(Z3t m)) (ay:=Z3u) (a:=m.X1) (b:=(Xd.mk 0 0)) Vx ⟨[.int .i64 m.X1.Xt,.int .i64 m.X1.Xn],rfl,rfl⟩ ⟨[.int .i64 0,.int .i64 0],rfl,rfl⟩ (X4 rfl) py))::(hS 28 (oY (b:=false) rfl rfl rfl rfl (X4 rfl) rfl (Yp (b:=(!(Xg m.X2).X1)) (av:=(Z3v m)) (X4 rfl) trivial (cn hq21)))::(hP0 29::(hY 31 (dF hq23)::(hY 32 (dF hq23)::(hS 33 (oY rfl rfl rfl rfl (X4 rfl) (dF hq23) (rCa (Wd tm m (aH.mk (Xg m.X2).Xr (Xg m.X2).Xy (Xg m.X2).Xa (Xg m.X2).Xb (Xg m.X2).Xi (Xg m.X2).X1 (Xg m.X2).Xe (Xg m.X2).Xp (Xg m.X2).X5) ‹_› ‹_› ‹_›) Tryz.func65 [] [(.tmp 95,(Z3n tm m)),(.tmp 96,(Z3r m))] 0 0))::(hY 34 (dF hq23)::(hP 35 (dF hq23)::[])))))))))))))))) ?_
   by_cases hq24:F9 m (aH.mk (Xg m.X2).Xr (Xg m.X2).Xy (Xg m.X2).Xa (Xg m.X2).Xb (Xg m.X2).Xi (Xg m.X2).X1 (Xg m.X2).Xe (Xg m.X2).Xp (Xg m.X2).X5)
   ·refine cF (cn (dT hq24)) (T.skip (nT (sR [] (T.ret ?_))))
    exact eRt 2 (Z3s) [] (cI (by exact if_pos ((Wg m).2 ⟨‹_›,‹_›,‹_›,‹_›,‹_›,(fun h8=>by exact absurd h8.2 ‹_›),(fun h8=>by exact absurd h8.2 ‹_›),(fun h8=>by exact absurd ‹_› h8.1),(fun h8=>by exact absurd h8.2 ‹_›),‹_›⟩))) trivial
   refine cT (cn (dF hq24)) (sR [] (T.ret (rT ?_)))
   exact eRt 2 (Z3q) [] pb trivial
  replace hq20:=Bool.eq_false_iff.2 hq20
  by_cases hq25:((m.Xi.length:Nat):Int)>0
  ·refine sR (Xf (hY · (cn hq8)) [4,5,6] (hP 7 (cn hq8)::(Xf (hY · (dF hq19)) [9,10,11,12] (Xf (hY · (cn hq20)) [13,14,15,16] (hS 17 (oY rfl rfl rfl rfl (X4 rfl) (dF hq19) (Yp (b:=(!(Xg m.X2).Xi)) (av:=(Z3w m)) (X4 rfl) trivial (cn hq20)))::(hP 18 (dF hq19)::(Xf (hN · false (dT hq25)) [20,21,22,23] (hU 24::(hU 25::(hU 26::(hU 27::(hN 28 false (dT hq25)::(hP 29 (dT hq25)::(Xf hN0 [31,32,33,34] (hP1 35::[]))))))))))))))) (cT (b:=true) rfl (sR [] (T.ret (rT ?_))))
   exact eRt 2 (Z3q) [] p1j trivial
  by_cases hq26:(Xg m.X2).X1=true
  ·refine sR (Xf (hY · (cn hq8)) [4,5,6] (hP 7 (cn hq8)::(Xf (hY · (dF hq19)) [9,10,11,12] (Xf (hY · (cn hq20)) [13,14,15,16] (hS 17 (oY rfl rfl rfl rfl (X4 rfl) (dF hq19) (Yp (b:=(!(Xg m.X2).Xi)) (av:=(Z3w m)) (X4 rfl) trivial (cn hq20)))::(hP 18 (dF hq19)::(Xf (hY · (dF hq25)) [20,21,22,23] (Xf (hN · true (cn hq26)) [24,25,26,27] (hS 28 (oY rfl rfl rfl rfl (X4 rfl) (dF hq25) (W9 (b:=(!(Xg m.X2).X1)) (av:=vB false) (X4 rfl) ⟨rfl,trivial⟩ (cn hq26)))::(hP 29 (dF hq25)::(hY0 31::(hY0 32::(hS 33 (oY (b:=false) rfl rfl rfl rfl (X4 rfl) rfl (rCa (Wd tm m (aH.mk (Xg m.X2).Xr (Xg m.X2).Xy (Xg m.X2).Xa (Xg m.X2).Xb (Xg m.X2).Xi (Xg m.X2).X1 (Xg m.X2).Xe (Xg m.X2).Xp (Xg m.X2).X5) ‹_› ‹_› ‹_›) Tryz.func65 [] [(.tmp 95,(Z3n tm m)),(.tmp 96,(Z3r m))] 0 0))::(hY0 34::(hP0 35::[]))))))))))))))) ?_
   by_cases hq27:F9 m (aH.mk (Xg m.X2).Xr (Xg m.X2).Xy (Xg m.X2).Xa (Xg m.X2).Xb (Xg m.X2).Xi (Xg m.X2).X1 (Xg m.X2).Xe (Xg m.X2).Xp (Xg m.X2).X5)
   ·refine cF (cn (dT hq27)) (T.skip (nT (sR [] (T.ret ?_))))
    exact eRt 2 (Z3s) [] (cI (by exact if_pos ((Wg m).2 ⟨‹_›,‹_›,‹_›,‹_›,‹_›,(fun h8=>by exact absurd h8.2 ‹_›),(fun h8=>by exact absurd h8.2 ‹_›),(fun h8=>by exact absurd h8.2 ‹_›),(fun h8=>by exact absurd ‹_› h8.1),‹_›⟩))) trivial
   refine cT (cn (dF hq27)) (sR [] (T.ret (rT ?_)))
   exact eRt 2 (Z3q) [] pb trivial
  replace hq26:=Bool.eq_false_iff.2 hq26
  by_cases hq28:m.X1≠(Xd.mk 0 0)
  ·refine sR (Xf (hY · (cn hq8)) [4,5,6] (hP 7 (cn hq8)::(Xf (hY · (dF hq19)) [9,10,11,12] (Xf (hY · (cn hq20)) [13,14,15,16] (hS 17 (oY rfl rfl rfl rfl (X4 rfl) (dF hq19) (Yp (b:=(!(Xg m.X2).Xi)) (av:=(Z3w m)) (X4 rfl) trivial (cn hq20)))::(hP 18 (dF hq19)::(Xf (hY · (dF hq25)) [20,21,22,23] (Xf (hY · (cn hq26)) [24,25,26] (hS 27 (oY rfl rfl rfl rfl (X4 rfl) (cn hq26) (Jn (ax:=(Z3t m)) (ay:=Z3u) (a:=m.X1) (b:=(Xd.mk 0 0)) Vx ⟨[.int .i64 m.X1.Xt,.int .i64 m.X1.Xn],rfl,rfl⟩ ⟨[.int .i64 0,.int .i64 0],rfl,rfl⟩ (X4 rfl) py))::(hS 28 (oY rfl rfl rfl rfl (X4 rfl) (dF hq25) (Yp (b:=(!(Xg m.X2).X1)) (av:=(Z3v m)) (X4 rfl) trivial (cn hq26)))::(hP 29 (dF hq25)::(Xf (hN · false (dT hq28)) [31,32,33,34] (hP 35 (dT hq28)::[]))))))))))))) ?_
   refine cT (b:=true) rfl (sR [] (T.ret (rT ?_)))
   exact eRt 2 (Z3q) [] ph trivial
  refine sR (Xf (hY · (cn hq8)) [4,5,6] (hP 7 (cn hq8)::(Xf (hY · (dF hq19)) [9,10,11,12] (Xf (hY · (cn hq20)) [13,14,15,16] (hS 17 (oY rfl rfl rfl rfl (X4 rfl) (dF hq19) (Yp (b:=(!(Xg m.X2).Xi)) (av:=(Z3w m)) (X4 rfl) trivial (cn hq20)))::(hP 18 (dF hq19)::(Xf (hY · (dF hq25)) [20,21,22,23] (Xf (hY · (cn hq26)) [24,25,26] (hS 27 (oY rfl rfl rfl rfl (X4 rfl) (cn hq26) (Jn (ax:=(Z3t m)) (ay:=Z3u) (a:=m.X1) (b:=(Xd.mk 0 0)) Vx ⟨[.int .i64 m.X1.Xt,.int .i64 m.X1.Xn],rfl,rfl⟩ ⟨[.int .i64 0,.int .i64 0],rfl,rfl⟩ (X4 rfl) py))::(hS 28 (oY rfl rfl rfl rfl (X4 rfl) (dF hq25) (Yp (b:=(!(Xg m.X2).X1)) (av:=(Z3v m)) (X4 rfl) trivial (cn hq26)))::(hP 29 (dF hq25)::(hY 31 (dF hq28)::(hY 32 (dF hq28)::(hS 33 (oY rfl rfl rfl rfl (X4 rfl) (dF hq28) (rCa (Wd tm m (aH.mk (Xg m.X2).Xr (Xg m.X2).Xy (Xg m.X2).Xa (Xg m.X2).Xb (Xg m.X2).Xi (Xg m.X2).X1 (Xg m.X2).Xe (Xg m.X2).Xp (Xg m.X2).X5) ‹_› ‹_› ‹_›) Tryz.func65 [] [(.tmp 95,(Z3n tm m)),(.tmp 96,(Z3r m))] 0 0))::(hY 34 (dF hq28)::(hP 35 (dF hq28)::[])))))))))))))))) ?_
  by_cases hq29:F9 m (aH.mk (Xg m.X2).Xr (Xg m.X2).Xy (Xg m.X2).Xa (Xg m.X2).Xb (Xg m.X2).Xi (Xg m.X2).X1 (Xg m.X2).Xe (Xg m.X2).Xp (Xg m.X2).X5)
  ·refine cF (cn (dT hq29)) (T.skip (nT (sR [] (T.ret ?_))))
   exact eRt 2 (Z3s) [] (cI (by exact if_pos ((Wg m).2 ⟨‹_›,‹_›,‹_›,‹_›,‹_›,(fun h8=>by exact absurd h8.2 ‹_›),(fun h8=>by exact absurd h8.2 ‹_›),(fun h8=>by exact absurd h8.2 ‹_›),(fun h8=>by exact absurd h8.2 ‹_›),‹_›⟩))) trivial
  refine cT (cn (dF hq29)) (sR [] (T.ret (rT ?_)))
  exact eRt 2 (Z3q) [] pb trivial
 refine sR (Xf (hN · true (dF hq6)) [4,5,6,7] (hP 8 (dF hq6)::[])) (cF (b:=false) rfl (T.skip (nT (T.seq ?_))))
 by_cases hq30:(Xg m.X2).Xb=true
 ·by_cases hq31:(Xg m.X2).Xi=true
  ·by_cases hq32:(Xg m.X2).X1=true
   ·refine sR (Xf (hN · true (cn hq30)) [4,5,6] (hP 7 (cn hq30)::(Xf hY0 [9,10,11,12] (Xf (hN · true (cn hq31)) [13,14,15,16] (hS 17 (oY (b:=false) rfl rfl rfl rfl (X4 rfl) rfl (W9 (b:=(!(Xg m.X2).Xi)) (av:=vB false) (X4 rfl) ⟨rfl,trivial⟩ (cn hq31)))::(hP0 18::(Xf hY0 [20,21,22,23] (Xf (hN · true (cn hq32)) [24,25,26,27] (hS 28 (oY (b:=false) rfl rfl rfl rfl (X4 rfl) rfl (W9 (b:=(!(Xg m.X2).X1)) (av:=vB false) (X4 rfl) ⟨rfl,trivial⟩ (cn hq32)))::(hP0 29::(hY0 31::(hY0 32::(hS 33 (oY (b:=false) rfl rfl rfl rfl (X4 rfl) rfl (rCa (Wd tm m (aH.mk (Xg m.X2).Xr (Xg m.X2).Xy (Xg m.X2).Xa (Xg m.X2).Xb (Xg m.X2).Xi (Xg m.X2).X1 (Xg m.X2).Xe (Xg m.X2).Xp (Xg m.X2).X5) ‹_› ‹_› ‹_›) Tryz.func65 [] [(.tmp 95,(Z3n tm m)),(.tmp 96,(Z3r m))] 0 0))::(hY0 34::(hP0 35::[]))))))))))))))) ?_
    by_cases hq33:F9 m (aH.mk (Xg m.X2).Xr (Xg m.X2).Xy (Xg m.X2).Xa (Xg m.X2).Xb (Xg m.X2).Xi (Xg m.X2).X1 (Xg m.X2).Xe (Xg m.X2).Xp (Xg m.X2).X5)
    ·refine cF (cn (dT hq33)) (T.skip (nT (sR [] (T.ret ?_))))
     exact eRt 2 (Z3s) [] (cI (by exact if_pos ((Wg m).2 ⟨‹_›,‹_›,‹_›,‹_›,‹_›,(fun h8=>by exact absurd h8.1 ‹_›),(fun h8=>by exact absurd ‹_› h8.1),(fun h8=>by exact absurd ‹_› h8.1),(fun h8=>by exact absurd ‹_› h8.1),‹_›⟩))) trivial
    refine cT (cn (dF hq33)) (sR [] (T.ret (rT ?_)))
    exact eRt 2 (Z3q) [] pb trivial
   replace hq32:=Bool.eq_false_iff.2 hq32
   by_cases hq34:m.X1≠(Xd.mk 0 0)
   ·refine sR (Xf (hN · true (cn hq30)) [4,5,6] (hP 7 (cn hq30)::(Xf hY0 [9,10,11,12] (Xf (hN · true (cn hq31)) [13,14,15,16] (hS 17 (oY (b:=false) rfl rfl rfl rfl (X4 rfl) rfl (W9 (b:=(!(Xg m.X2).Xi)) (av:=vB false) (X4 rfl) ⟨rfl,trivial⟩ (cn hq31)))::(hP0 18::(Xf hY0 [20,21,22,23] (Xf (hY · (cn hq32)) [24,25,26] (hS 27 (oY rfl rfl rfl rfl (X4 rfl) (cn hq32) (Jn (ax:=(Z3t m)) (ay:=Z3u) (a:=m.X1) (b:=(Xd.mk 0 0)) Vx ⟨[.int .i64 m.X1.Xt,.int .i64 m.X1.Xn],rfl,rfl⟩ ⟨[.int .i64 0,.int .i64 0],rfl,rfl⟩ (X4 rfl) py))::(hS 28 (oY (b:=false) rfl rfl rfl rfl (X4 rfl) rfl (Yp (b:=(!(Xg m.X2).X1)) (av:=(Z3v m)) (X4 rfl) trivial (cn hq32)))::(hP0 29::(Xf (hN · false (dT hq34)) [31,32,33,34] (hP 35 (dT hq34)::[]))))))))))))) ?_
    refine cT (b:=true) rfl (sR [] (T.ret (rT ?_)))
    exact eRt 2 (Z3q) [] ph trivial
   refine sR (Xf (hN · true (cn hq30)) [4,5,6] (hP 7 (cn hq30)::(Xf hY0 [9,10,11,12] (Xf (hN · true (cn hq31)) [13,14,15,16] (hS 17 (oY (b:=false) rfl rfl rfl rfl (X4 rfl) rfl (W9 (b:=(!(Xg m.X2).Xi)) (av:=vB false) (X4 rfl) ⟨rfl,trivial⟩ (cn hq31)))::(hP0 18::(Xf hY0 [20,21,22,23] (Xf (hY · (cn hq32)) [24,25,26] (hS 27 (oY rfl rfl rfl rfl (X4 rfl) (cn hq32) (Jn (ax:=(Z3t m)) (ay:=Z3u) (a:=m.X1) (b:=(Xd.mk 0 0)) Vx ⟨[.int .i64 m.X1.Xt,.int .i64 m.X1.Xn],rfl,rfl⟩ ⟨[.int .i64 0,.int .i64 0],rfl,rfl⟩ (X4 rfl) py))::(hS 28 (oY (b:=false) rfl rfl rfl rfl (X4 rfl) rfl (Yp (b:=(!(Xg m.X2).X1)) (av:=(Z3v m)) (X4 rfl) trivial (cn hq32)))::(hP0 29::(hY 31 (dF hq34)::(hY 32 (dF hq34)::(hS 33 (oY rfl rfl rfl rfl (X4 rfl) (dF hq34) (rCa (Wd tm m (aH.mk (Xg m.X2).Xr (Xg m.X2).Xy (Xg m.X2).Xa (Xg m.X2).Xb (Xg m.X2).Xi (Xg m.X2).X1 (Xg m.X2).Xe (Xg m.X2).Xp (Xg m.X2).X5) ‹_› ‹_› ‹_›) Tryz.func65 [] [(.tmp 95,(Z3n tm m)),(.tmp 96,(Z3r m))] 0 0))::(hY 34 (dF hq34)::(hP 35 (dF hq34)::[])))))))))))))))) ?_
   by_cases hq35:F9 m (aH.mk (Xg m.X2).Xr (Xg m.X2).Xy (Xg m.X2).Xa (Xg m.X2).Xb (Xg m.X2).Xi (Xg m.X2).X1 (Xg m.X2).Xe (Xg m.X2).Xp (Xg m.X2).X5)
   ·refine cF (cn (dT hq35)) (T.skip (nT (sR [] (T.ret ?_))))
    exact eRt 2 (Z3s) [] (cI (by exact if_pos ((Wg m).2 ⟨‹_›,‹_›,‹_›,‹_›,‹_›,(fun h8=>by exact absurd h8.1 ‹_›),(fun h8=>by exact absurd ‹_› h8.1),(fun h8=>by exact absurd ‹_› h8.1),(fun h8=>by exact absurd h8.2 ‹_›),‹_›⟩))) trivial
   refine cT (cn (dF hq35)) (sR [] (T.ret (rT ?_)))
   exact eRt 2 (Z3q) [] pb trivial
  replace hq31:=Bool.eq_false_iff.2 hq31
  by_cases hq36:((m.Xi.length:Nat):Int)>0
  ·refine sR (Xf (hN · true (cn hq30)) [4,5,6] (hP 7 (cn hq30)::(Xf hY0 [9,10,11,12] (Xf (hY · (cn hq31)) [13,14,15,16] (hS 17 (oY (b:=false) rfl rfl rfl rfl (X4 rfl) rfl (Yp (b:=(!(Xg m.X2).Xi)) (av:=(Z3w m)) (X4 rfl) trivial (cn hq31)))::(hP0 18::(Xf (hN · false (dT hq36)) [20,21,22,23] (hU 24::(hU 25::(hU 26::(hU 27::(hN 28 false (dT hq36)::(hP 29 (dT hq36)::(Xf hN0 [31,32,33,34] (hP1 35::[]))))))))))))))) (cT (b:=true) rfl (sR [] (T.ret (rT ?_))))
   exact eRt 2 (Z3q) [] p1j trivial
  by_cases hq37:(Xg m.X2).X1=true
  ·refine sR (Xf (hN · true (cn hq30)) [4,5,6] (hP 7 (cn hq30)::(Xf hY0 [9,10,11,12] (Xf (hY · (cn hq31)) [13,14,15,16] (hS 17 (oY (b:=false) rfl rfl rfl rfl (X4 rfl) rfl (Yp (b:=(!(Xg m.X2).Xi)) (av:=(Z3w m)) (X4 rfl) trivial (cn hq31)))::(hP0 18::(Xf (hY · (dF hq36)) [20,21,22,23] (Xf (hN · true (cn hq37)) [24,25,26,27] (hS 28 (oY rfl rfl rfl rfl (X4 rfl) (dF hq36) (W9 (b:=(!(Xg m.X2).X1)) (av:=vB false) (X4 rfl) ⟨rfl,trivial⟩ (cn hq37)))::(hP 29 (dF hq36)::(hY0 31::(hY0 32::(hS 33 (oY (b:=false) rfl rfl rfl rfl (X4 rfl) rfl (rCa (Wd tm m (aH.mk (Xg m.X2).Xr (Xg m.X2).Xy (Xg m.X2).Xa (Xg m.X2).Xb (Xg m.X2).Xi (Xg m.X2).X1 (Xg m.X2).Xe (Xg m.X2).Xp (Xg m.X2).X5) ‹_› ‹_› ‹_›) Tryz.func65 [] [(.tmp 95,(Z3n tm m)),(.tmp 96,(Z3r m))] 0 0))::(hY0 34::(hP0 35::[]))))))))))))))) ?_
   by_cases hq38:F9 m (aH.mk (Xg m.X2).Xr (Xg m.X2).Xy (Xg m.X2).Xa (Xg m.X2).Xb (Xg m.X2).Xi (Xg m.X2).X1 (Xg m.X2).Xe (Xg m.X2).Xp (Xg m.X2).X5)
   ·refine cF (cn (dT hq38)) (T.skip (nT (sR [] (T.ret ?_))))
    exact eRt 2 (Z3s) [] (cI (by exact if_pos ((Wg m).2 ⟨‹_›,‹_›,‹_›,‹_›,‹_›,(fun h8=>by exact absurd h8.1 ‹_›),(fun h8=>by exact absurd ‹_› h8.1),(fun h8=>by exact absurd h8.2 ‹_›),(fun h8=>by exact absurd ‹_› h8.1),‹_›⟩))) trivial
   refine cT (cn (dF hq38)) (sR [] (T.ret (rT ?_)))
   exact eRt 2 (Z3q) [] pb trivial
  replace hq37:=Bool.eq_false_iff.2 hq37
  by_cases hq39:m.X1≠(Xd.mk 0 0)
  ·refine sR (Xf (hN · true (cn hq30)) [4,5,6] (hP 7 (cn hq30)::(Xf hY0 [9,10,11,12] (Xf (hY · (cn hq31)) [13,14,15,16] (hS 17 (oY (b:=false) rfl rfl rfl rfl (X4 rfl) rfl (Yp (b:=(!(Xg m.X2).Xi)) (av:=(Z3w m)) (X4 rfl) trivial (cn hq31)))::(hP0 18::(Xf (hY · (dF hq36)) [20,21,22,23] (Xf (hY · (cn hq37)) [24,25,26] (hS 27 (oY rfl rfl rfl rfl (X4 rfl) (cn hq37) (Jn (ax:=(Z3t m)) (ay:=Z3u) (a:=m.X1) (b:=(Xd.mk 0 0)) Vx ⟨[.int .i64 m.X1.Xt,.int .i64 m.X1.Xn],rfl,rfl⟩ ⟨[.int .i64 0,.int .i64 0],rfl,rfl⟩ (X4 rfl) py))::(hS 28 (oY rfl rfl rfl rfl (X4 rfl) (dF hq36) (Yp (b:=(!(Xg m.X2).X1)) (av:=(Z3v m)) (X4 rfl) trivial (cn hq37)))::(hP 29 (dF hq36)::(Xf (hN · false (dT hq39)) [31,32,33,34] (hP 35 (dT hq39)::[]))))))))))))) ?_
   refine cT (b:=true) rfl (sR [] (T.ret (rT ?_)))
   exact eRt 2 (Z3q) [] ph trivial
  refine sR (Xf (hN · true (cn hq30)) [4,5,6] (hP 7 (cn hq30)::(Xf hY0 [9,10,11,12] (Xf (hY · (cn hq31)) [13,14,15,16] (hS 17 (oY (b:=false) rfl rfl rfl rfl (X4 rfl) rfl (Yp (b:=(!(Xg m.X2).Xi)) (av:=(Z3w m)) (X4 rfl) trivial (cn hq31)))::(hP0 18::(Xf (hY · (dF hq36)) [20,21,22,23] (Xf (hY · (cn hq37)) [24,25,26] (hS 27 (oY rfl rfl rfl rfl (X4 rfl) (cn hq37) (Jn (ax:=(Z3t m)) (ay:=Z3u) (a:=m.X1) (b:=(Xd.mk 0 0)) Vx ⟨[.int .i64 m.X1.Xt,.int .i64 m.X1.Xn],rfl,rfl⟩ ⟨[.int .i64 0,.int .i64 0],rfl,rfl⟩ (X4 rfl) py))::(hS 28 (oY rfl rfl rfl rfl (X4 rfl) (dF hq36) (Yp (b:=(!(Xg m.X2).X1)) (av:=(Z3v m)) (X4 rfl) trivial (cn hq37)))::(hP 29 (dF hq36)::(hY 31 (dF hq39)::(hY 32 (dF hq39)::(hS 33 (oY rfl rfl rfl rfl (X4 rfl) (dF hq39) (rCa (Wd tm m (aH.mk (Xg m.X2).Xr (Xg m.X2).Xy (Xg m.X2).Xa (Xg m.X2).Xb (Xg m.X2).Xi (Xg m.X2).X1 (Xg m.X2).Xe (Xg m.X2).Xp (Xg m.X2).X5) ‹_› ‹_› ‹_›) Tryz.func65 [] [(.tmp 95,(Z3n tm m)),(.tmp 96,(Z3r m))] 0 0))::(hY 34 (dF hq39)::(hP 35 (dF hq39)::[])))))))))))))))) ?_
  by_cases hq40:F9 m (aH.mk (Xg m.X2).Xr (Xg m.X2).Xy (Xg m.X2).Xa (Xg m.X2).Xb (Xg m.X2).Xi (Xg m.X2).X1 (Xg m.X2).Xe (Xg m.X2).Xp (Xg m.X2).X5)
  ·refine cF (cn (dT hq40)) (T.skip (nT (sR [] (T.ret ?_))))
   exact eRt 2 (Z3s) [] (cI (by exact if_pos ((Wg m).2 ⟨‹_›,‹_›,‹_›,‹_›,‹_›,(fun h8=>by exact absurd h8.1 ‹_›),(fun h8=>by exact absurd ‹_› h8.1),(fun h8=>by exact absurd h8.2 ‹_›),(fun h8=>by exact absurd h8.2 ‹_›),‹_›⟩))) trivial
  refine cT (cn (dF hq40)) (sR [] (T.ret (rT ?_)))
  exact eRt 2 (Z3q) [] pb trivial
 replace hq30:=Bool.eq_false_iff.2 hq30
 by_cases hq41:m.Xb≠[]
 ·refine sR (Xf (hY · (cn hq30)) [4,5,6] (hP 7 (cn hq30)::(Xf (hN · false (dT hq41)) [9,10,11,12] (hU 13::(hU 14::(hU 15::(hU 16::(hN 17 false (dT hq41)::(hP 18 (dT hq41)::(Xf hN0 [20,21,22,23] (hU 24::(hU 25::(hU 26::(hU 27::(hN0 28::(hP1 29::(Xf hN0 [31,32,33,34] (hP1 35::[])))))))))))))))))) (cT (b:=true) rfl (sR [] (T.ret (rT ?_))))
  exact eRt 2 (Z3q) [] p3c trivial
 by_cases hq42:(Xg m.X2).Xi=true
 ·by_cases hq43:(Xg m.X2).X1=true
  ·refine sR (Xf (hY · (cn hq30)) [4,5,6] (hP 7 (cn hq30)::(Xf (hY · (dF hq41)) [9,10,11,12] (Xf (hN · true (cn hq42)) [13,14,15,16] (hS 17 (oY rfl rfl rfl rfl (X4 rfl) (dF hq41) (W9 (b:=(!(Xg m.X2).Xi)) (av:=vB false) (X4 rfl) ⟨rfl,trivial⟩ (cn hq42)))::(hP 18 (dF hq41)::(Xf hY0 [20,21,22,23] (Xf (hN · true (cn hq43)) [24,25,26,27] (hS 28 (oY (b:=false) rfl rfl rfl rfl (X4 rfl) rfl (W9 (b:=(!(Xg m.X2).X1)) (av:=vB false) (X4 rfl) ⟨rfl,trivial⟩ (cn hq43)))::(hP0 29::(hY0 31::(hY0 32::(hS 33 (oY (b:=false) rfl rfl rfl rfl (X4 rfl) rfl (rCa (Wd tm m (aH.mk (Xg m.X2).Xr (Xg m.X2).Xy (Xg m.X2).Xa (Xg m.X2).Xb (Xg m.X2).Xi (Xg m.X2).X1 (Xg m.X2).Xe (Xg m.X2).Xp (Xg m.X2).X5) ‹_› ‹_› ‹_›) Tryz.func65 [] [(.tmp 95,(Z3n tm m)),(.tmp 96,(Z3r m))] 0 0))::(hY0 34::(hP0 35::[]))))))))))))))) ?_
   by_cases hq44:F9 m (aH.mk (Xg m.X2).Xr (Xg m.X2).Xy (Xg m.X2).Xa (Xg m.X2).Xb (Xg m.X2).Xi (Xg m.X2).X1 (Xg m.X2).Xe (Xg m.X2).Xp (Xg m.X2).X5)
   ·refine cF (cn (dT hq44)) (T.skip (nT (sR [] (T.ret ?_))))
    exact eRt 2 (Z3s) [] (cI (by exact if_pos ((Wg m).2 ⟨‹_›,‹_›,‹_›,‹_›,‹_›,(fun h8=>by exact absurd h8.1 ‹_›),(fun h8=>by exact absurd h8.2 ‹_›),(fun h8=>by exact absurd ‹_› h8.1),(fun h8=>by exact absurd ‹_› h8.1),‹_›⟩))) trivial
   refine cT (cn (dF hq44)) (sR [] (T.ret (rT ?_)))
   exact eRt 2 (Z3q) [] pb trivial
  replace hq43:=Bool.eq_false_iff.2 hq43
  by_cases hq45:m.X1≠(Xd.mk 0 0)
  ·refine sR (Xf (hY · (cn hq30)) [4,5,6] (hP 7 (cn hq30)::(Xf (hY · (dF hq41)) [9,10,11,12] (Xf (hN · true (cn hq42)) [13,14,15,16] (hS 17 (oY rfl rfl rfl rfl (X4 rfl) (dF hq41) (W9 (b:=(!(Xg m.X2).Xi)) (av:=vB false) (X4 rfl) ⟨rfl,trivial⟩ (cn hq42)))::(hP 18 (dF hq41)::(Xf hY0 [20,21,22,23] (Xf (hY · (cn hq43)) [24,25,26] (hS 27 (oY rfl rfl rfl rfl (X4 rfl) (cn hq43) (Jn (ax:=(Z3t m)) (ay:=Z3u) (a:=m.X1) (b:=(Xd.mk 0 0)) Vx ⟨[.int .i64 m.X1.Xt,.int .i64 m.X1.Xn],rfl,rfl⟩ ⟨[.int .i64 0,.int .i64 0],rfl,rfl⟩ (X4 rfl) py))::(hS 28 (oY (b:=false) rfl rfl rfl rfl (X4 rfl) rfl (Yp (b:=(!(Xg m.X2).X1)) (av:=(Z3v m)) (X4 rfl) trivial (cn hq43)))::(hP0 29::(Xf (hN · false (dT hq45)) [31,32,33,34] (hP 35 (dT hq45)::[]))))))))))))) ?_
   refine cT (b:=true) rfl (sR [] (T.ret (rT ?_)))
   exact eRt 2 (Z3q) [] ph trivial
  refine sR (Xf (hY · (cn hq30)) [4,5,6] (hP 7 (cn hq30)::(Xf (hY · (dF hq41)) [9,10,11,12] (Xf (hN · true (cn hq42)) [13,14,15,16] (hS 17 (oY rfl rfl rfl rfl (X4 rfl) (dF hq41) (W9 (b:=(!(Xg m.X2).Xi)) (av:=vB false) (X4 rfl) ⟨rfl,trivial⟩ (cn hq42)))::(hP 18 (dF hq41)::(Xf hY0 [20,21,22,23] (Xf (hY · (cn hq43)) [24,25,26] (hS 27 (oY rfl rfl rfl rfl (X4 rfl) (cn hq43) (Jn (ax:=(Z3t m)) (ay:=Z3u) (a:=m.X1) (b:=(Xd.mk 0 0)) Vx ⟨[.int .i64 m.X1.Xt,.int .i64 m.X1.Xn],rfl,rfl⟩ ⟨[.int .i64 0,.int .i64 0],rfl,rfl⟩ (X4 rfl) py))::(hS 28 (oY (b:=false) rfl rfl rfl rfl (X4 rfl) rfl (Yp (b:=(!(Xg m.X2).X1)) (av:=(Z3v m)) (X4 rfl) trivial (cn hq43)))::(hP0 29::(hY 31 (dF hq45)::(hY 32 (dF hq45)::(hS 33 (oY rfl rfl rfl rfl (X4 rfl) (dF hq45) (rCa (Wd tm m (aH.mk (Xg m.X2).Xr (Xg m.X2).Xy (Xg m.X2).Xa (Xg m.X2).Xb (Xg m.X2).Xi (Xg m.X2).X1 (Xg m.X2).Xe (Xg m.X2).Xp (Xg m.X2).X5) ‹_› ‹_› ‹_›) Tryz.func65 [] [(.tmp 95,(Z3n tm m)),(.tmp 96,(Z3r m))] 0 0))::(hY 34 (dF hq45)::(hP 35 (dF hq45)::[])))))))))))))))) ?_
  by_cases hq46:F9 m (aH.mk (Xg m.X2).Xr (Xg m.X2).Xy (Xg m.X2).Xa (Xg m.X2).Xb (Xg m.X2).Xi (Xg m.X2).X1 (Xg m.X2).Xe (Xg m.X2).Xp (Xg m.X2).X5)
  ·refine cF (cn (dT hq46)) (T.skip (nT (sR [] (T.ret ?_))))
   exact eRt 2 (Z3s) [] (cI (by exact if_pos ((Wg m).2 ⟨‹_›,‹_›,‹_›,‹_›,‹_›,(fun h8=>by exact absurd h8.1 ‹_›),(fun h8=>by exact absurd h8.2 ‹_›),(fun h8=>by exact absurd ‹_› h8.1),(fun h8=>by exact absurd h8.2 ‹_›),‹_›⟩))) trivial
  refine cT (cn (dF hq46)) (sR [] (T.ret (rT ?_)))
  exact eRt 2 (Z3q) [] pb trivial
 replace hq42:=Bool.eq_false_iff.2 hq42
 by_cases hq47:((m.Xi.length:Nat):Int)>0
 ·refine sR (Xf (hY · (cn hq30)) [4,5,6] (hP 7 (cn hq30)::(Xf (hY · (dF hq41)) [9,10,11,12] (Xf (hY · (cn hq42)) [13,14,15,16] (hS 17 (oY rfl rfl rfl rfl (X4 rfl) (dF hq41) (Yp (b:=(!(Xg m.X2).Xi)) (av:=(Z3w m)) (X4 rfl) trivial (cn hq42)))::(hP 18 (dF hq41)::(Xf (hN · false (dT hq47)) [20,21,22,23] (hU 24::(hU 25::(hU 26::(hU 27::(hN 28 false (dT hq47)::(hP 29 (dT hq47)::(Xf hN0 [31,32,33,34] (hP1 35::[]))))))))))))))) (cT (b:=true) rfl (sR [] (T.ret (rT ?_))))
  exact eRt 2 (Z3q) [] p1j trivial
 by_cases hq48:(Xg m.X2).X1=true
 ·refine sR (Xf (hY · (cn hq30)) [4,5,6] (hP 7 (cn hq30)::(Xf (hY · (dF hq41)) [9,10,11,12] (Xf (hY · (cn hq42)) [13,14,15,16] (hS 17 (oY rfl rfl rfl rfl (X4 rfl) (dF hq41) (Yp (b:=(!(Xg m.X2).Xi)) (av:=(Z3w m)) (X4 rfl) trivial (cn hq42)))::(hP 18 (dF hq41)::(Xf (hY · (dF hq47)) [20,21,22,23] (Xf (hN · true (cn hq48)) [24,25,26,27] (hS 28 (oY rfl rfl rfl rfl (X4 rfl) (dF hq47) (W9 (b:=(!(Xg m.X2).X1)) (av:=vB false) (X4 rfl) ⟨rfl,trivial⟩ (cn hq48)))::(hP 29 (dF hq47)::(hY0 31::(hY0 32::(hS 33 (oY (b:=false) rfl rfl rfl rfl (X4 rfl) rfl (rCa (Wd tm m (aH.mk (Xg m.X2).Xr (Xg m.X2).Xy (Xg m.X2).Xa (Xg m.X2).Xb (Xg m.X2).Xi (Xg m.X2).X1 (Xg m.X2).Xe (Xg m.X2).Xp (Xg m.X2).X5) ‹_› ‹_› ‹_›) Tryz.func65 [] [(.tmp 95,(Z3n tm m)),(.tmp 96,(Z3r m))] 0 0))::(hY0 34::(hP0 35::[]))))))))))))))) ?_
  by_cases hq49:F9 m (aH.mk (Xg m.X2).Xr (Xg m.X2).Xy (Xg m.X2).Xa (Xg m.X2).Xb (Xg m.X2).Xi (Xg m.X2).X1 (Xg m.X2).Xe (Xg m.X2).Xp (Xg m.X2).X5)
  ·refine cF (cn (dT hq49)) (T.skip (nT (sR [] (T.ret ?_))))
   exact eRt 2 (Z3s) [] (cI (by exact if_pos ((Wg m).2 ⟨‹_›,‹_›,‹_›,‹_›,‹_›,(fun h8=>by exact absurd h8.1 ‹_›),(fun h8=>by exact absurd h8.2 ‹_›),(fun h8=>by exact absurd h8.2 ‹_›),(fun h8=>by exact absurd ‹_› h8.1),‹_›⟩))) trivial
  refine cT (cn (dF hq49)) (sR [] (T.ret (rT ?_)))
  exact eRt 2 (Z3q) [] pb trivial
 replace hq48:=Bool.eq_false_iff.2 hq48
 by_cases hq50:m.X1≠(Xd.mk 0 0)
 ·refine sR (Xf (hY · (cn hq30)) [4,5,6] (hP 7 (cn hq30)::(Xf (hY · (dF hq41)) [9,10,11,12] (Xf (hY · (cn hq42)) [13,14,15,16] (hS 17 (oY rfl rfl rfl rfl (X4 rfl) (dF hq41) (Yp (b:=(!(Xg m.X2).Xi)) (av:=(Z3w m)) (X4 rfl) trivial (cn hq42)))::(hP 18 (dF hq41)::(Xf (hY · (dF hq47)) [20,21,22,23] (Xf (hY · (cn hq48)) [24,25,26] (hS 27 (oY rfl rfl rfl rfl (X4 rfl) (cn hq48) (Jn (ax:=(Z3t m)) (ay:=Z3u) (a:=m.X1) (b:=(Xd.mk 0 0)) Vx ⟨[.int .i64 m.X1.Xt,.int .i64 m.X1.Xn],rfl,rfl⟩ ⟨[.int .i64 0,.int .i64 0],rfl,rfl⟩ (X4 rfl) py))::(hS 28 (oY rfl rfl rfl rfl (X4 rfl) (dF hq47) (Yp (b:=(!(Xg m.X2).X1)) (av:=(Z3v m)) (X4 rfl) trivial (cn hq48)))::(hP 29 (dF hq47)::(Xf (hN · false (dT hq50)) [31,32,33,34] (hP 35 (dT hq50)::[]))))))))))))) ?_
  refine cT (b:=true) rfl (sR [] (T.ret (rT ?_)))
  exact eRt 2 (Z3q) [] ph trivial
 refine sR (Xf (hY · (cn hq30)) [4,5,6] (hP 7 (cn hq30)::(Xf (hY · (dF hq41)) [9,10,11,12] (Xf (hY · (cn hq42)) [13,14,15,16] (hS 17 (oY rfl rfl rfl rfl (X4 rfl) (dF hq41) (Yp (b:=(!(Xg m.X2).Xi)) (av:=(Z3w m)) (X4 rfl) trivial (cn hq42)))::(hP 18 (dF hq41)::(Xf (hY · (dF hq47)) [20,21,22,23] (Xf (hY · (cn hq48)) [24,25,26] (hS 27 (oY rfl rfl rfl rfl (X4 rfl) (cn hq48) (Jn (ax:=(Z3t m)) (ay:=Z3u) (a:=m.X1) (b:=(Xd.mk 0 0)) Vx ⟨[.int .i64 m.X1.Xt,.int .i64 m.X1.Xn],rfl,rfl⟩ ⟨[.int .i64 0,.int .i64 0],rfl,rfl⟩ (X4 rfl) py))::(hS 28 (oY rfl rfl rfl rfl (X4 rfl) (dF hq47) (Yp (b:=(!(Xg m.X2).X1)) (av:=(Z3v m)) (X4 rfl) trivial (cn hq48)))::(hP 29 (dF hq47)::(hY 31 (dF hq50)::(hY 32 (dF hq50)::(hS 33 (oY rfl rfl rfl rfl (X4 rfl) (dF hq50) (rCa (Wd tm m (aH.mk (Xg m.X2).Xr (Xg m.X2).Xy (Xg m.X2).Xa (Xg m.X2).Xb (Xg m.X2).Xi (Xg m.X2).X1 (Xg m.X2).Xe (Xg m.X2).Xp (Xg m.X2).X5) ‹_› ‹_› ‹_›) Tryz.func65 [] [(.tmp 95,(Z3n tm m)),(.tmp 96,(Z3r m))] 0 0))::(hY 34 (dF hq50)::(hP 35 (dF hq50)::[])))))))))))))))) ?_
 by_cases hq51:F9 m (aH.mk (Xg m.X2).Xr (Xg m.X2).Xy (Xg m.X2).Xa (Xg m.X2).Xb (Xg m.X2).Xi (Xg m.X2).X1 (Xg m.X2).Xe (Xg m.X2).Xp (Xg m.X2).X5)
 ·refine cF (cn (dT hq51)) (T.skip (nT (sR [] (T.ret ?_))))
  exact eRt 2 (Z3s) [] (cI (by exact if_pos ((Wg m).2 ⟨‹_›,‹_›,‹_›,‹_›,‹_›,(fun h8=>by exact absurd h8.1 ‹_›),(fun h8=>by exact absurd h8.2 ‹_›),(fun h8=>by exact absurd h8.2 ‹_›),(fun h8=>by exact absurd h8.2 ‹_›),‹_›⟩))) trivial
 refine cT (cn (dF hq51)) (sR [] (T.ret (rT ?_)))
 exact eRt 2 (Z3q) [] pb trivial
end Go.Proofs.YthnefnknoahbkaaGreat.Q
