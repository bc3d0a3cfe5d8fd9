import Derived.Test.YthnefnknoahbkaaC18n15
namespace Go.Proofs.Ythnefnknoahbkaa.Q
open Go Go.RowKit
set_option linter.unusedVariables false
set_option linter.unusedSimpArgs false
set_option maxRecDepth 100000
set_option maxHeartbeats 4000000
abbrev Z7c (B:List UInt8) (r:List UInt8) (e:Int):HS:=.live (.box 87 [dU B,dI ((Ww B (Ju (rdR r e 8 0) (rdE r e 8 0) 1099511627776):Nat):Int),dI (J4 (rdR r e 8 0) (rdE r e 8 0) 1099511627776)])
abbrev Z7d (r:List UInt8) (e:Int):=(rdY (rdR r e 8 0) (rdE r e 8 0) 1099511627776)
abbrev Z7e (B:List UInt8) (r:List UInt8) (e:Int):St:=⟨[pv 0 0,aa,pv 1 0],[(Z7c B r e),.live (.box 48 [dI (rdI r e),.own 2 kU8.sz 0 (Z7d r e).length]),.live (Xe 5 kU8 (Z7d r e))]⟩
theorem Ek (B:List UInt8) (r:List UInt8) (e:Int) (hs:r <:+ B) (hB:B.length≤100000000):Holds Try.prog 61 ⟨[pv 0 0],[.box 87 [dU B,dI ((Ww B r:Nat):Int),dI e]],.tv (.agg [dI (evV 1099511627776 r e).X4,dU (evV 1099511627776 r e).X9]),[.live (.box 87 [dU B,dI ((Ww B (evR 1099511627776 r e):Nat):Int),dI (evE 1099511627776 r e)])]⟩:=by
 refine Holds.of Try.func61 rfl (N:=8) Try.ntmps61 rfl fun w0 B0 S0 U0=>?_
 show T _ (Xz 8 1 w0 S0 U0 B0) ⟨[pv 0 0],[.live (.box 87 [dU B,dI ((Ww B r:Nat):Int),dI e])]⟩ _ _
 refine sR [] (sR [hR 1 rfl rfl (rCa (Jh B r e (by repeat assumption) (by omega)) Try.func34 [0] [(.tmp 3,pv 0 0)] 1 1),hR 3 rfl rfl (rCa (Fr B (rdR r e 8 0) (rdE r e 8 0) 1099511627776 pZ7 (by omega)) Try.func58 [0,2] [(.tmp 5,pv 0 0),(.const (.int .i64 1099511627776),vI 1099511627776)] 1 2)] (T.ret ?_))
 refine eN (Z7e B r e) ?_
 refine Xm (s':=⟨[pv 0 0,aa,pv 1 0],[(Z7c B r e),.live (.box 48 [dI (rdI r e),dU (Z7d r e)]),.dead]⟩) (fun _ _ hG=>Gs.freeze (s:=(Z7e B r e)) 2 (el:=We kU8 (rdY (rdR r e 8 0) (rdE r e 8 0) 1099511627776)) (sz:=kU8.sz) (n:=(rdY (rdR r e 8 0) (rdE r e 8 0) 1099511627776).length) rfl ⟨.inl rfl,(kk2 trivial)⟩ ⟨pc,⟨pZ23,⟨(.inl ⟨rfl,rfl⟩),trivial⟩⟩⟩ hG) ?_
 exact eX [.c 2 1 48 0 48 [dI (rdI r e),dU (Z7d r e)] (.agg [dI (rdI r e),dU (Z7d r e)])] ⟨⟨rfl,rfl,by kernel_rfl,by kernel_rfl,.inl ⟨2,I1,rfl,Nat.le_of_ble_eq_true rfl⟩⟩,trivial⟩ [0] (cg2 (fun (q1:Int) (q2:List UInt8)=>(.tv (.agg [dI q1,dU q2]):AV)) (by rfl) (by rfl)) ⟨⟨rfl,(by have e1:(((Ww B (Ju (rdR r e 8 0) (rdE r e 8 0) 1099511627776):Nat):Int):Int)=((Ww B (evR 1099511627776 r e):Nat):Int):=(by rfl);have e2:((J4 (rdR r e 8 0) (rdE r e 8 0) 1099511627776):Int)=(evE 1099511627776 r e):=(by rfl);have hE:=congr pZ28 e2;exact Eq.trans pZ4 hE)⟩,trivial⟩
section
variable (B:List UInt8) (r:List UInt8) (e:Int) (k:Nat)
abbrev Z7f:SV:=dU B
abbrev Z7g:AV:=vI ((rdC r e 15:Nat):Int)
abbrev Z7h:HS:=.live (.box 87 [(Z7f B),dI ((Ww B (rdR r e 4 (Yb 15 (r.take 4))):Nat):Int),dI (rdE r e 4 (Yb 15 (r.take 4)))])
abbrev Z7i:=(V8 1099511627776 r e k)
abbrev Z7j:AV:=Y3 1 (kE false) 0 (Z7i r e k).l.length
abbrev Z7k:List HS:=[.live (.box 87 [(Z7f B),dI ((Ww B (Z7i r e k).rest:Nat):Int),dI (Z7i r e k).e]),.live (Xe 48 (kE false) (Z7i r e k).l)]
abbrev Z7n:=(evV 1099511627776 (Z7i r e k).rest (Z7i r e k).e)
abbrev Z7o:AV:=vI ((k+1:Nat):Int)
abbrev Z7p:List HS:=[.live (.box 87 [(Z7f B),dI ((Ww B (V8 1099511627776 r e (k+1)).rest:Nat):Int),dI (V8 1099511627776 r e (k+1)).e]),.live (Xe 48 (kE false) (V8 1099511627776 r e (k+1)).l)]
abbrev Z7q:List AV:=[pv 0 0,aa,(Z7j r e k),(Z7j r e k),(Z7g r e),vI ((k:Nat):Int),aa,aa,aa,aa,vB (decide (((k:Nat):Int)<((rdC r e 15:Nat):Int)))]
end
theorem F9 (B:List UInt8) (r:List UInt8) (e:Int) (hs:r <:+ B) (hB:B.length≤100000000):Holds Try.prog 59 ⟨[pv 0 0],[.box 87 [dU B,dI ((Ww B r:Nat):Int),dI e]],slV false false (kE false) (Vx 1099511627776 r e).l,[.live (.box 87 [dU B,dI ((Ww B (Vx 1099511627776 r e).rest:Nat):Int),dI (Vx 1099511627776 r e).e])]⟩:=by
 refine Holds.of Try.func59 rfl (N:=19) Try.ntmps59 rfl fun w0 B0 S0 U0=>?_
 show T _ (Xz 19 1 w0 S0 U0 B0) ⟨[pv 0 0],[.live (.box 87 [(Z7f B),dI ((Ww B r:Nat):Int),dI e])]⟩ _ _
 refine sR [] (sR [] (sR [hR 1 rfl rfl (rCa (X2g B r e 15 (by repeat assumption) (by omega)) Try.func60 [0] [(.tmp 6,pv 0 0),(.const (.int .i64 15),vI 15)] 1 1)] (T.seq (sR [] (T.block ?_)))))
 refine tN ⟨[pv 0 0,aa,dv (.slice none 0 0),dv (.slice none 0 0),(Z7g r e),vI 0],[(Z7h B r e)]⟩ ?_
 refine Vh (s':=⟨[pv 0 0,aa,dv (.slice none 0 0),Y3 1 (kE false) 0 0,(Z7g r e),vI 0],[(Z7h B r e),.live (Xe 48 (kE false) ([]:List aE))]⟩) (fun _ _ hG=>J9 1 3 48 (kE false) rfl rfl hG) ?_
 refine T.loop (ι:=Nat) (fun (k:Nat)=>⟨[pv 0 0,aa,aa,(Z7j r e k),(Z7g r e),vI ((k:Nat):Int)],(Z7k B r e k)⟩) (fun (k:Nat)=>(k≤rdC r e 15)) (fun (k:Nat)=>rdC r e 15-k) (0) (Nat.zero_le _) (fun _ _ hG=>Yc [0,1] (bm 6 57) (t2:=[pv 0 0,aa,aa,Y3 1 (kE false) 0 0,(Z7g r e),vI 0]) (h2:=[(Z7h B r e),.live (Xe 48 (kE false) ([]:List aE))]) (congrArg (fun (q1:Nat)=>([pv 0 0,aa,aa,Y3 1 (kE false) 0 q1,(Z7g r e),vI 0]:List AV)) (by rfl)) (cg3 (fun (q1:Int) (q2:Int) (q3:List aE)=>([.live (.box 87 [(Z7f B),dI q1,dI q2]),.live (Xe 48 (kE false) q3)]:List HS)) (by rfl) (by rfl) (by rfl)) hG) ?_
 rintro k hk
 show T _ _ ⟨[pv 0 0,aa,aa,(Z7j r e k),(Z7g r e),vI ((k:Nat):Int)],(Z7k B r e k)⟩ _ _
 replace hk:k≤rdC r e 15:=hk
 have hg:=Ff 1099511627776 r e k
 have hg1:=hg.1
 have hg2:=hg.2
 have hcm:rdC r e 15≤15:=X0n r e 15
 refine T.seq (sR [] ?_)
 by_cases hq1:((k:Nat):Int)<((rdC r e 15:Nat):Int)
 ·refine cT (dT hq1) (T.skip (nT (T.seq (T.block ?_))))
  refine xR [hR 2 rfl rfl (rCa (Ek B (V8 1099511627776 r e k).rest (V8 1099511627776 r e k).e pZ7 ‹_›) Try.func61 [0] [(.tmp 14,pv 0 0)] 1 1),hR 3 rfl rfl (Yd 2 48 (kE false) (Vs false) [(evV 1099511627776 (V8 1099511627776 r e k).rest (V8 1099511627776 r e k).e)] [⟨0,.tmp 15,.agg [dI (Z7n r e k).X4,dU (Z7n r e k).X9],0⟩] (cs:=[dI (Z7n r e k).X4,dU (Z7n r e k).X9]) Try.underlying39 Hm rfl X90 rfl rfl rfl pf (Ws rfl rfl pf Wn) pZ4 (Vz pZ4) (X8 rfl) trivial),hR 4 rfl rfl (W4 1 3 48 32 (kE false) (Vs false) (V8 1099511627776 r e k).l [(evV 1099511627776 (V8 1099511627776 r e k).rest (V8 1099511627776 r e k).e)] ((V8 1099511627776 r e k).l++[(evV 1099511627776 (V8 1099511627776 r e k).rest (V8 1099511627776 r e k).e)]) (V8 1099511627776 r e k).l.length (sy:=(.own 2 (kE false).sz 0 [(Z7n r e k)].length)) (rhs:=[(2,.live (Xe 48 (kE false) [(Z7n r e k)]))]) Xa0 (by omega) (Up 2 48 (kE false) [(evV 1099511627776 (V8 1099511627776 r e k).rest (V8 1099511627776 r e k).e)]) p1p (by (simp [maxLen,-List.getD_eq_getElem?_getD]<;>omega)) (by (simp [maxLen,-List.getD_eq_getElem?_getD]<;>omega)) (X8 rfl) trivial)] pZ4 pZ4 ?_
  refine nB (nT (xK [hR 1 rfl rfl (Y9 (u1:=.int .i64 ((k:Nat):Int)) (u2:=.int .i64 1) (v:=.int .i64 ((k+1:Nat):Int)) (W6 pZ5) (X8 rfl) ⟨rfl,trivial⟩)] ?_))
  refine nL (k+1) (show (k+1)≤rdC r e 15 from (by omega)) (show (rdC r e 15-(k+1):Nat)<rdC r e 15-k from (by omega)) (fun _ _ hG=>Wp [0,3] (bm 6 57) (t1:=[pv 0 0,aa,aa,Y3 3 (kE false) 0 (V8 1099511627776 r e (k+1)).l.length,(Z7g r e),(Z7o k)]) (t2:=[pv 0 0,aa,aa,Y3 3 (kE false) 0 ((Z7i r e k).l++[(Z7n r e k)]).length,(Z7g r e),(Z7o k)]) (h1:=(Z7p B r e k)) (h2:=[.live (.box 87 [(Z7f B),dI ((Ww B (evR 1099511627776 (Z7i r e k).rest (Z7i r e k).e):Nat):Int),dI (evE 1099511627776 (Z7i r e k).rest (Z7i r e k).e)]),.live (Xe 48 (kE false) ((Z7i r e k).l++[(Z7n r e k)]))]) (congrArg (fun (q1:Nat)=>([pv 0 0,aa,aa,Y3 3 (kE false) 0 q1,(Z7g r e),(Z7o k)]:List AV)) (by rfl)) (cg3 (fun (q1:Int) (q2:Int) (q3:List aE)=>([.live (.box 87 [(Z7f B),dI q1,dI q2]),.live (Xe 48 (kE false) q3)]:List HS)) (by rfl) (by rfl) (by rfl)) hG)
 refine cF (dF hq1) (T.exit (xT (xT (xH (nT (sR [] (T.ret ?_)))))))
 refine eN ⟨(Z7q r e k),(Z7k B r e k)⟩ ?_
 refine Xm (s':=⟨[pv 0 0,aa,slV false false (kE false) (Z7i r e k).l,slV false false (kE false) (Z7i r e k).l,(Z7g r e),vI ((k:Nat):Int),aa,aa,aa,aa,vB (decide (((k:Nat):Int)<((rdC r e 15:Nat):Int)))],[.live (.box 87 [(Z7f B),dI ((Ww B (Z7i r e k).rest:Nat):Int),dI (Z7i r e k).e]),.dead]⟩) (fun _ _ hG=>Gs.freeze (s:=⟨(Z7q r e k),(Z7k B r e k)⟩) 1 (el:=We (kE false) (V8 1099511627776 r e k).l) (sz:=(kE false).sz) (n:=(V8 1099511627776 r e k).l.length) rfl (kk2 ⟨(.inr pZ6),⟨(.inr pZ6),⟨.inl rfl,p3d⟩⟩⟩) ⟨pc,⟨(.inl ⟨rfl,rfl⟩),trivial⟩⟩ hG) ?_
 exact eRt 2 (.one (.d (dsl false false (kE false) (Z7i r e k).l))) [0] (by have e1:((Vx 1099511627776 r e).l:List aE)=(V8 1099511627776 r e k).l:=p3w;have hE:=congrArg (fun (q1:List aE)=>(slV false false (kE false) q1:AV)) e1;exact hE) ⟨⟨rfl,(by have e1:(((Ww B (V8 1099511627776 r e k).rest:Nat):Int):Int)=((Ww B (Vx 1099511627776 r e).rest:Nat):Int):=p3w;have e2:((V8 1099511627776 r e k).e:Int)=(Vx 1099511627776 r e).e:=p3w;have hE:=congr (congrArg (fun (q1:Int) (q2:Int)=>(.live (.box 87 [(Z7f B),dI q1,dI q2]):HS)) e1) e2;exact Eq.trans pZ4 hE)⟩,trivial⟩
section
variable (B:List UInt8) (r:List UInt8) (e:Int) (k:Int) (h:aH) (k2:Nat)
abbrev Z7r:SV:=.d (.val (.slice none 0 0))
abbrev Z7s:List SV:=[dI k,dI 0,dI 0,dI 0,dI 0,dS [],Z7r,dI 0,dI 0,Z7r,Z7r,Z7r]
abbrev Z7t:List SV:=[dB h.Xt,dB h.Xy,dB h.Xb,dB h.Xc,dB h.Xk,dB h.X1,dB h.Xf,dB h.Xr,dB h.X7]
abbrev Z7u:SV:=dU B
abbrev Z7v:HS:=.live (.box 87 [(Z7u B),dI ((Ww B r:Nat):Int),dI e])
abbrev Z7w:List AV:=[pv 0 0,aa,aa,aa,pv 1 0,pv 2 0,pv 3 0]
abbrev Z7x:=(Xu 1099511627776 1099511627776 r e k 1)
abbrev Z7y:HS:=.live (.box 90 (Z7t h))
abbrev Z7z:HS:=.live (.box 42 [dI 0,dI 0,dI 0,dI 0,dI 0,dS [],Z7r,dI 0,dI 0,Z7r,Z7r,Z7r])
abbrev Z80:List HS:=[.live (.box 87 [(Z7u B),dI ((Ww B (Z7x r e k).rest:Nat):Int),dI (Z7x r e k).e]),.live (.box 42 [dI (Z7x r e k).m.X3,dI (Z7x r e k).m.Xt,dI (Z7x r e k).m.Xy,dI (Z7x r e k).m.Xb,dI (Z7x r e k).m.Xv,dS (Z7x r e k).m.Xc,dU (Z7x r e k).m.Xk,dI (Z7x r e k).m.X1.Xs,dI (Z7x r e k).m.X1.Xo,.d (dsl false false (kE false) (Z7x r e k).m.Xf),.d (dsl false false (kE false) (Z7x r e k).m.Xr),Z7r]),(Z7y h),Z7z]
abbrev Z81:List AV:=[pv 0 0,.tv (.agg (Z7s k)),.tv (.agg (Z7t h)),aa,pv 1 0,pv 2 0,pv 3 0]
abbrev Z82:List HS:=[(Z7v B r e),.live (.box 42 [dI k,dI 0,dI 0,dI 0,dI 0,dS [],dU ([]:List UInt8),dI 0,dI 0,.d (dsl false false (kE false) ([]:List aE)),.d (dsl false false (kE false) ([]:List aE)),Z7r]),(Z7y h),Z7z]
abbrev Z83:=(Xu 1099511627776 1099511627776 r e k 0)
abbrev Z84:List HS:=[.live (.box 87 [(Z7u B),dI ((Ww B (Z83 r e k).rest:Nat):Int),dI (Z83 r e k).e]),.live (.box 42 [dI (Z83 r e k).m.X3,dI (Z83 r e k).m.Xt,dI (Z83 r e k).m.Xy,dI (Z83 r e k).m.Xb,dI (Z83 r e k).m.Xv,dS (Z83 r e k).m.Xc,dU (Z83 r e k).m.Xk,dI (Z83 r e k).m.X1.Xs,dI (Z83 r e k).m.X1.Xo,.d (dsl false false (kE false) (Z83 r e k).m.Xf),.d (dsl false false (kE false) (Z83 r e k).m.Xr),Z7r]),(Z7y h),Z7z]
abbrev Z85:List AV:=[pv 0 0,aa,aa,aa,pv 1 0,pv 2 0,pv 3 0,aa,aa,aa,vB h.Xt]
abbrev Z86:List HS:=[.live (.box 87 [(Z7u B),dI ((Ww B (rdR (Z83 r e k).rest (Z83 r e k).e 8 0):Nat):Int),dI (rdE (Z83 r e k).rest (Z83 r e k).e 8 0)]),.live (.box 42 [dI (Z83 r e k).m.X3,dI (rdI (Z83 r e k).rest (Z83 r e k).e),dI (Z83 r e k).m.Xy,dI (Z83 r e k).m.Xb,dI (Z83 r e k).m.Xv,dS (Z83 r e k).m.Xc,dU (Z83 r e k).m.Xk,dI (Z83 r e k).m.X1.Xs,dI (Z83 r e k).m.X1.Xo,.d (dsl false false (kE false) (Z83 r e k).m.Xf),.d (dsl false false (kE false) (Z83 r e k).m.Xr),Z7r]),(Z7y h),Z7z]
abbrev Z87:=(Xu 1099511627776 1099511627776 r e k 2)
abbrev Z88:List HS:=[.live (.box 87 [(Z7u B),dI ((Ww B (Z87 r e k).rest:Nat):Int),dI (Z87 r e k).e]),.live (.box 42 [dI (Z87 r e k).m.X3,dI (Z87 r e k).m.Xt,dI (Z87 r e k).m.Xy,dI (Z87 r e k).m.Xb,dI (Z87 r e k).m.Xv,dS (Z87 r e k).m.Xc,dU (Z87 r e k).m.Xk,dI (Z87 r e k).m.X1.Xs,dI (Z87 r e k).m.X1.Xo,.d (dsl false false (kE false) (Z87 r e k).m.Xf),.d (dsl false false (kE false) (Z87 r e k).m.Xr),Z7r]),(Z7y h),Z7z]
abbrev Z89:List AV:=[pv 0 0,aa,aa,aa,pv 1 0,pv 2 0,pv 3 0,aa,aa,aa,aa,aa,aa,aa,aa,vB h.Xy]
abbrev Z8a:List HS:=[.live (.box 87 [(Z7u B),dI ((Ww B (rdR (Z7x r e k).rest (Z7x r e k).e 8 0):Nat):Int),dI (rdE (Z7x r e k).rest (Z7x r e k).e 8 0)]),.live (.box 42 [dI (Z7x r e k).m.X3,dI (Z7x r e k).m.Xt,dI (rdI (Z7x r e k).rest (Z7x r e k).e),dI (Z7x r e k).m.Xb,dI (Z7x r e k).m.Xv,dS (Z7x r e k).m.Xc,dU (Z7x r e k).m.Xk,dI (Z7x r e k).m.X1.Xs,dI (Z7x r e k).m.X1.Xo,.d (dsl false false (kE false) (Z7x r e k).m.Xf),.d (dsl false false (kE false) (Z7x r e k).m.Xr),Z7r]),(Z7y h),Z7z]
abbrev Z8b:=(Xu 1099511627776 1099511627776 r e k 3)
abbrev Z8c:List HS:=[.live (.box 87 [(Z7u B),dI ((Ww B (Z8b r e k).rest:Nat):Int),dI (Z8b r e k).e]),.live (.box 42 [dI (Z8b r e k).m.X3,dI (Z8b r e k).m.Xt,dI (Z8b r e k).m.Xy,dI (Z8b r e k).m.Xb,dI (Z8b r e k).m.Xv,dS (Z8b r e k).m.Xc,dU (Z8b r e k).m.Xk,dI (Z8b r e k).m.X1.Xs,dI (Z8b r e k).m.X1.Xo,.d (dsl false false (kE false) (Z8b r e k).m.Xf),.d (dsl false false (kE false) (Z8b r e k).m.Xr),Z7r]),(Z7y h),Z7z]
abbrev Z8d:List AV:=[pv 0 0,aa,aa,aa,pv 1 0,pv 2 0,pv 3 0,aa,aa,aa,aa,aa,aa,aa,aa,aa,aa,aa,aa,aa,vB h.Xb]
abbrev Z8e:List HS:=[.live (.box 87 [(Z7u B),dI ((Ww B (rdR (rdR (Z87 r e k).rest (Z87 r e k).e 8 0) (rdE (Z87 r e k).rest (Z87 r e k).e 8 0) 8 0):Nat):Int),dI (rdE (rdR (Z87 r e k).rest (Z87 r e k).e 8 0) (rdE (Z87 r e k).rest (Z87 r e k).e 8 0) 8 0)]),.live (.box 42 [dI (Z87 r e k).m.X3,dI (Z87 r e k).m.Xt,dI (Z87 r e k).m.Xy,dI (rdI (Z87 r e k).rest (Z87 r e k).e),dI (rdI (rdR (Z87 r e k).rest (Z87 r e k).e 8 0) (rdE (Z87 r e k).rest (Z87 r e k).e 8 0)),dS (Z87 r e k).m.Xc,dU (Z87 r e k).m.Xk,dI (Z87 r e k).m.X1.Xs,dI (Z87 r e k).m.X1.Xo,.d (dsl false false (kE false) (Z87 r e k).m.Xf),.d (dsl false false (kE false) (Z87 r e k).m.Xr),Z7r]),(Z7y h),Z7z]
abbrev Z8f:=(Xu 1099511627776 1099511627776 r e k 4)
abbrev Z8g:SV:=.d (dsl false false (kE false) (Z8f r e k).m.Xf)
abbrev Z8h:List HS:=[.live (.box 87 [(Z7u B),dI ((Ww B (Z8f r e k).rest:Nat):Int),dI (Z8f r e k).e]),.live (.box 42 [dI (Z8f r e k).m.X3,dI (Z8f r e k).m.Xt,dI (Z8f r e k).m.Xy,dI (Z8f r e k).m.Xb,dI (Z8f r e k).m.Xv,dS (Z8f r e k).m.Xc,dU (Z8f r e k).m.Xk,dI (Z8f r e k).m.X1.Xs,dI (Z8f r e k).m.X1.Xo,(Z8g r e k),.d (dsl false false (kE false) (Z8f r e k).m.Xr),Z7r]),(Z7y h),Z7z]
abbrev Z8i:=(rdY (Z8b r e k).rest (Z8b r e k).e 1099511627776)
abbrev Z8j:List AV:=[pv 0 0,aa,aa,aa,pv 1 0,pv 2 0,pv 3 0,aa,aa,aa,aa,aa,aa,aa,aa,aa,aa,aa,aa,aa,aa,aa,aa,aa,aa,aa,aa,aa,vB h.Xc]
abbrev Z8k:HS:=.live (.box 87 [(Z7u B),dI ((Ww B (Ju (Z8b r e k).rest (Z8b r e k).e 1099511627776):Nat):Int),dI (J4 (Z8b r e k).rest (Z8b r e k).e 1099511627776)])
abbrev Z8l:HS:=.live (.box 42 [dI (Z8b r e k).m.X3,dI (Z8b r e k).m.Xt,dI (Z8b r e k).m.Xy,dI (Z8b r e k).m.Xb,dI (Z8b r e k).m.Xv,dS (Z8i r e k),dU (Z8b r e k).m.Xk,dI (Z8b r e k).m.X1.Xs,dI (Z8b r e k).m.X1.Xo,.d (dsl false false (kE false) (Z8b r e k).m.Xf),.d (dsl false false (kE false) (Z8b r e k).m.Xr),Z7r])
abbrev Z8m:=(Xu 1099511627776 1099511627776 r e k 5)
abbrev Z8n:List HS:=[.live (.box 87 [(Z7u B),dI ((Ww B (Z8m r e k).rest:Nat):Int),dI (Z8m r e k).e]),.live (.box 42 [dI (Z8m r e k).m.X3,dI (Z8m r e k).m.Xt,dI (Z8m r e k).m.Xy,dI (Z8m r e k).m.Xb,dI (Z8m r e k).m.Xv,dS (Z8m r e k).m.Xc,dU (Z8m r e k).m.Xk,dI (Z8m r e k).m.X1.Xs,dI (Z8m r e k).m.X1.Xo,.d (dsl false false (kE false) (Z8m r e k).m.Xf),.d (dsl false false (kE false) (Z8m r e k).m.Xr),Z7r]),(Z7y h),Z7z]
abbrev Z8o:List AV:=[pv 0 0,aa,aa,aa,pv 1 0,pv 2 0,pv 3 0,aa,aa,aa,aa,aa,aa,aa,aa,aa,aa,aa,aa,aa,aa,aa,aa,aa,aa,aa,aa,aa,aa,aa,aa,aa,aa,aa,vB h.Xk]
abbrev Z8p:HS:=.live (.box 87 [(Z7u B),dI ((Ww B (Ju (Z8f r e k).rest (Z8f r e k).e 1099511627776):Nat):Int),dI (J4 (Z8f r e k).rest (Z8f r e k).e 1099511627776)])
abbrev Z8q:=(rdY (Z8f r e k).rest (Z8f r e k).e 1099511627776)
abbrev Z8r:St:=⟨(Z8o h),[(Z8p B r e k),.live (.box 42 [dI (Z8f r e k).m.X3,dI (Z8f r e k).m.Xt,dI (Z8f r e k).m.Xy,dI (Z8f r e k).m.Xb,dI (Z8f r e k).m.Xv,dS (Z8f r e k).m.Xc,.own 4 kU8.sz 0 (Z8q r e k).length,dI (Z8f r e k).m.X1.Xs,dI (Z8f r e k).m.X1.Xo,(Z8g r e k),.d (dsl false false (kE false) (Z8f r e k).m.Xr),Z7r]),(Z7y h),Z7z,.live (Xe 5 kU8 (Z8q r e k))]⟩
abbrev Z8s:HS:=.live (.box 42 [dI (Z8f r e k).m.X3,dI (Z8f r e k).m.Xt,dI (Z8f r e k).m.Xy,dI (Z8f r e k).m.Xb,dI (Z8f r e k).m.Xv,dS (Z8f r e k).m.Xc,dU (Z8q r e k),dI (Z8f r e k).m.X1.Xs,dI (Z8f r e k).m.X1.Xo,(Z8g r e k),.d (dsl false false (kE false) (Z8f r e k).m.Xr),Z7r])
abbrev Z8t:=(Xu 1099511627776 1099511627776 r e k 6)
abbrev Z8u:List HS:=[.live (.box 87 [(Z7u B),dI ((Ww B (Z8t r e k).rest:Nat):Int),dI (Z8t r e k).e]),.live (.box 42 [dI (Z8t r e k).m.X3,dI (Z8t r e k).m.Xt,dI (Z8t r e k).m.Xy,dI (Z8t r e k).m.Xb,dI (Z8t r e k).m.Xv,dS (Z8t r e k).m.Xc,dU (Z8t r e k).m.Xk,dI (Z8t r e k).m.X1.Xs,dI (Z8t r e k).m.X1.Xo,.d (dsl false false (kE false) (Z8t r e k).m.Xf),.d (dsl false false (kE false) (Z8t r e k).m.Xr),Z7r]),(Z7y h),Z7z]
abbrev Z8v:List AV:=[pv 0 0,aa,aa,aa,pv 1 0,pv 2 0,pv 3 0,aa,aa,aa,aa,aa,aa,aa,aa,aa,aa,aa,aa,aa,aa,aa,aa,aa,aa,aa,aa,aa,aa,aa,aa,aa,aa,aa,aa,aa,aa,aa,aa,vB h.X1]
abbrev Z8w:List HS:=[.live (.box 87 [(Z7u B),dI ((Ww B (rdR (rdR (Z8m r e k).rest (Z8m r e k).e 8 0) (rdE (Z8m r e k).rest (Z8m r e k).e 8 0) 8 0):Nat):Int),dI (rdE (rdR (Z8m r e k).rest (Z8m r e k).e 8 0) (rdE (Z8m r e k).rest (Z8m r e k).e 8 0) 8 0)]),.live (.box 42 [dI (Z8m r e k).m.X3,dI (Z8m r e k).m.Xt,dI (Z8m r e k).m.Xy,dI (Z8m r e k).m.Xb,dI (Z8m r e k).m.Xv,dS (Z8m r e k).m.Xc,dU (Z8m r e k).m.Xk,dI (rdI (Z8m r e k).rest (Z8m r e k).e),dI (rdI (rdR (Z8m r e k).rest (Z8m r e k).e 8 0) (rdE (Z8m r e k).rest (Z8m r e k).e 8 0)),.d (dsl false false (kE false) (Z8m r e k).m.Xf),.d (dsl false false (kE false) (Z8m r e k).m.Xr),Z7r]),(Z7y h),Z7z]
abbrev Z8x:=(Xu 1099511627776 1099511627776 r e k 7)
abbrev Z8y:List HS:=[.live (.box 87 [(Z7u B),dI ((Ww B (Z8x r e k).rest:Nat):Int),dI (Z8x r e k).e]),.live (.box 42 [dI (Z8x r e k).m.X3,dI (Z8x r e k).m.Xt,dI (Z8x r e k).m.Xy,dI (Z8x r e k).m.Xb,dI (Z8x r e k).m.Xv,dS (Z8x r e k).m.Xc,dU (Z8x r e k).m.Xk,dI (Z8x r e k).m.X1.Xs,dI (Z8x r e k).m.X1.Xo,.d (dsl false false (kE false) (Z8x r e k).m.Xf),.d (dsl false false (kE false) (Z8x r e k).m.Xr),Z7r]),(Z7y h),Z7z]
abbrev Z8z:List AV:=[pv 0 0,aa,aa,aa,pv 1 0,pv 2 0,pv 3 0,aa,aa,aa,aa,aa,aa,aa,aa,aa,aa,aa,aa,aa,aa,aa,aa,aa,aa,aa,aa,aa,aa,aa,aa,aa,aa,aa,aa,aa,aa,aa,aa,aa,aa,aa,aa,aa,aa,aa,aa,vB h.Xf]
abbrev Z90:=(Vx 1099511627776 (Z8t r e k).rest (Z8t r e k).e)
abbrev Z91:List HS:=[.live (.box 87 [(Z7u B),dI ((Ww B (Z90 r e k).rest:Nat):Int),dI (Z90 r e k).e]),.live (.box 42 [dI (Z8t r e k).m.X3,dI (Z8t r e k).m.Xt,dI (Z8t r e k).m.Xy,dI (Z8t r e k).m.Xb,dI (Z8t r e k).m.Xv,dS (Z8t r e k).m.Xc,dU (Z8t r e k).m.Xk,dI (Z8t r e k).m.X1.Xs,dI (Z8t r e k).m.X1.Xo,.d (dsl false false (kE false) (Z90 r e k).l),.d (dsl false false (kE false) (Z8t r e k).m.Xr),Z7r]),(Z7y h),Z7z]
abbrev Z92:=(Xu 1099511627776 1099511627776 r e k 8)
abbrev Z93:SV:=dI (Z92 r e k).m.X3
abbrev Z94:SV:=dI (Z92 r e k).m.Xt
abbrev Z95:SV:=dI (Z92 r e k).m.Xy
abbrev Z96:SV:=dI (Z92 r e k).m.Xb
abbrev Z97:SV:=dI (Z92 r e k).m.Xv
abbrev Z98:SV:=dS (Z92 r e k).m.Xc
abbrev Z99:SV:=dU (Z92 r e k).m.Xk
abbrev Z9a:SV:=dI (Z92 r e k).m.X1.Xs
abbrev Z9b:SV:=dI (Z92 r e k).m.X1.Xo
abbrev Z9c:SV:=.d (dsl false false (kE false) (Z92 r e k).m.Xf)
abbrev Z9d:SV:=.d (dsl false false (kE false) (Z92 r e k).m.Xr)
abbrev Z9e:HS:=.live (.box 42 [(Z93 r e k),(Z94 r e k),(Z95 r e k),(Z96 r e k),(Z97 r e k),(Z98 r e k),(Z99 r e k),(Z9a r e k),(Z9b r e k),(Z9c r e k),(Z9d r e k),Z7r])
abbrev Z9f:List HS:=[.live (.box 87 [(Z7u B),dI ((Ww B (Z92 r e k).rest:Nat):Int),dI (Z92 r e k).e]),(Z9e r e k),(Z7y h),Z7z]
abbrev Z9g:List AV:=[pv 0 0,aa,aa,aa,pv 1 0,pv 2 0,pv 3 0,aa,aa,aa,aa,aa,aa,aa,aa,aa,aa,aa,aa,aa,aa,aa,aa,aa,aa,aa,aa,aa,aa,aa,aa,aa,aa,aa,aa,aa,aa,aa,aa,aa,aa,aa,aa,aa,aa,aa,aa,aa,aa,aa,aa,aa,vB h.Xr]
abbrev Z9h:=(Vx 1099511627776 (Z8x r e k).rest (Z8x r e k).e)
abbrev Z9i:List HS:=[.live (.box 87 [(Z7u B),dI ((Ww B (Z9h r e k).rest:Nat):Int),dI (Z9h r e k).e]),.live (.box 42 [dI (Z8x r e k).m.X3,dI (Z8x r e k).m.Xt,dI (Z8x r e k).m.Xy,dI (Z8x r e k).m.Xb,dI (Z8x r e k).m.Xv,dS (Z8x r e k).m.Xc,dU (Z8x r e k).m.Xk,dI (Z8x r e k).m.X1.Xs,dI (Z8x r e k).m.X1.Xo,.d (dsl false false (kE false) (Z8x r e k).m.Xf),.d (dsl false false (kE false) (Z9h r e k).l),Z7r]),(Z7y h),Z7z]
abbrev Z9j:=(Xu 1099511627776 1099511627776 r e k 9)
abbrev Z9k:List SV:=[dI (Z9j r e k).m.X3,dI (Z9j r e k).m.Xt,dI (Z9j r e k).m.Xy,dI (Z9j r e k).m.Xb,dI (Z9j r e k).m.Xv,dS (Z9j r e k).m.Xc,dU (Z9j r e k).m.Xk,dI (Z9j r e k).m.X1.Xs,dI (Z9j r e k).m.X1.Xo,.d (dsl false false (kE false) (Z9j r e k).m.Xf),.d (dsl false false (kE false) (Z9j r e k).m.Xr),.d (dsl false false (kC false) (Z9j r e k).m.X7)]
abbrev Z9l:List HS:=[.live (.box 87 [(Z7u B),dI ((Ww B (Z9j r e k).rest:Nat):Int),dI (Z9j r e k).e]),.live (.box 42 (Z9k r e k)),(Z7y h),Z7z]
abbrev Z9m:AV:=vI ((rdC (Z92 r e k).rest (Z92 r e k).e 8:Nat):Int)
abbrev Z9n:List AV:=[pv 0 0,aa,aa,aa,pv 1 0,pv 2 0,pv 3 0,(Z9m r e k),vI 0,aa,aa,aa,aa,aa,aa,aa,aa,aa,aa,aa,aa,aa,aa,aa,aa,aa,aa,aa,aa,aa,aa,aa,aa,aa,aa,aa,aa,aa,aa,aa,aa,aa,aa,aa,aa,aa,aa,aa,aa,aa,aa,aa,aa,aa,aa,aa,aa,vB h.X7]
abbrev Z9o:HS:=.live (.box 87 [(Z7u B),dI ((Ww B (rdR (Z92 r e k).rest (Z92 r e k).e 4 (Yb 8 ((Z92 r e k).rest.take 4))):Nat):Int),dI (rdE (Z92 r e k).rest (Z92 r e k).e 4 (Yb 8 ((Z92 r e k).rest.take 4)))])
abbrev Z9p:List HS:=[(Z9o B r e k),.live (.box 42 [(Z93 r e k),(Z94 r e k),(Z95 r e k),(Z96 r e k),(Z97 r e k),(Z98 r e k),(Z99 r e k),(Z9a r e k),(Z9b r e k),(Z9c r e k),(Z9d r e k),.own 4 (kC false).sz 0 0]),(Z7y h),Z7z,.live (Xe 113 (kC false) ([]:List aC))]
abbrev Z9q:=(Yk 1099511627776 (Z92 r e k).rest (Z92 r e k).e k2)
abbrev Z9r:HS:=.live (.box 87 [(Z7u B),dI ((Ww B (Z9q r e k k2).rest:Nat):Int),dI (Z9q r e k k2).e])
abbrev Z9s:List HS:=[(Z9r B r e k k2),.live (.box 42 [(Z93 r e k),(Z94 r e k),(Z95 r e k),(Z96 r e k),(Z97 r e k),(Z98 r e k),(Z99 r e k),(Z9a r e k),(Z9b r e k),(Z9c r e k),(Z9d r e k),.own 4 (kC false).sz 0 (Z9q r e k k2).l.length]),(Z7y h),Z7z,.live (Xe 113 (kC false) (Z9q r e k k2).l)]
abbrev Z9v:=(evV 1099511627776 (Z9q r e k k2).rest (Z9q r e k k2).e)
abbrev Z9w:=(Vx 1099511627776 (evR 1099511627776 (Z9q r e k k2).rest (Z9q r e k k2).e) (evE 1099511627776 (Z9q r e k k2).rest (Z9q r e k k2).e))
abbrev Z9x:=(aC.mk (Z9v r e k k2) (Z9w r e k k2).l)
abbrev Z9y:=(Yk 1099511627776 (Z92 r e k).rest (Z92 r e k).e (k2+1))
abbrev Z9z:List AV:=[pv 0 0,aa,aa,aa,pv 1 0,pv 2 0,pv 3 0,(Z9m r e k),vI ((k2:Nat):Int),aa,aa,aa,aa,aa,aa,aa,aa,aa,aa,aa,aa,aa,aa,aa,aa,aa,aa,aa,aa,aa,aa,aa,aa,aa,aa,aa,aa,aa,aa,aa,aa,aa,aa,aa,aa,aa,aa,aa,aa,aa,aa,aa,aa,aa,aa,aa,aa,aa,aa,aa,aa,aa,vB (decide (((k2:Nat):Int)<((rdC (Z92 r e k).rest (Z92 r e k).e 8:Nat):Int)))]
abbrev Za0:HS:=.live (.box 42 [(Z93 r e k),(Z94 r e k),(Z95 r e k),(Z96 r e k),(Z97 r e k),(Z98 r e k),(Z99 r e k),(Z9a r e k),(Z9b r e k),(Z9c r e k),(Z9d r e k),.d (dsl false false (kC false) (Z9q r e k k2).l)])
abbrev Za1:List AV:=[pv 0 0,aa,aa,aa,pv 1 0,pv 2 0,pv 3 0,aa,aa,aa,aa,aa,aa,aa,aa,aa,aa,aa,aa,aa,aa,aa,aa,aa,aa,aa,aa,aa,aa,aa,aa,aa,aa,aa,aa,aa,aa,aa,aa,aa,aa,aa,aa,aa,aa,aa,aa,aa,aa,aa,aa,aa,aa,aa,aa,aa,aa,vB h.X7]
abbrev Za2:List HS:=[.live (.box 87 [(Z7u B),dI ((Ww B (Z92 r e k).rest:Nat):Int),dI (Z92 r e k).e]),.live (.box 42 [(Z93 r e k),(Z94 r e k),(Z95 r e k),(Z96 r e k),(Z97 r e k),(Z98 r e k),(Z99 r e k),(Z9a r e k),(Z9b r e k),(Z9c r e k),(Z9d r e k),.d (dsl false false (kC false) ([]:List aC))]),(Z7y h),Z7z]
end
theorem Xf6 (B:List UInt8) (r:List UInt8) (e:Int) (k:Int) (h:aH) (hs:r <:+ B) (hB:B.length≤100000000) (hh:h=Xh k):Holds Try.prog 36 ⟨[pv 0 0,.tv (.agg [dI k,dI 0,dI 0,dI 0,dI 0,dS [],.d (.val (.slice none 0 0)),dI 0,dI 0,.d (.val (.slice none 0 0)),.d (.val (.slice none 0 0)),.d (.val (.slice none 0 0))]),.tv (.agg [dB h.Xt,dB h.Xy,dB h.Xb,dB h.Xc,dB h.Xk,dB h.X1,dB h.Xf,dB h.Xr,dB h.X7])],[.box 87 [dU B,dI ((Ww B r:Nat):Int),dI e]],.tv (.agg [dI (Xu 1099511627776 1099511627776 r e k 9).m.X3,dI (Xu 1099511627776 1099511627776 r e k 9).m.Xt,dI (Xu 1099511627776 1099511627776 r e k 9).m.Xy,dI (Xu 1099511627776 1099511627776 r e k 9).m.Xb,dI (Xu 1099511627776 1099511627776 r e k 9).m.Xv,dS (Xu 1099511627776 1099511627776 r e k 9).m.Xc,dU (Xu 1099511627776 1099511627776 r e k 9).m.Xk,dI (Xu 1099511627776 1099511627776 r e k 9).m.X1.Xs,dI (Xu 1099511627776 1099511627776 r e k 9).m.X1.Xo,.d (dsl false false (kE false) (Xu 1099511627776 1099511627776 r e k 9).m.Xf),.d (dsl false false (kE false) (Xu 1099511627776 1099511627776 r e k 9).m.Xr),.d (dsl false false (kC false) (Xu 1099511627776 1099511627776 r e k 9).m.X7)]),[.live (.box 87 [dU B,dI ((Ww B (Xu 1099511627776 1099511627776 r e k 9).rest:Nat):Int),dI (Xu 1099511627776 1099511627776 r e k 9).e])]⟩:=by
 refine Holds.of Try.func36 rfl (N:=76) Try.ntmps36 rfl fun w0 B0 S0 U0=>?_
 show T _ (Xz 76 1 w0 S0 U0 B0) ⟨[pv 0 0,.tv (.agg (Z7s k)),.tv (.agg (Z7t h))],[(Z7v B r e)]⟩ _ _
 refine sR [] ?_
 refine Ve ⟨Z7w,(Z80 B r e k h)⟩ ?_ ?_
 ·refine tN ⟨(Z81 k h),[(Z7v B r e),.live (.box 42 (Z7s k)),(Z7y h),Z7z]⟩ ?_
  refine Vh (s':=⟨(Z81 k h),(Z82 B r e k h)⟩) (fun _ _ hG=>W7 (s:=⟨(Z81 k h),[(Z7v B r e),.live (.box 42 (Z7s k)),(Z7y h),Z7z]⟩) ⟨.inl rfl,p3d⟩ ⟨.inl rfl,⟨(.inr ⟨rfl,(kk2 (kk4 ⟨pZ9,(kk2 ⟨pZ9,⟨pZ9,⟨.inl rfl,trivial⟩⟩⟩)⟩))⟩),(kk2 trivial)⟩⟩ hG) ?_
  refine Vh (s':=⟨Z7w,(Z84 B r e k h)⟩) (fun _ _ hG=>Yc [0,1,2,3] (bm 7 113) (h2:=(Z82 B r e k h)) rfl (cg13 (fun (q1:Int) (q2:Int) (q3:Int) (q4:Int) (q5:Int) (q6:Int) (q7:Int) (q8:List UInt8) (q9:List UInt8) (q10:Int) (q11:Int) (q12:List aE) (q13:List aE)=>([.live (.box 87 [(Z7u B),dI q1,dI q2]),.live (.box 42 [dI q3,dI q4,dI q5,dI q6,dI q7,dS q8,dU q9,dI q10,dI q11,.d (dsl false false (kE false) q12),.d (dsl false false (kE false) q13),Z7r]),(Z7y h),Z7z]:List HS)) (by rfl) (by rfl) (by rfl) (by rfl) (by rfl) (by rfl) (by rfl) (by rfl) (by rfl) (by rfl) (by rfl) (by rfl) (by rfl)) hG) (sR [] ?_)
  by_cases hq1:h.Xt=true
  ·have hbt:Vr (Xh k) 0=true:=(by subst hh;exact hq1);have hst:(Xu 1099511627776 1099511627776 r e k 1)=Wf 1099511627776 1099511627776 (Xu 1099511627776 1099511627776 r e k 0) 0:=Vv rfl hbt;simp only [Wf] at hst
   refine cT hq1 (xK [hR 1 rfl rfl (rCa (Jh B (Xu 1099511627776 1099511627776 r e k 0).rest (Xu 1099511627776 1099511627776 r e k 0).e (by repeat assumption) (by omega)) Try.func34 [0] [(.tmp 11,pv 0 0)] 1 1)] ?_)
   refine eN ⟨(Z85 h),(Z86 B r e k h)⟩ ?_
   refine Xm (s':=⟨Z7w,(Z80 B r e k h)⟩) (fun _ _ hG=>Yc [0,1,2,3] (bm 7 113) (h2:=(Z86 B r e k h)) rfl pZ0 hG) ?_
   exact nJ
  have hbt:¬Vr (Xh k) 0=true:=(by subst hh;exact hq1);have hst:(Xu 1099511627776 1099511627776 r e k 1)=(Xu 1099511627776 1099511627776 r e k 0):=He hbt
  replace hq1:=Bool.eq_false_iff.2 hq1
  refine cF hq1 (T.skip ?_)
  refine eN ⟨(Z85 h),(Z84 B r e k h)⟩ ?_
  refine Xm (s':=⟨Z7w,(Z80 B r e k h)⟩) (fun _ _ hG=>Yc [0,1,2,3] (bm 7 113) (h2:=(Z84 B r e k h)) rfl pZ0 hG) ?_
  exact nJ
 refine Ve ⟨Z7w,(Z88 B r e k h)⟩ ?_ ?_
 ·refine sR [] ?_
  by_cases hq2:h.Xy=true
  ·have hbt:Vr (Xh k) 1=true:=(by subst hh;exact hq2);have hst:(Xu 1099511627776 1099511627776 r e k 2)=Wf 1099511627776 1099511627776 (Xu 1099511627776 1099511627776 r e k 1) 1:=Vv rfl hbt;simp only [Wf] at hst
   refine cT hq2 (xK [hR 1 rfl rfl (rCa (Jh B (Xu 1099511627776 1099511627776 r e k 1).rest (Xu 1099511627776 1099511627776 r e k 1).e pZ7 (by omega)) Try.func34 [0] [(.tmp 16,pv 0 0)] 1 1)] ?_)
   refine eN ⟨(Z89 h),(Z8a B r e k h)⟩ ?_
   refine Xm (s':=⟨Z7w,(Z88 B r e k h)⟩) (fun _ _ hG=>Yc [0,1,2,3] (bm 7 113) (h2:=(Z8a B r e k h)) rfl pZ0 hG) ?_
   exact nJ
  have hbt:¬Vr (Xh k) 1=true:=(by subst hh;exact hq2);have hst:(Xu 1099511627776 1099511627776 r e k 2)=(Xu 1099511627776 1099511627776 r e k 1):=He hbt
  replace hq2:=Bool.eq_false_iff.2 hq2
  refine cF hq2 (T.skip ?_)
  refine eN ⟨(Z89 h),(Z80 B r e k h)⟩ ?_
  refine Xm (s':=⟨Z7w,(Z88 B r e k h)⟩) (fun _ _ hG=>Yc [0,1,2,3] (bm 7 113) (h2:=(Z80 B r e k h)) rfl pZ0 hG) ?_
  exact nJ
 refine Ve ⟨Z7w,(Z8c B r e k h)⟩ ?_ ?_
 ·refine sR [] ?_
  by_cases hq3:h.Xb=true
  ·have hbt:Vr (Xh k) 2=true:=(by subst hh;exact hq3);have hst:(Xu 1099511627776 1099511627776 r e k 3)=Wf 1099511627776 1099511627776 (Xu 1099511627776 1099511627776 r e k 2) 2:=Vv rfl hbt;simp only [Wf] at hst
   refine cT hq3 (sR [hR 1 rfl rfl (rCa (Jh B (Xu 1099511627776 1099511627776 r e k 2).rest (Xu 1099511627776 1099511627776 r e k 2).e pZ7 (by omega)) Try.func34 [0] [(.tmp 21,pv 0 0)] 1 1)] (xK [hR 1 rfl rfl (rCa (Jh B (rdR (Xu 1099511627776 1099511627776 r e k 2).rest (Xu 1099511627776 1099511627776 r e k 2).e 8 0) (rdE (Xu 1099511627776 1099511627776 r e k 2).rest (Xu 1099511627776 1099511627776 r e k 2).e 8 0) pZ7 (by omega)) Try.func34 [0] [(.tmp 24,pv 0 0)] 1 1)] ?_))
   refine eN ⟨(Z8d h),(Z8e B r e k h)⟩ ?_
   refine Xm (s':=⟨Z7w,(Z8c B r e k h)⟩) (fun _ _ hG=>Yc [0,1,2,3] (bm 7 113) (h2:=(Z8e B r e k h)) rfl pZ0 hG) ?_
   exact nJ
  have hbt:¬Vr (Xh k) 2=true:=(by subst hh;exact hq3);have hst:(Xu 1099511627776 1099511627776 r e k 3)=(Xu 1099511627776 1099511627776 r e k 2):=He hbt
  replace hq3:=Bool.eq_false_iff.2 hq3
  refine cF hq3 (T.skip ?_)
  refine eN ⟨(Z8d h),(Z88 B r e k h)⟩ ?_
  refine Xm (s':=⟨Z7w,(Z8c B r e k h)⟩) (fun _ _ hG=>Yc [0,1,2,3] (bm 7 113) (h2:=(Z88 B r e k h)) rfl pZ0 hG) ?_
  exact nJ
 refine Ve ⟨Z7w,(Z8h B r e k h)⟩ ?_ ?_
 ·refine sR [] ?_
  by_cases hq4:h.Xc=true
  ·have hbt:Vr (Xh k) 3=true:=(by subst hh;exact hq4);have hst:(Xu 1099511627776 1099511627776 r e k 4)=Wf 1099511627776 1099511627776 (Xu 1099511627776 1099511627776 r e k 3) 3:=Vv rfl hbt;simp only [Wf] at hst
   refine cT hq4 ?_
   refine xR [hR 1 rfl rfl (rCa (Fr B (Xu 1099511627776 1099511627776 r e k 3).rest (Xu 1099511627776 1099511627776 r e k 3).e 1099511627776 pZ7 (by omega)) Try.func58 [0,4] [(.tmp 29,pv 0 0),(.const (.int .i64 1099511627776),vI 1099511627776)] 1 2),hR 2 rfl rfl (X0o () (rdY (Xu 1099511627776 1099511627776 r e k 3).rest (Xu 1099511627776 1099511627776 r e k 3).e 1099511627776) (ys:=(.own 4 kU8.sz 0 (Z8i r e k).length)) (rhs:=[(4,.live (Xe 5 kU8 (Z8i r e k)))]) Try.underlying34 Try.underlying5 Try.underlying35 (Up 4 5 kU8 (rdY (Xu 1099511627776 1099511627776 r e k 3).rest (Xu 1099511627776 1099511627776 r e k 3).e 1099511627776)) (X8 rfl) trivial)] pZ4 pZ4 ?_
   refine eN ⟨(Z8j h),[(Z8k B r e k),(Z8l r e k),(Z7y h),Z7z,.live (Xe 5 kU8 (Z8i r e k))]⟩ ?_
   refine Xm (s':=⟨Z7w,(Z8h B r e k h)⟩) (fun _ _ hG=>Yc [0,1,2,3] (bm 7 113) (h2:=[(Z8k B r e k),(Z8l r e k),(Z7y h),Z7z]) rfl pZ0 hG) ?_
   exact nJ
  have hbt:¬Vr (Xh k) 3=true:=(by subst hh;exact hq4);have hst:(Xu 1099511627776 1099511627776 r e k 4)=(Xu 1099511627776 1099511627776 r e k 3):=He hbt
  replace hq4:=Bool.eq_false_iff.2 hq4
  refine cF hq4 (T.skip ?_)
  refine eN ⟨(Z8j h),(Z8c B r e k h)⟩ ?_
  refine Xm (s':=⟨Z7w,(Z8h B r e k h)⟩) (fun _ _ hG=>Yc [0,1,2,3] (bm 7 113) (h2:=(Z8c B r e k h)) rfl pZ0 hG) ?_
  exact nJ
 refine Ve ⟨Z7w,(Z8n B r e k h)⟩ ?_ ?_
 ·refine sR [] ?_
  by_cases hq5:h.Xk=true
  ·have hbt:Vr (Xh k) 4=true:=(by subst hh;exact hq5);have hst:(Xu 1099511627776 1099511627776 r e k 5)=Wf 1099511627776 1099511627776 (Xu 1099511627776 1099511627776 r e k 4) 4:=Vv rfl hbt;simp only [Wf] at hst
   refine cT hq5 (xK [hR 1 rfl rfl (rCa (Fr B (Xu 1099511627776 1099511627776 r e k 4).rest (Xu 1099511627776 1099511627776 r e k 4).e 1099511627776 pZ7 (by omega)) Try.func58 [0,4] [(.tmp 35,pv 0 0),(.const (.int .i64 1099511627776),vI 1099511627776)] 1 2)] ?_)
   refine eN (Z8r B r e k h) ?_
   refine Xm (s':=⟨(Z8o h),[(Z8p B r e k),(Z8s r e k),(Z7y h),Z7z,.dead]⟩) (fun _ _ hG=>Gs.freeze (s:=(Z8r B r e k h)) 4 (el:=We kU8 (rdY (Xu 1099511627776 1099511627776 r e k 4).rest (Xu 1099511627776 1099511627776 r e k 4).e 1099511627776)) (sz:=kU8.sz) (n:=(rdY (Xu 1099511627776 1099511627776 r e k 4).rest (Xu 1099511627776 1099511627776 r e k 4).e 1099511627776).length) rfl ⟨.inl rfl,(kk2 (X6o trivial))⟩ ⟨pc,⟨p44,⟨pc,⟨pc,⟨(.inl ⟨rfl,rfl⟩),trivial⟩⟩⟩⟩⟩ hG) ?_
   refine Xm (s':=⟨Z7w,(Z8n B r e k h)⟩) (fun _ _ hG=>Yc [0,1,2,3] (bm 7 113) (h2:=[(Z8p B r e k),(Z8s r e k),(Z7y h),Z7z]) rfl pZ0 hG) ?_
   exact nJ
  have hbt:¬Vr (Xh k) 4=true:=(by subst hh;exact hq5);have hst:(Xu 1099511627776 1099511627776 r e k 5)=(Xu 1099511627776 1099511627776 r e k 4):=He hbt
  replace hq5:=Bool.eq_false_iff.2 hq5
  refine cF hq5 (T.skip ?_)
  refine eN ⟨(Z8o h),(Z8h B r e k h)⟩ ?_
  refine Xm (s':=⟨Z7w,(Z8n B r e k h)⟩) (fun _ _ hG=>Yc [0,1,2,3] (bm 7 113) (h2:=(Z8h B r e k h)) rfl pZ0 hG) ?_
  exact nJ
 refine Ve ⟨Z7w,(Z8u B r e k h)⟩ ?_ ?_
 ·refine sR [] ?_
  by_cases hq6:h.X1=true
  ·have hbt:Vr (Xh k) 5=true:=(by subst hh;exact hq6);have hst:(Xu 1099511627776 1099511627776 r e k 6)=Wf 1099511627776 1099511627776 (Xu 1099511627776 1099511627776 r e k 5) 5:=Vv rfl hbt;simp only [Wf] at hst
   refine cT hq6 ?_
   refine xR [hR 1 rfl rfl (rCa (Jh B (Xu 1099511627776 1099511627776 r e k 5).rest (Xu 1099511627776 1099511627776 r e k 5).e pZ7 (by omega)) Try.func34 [0] [(.tmp 40,pv 0 0)] 1 1),hR 3 rfl rfl (rCa (Jh B (rdR (Xu 1099511627776 1099511627776 r e k 5).rest (Xu 1099511627776 1099511627776 r e k 5).e 8 0) (rdE (Xu 1099511627776 1099511627776 r e k 5).rest (Xu 1099511627776 1099511627776 r e k 5).e 8 0) pZ7 (by omega)) Try.func34 [0] [(.tmp 42,pv 0 0)] 1 1)] pZ4 pZ4 ?_
   refine eN ⟨(Z8v h),(Z8w B r e k h)⟩ ?_
   refine Xm (s':=⟨Z7w,(Z8u B r e k h)⟩) (fun _ _ hG=>Yc [0,1,2,3] (bm 7 113) (h2:=(Z8w B r e k h)) rfl pZ0 hG) ?_
   exact nJ
  have hbt:¬Vr (Xh k) 5=true:=(by subst hh;exact hq6);have hst:(Xu 1099511627776 1099511627776 r e k 6)=(Xu 1099511627776 1099511627776 r e k 5):=He hbt
  replace hq6:=Bool.eq_false_iff.2 hq6
  refine cF hq6 (T.skip ?_)
  refine eN ⟨(Z8v h),(Z8n B r e k h)⟩ ?_
  refine Xm (s':=⟨Z7w,(Z8u B r e k h)⟩) (fun _ _ hG=>Yc [0,1,2,3] (bm 7 113) (h2:=(Z8n B r e k h)) rfl pZ0 hG) ?_
  exact nJ
 refine Ve ⟨Z7w,(Z8y B r e k h)⟩ ?_ ?_
 ·refine sR [] ?_
  by_cases hq7:h.Xf=true
  ·have hbt:Vr (Xh k) 6=true:=(by subst hh;exact hq7);have hst:(Xu 1099511627776 1099511627776 r e k 7)=Wf 1099511627776 1099511627776 (Xu 1099511627776 1099511627776 r e k 6) 6:=Vv rfl hbt;simp only [Wf] at hst
   refine cT hq7 (xK [hR 1 rfl rfl (rCa (F9 B (Xu 1099511627776 1099511627776 r e k 6).rest (Xu 1099511627776 1099511627776 r e k 6).e pZ7 (by omega)) Try.func59 [0] [(.tmp 48,pv 0 0)] 1 1)] ?_)
   refine eN ⟨(Z8z h),(Z91 B r e k h)⟩ ?_
   refine Xm (s':=⟨Z7w,(Z8y B r e k h)⟩) (fun _ _ hG=>Yc [0,1,2,3] (bm 7 113) (h2:=(Z91 B r e k h)) rfl pZ0 hG) ?_
   exact nJ
  have hbt:¬Vr (Xh k) 6=true:=(by subst hh;exact hq7);have hst:(Xu 1099511627776 1099511627776 r e k 7)=(Xu 1099511627776 1099511627776 r e k 6):=He hbt
  replace hq7:=Bool.eq_false_iff.2 hq7
  refine cF hq7 (T.skip ?_)
  refine eN ⟨(Z8z h),(Z8u B r e k h)⟩ ?_
  refine Xm (s':=⟨Z7w,(Z8y B r e k h)⟩) (fun _ _ hG=>Yc [0,1,2,3] (bm 7 113) (h2:=(Z8u B r e k h)) rfl pZ0 hG) ?_
  exact nJ
 refine Ve ⟨Z7w,(Z9f B r e k h)⟩ ?_ ?_
 ·refine sR [] ?_
  by_cases hq8:h.Xr=true
  ·have hbt:Vr (Xh k) 7=true:=(by subst hh;exact hq8);have hst:(Xu 1099511627776 1099511627776 r e k 8)=Wf 1099511627776 1099511627776 (Xu 1099511627776 1099511627776 r e k 7) 7:=Vv rfl hbt;simp only [Wf] at hst
   refine cT hq8 (xK [hR 1 rfl rfl (rCa (F9 B (Xu 1099511627776 1099511627776 r e k 7).rest (Xu 1099511627776 1099511627776 r e k 7).e pZ7 (by omega)) Try.func59 [0] [(.tmp 53,pv 0 0)] 1 1)] ?_)
   refine eN ⟨(Z9g h),(Z9i B r e k h)⟩ ?_
   refine Xm (s':=⟨Z7w,(Z9f B r e k h)⟩) (fun _ _ hG=>Yc [0,1,2,3] (bm 7 113) (h2:=(Z9i B r e k h)) rfl pZ0 hG) ?_
   exact nJ
  have hbt:¬Vr (Xh k) 7=true:=(by subst hh;exact hq8);have hst:(Xu 1099511627776 1099511627776 r e k 8)=(Xu 1099511627776 1099511627776 r e k 7):=He hbt
  replace hq8:=Bool.eq_false_iff.2 hq8
  refine cF hq8 (T.skip ?_)
  refine eN ⟨(Z9g h),(Z8y B r e k h)⟩ ?_
  refine Xm (s':=⟨Z7w,(Z9f B r e k h)⟩) (fun _ _ hG=>Yc [0,1,2,3] (bm 7 113) (h2:=(Z8y B r e k h)) rfl pZ0 hG) ?_
  exact nJ
 refine Ve ⟨Z7w,(Z9l B r e k h)⟩ ?_ ?_
 ·refine sR [] ?_
  by_cases hq9:h.X7=true
  rotate_left
  ·have hbt:¬Vr (Xh k) 8=true:=(by subst hh;exact hq9);have hst:(Xu 1099511627776 1099511627776 r e k 9)=(Xu 1099511627776 1099511627776 r e k 8):=He hbt
   replace hq9:=Bool.eq_false_iff.2 hq9
   refine cF hq9 (T.skip ?_)
   refine eN ⟨(Za1 h),(Z9f B r e k h)⟩ ?_
   refine Xm (s':=⟨(Za1 h),(Za2 B r e k h)⟩) (fun _ _ hG=>W7 (s:=⟨(Za1 h),(Z9f B r e k h)⟩) (kk2 (kk8 p3b)) ⟨.inl rfl,⟨(.inr ⟨rfl,⟨.inl rfl,(kk2 (kk8 ⟨pZ9,trivial⟩))⟩⟩),(kk2 trivial)⟩⟩ hG) ?_
   refine Xm (s':=⟨Z7w,(Z9l B r e k h)⟩) (fun _ _ hG=>Yc [0,1,2,3] (bm 7 113) (h2:=(Za2 B r e k h)) rfl (by have e1:(((Ww B (Xu 1099511627776 1099511627776 r e k 9).rest:Nat):Int):Int)=((Ww B (Xu 1099511627776 1099511627776 r e k 8).rest:Nat):Int):=po;have e2:((Xu 1099511627776 1099511627776 r e k 9).e:Int)=(Xu 1099511627776 1099511627776 r e k 8).e:=po;have e3:((Xu 1099511627776 1099511627776 r e k 9).m.X3:Int)=(Xu 1099511627776 1099511627776 r e k 8).m.X3:=po;have e4:((Xu 1099511627776 1099511627776 r e k 9).m.Xt:Int)=(Xu 1099511627776 1099511627776 r e k 8).m.Xt:=po;have e5:((Xu 1099511627776 1099511627776 r e k 9).m.Xy:Int)=(Xu 1099511627776 1099511627776 r e k 8).m.Xy:=po;have e6:((Xu 1099511627776 1099511627776 r e k 9).m.Xb:Int)=(Xu 1099511627776 1099511627776 r e k 8).m.Xb:=po;have e7:((Xu 1099511627776 1099511627776 r e k 9).m.Xv:Int)=(Xu 1099511627776 1099511627776 r e k 8).m.Xv:=po;have e8:((Xu 1099511627776 1099511627776 r e k 9).m.Xc:List UInt8)=(Xu 1099511627776 1099511627776 r e k 8).m.Xc:=po;have e9:((Xu 1099511627776 1099511627776 r e k 9).m.Xk:List UInt8)=(Xu 1099511627776 1099511627776 r e k 8).m.Xk:=po;have e10:((Xu 1099511627776 1099511627776 r e k 9).m.X1.Xs:Int)=(Xu 1099511627776 1099511627776 r e k 8).m.X1.Xs:=po;have e11:((Xu 1099511627776 1099511627776 r e k 9).m.X1.Xo:Int)=(Xu 1099511627776 1099511627776 r e k 8).m.X1.Xo:=po;have e12:((Xu 1099511627776 1099511627776 r e k 9).m.Xf:List aE)=(Xu 1099511627776 1099511627776 r e k 8).m.Xf:=po;have e13:((Xu 1099511627776 1099511627776 r e k 9).m.Xr:List aE)=(Xu 1099511627776 1099511627776 r e k 8).m.Xr:=po;have e14:((Xu 1099511627776 1099511627776 r e k 9).m.X7:List aC)=([]:List aC):=(by (rw [hst,X5q 8 (by decide)];done));have hE:=congr (congr (congr (congr (congr (congr (congr (congr (congr (congr (congr (congr (congr (congrArg (fun (q1:Int) (q2:Int) (q3:Int) (q4:Int) (q5:Int) (q6:Int) (q7:Int) (q8:List UInt8) (q9:List UInt8) (q10:Int) (q11:Int) (q12:List aE) (q13:List aE) (q14:List aC)=>([.live (.box 87 [(Z7u B),dI q1,dI q2]),.live (.box 42 [dI q3,dI q4,dI q5,dI q6,dI q7,dS q8,dU q9,dI q10,dI q11,.d (dsl false false (kE false) q12),.d (dsl false false (kE false) q13),.d (dsl false false (kC false) q14)]),(Z7y h),Z7z]:List HS)) e1) e2) e3) e4) e5) e6) e7) e8) e9) e10) e11) e12) e13) e14;exact hE) hG) ?_
   exact nJ
  have hbt:Vr (Xh k) 8=true:=(by subst hh;exact hq9);have hst:(Xu 1099511627776 1099511627776 r e k 9)=Wf 1099511627776 1099511627776 (Xu 1099511627776 1099511627776 r e k 8) 8:=Vv rfl hbt;simp only [Wf] at hst
  refine cT hq9 (sR [hR 1 rfl rfl (rCa (X2g B (Xu 1099511627776 1099511627776 r e k 8).rest (Xu 1099511627776 1099511627776 r e k 8).e 8 pZ7 (by omega)) Try.func60 [0] [(.tmp 58,pv 0 0),(.const (.int .i64 8),vI 8)] 1 1)] (sR [] (T.block ?_)))
  refine tN ⟨(Z9n r e k h),[(Z9o B r e k),(Z9e r e k),(Z7y h),Z7z]⟩ ?_
  refine Vh (s':=⟨(Z9n r e k h),(Z9p B r e k h)⟩) (fun _ _ hG=>I7 4 1 11 113 (kC false) (Tb:=42) (cs:=[(Z93 r e k),(Z94 r e k),(Z95 r e k),(Z96 r e k),(Z97 r e k),(Z98 r e k),(Z99 r e k),(Z9a r e k),(Z9b r e k),(Z9c r e k),(Z9d r e k),Z7r]) rfl rfl rfl hG) ?_
  refine T.loop (ι:=Nat) (fun (k2:Nat)=>⟨[pv 0 0,aa,aa,aa,pv 1 0,pv 2 0,pv 3 0,(Z9m r e k),vI ((k2:Nat):Int)],(Z9s B r e k h k2)⟩) (fun (k2:Nat)=>(k2≤rdC (Xu 1099511627776 1099511627776 r e k 8).rest (Xu 1099511627776 1099511627776 r e k 8).e 8)) (fun (k2:Nat)=>rdC (Xu 1099511627776 1099511627776 r e k 8).rest (Xu 1099511627776 1099511627776 r e k 8).e 8-k2) (0) (Nat.zero_le _) (fun _ _ hG=>Yc [0,1,2,3,4] (bm 9 497) (h2:=(Z9p B r e k h)) rfl (cg4 (fun (q1:Int) (q2:Int) (q3:Nat) (q4:List aC)=>([.live (.box 87 [(Z7u B),dI q1,dI q2]),.live (.box 42 [(Z93 r e k),(Z94 r e k),(Z95 r e k),(Z96 r e k),(Z97 r e k),(Z98 r e k),(Z99 r e k),(Z9a r e k),(Z9b r e k),(Z9c r e k),(Z9d r e k),.own 4 (kC false).sz 0 q3]),(Z7y h),Z7z,.live (Xe 113 (kC false) q4)]:List HS)) (by rfl) (by rfl) (by rfl) (by rfl)) hG) ?_
  rintro k2 hk2
  show T _ _ ⟨[pv 0 0,aa,aa,aa,pv 1 0,pv 2 0,pv 3 0,(Z9m r e k),vI ((k2:Nat):Int)],(Z9s B r e k h k2)⟩ _ _
  replace hk2:k2≤rdC (Xu 1099511627776 1099511627776 r e k 8).rest (Xu 1099511627776 1099511627776 r e k 8).e 8:=hk2
  have hg:=Iy 1099511627776 (Xu 1099511627776 1099511627776 r e k 8).rest (Xu 1099511627776 1099511627776 r e k 8).e k2
  have hg2:=hg.2
  have hcm:rdC (Xu 1099511627776 1099511627776 r e k 8).rest (Xu 1099511627776 1099511627776 r e k 8).e 8≤8:=X0n (Xu 1099511627776 1099511627776 r e k 8).rest (Xu 1099511627776 1099511627776 r e k 8).e 8
  refine T.seq (sR [] ?_)
  by_cases hq10:((k2:Nat):Int)<((rdC (Xu 1099511627776 1099511627776 r e k 8).rest (Xu 1099511627776 1099511627776 r e k 8).e 8:Nat):Int)
  ·refine cT (dT hq10) (T.skip (nT (T.seq (T.block ?_))))
   refine xD [[],[0],[],[2],[],[2,3,4],[2,3,4,5],[2,3,4,5,6],[0,1,2,3,4,5,6,7],[0,1,2,3,4,5,6,7,8],[0,1,2,3,4,5,6,7,8,9]] [hR 3 rfl rfl (rCa (Ek B (Yk 1099511627776 (Xu 1099511627776 1099511627776 r e k 8).rest (Xu 1099511627776 1099511627776 r e k 8).e k2).rest (Yk 1099511627776 (Xu 1099511627776 1099511627776 r e k 8).rest (Xu 1099511627776 1099511627776 r e k 8).e k2).e pZ7 (by omega)) Try.func61 [0] [(.tmp 67,pv 0 0)] 1 1),hR 5 rfl rfl (rCa (F9 B (evR 1099511627776 (Yk 1099511627776 (Xu 1099511627776 1099511627776 r e k 8).rest (Xu 1099511627776 1099511627776 r e k 8).e k2).rest (Yk 1099511627776 (Xu 1099511627776 1099511627776 r e k 8).rest (Xu 1099511627776 1099511627776 r e k 8).e k2).e) (evE 1099511627776 (Yk 1099511627776 (Xu 1099511627776 1099511627776 r e k 8).rest (Xu 1099511627776 1099511627776 r e k 8).e k2).rest (Yk 1099511627776 (Xu 1099511627776 1099511627776 r e k 8).rest (Xu 1099511627776 1099511627776 r e k 8).e k2).e) pZ7 (by omega)) Try.func59 [0] [(.tmp 69,pv 0 0)] 1 1),hR 7 rfl rfl (Yd 5 113 (kC false) (Iw false) [(aC.mk (evV 1099511627776 (Yk 1099511627776 (Xu 1099511627776 1099511627776 r e k 8).rest (Xu 1099511627776 1099511627776 r e k 8).e k2).rest (Yk 1099511627776 (Xu 1099511627776 1099511627776 r e k 8).rest (Xu 1099511627776 1099511627776 r e k 8).e k2).e) (Vx 1099511627776 (evR 1099511627776 (Yk 1099511627776 (Xu 1099511627776 1099511627776 r e k 8).rest (Xu 1099511627776 1099511627776 r e k 8).e k2).rest (Yk 1099511627776 (Xu 1099511627776 1099511627776 r e k 8).rest (Xu 1099511627776 1099511627776 r e k 8).e k2).e) (evE 1099511627776 (Yk 1099511627776 (Xu 1099511627776 1099511627776 r e k 8).rest (Xu 1099511627776 1099511627776 r e k 8).e k2).rest (Yk 1099511627776 (Xu 1099511627776 1099511627776 r e k 8).rest (Xu 1099511627776 1099511627776 r e k 8).e k2).e)).l)] [⟨0,.tmp 71,.agg [dI (Z9v r e k k2).X4,dU (Z9v r e k k2).X9,.d (dsl false false (kE false) (Z9w r e k k2).l)],0⟩] (cs:=[dI (Z9v r e k k2).X4,dU (Z9v r e k k2).X9,.d (dsl false false (kE false) (Z9w r e k k2).l)]) Try.underlying40 I3 rfl Xa5 rfl rfl rfl pf (Ws rfl rfl pf Wn) pZ4 (Vz pZ4) (X8 rfl) trivial),hR 8 rfl rfl (W4 4 6 113 56 (kC false) (Iw false) (Yk 1099511627776 (Xu 1099511627776 1099511627776 r e k 8).rest (Xu 1099511627776 1099511627776 r e k 8).e k2).l [(aC.mk (evV 1099511627776 (Yk 1099511627776 (Xu 1099511627776 1099511627776 r e k 8).rest (Xu 1099511627776 1099511627776 r e k 8).e k2).rest (Yk 1099511627776 (Xu 1099511627776 1099511627776 r e k 8).rest (Xu 1099511627776 1099511627776 r e k 8).e k2).e) (Vx 1099511627776 (evR 1099511627776 (Yk 1099511627776 (Xu 1099511627776 1099511627776 r e k 8).rest (Xu 1099511627776 1099511627776 r e k 8).e k2).rest (Yk 1099511627776 (Xu 1099511627776 1099511627776 r e k 8).rest (Xu 1099511627776 1099511627776 r e k 8).e k2).e) (evE 1099511627776 (Yk 1099511627776 (Xu 1099511627776 1099511627776 r e k 8).rest (Xu 1099511627776 1099511627776 r e k 8).e k2).rest (Yk 1099511627776 (Xu 1099511627776 1099511627776 r e k 8).rest (Xu 1099511627776 1099511627776 r e k 8).e k2).e)).l)] ((Yk 1099511627776 (Xu 1099511627776 1099511627776 r e k 8).rest (Xu 1099511627776 1099511627776 r e k 8).e k2).l++[(aC.mk (evV 1099511627776 (Yk 1099511627776 (Xu 1099511627776 1099511627776 r e k 8).rest (Xu 1099511627776 1099511627776 r e k 8).e k2).rest (Yk 1099511627776 (Xu 1099511627776 1099511627776 r e k 8).rest (Xu 1099511627776 1099511627776 r e k 8).e k2).e) (Vx 1099511627776 (evR 1099511627776 (Yk 1099511627776 (Xu 1099511627776 1099511627776 r e k 8).rest (Xu 1099511627776 1099511627776 r e k 8).e k2).rest (Yk 1099511627776 (Xu 1099511627776 1099511627776 r e k 8).rest (Xu 1099511627776 1099511627776 r e k 8).e k2).e) (evE 1099511627776 (Yk 1099511627776 (Xu 1099511627776 1099511627776 r e k 8).rest (Xu 1099511627776 1099511627776 r e k 8).e k2).rest (Yk 1099511627776 (Xu 1099511627776 1099511627776 r e k 8).rest (Xu 1099511627776 1099511627776 r e k 8).e k2).e)).l)]) (Yk 1099511627776 (Xu 1099511627776 1099511627776 r e k 8).rest (Xu 1099511627776 1099511627776 r e k 8).e k2).l.length (sy:=(.own 5 (kC false).sz 0 [(Z9x r e k k2)].length)) (rhs:=[(5,.live (Xe 113 (kC false) [(Z9x r e k k2)]))]) Xe8 (by omega) (Up 5 113 (kC false) [(aC.mk (evV 1099511627776 (Yk 1099511627776 (Xu 1099511627776 1099511627776 r e k 8).rest (Xu 1099511627776 1099511627776 r e k 8).e k2).rest (Yk 1099511627776 (Xu 1099511627776 1099511627776 r e k 8).rest (Xu 1099511627776 1099511627776 r e k 8).e k2).e) (Vx 1099511627776 (evR 1099511627776 (Yk 1099511627776 (Xu 1099511627776 1099511627776 r e k 8).rest (Xu 1099511627776 1099511627776 r e k 8).e k2).rest (Yk 1099511627776 (Xu 1099511627776 1099511627776 r e k 8).rest (Xu 1099511627776 1099511627776 r e k 8).e k2).e) (evE 1099511627776 (Yk 1099511627776 (Xu 1099511627776 1099511627776 r e k 8).rest (Xu 1099511627776 1099511627776 r e k 8).e k2).rest (Yk 1099511627776 (Xu 1099511627776 1099511627776 r e k 8).rest (Xu 1099511627776 1099511627776 r e k 8).e k2).e)).l)]) p1p p1u p1u (X8 rfl) trivial)] pZ4 pZ4 pZ4 pZ4 pZ4 pZ4 ?_
   refine nB (nT (xK [hR 1 rfl rfl (Y9 (u1:=.int .i64 ((k2:Nat):Int)) (u2:=.int .i64 1) (v:=.int .i64 ((k2+1:Nat):Int)) (W6 pZ5) (X8 rfl) ⟨rfl,trivial⟩)] ?_))
   refine nL (k2+1) (show (k2+1)≤rdC (Xu 1099511627776 1099511627776 r e k 8).rest (Xu 1099511627776 1099511627776 r e k 8).e 8 from (by omega)) (show (rdC (Xu 1099511627776 1099511627776 r e k 8).rest (Xu 1099511627776 1099511627776 r e k 8).e 8-(k2+1):Nat)<rdC (Xu 1099511627776 1099511627776 r e k 8).rest (Xu 1099511627776 1099511627776 r e k 8).e 8-k2 from (by omega)) (fun _ _ hG=>Wp [0,1,2,3,6] (bm 9 497) (h1:=[.live (.box 87 [(Z7u B),dI ((Ww B (Z9y r e k k2).rest:Nat):Int),dI (Z9y r e k k2).e]),.live (.box 42 [(Z93 r e k),(Z94 r e k),(Z95 r e k),(Z96 r e k),(Z97 r e k),(Z98 r e k),(Z99 r e k),(Z9a r e k),(Z9b r e k),(Z9c r e k),(Z9d r e k),.own 6 (kC false).sz 0 (Z9y r e k k2).l.length]),(Z7y h),Z7z,.live (Xe 113 (kC false) (Z9y r e k k2).l)]) (h2:=[.live (.box 87 [(Z7u B),dI ((Ww B (Z9w r e k k2).rest:Nat):Int),dI (Z9w r e k k2).e]),.live (.box 42 [(Z93 r e k),(Z94 r e k),(Z95 r e k),(Z96 r e k),(Z97 r e k),(Z98 r e k),(Z99 r e k),(Z9a r e k),(Z9b r e k),(Z9c r e k),(Z9d r e k),.own 6 (kC false).sz 0 ((Z9q r e k k2).l++[(Z9x r e k k2)]).length]),(Z7y h),Z7z,.live (Xe 113 (kC false) ((Z9q r e k k2).l++[(Z9x r e k k2)]))]) (t1:=[pv 0 0,aa,aa,aa,pv 1 0,pv 2 0,pv 3 0,(Z9m r e k),vI ((k2+1:Nat):Int)]) rfl (by have e1:(((Ww B (Yk 1099511627776 (Xu 1099511627776 1099511627776 r e k 8).rest (Xu 1099511627776 1099511627776 r e k 8).e (k2+1)).rest:Nat):Int):Int)=((Ww B (Vx 1099511627776 (evR 1099511627776 (Yk 1099511627776 (Xu 1099511627776 1099511627776 r e k 8).rest (Xu 1099511627776 1099511627776 r e k 8).e k2).rest (Yk 1099511627776 (Xu 1099511627776 1099511627776 r e k 8).rest (Xu 1099511627776 1099511627776 r e k 8).e k2).e) (evE 1099511627776 (Yk 1099511627776 (Xu 1099511627776 1099511627776 r e k 8).rest (Xu 1099511627776 1099511627776 r e k 8).e k2).rest (Yk 1099511627776 (Xu 1099511627776 1099511627776 r e k 8).rest (Xu 1099511627776 1099511627776 r e k 8).e k2).e)).rest:Nat):Int):=(by rfl);have e2:((Yk 1099511627776 (Xu 1099511627776 1099511627776 r e k 8).rest (Xu 1099511627776 1099511627776 r e k 8).e (k2+1)).e:Int)=(Vx 1099511627776 (evR 1099511627776 (Yk 1099511627776 (Xu 1099511627776 1099511627776 r e k 8).rest (Xu 1099511627776 1099511627776 r e k 8).e k2).rest (Yk 1099511627776 (Xu 1099511627776 1099511627776 r e k 8).rest (Xu 1099511627776 1099511627776 r e k 8).e k2).e) (evE 1099511627776 (Yk 1099511627776 (Xu 1099511627776 1099511627776 r e k 8).rest (Xu 1099511627776 1099511627776 r e k 8).e k2).rest (Yk 1099511627776 (Xu 1099511627776 1099511627776 r e k 8).rest (Xu 1099511627776 1099511627776 r e k 8).e k2).e)).e:=(by rfl);have e3:((Yk 1099511627776 (Xu 1099511627776 1099511627776 r e k 8).rest (Xu 1099511627776 1099511627776 r e k 8).e (k2+1)).l.length:Nat)=((Yk 1099511627776 (Xu 1099511627776 1099511627776 r e k 8).rest (Xu 1099511627776 1099511627776 r e k 8).e k2).l++[(aC.mk (evV 1099511627776 (Yk 1099511627776 (Xu 1099511627776 1099511627776 r e k 8).rest (Xu 1099511627776 1099511627776 r e k 8).e k2).rest (Yk 1099511627776 (Xu 1099511627776 1099511627776 r e k 8).rest (Xu 1099511627776 1099511627776 r e k 8).e k2).e) (Vx 1099511627776 (evR 1099511627776 (Yk 1099511627776 (Xu 1099511627776 1099511627776 r e k 8).rest (Xu 1099511627776 1099511627776 r e k 8).e k2).rest (Yk 1099511627776 (Xu 1099511627776 1099511627776 r e k 8).rest (Xu 1099511627776 1099511627776 r e k 8).e k2).e) (evE 1099511627776 (Yk 1099511627776 (Xu 1099511627776 1099511627776 r e k 8).rest (Xu 1099511627776 1099511627776 r e k 8).e k2).rest (Yk 1099511627776 (Xu 1099511627776 1099511627776 r e k 8).rest (Xu 1099511627776 1099511627776 r e k 8).e k2).e)).l)]).length:=(by (rw [(Iy 1099511627776 (Xu 1099511627776 1099511627776 r e k 8).rest (Xu 1099511627776 1099511627776 r e k 8).e (k2+1)).2,List.length_append,(Iy 1099511627776 (Xu 1099511627776 1099511627776 r e k 8).rest (Xu 1099511627776 1099511627776 r e k 8).e k2).2];rfl));have e4:((Yk 1099511627776 (Xu 1099511627776 1099511627776 r e k 8).rest (Xu 1099511627776 1099511627776 r e k 8).e (k2+1)).l:List aC)=(Yk 1099511627776 (Xu 1099511627776 1099511627776 r e k 8).rest (Xu 1099511627776 1099511627776 r e k 8).e k2).l++[(aC.mk (evV 1099511627776 (Yk 1099511627776 (Xu 1099511627776 1099511627776 r e k 8).rest (Xu 1099511627776 1099511627776 r e k 8).e k2).rest (Yk 1099511627776 (Xu 1099511627776 1099511627776 r e k 8).rest (Xu 1099511627776 1099511627776 r e k 8).e k2).e) (Vx 1099511627776 (evR 1099511627776 (Yk 1099511627776 (Xu 1099511627776 1099511627776 r e k 8).rest (Xu 1099511627776 1099511627776 r e k 8).e k2).rest (Yk 1099511627776 (Xu 1099511627776 1099511627776 r e k 8).rest (Xu 1099511627776 1099511627776 r e k 8).e k2).e) (evE 1099511627776 (Yk 1099511627776 (Xu 1099511627776 1099511627776 r e k 8).rest (Xu 1099511627776 1099511627776 r e k 8).e k2).rest (Yk 1099511627776 (Xu 1099511627776 1099511627776 r e k 8).rest (Xu 1099511627776 1099511627776 r e k 8).e k2).e)).l)]:=(by rfl);have hE:=congr (congr (congr (congrArg (fun (q1:Int) (q2:Int) (q3:Nat) (q4:List aC)=>([.live (.box 87 [(Z7u B),dI q1,dI q2]),.live (.box 42 [(Z93 r e k),(Z94 r e k),(Z95 r e k),(Z96 r e k),(Z97 r e k),(Z98 r e k),(Z99 r e k),(Z9a r e k),(Z9b r e k),(Z9c r e k),(Z9d r e k),.own 6 (kC false).sz 0 q3]),(Z7y h),Z7z,.live (Xe 113 (kC false) q4)]:List HS)) e1) e2) e3) e4;exact hE) hG)
  have hfx:Hq 1099511627776 (Xu 1099511627776 1099511627776 r e k 8).rest (Xu 1099511627776 1099511627776 r e k 8).e=Yk 1099511627776 (Xu 1099511627776 1099511627776 r e k 8).rest (Xu 1099511627776 1099511627776 r e k 8).e k2:=(by rw [Hq,show rdC (Xu 1099511627776 1099511627776 r e k 8).rest (Xu 1099511627776 1099511627776 r e k 8).e 8=k2 by omega]);rw [hfx] at hst
  refine cF (dF hq10) (T.exit (xT (xT (xH ?_))))
  refine eN ⟨(Z9z r e k k2),(Z9s B r e k h k2)⟩ ?_
  refine Xm (s':=⟨(Z9z r e k k2),[(Z9r B r e k k2),(Za0 r e k k2),(Z7y h),Z7z,.dead]⟩) (fun _ _ hG=>Gs.freeze (s:=⟨(Z9z r e k k2),(Z9s B r e k h k2)⟩) 4 (el:=We (kC false) (Yk 1099511627776 (Xu 1099511627776 1099511627776 r e k 8).rest (Xu 1099511627776 1099511627776 r e k 8).e k2).l) (sz:=(kC false).sz) (n:=(Yk 1099511627776 (Xu 1099511627776 1099511627776 r e k 8).rest (Xu 1099511627776 1099511627776 r e k 8).e k2).l.length) rfl ⟨.inl rfl,(kk2 (kk4 (kk8 p3b)))⟩ ⟨pc,⟨(.inr ⟨by decide,.inr ⟨rfl,⟨.inl rfl,(kk2 (kk8 ⟨pZ6,trivial⟩))⟩⟩⟩),⟨pc,⟨pc,⟨(.inl ⟨rfl,rfl⟩),trivial⟩⟩⟩⟩⟩ hG) ?_
  refine Xm (s':=⟨Z7w,(Z9l B r e k h)⟩) (fun _ _ hG=>Yc [0,1,2,3] (bm 7 113) (h2:=[(Z9r B r e k k2),(Za0 r e k k2),(Z7y h),Z7z]) rfl (by have hE:=congrArg (fun (qq0:RdM)=>([.live (.box 87 [(Z7u B),dI (((Ww B qq0.rest:Nat):Int)),dI (qq0.e)]),.live (.box 42 [dI (qq0.m.X3),dI (qq0.m.Xt),dI (qq0.m.Xy),dI (qq0.m.Xb),dI (qq0.m.Xv),dS (qq0.m.Xc),dU (qq0.m.Xk),dI (qq0.m.X1.Xs),dI (qq0.m.X1.Xo),.d (dsl false false (kE false) (qq0.m.Xf)),.d (dsl false false (kE false) (qq0.m.Xr)),.d (dsl false false (kC false) (qq0.m.X7))]),(Z7y h),Z7z]:List HS)) hst;(try dsimp only at hE);exact hE) hG) ?_
  exact nJ
 refine sR [] (T.ret ?_)
 exact eX [.c 6 3 42 0 42 [dI (Z9j r e k).m.X3,dI (Z9j r e k).m.Xt,dI (Z9j r e k).m.Xy,dI (Z9j r e k).m.Xb,dI (Z9j r e k).m.Xv,dS (Z9j r e k).m.Xc,dU (Z9j r e k).m.Xk,dI (Z9j r e k).m.X1.Xs,dI (Z9j r e k).m.X1.Xo,.d (dsl false false (kE false) (Z9j r e k).m.Xf),.d (dsl false false (kE false) (Z9j r e k).m.Xr),.d (dsl false false (kC false) (Z9j r e k).m.X7)] (.agg (Z9k r e k))] ⟨⟨rfl,rfl,by kernel_rfl,by kernel_rfl,.inl ⟨12,I2,rfl,Nat.le_of_ble_eq_true rfl⟩⟩,trivial⟩ [0] rfl (ix trivial)
section
variable (b:List UInt8)
abbrev Za3:AV:=vB (decide (((b.length:Nat):Int)>16777216))
abbrev Za4:List AV:=[slV false false kU8 b,aa,pv 0 0,vI 11,aa,aa,aa,aa,aa,aa,aa,(Za3 b)]
abbrev Za5:SV:=.d (.val (.slice none 0 0))
abbrev Za6:HS:=.live (.box 42 [dI 0,dI 0,dI 0,dI 0,dI 0,dS [],Za5,dI 0,dI 0,Za5,Za5,Za5])
abbrev Za7:SV:=dU ([]:List UInt8)
abbrev Za8:SV:=.d (dsl false false (kE false) ([]:List aE))
abbrev Za9:SV:=.d (dsl false false (kC false) ([]:List aC))
abbrev Zaa:List SV:=[dI 0,dI 0,dI 0,dI 0,dI 0,dS [],Za7,dI 0,dI 0,Za8,Za8,Za9]
abbrev Zab:List AV:=[slV false false kU8 b,aa,pv 0 0,vI 0,pv 1 0,aa,aa,aa,aa,aa,aa,(Za3 b)]
abbrev Zac:List HS:=[Za6,.live (.box 87 [dU b,dI 0,dI 0])]
abbrev Zad:List HS:=[Za6,.live (.box 87 [dU b,dI ((Ww b b:Nat):Int),dI 0])]
abbrev Zae:List SV:=[dB (Xh (rdI b 0)).Xt,dB (Xh (rdI b 0)).Xy,dB (Xh (rdI b 0)).Xb,dB (Xh (rdI b 0)).Xc,dB (Xh (rdI b 0)).Xk,dB (Xh (rdI b 0)).X1,dB (Xh (rdI b 0)).Xf,dB (Xh (rdI b 0)).Xr,dB (Xh (rdI b 0)).X7]
abbrev Zaf:List AV:=[slV false false kU8 b,aa,pv 0 0,vI 12,pv 1 0,vI (rdI b 0),pv 2 0,vB (decide (okK (rdI b 0))),pv 3 0,aa,aa,(Za3 b),aa,aa,aa,aa,aa,aa,aa,aa,aa,aa,aa,aa,aa,aa,aa,aa,aa,aa,aa,aa,aa,aa,aa,aa,aa,aa,aa,aa,aa,aa,aa,vB true]
abbrev Zag:=(Xu 1099511627776 1099511627776 (rdR b 0 8 0) (rdE b 0 8 0) (rdI b 0) 9)
abbrev Zah:HS:=.live (.box 87 [dU b,dI ((Ww b (Zag b).rest:Nat):Int),dI (rdX (Zag b).rest (Zag b).e)])
abbrev Zai:List SV:=[dI (Zag b).m.X3,dI (Zag b).m.Xt,dI (Zag b).m.Xy,dI (Zag b).m.Xb,dI (Zag b).m.Xv,dS (Zag b).m.Xc,dU (Zag b).m.Xk,dI (Zag b).m.X1.Xs,dI (Zag b).m.X1.Xo,.d (dsl false false (kE false) (Zag b).m.Xf),.d (dsl false false (kE false) (Zag b).m.Xr),.d (dsl false false (kC false) (Zag b).m.X7)]
abbrev Zaj:List HS:=[Za6,(Zah b),.live (.box 90 (Zae b)),.live (.box 42 (Zai b))]
abbrev Zak:List HS:=[.live (.box 42 Zaa),(Zah b),.live (.box 90 (Zae b)),.live (.box 42 (Zai b))]
abbrev Zal:List AV:=[slV false false kU8 b,aa,pv 0 0,vI 12,pv 1 0,vI (rdI b 0),pv 2 0,vB (decide (okK (rdI b 0))),pv 3 0,aa,aa,(Za3 b),aa,aa,aa,aa,aa,aa,aa,aa,aa,aa,aa,aa,aa,aa,aa,aa,aa,aa,aa,aa,aa,aa,aa,aa,aa,aa,aa,aa,aa,aa,aa,vB (decide ((X20 (Zag b).m)≠0))]
end
theorem H9 (b:List UInt8) (hb:b.length≤140737488350000):Holds Try.prog 14 ⟨[slV false false kU8 b],[],.tup [.agg [dI (Y6 b).X3,dI (Y6 b).Xt,dI (Y6 b).Xy,dI (Y6 b).Xb,dI (Y6 b).Xv,dS (Y6 b).Xc,dU (Y6 b).Xk,dI (Y6 b).X1.Xs,dI (Y6 b).X1.Xo,.d (dsl false false (kE false) (Y6 b).Xf),.d (dsl false false (kE false) (Y6 b).Xr),.d (dsl false false (kC false) (Y6 b).X7)],.one (dI (E0 b))],[]⟩:=by
 refine Holds.of Try.func14 rfl (N:=46) Try.ntmps14 rfl fun w0 B0 S0 U0=>?_
 show T _ (Xz 46 0 w0 S0 U0 B0) ⟨[slV false false kU8 b],[]⟩ _ _
 obtain ⟨hf1,hf2,hf3,hf4,hf5⟩:=X2b 1099511627776 1099511627776 (rdR b 0 8 0) (rdE b 0 8 0) (rdI b 0) 9
 have hr1:=U7 b 0 8 0
 refine sR [] (T.seq (sR [] ?_))
 by_cases hq1:((b.length:Nat):Int)>16777216
 ·have hd9:=Xbm (M:=((b.length:Nat):Int)) (N:=16777216) (b:=b) (by omega)
  refine cT (dT hq1) (sR [] (T.ret (rT ?_)))
  refine eN ⟨(Za4 b),[Za6]⟩ ?_
  refine Xm (s':=⟨(Za4 b),[.live (.box 42 Zaa)]⟩) (fun _ _ hG=>W7 (s:=⟨(Za4 b),[Za6]⟩) p2z ⟨X3b,trivial⟩ hG) ?_
  exact eX [.c 2 0 42 0 42 [dI 0,dI 0,dI 0,dI 0,dI 0,dS [],Za7,dI 0,dI 0,Za8,Za8,Za9] (.agg Zaa),.t 3 (.one (dI 11))] ⟨⟨rfl,rfl,by kernel_rfl,by kernel_rfl,.inl ⟨12,I2,rfl,Nat.le_of_ble_eq_true rfl⟩⟩,⟨⟨rfl,by kernel_rfl⟩,trivial⟩⟩ [] pb trivial
 have hbl:¬b.length>16777216:=(by omega)
 refine cF (dF hq1) (T.skip (nT (sR [] ?_)))
 refine tN ⟨(Zab b),(Zac b)⟩ ?_
 refine Vh (s':=⟨(Zab b),(Zad b)⟩) (fun _ _ hG=>Yc [0,1] (bm 12 2077) (h2:=(Zac b)) rfl (by have e1:(((Ww b b:Nat):Int):Int)=0:=(by (rw [pos_0];rfl));have hE:=congrArg (fun (q1:Int)=>([Za6,.live (.box 87 [dU b,dI q1,dI 0])]:List HS)) e1;exact hE) hG) (sR [hR 1 rfl rfl (rCa (Jh b b 0 (by repeat exact List.suffix_refl _) ‹_›) Try.func34 [1] [(.tmp 16,pv 1 0)] 1 1)] (sR [hR 1 rfl rfl (rCa (Fp (rdI b 0) ) Try.func35 [] [(.tmp 19,vI (rdI b 0))] 0 0)] ?_))
 refine sR [hR 4 rfl rfl (rCa (Xf6 b (rdR b 0 8 0) (rdE b 0 8 0) (rdI b 0) (aH.mk (Xh (rdI b 0)).Xt (Xh (rdI b 0)).Xy (Xh (rdI b 0)).Xb (Xh (rdI b 0)).Xc (Xh (rdI b 0)).Xk (Xh (rdI b 0)).X1 (Xh (rdI b 0)).Xf (Xh (rdI b 0)).Xr (Xh (rdI b 0)).X7) pZ7 (by omega) rfl) Try.func36 [1] [(.tmp 23,pv 1 0),(.tmp 25,.tv (.agg [dI (rdI b 0),dI 0,dI 0,dI 0,dI 0,dS [],Za5,dI 0,dI 0,Za5,Za5,Za5])),(.tmp 26,.tv (.agg (Zae b)))] 1 1)] ?_
 refine sR [hR 1 rfl rfl (rCa (Xcc b (Xu 1099511627776 1099511627776 (rdR b 0 8 0) (rdE b 0 8 0) (rdI b 0) 9).rest (Xu 1099511627776 1099511627776 (rdR b 0 8 0) (rdE b 0 8 0) (rdI b 0) 9).e pZ7 ‹_›) Try.func37 [1] [(.tmp 28,pv 1 0)] 1 1)] (T.seq ?_)
 by_cases hq2:okK (rdI b 0)
 rotate_left
 ·have hd9:=X3r (M:=((b.length:Nat):Int)) (N:=16777216) (fun q=>hq2 q.2.1) hbl
  refine sR (Xl (hN · false (cn (dF hq2))) [3,4,5,6,7] (hP 8 (cn (dF hq2))::(Xl hN0 [10,11,12] (hP1 13::[])))) (cT (b:=true) rfl (sR [] (T.ret (rT ?_))))
  refine eN ⟨(Zaf b),(Zaj b)⟩ ?_
  refine Xm (s':=⟨(Zaf b),(Zak b)⟩) (fun _ _ hG=>W7 (s:=⟨(Zaf b),(Zaj b)⟩) (kk4 p4a) ⟨X3b,⟨.inl rfl,(kk2 trivial)⟩⟩ hG) ?_
  exact eX [.c 2 0 42 0 42 [dI 0,dI 0,dI 0,dI 0,dI 0,dS [],Za7,dI 0,dI 0,Za8,Za8,Za9] (.agg Zaa),.t 3 (.one (dI 12))] ⟨⟨rfl,rfl,by kernel_rfl,by kernel_rfl,.inl ⟨12,I2,rfl,Nat.le_of_ble_eq_true rfl⟩⟩,⟨⟨rfl,by kernel_rfl⟩,trivial⟩⟩ [] pb trivial
 by_cases hq3:(rdX (Xu 1099511627776 1099511627776 (rdR b 0 8 0) (rdE b 0 8 0) (rdI b 0) 9).rest (Xu 1099511627776 1099511627776 (rdR b 0 8 0) (rdE b 0 8 0) (rdI b 0) 9).e)≠0
 ·have hd9:=X6x (b:=b) (fun q=>hq3 q.2.2.1) hbl
  refine sR (Xl (hY · (cn (dT hq2))) [3,4,5,6,7] (hP 8 (cn (dT hq2))::(Xl (hN · false (dT hq3)) [10,11,12] (hP 13 (dT hq3)::[])))) (cT (b:=true) rfl (sR [] (T.ret (rT ?_))))
  refine eN ⟨(Zaf b),(Zaj b)⟩ ?_
  refine Xm (s':=⟨(Zaf b),(Zak b)⟩) (fun _ _ hG=>W7 (s:=⟨(Zaf b),(Zaj b)⟩) (kk4 p4a) ⟨X3b,⟨.inl rfl,(kk2 trivial)⟩⟩ hG) ?_
  exact eX [.c 2 0 42 0 42 [dI 0,dI 0,dI 0,dI 0,dI 0,dS [],Za7,dI 0,dI 0,Za8,Za8,Za9] (.agg Zaa),.t 3 (.one (dI 12))] ⟨⟨rfl,rfl,by kernel_rfl,by kernel_rfl,.inl ⟨12,I2,rfl,Nat.le_of_ble_eq_true rfl⟩⟩,⟨⟨rfl,by kernel_rfl⟩,trivial⟩⟩ [] pb trivial
 refine sR (Xl (hY · (cn (dT hq2))) [3,4,5,6,7] (hP 8 (cn (dT hq2))::(hY 10 (dF hq3)::(hS 11 (oY rfl rfl rfl rfl (X8 rfl) (dF hq3) (rCa (X45 false (Xu 1099511627776 1099511627776 (rdR b 0 8 0) (rdE b 0 8 0) (rdI b 0) 9).m (by omega) (by omega) (by omega) (by omega) (by omega)) Try.func38 [] [(.tmp 40,.tv (.agg (Zai b)))] 0 0))::(hY 12 (dF hq3)::(hP 13 (dF hq3)::[])))))) ?_
 by_cases hq4:(X20 (Xu 1099511627776 1099511627776 (rdR b 0 8 0) (rdE b 0 8 0) (rdI b 0) 9).m)≠0
 ·have hd9:=X6x (b:=b) (fun q=>hq4 (chk0.2 q.2.2.2)) hbl
  refine cT (dT hq4) (sR [] (T.ret (rT ?_)))
  refine eN ⟨(Zal b),(Zaj b)⟩ ?_
  refine Xm (s':=⟨(Zal b),(Zak b)⟩) (fun _ _ hG=>W7 (s:=⟨(Zal b),(Zaj b)⟩) (kk4 p4a) ⟨X3b,⟨.inl rfl,(kk2 trivial)⟩⟩ hG) ?_
  exact eX [.c 2 0 42 0 42 [dI 0,dI 0,dI 0,dI 0,dI 0,dS [],Za7,dI 0,dI 0,Za8,Za8,Za9] (.agg Zaa),.t 3 (.one (dI 12))] ⟨⟨rfl,rfl,by kernel_rfl,by kernel_rfl,.inl ⟨12,I2,rfl,Nat.le_of_ble_eq_true rfl⟩⟩,⟨⟨rfl,by kernel_rfl⟩,trivial⟩⟩ [] pb trivial
 have hd9:=Xbn (b:=b) ⟨by omega,by assumption,Classical.not_not.1 ‹_›,chk0.1 (Classical.not_not.1 hq4)⟩
 refine cF (dF hq4) (T.skip (nT (sR [] (T.ret ?_))))
 exact eX [.c 2 0 42 0 42 [dI (Zag b).m.X3,dI (Zag b).m.Xt,dI (Zag b).m.Xy,dI (Zag b).m.Xb,dI (Zag b).m.Xv,dS (Zag b).m.Xc,dU (Zag b).m.Xk,dI (Zag b).m.X1.Xs,dI (Zag b).m.X1.Xo,.d (dsl false false (kE false) (Zag b).m.Xf),.d (dsl false false (kE false) (Zag b).m.Xr),.d (dsl false false (kC false) (Zag b).m.X7)] (.agg (Zai b)),.t 3 (.one (dI 0))] ⟨⟨rfl,rfl,by kernel_rfl,by kernel_rfl,.inl ⟨12,I2,rfl,Nat.le_of_ble_eq_true rfl⟩⟩,⟨⟨rfl,by kernel_rfl⟩,trivial⟩⟩ [] pb trivial
end Go.Proofs.Ythnefnknoahbkaa.Q
namespace Go.Proofs.Ythnefnknoahbkaa.Q
set_option linter.unusedVariables false
set_option linter.unusedSimpArgs false
set_option maxRecDepth 100000
def okEv (N:Int) (e:aE):Prop:=Un e.X4∧e.X9.length≤4294967295∧((e.X9.length:Nat):Int)≤N
theorem Xe6 {N:Int} {e:aE} (h:okEv N e) (r:List UInt8):evV N (Vk e++r) 0=e∧evR N (Vk e++r) 0=r∧evE N (Vk e++r) 0=0:=by
  obtain ⟨h1,h2,h3⟩:=h
  obtain ⟨a1,a2,a3⟩:=Jq h1 (Wd e.X9++r)
  obtain ⟨b1,b2,b3⟩:=X0b h2 r h3
  unfold evV evR evE Vk
  rw [List.append_assoc,a1,a2,a3,b1,b2,b3]
  exact ⟨rfl,rfl,rfl⟩
theorem X3s {n:Nat} (h:n≤15):Ho ((n:Nat):Int)=n:=by unfold Ho;omega
theorem X85 {N:Int} {l:List aE} (hl:l.length≤15) (h:∀ e,e∈l→okEv N e) (r:List UInt8):∀ k,k≤l.length→V8 N (W5 l++r) 0 k=⟨H1 (l.drop k)++r,0,l.take k⟩
  | 0,_=>by
    obtain ⟨a1,a2,a3⟩:=X0x (most:=15) ((l.length:Nat):Int) (H1 l++r) (by rw [X3s hl];omega)
    unfold V8 W5
    rw [List.append_assoc,a2,a3]
    rfl
  | k+1,hk=>by
    rw [V8,X85 hl h r k (by omega)]
    have e0:l.drop k=l.getD k zE::l.drop (k+1):=by rw [List.drop_eq_getElem_cons (by omega),List.getD_eq_getElem?_getD,List.getElem?_eq_getElem (by omega)];rfl
    have e1:H1 (l.drop k)++r=Vk (l.getD k zE)++(H1 (l.drop (k+1))++r):=by rw [e0,show H1 (l.getD k zE::l.drop (k+1))=Vk (l.getD k zE)++H1 (l.drop (k+1)) from rfl,List.append_assoc]
    obtain ⟨b1,b2,b3⟩:=Xe6 (h _ (Vt (z:=zE) (by omega:k<l.length))) (H1 (l.drop (k+1))++r)
    unfold Xad
    simp only [e1,b1,b2,b3]
    rw [← X0h (z:=zE) (by omega)]
theorem X3n {N:Int} {l:List aE} (hl:l.length≤15) (h:∀ e,e∈l→okEv N e) (r:List UInt8):Vx N (W5 l++r) 0=⟨r,0,l⟩:=by
  obtain ⟨a1,a2,a3⟩:=X0x (most:=15) ((l.length:Nat):Int) (H1 l++r) (by rw [X3s hl];omega)
  have e:rdC (W5 l++r) 0 15=l.length:=by unfold W5;rw [List.append_assoc,a1,X3s hl]
  unfold Vx
  rw [e,X85 hl h r l.length (Nat.le_refl _),List.drop_of_length_le (Nat.le_refl _),List.take_of_length_le (Nat.le_refl _)]
  rfl
def okCt (N:Int) (c:aC):Prop:=okEv N c.V4∧c.Yg.length≤15∧∀ e,e∈c.Yg→okEv N e
theorem X86 {N:Int} {l:List aC} (hl:l.length≤8) (h:∀ c,c∈l→okCt N c) (r:List UInt8):∀ k,k≤l.length→Yk N (Jl l++r) 0 k=⟨H6 (l.drop k)++r,0,l.take k⟩
  | 0,_=>by
    obtain ⟨a1,a2,a3⟩:=X0x (most:=8) ((l.length:Nat):Int) (H6 l++r) (by rw [X3s (by omega)];omega)
    unfold Yk Jl
    rw [List.append_assoc,a2,a3]
    rfl
  | k+1,hk=>by
    rw [Yk,X86 hl h r k (by omega)]
    have e0:l.drop k=l.getD k zC::l.drop (k+1):=by rw [List.drop_eq_getElem_cons (by omega),List.getD_eq_getElem?_getD,List.getElem?_eq_getElem (by omega)];rfl
    have e1:H6 (l.drop k)++r=Vk (l.getD k zC).V4++(W5 (l.getD k zC).Yg++(H6 (l.drop (k+1))++r)):=by rw [e0,show H6 (l.getD k zC::l.drop (k+1))=(Vk (l.getD k zC).V4++W5 (l.getD k zC).Yg)++H6 (l.drop (k+1)) from rfl,List.append_assoc,List.append_assoc]
    obtain ⟨h1,h2,h3⟩:=h _ (Vt (z:=zC) (by omega:k<l.length))
    obtain ⟨b1,b2,b3⟩:=Xe6 h1 (W5 (l.getD k zC).Yg++(H6 (l.drop (k+1))++r))
    have c1:=X3n h2 h3 (H6 (l.drop (k+1))++r)
    unfold Xae
    simp only [e1,b1,b2,b3,c1]
    rw [← show l.take (k+1)=l.take k++[⟨(l.getD k zC).V4,(l.getD k zC).Yg⟩] from X0h (z:=zC) (by omega)]
theorem Xfp {N:Int} {l:List aC} (hl:l.length≤8) (h:∀ c,c∈l→okCt N c) (r:List UInt8):Hq N (Jl l++r) 0=⟨r,0,l⟩:=by
  obtain ⟨a1,a2,a3⟩:=X0x (most:=8) ((l.length:Nat):Int) (H6 l++r) (by rw [X3s (by omega)];omega)
  have e:rdC (Jl l++r) 0 8=l.length:=by unfold Jl;rw [List.append_assoc,a1,X3s (by omega)]
  unfold Hq
  rw [e,X86 hl h r l.length (Nat.le_refl _),List.drop_of_length_le (Nat.le_refl _),List.take_of_length_le (Nat.le_refl _)]
  rfl
structure rngM (M N:Int) (m:aM):Prop where
  vw:Un m.Xt
  sq:Un m.Xy
  cl:Un m.Xb
  st:Un m.Xv
  co:Un m.X1.Xs
  sg:Un m.X1.Xo
  dg:m.Xc.length≤4294967295∧((m.Xc.length:Nat):Int)≤M
  da:m.Xk.length≤4294967295∧((m.Xk.length:Nat):Int)≤M
  ba:m.Xf.length≤15∧∀ e,e∈m.Xf→okEv N e
  pr:m.Xr.length≤15∧∀ e,e∈m.Xr→okEv N e
  ce:m.X7.length≤8∧∀ c,c∈m.X7→okCt N c
def X29 (m:aM) (j:Nat):aM:=⟨m.X3,if 0<j then m.Xt else 0,if 1<j then m.Xy else 0,if 2<j then m.Xb else 0,if 2<j then m.Xv else 0,if 3<j then m.Xc else [],if 4<j then m.Xk else [],if 5<j then m.X1 else ⟨0,0⟩,if 6<j then m.Xf else [],if 7<j then m.Xr else [],if 8<j then m.X7 else []⟩
theorem Xeu {M N:Int} {m:aM} (h:rngM M N m) (r:List UInt8) {j:Nat} (hj:j≤8):Wf M N ⟨Vw m j++r,0,X29 m j⟩ j=⟨r,0,X29 m (j+1)⟩:=by
  rcases (by omega:j=0∨j=1∨j=2∨j=3∨j=4∨j=5∨j=6∨j=7∨j=8) with q|q|q|q|q|q|q|q|q<;>subst q
  · obtain ⟨a1,a2,a3⟩:=Jq h.vw r
    simp only [Wf,Vw,a1,a2,a3];rfl
  · obtain ⟨a1,a2,a3⟩:=Jq h.sq r
    simp only [Wf,Vw,a1,a2,a3];rfl
  · obtain ⟨a1,a2,a3⟩:=Jq h.cl (Ym m.Xv++r)
    obtain ⟨b1,b2,b3⟩:=Jq h.st r
    simp only [Wf,Vw,List.append_assoc,a1,a2,a3,b1,b2,b3];rfl
  · obtain ⟨a1,a2,a3⟩:=X0b h.dg.1 r h.dg.2
    simp only [Wf,Vw,a1,a2,a3];rfl
  · obtain ⟨a1,a2,a3⟩:=X0b h.da.1 r h.da.2
    simp only [Wf,Vw,a1,a2,a3];rfl
  · obtain ⟨a1,a2,a3⟩:=Jq h.co (Ym m.X1.Xo++r)
    obtain ⟨b1,b2,b3⟩:=Jq h.sg r
    simp only [Wf,Vw,List.append_assoc,a1,a2,a3,b1,b2,b3];rfl
  · have a:=X3n h.ba.1 h.ba.2 r
    simp only [Wf,Vw,a];rfl
  · have a:=X3n h.pr.1 h.pr.2 r
    simp only [Wf,Vw,a];rfl
  · have a:=Xfp h.ce.1 h.ce.2 r
    simp only [Wf,Vw,a];rfl
def X5g (m:aM):Nat→List UInt8
  | 0=>[]
  | d+1=>(if Vr (Xh m.X3) (8-d)=true then Vw m (8-d) else [])++X5g m d
theorem X93 (m:aM):∀ d,d≤9→Xq m (9-d)++X5g m d=Xq m 9
  | 0,_=>List.append_nil _
  | d+1,hd=>by
    have h:=X93 m d (by omega)
    rw [show 9-d=(8-d)+1 by omega,Xq] at h
    rw [show 9-(d+1)=8-d by omega,X5g,← List.append_assoc,h]
theorem num_0 {n lo:Int} {b:Bool} (h:Hh n b lo) (hb:¬b=true):n=0:=by unfold Hh at h;rwa [if_neg hb] at h
theorem suf_at (m:aM) {j:Nat} (hj:j≤8):X5g m (9-j)=(if Vr (Xh m.X3) j=true then Vw m j else [])++X5g m (8-j):=by
  obtain ⟨d,hd⟩:∃ d,8-j=d:=⟨_,rfl⟩
  rw [show 9-j=d+1 by omega,X5g,show 8-d=j by omega,hd]
theorem sel_skip {m:aM} (h:Hd m) {j:Nat} (hj:j≤8) (hb:¬Vr (Xh m.X3) j=true):X29 m (j+1)=X29 m j:=by
  obtain ⟨a1,a2,a3,a4,a5,a6,a7,a8,a9,b1,b2,b3,b4,b5,b6⟩:=(Wg m).1 h
  obtain ⟨_,_,l3,l4⟩:=lo_is m.X3
  rcases (by omega:j=0∨j=1∨j=2∨j=3∨j=4∨j=5∨j=6∨j=7∨j=8) with q|q|q|q|q|q|q|q|q<;>subst q
  · have e:m.Xt=0:=num_0 a2 hb
    unfold X29;rw [e];rfl
  · have e:m.Xy=0:=num_0 a3 hb
    unfold X29;rw [e];rfl
  · have e:m.Xb=0:=num_0 a4 hb
    have e':m.Xv=0:=num_0 a5 hb
    unfold X29;rw [e,e'];rfl
  · have e:m.Xc=[]:=Classical.byContradiction fun q=>a7 ⟨hb,q⟩
    unfold X29;rw [e];rfl
  · have e:m.Xk=[]:=List.eq_nil_of_length_eq_zero (by have:=mt (fun q=>(⟨hb,q⟩:¬(Xh m.X3).Xk=true∧_)) a8;omega)
    unfold X29;rw [e];rfl
  · have e:m.X1=Ye:=Classical.byContradiction fun q=>a9 ⟨hb,q⟩
    unfold X29;rw [e];rfl
  · have e:m.Xf=[]:=List.eq_nil_of_length_eq_zero (by rw [l4 hb] at b1;omega)
    unfold X29;rw [e];rfl
  · have e:m.Xr=[]:=List.eq_nil_of_length_eq_zero (by have:maxP (Xh m.X3)=0:=if_neg hb;rw [this] at b2;omega)
    unfold X29;rw [e];rfl
  · have e:m.X7=[]:=List.eq_nil_of_length_eq_zero (by have:=mt (fun q=>(⟨hb,q⟩:¬(Xh m.X3).X7=true∧_)) b4;omega)
    unfold X29;rw [e];rfl
theorem Xal {M N:Int} {m:aM} (h:rngM M N m) (hw:Hd m):∀ j,j≤9→Xu M N (X5g m 9) 0 m.X3 j=⟨X5g m (9-j),0,X29 m j⟩
  | 0,_=>rfl
  | j+1,hj=>by
    have ih:=Xal h hw j (by omega)
    rw [suf_at m (by omega)] at ih
    rw [show 9-(j+1)=8-j by omega]
    by_cases hb:Vr (Xh m.X3) j=true
    · rw [Vv rfl hb,ih,if_pos hb,Xeu h _ (by omega)]
    · rw [He hb,ih,if_neg hb,List.nil_append,sel_skip hw (by omega) hb]
theorem fin_back {M N:Int} {m:aM} (h:rngM M N m) (hw:Hd m):X1w M N (Xq m 9)=⟨[],0,m⟩:=by
  have hk:Un m.X3:=by have:=hw.1;unfold okK at this;unfold Un;omega
  have e:=X93 m 9 (Nat.le_refl _)
  have e:Ym m.X3++X5g m 9=Xq m 9:=e
  obtain ⟨a1,a2,a3⟩:=Jq hk (X5g m 9)
  unfold X1w
  rw [← e,a1,a2,a3,Xal h hw 9 (Nat.le_refl _)]
  cases m;rfl
theorem dec_back {m:aM} (hw:Hd m) (hl:(Xq m 9).length≤16777216) (h:rngM (((Xq m 9).length:Nat):Int) 16777216 m):Y6 (Yh m)=m∧E0 (Yh m)=0:=by
  have hk:Un m.X3:=by have:=hw.1;unfold okK at this;unfold Un;omega
  have e:=fin_back h hw
  have hi:rdI (Xq m 9) 0=m.X3:=by
    have e:=X93 m 9 (Nat.le_refl _)
    have e:Ym m.X3++X5g m 9=Xq m 9:=e
    rw [← e];exact (Jq hk _).1
  have ho:okD (((Xq m 9).length:Nat):Int) 16777216 (Xq m 9):=⟨hl,by rw [hi];exact hw.1,by rw [e];rfl,by rw [e];exact hw⟩
  have eb:Yh m=Xq m 9:=if_pos hw
  rw [eb]
  obtain ⟨d1,d2⟩:=Xa1 ho
  exact ⟨d1.trans (by rw [e]),d2⟩
theorem X1z (m:aM):(Xq m 9).length≤80+m.Xc.length+m.Xk.length+(W5 m.Xf).length+(W5 m.Xr).length+(Jl m.X7).length:=by
  have s:∀ j,(Xq m (j+1)).length≤(Xq m j).length+(Vw m j).length:=fun j=>by
    rw [Xq,List.length_append]
    split
    · exact Nat.le_refl _
    · simp
  have h0:(Xq m 0).length=8:=Yo _
  have f0:(Vw m 0).length=8:=Yo _
  have f1:(Vw m 1).length=8:=Yo _
  have f2:(Vw m 2).length=16:=by simp only [Vw,List.length_append,Yo]
  have f3:(Vw m 3).length=4+m.Xc.length:=(Wk _).trans (Nat.add_comm _ _)
  have f4:(Vw m 4).length=4+m.Xk.length:=(Wk _).trans (Nat.add_comm _ _)
  have f5:(Vw m 5).length=16:=by simp only [Vw,List.length_append,Yo]
  have f6:(Vw m 6).length=(W5 m.Xf).length:=rfl
  have f7:(Vw m 7).length=(W5 m.Xr).length:=rfl
  have f8:(Vw m 8).length=(Jl m.X7).length:=rfl
  have s0:=s 0
  have s1:=s 1
  have s2:=s 2
  have s3:=s 3
  have s4:=s 4
  have s5:=s 5
  have s6:=s 6
  have s7:=s 7
  have s8:=s 8
  simp only [Nat.reduceAdd] at s0 s1 s2 s3 s4 s5 s6 s7 s8
  omega
theorem X50 {n lo:Int} {b:Bool} (h:Hh n b lo) (hl:0≤lo):Un n:=by
  unfold Hh at h
  unfold Un
  split at h<;>omega
theorem fst_0 (k:Int):0≤Ez k∧0≤Ea k:=by
  unfold Ez Ea
  constructor
  · split
    · omega
    · split<;>omega
  · split
    · omega
    · split
      · omega
      · split<;>omega
theorem rng_of {m:aM} (hw:Hd m) (h1:Un m.X1.Xs) (h2:Un m.X1.Xo) (hl:(Xq m 9).length≤16777216) (hb:∀ e,e∈m.Xf→Un e.X4∧e.X9.length≤16777216) (hp:∀ e,e∈m.Xr→Un e.X4∧e.X9.length≤16777216) (hc:∀ c,c∈m.X7→(Un c.V4.X4∧c.V4.X9.length≤16777216)∧∀ e,e∈c.Yg→Un e.X4∧e.X9.length≤16777216):rngM (((Xq m 9).length:Nat):Int) 16777216 m:=by
  obtain ⟨a1,a2,a3,a4,a5,a6,a7,a8,a9,b1,b2,b3,b4,b5,b6⟩:=(Wg m).1 hw
  have hf:=fst_0 m.X3
  have ev:∀ e:aE,Un e.X4∧e.X9.length≤16777216→okEv 16777216 e:=fun e h=>⟨h.1,by omega,by omega⟩
  have hB:maxB m.X3 (Xh m.X3)≤7:=by
    unfold maxB;split
    · omega
    · split<;>omega
  have hP:maxP (Xh m.X3)≤8:=by unfold maxP;split<;>omega
  refine ⟨X50 a2 hf.1,X50 a3 hf.2,X50 a4 (by omega),X50 a5 (by omega),h1,h2,?_,?_,⟨by omega,fun e he=>ev e (hb e he)⟩,⟨by omega,fun e he=>ev e (hp e he)⟩,⟨by omega,fun c h=>⟨ev _ (hc c h).1,?_,fun e he=>ev e ((hc c h).2 e he)⟩⟩⟩
  · by_cases hbit:Vr (Xh m.X3) 3=true
    · have:=V9 (m:=m) rfl hbit (by decide)
      rw [show (Vw m 3).length=4+m.Xc.length from (Wk _).trans (Nat.add_comm _ _)] at this
      exact ⟨by omega,by omega⟩
    · have e:m.Xc=[]:=Classical.byContradiction fun q=>a7 ⟨hbit,q⟩
      rw [e];exact ⟨Nat.zero_le _,Int.natCast_nonneg _⟩
  · by_cases hbit:Vr (Xh m.X3) 4=true
    · have:=V9 (m:=m) rfl hbit (by decide)
      rw [show (Vw m 4).length=4+m.Xk.length from (Wk _).trans (Nat.add_comm _ _)] at this
      exact ⟨by omega,by omega⟩
    · have e:m.Xk=[]:=List.eq_nil_of_length_eq_zero (by have:=mt (fun q=>(⟨hbit,q⟩:¬(Xh m.X3).Xk=true∧_)) a8;omega)
      rw [e];exact ⟨Nat.zero_le _,Int.natCast_nonneg _⟩
  · exact Nat.le_trans (b6 c h) (by decide)
end Go.Proofs.Ythnefnknoahbkaa.Q
namespace Go.Proofs.Ythnefnknoahbkaa.Q
set_option linter.unusedVariables false
set_option linter.unusedSimpArgs false
set_option maxRecDepth 100000
theorem org_cl {u id:Int} (h:Yr u id):¬X4k u id<0:=by
  unfold X4k;rw [if_pos h];have:=h.1;omega
theorem org_no {u id:Int} (h:¬Yr u id):X4k u id<0:=by
  unfold X4k;rw [if_neg h];decide
def Yf (id:Int) (E:aE):aE:=⟨id,E.X9⟩
def Vb (id:Int) (E:aE):List Y7:=[⟨-1,⟨id,E.X9⟩⟩]
def F6 (b:List UInt8):Int:=if ((b.length:Nat):Int)>4096 then 11 else 3
theorem X5m {b:List UInt8} (h:((b.length:Nat):Int)>4096):11=F6 b:=(if_pos h).symm
theorem X5n {b:List UInt8} (h:¬((b.length:Nat):Int)>4096):3=F6 b:=(if_neg h).symm
abbrev Yi (id st:Int) (b:List UInt8):aM:=⟨1,0,0,id,st,[],b,⟨0,0⟩,[],[],[]⟩
theorem X38 (id st:Int) (b:List UInt8) (h:¬((b.length:Nat):Int)>4096):(Xq (Yi id st b) 9).length≤5000:=by
  have h1:=X1z (Yi id st b)
  have h2:(W5 ([]:List aE)).length=4:=by rw [Hl];rfl
  have h3:(Jl ([]:List aC)).length=4:=by rw [X0v];rfl
  simp only [Yi,h2,h3,List.length_nil] at h1
  simp only [Yi]
  omega
theorem Ue (id st:Int) (b:List UInt8) (h:¬((b.length:Nat):Int)>4096):(Xq (Yi id st b) 9).length≤1000000000∧(Yi id st b).Xf.length≤9223372036854775807∧(Yi id st b).Xr.length≤9223372036854775807∧(Yi id st b).X7.length≤9223372036854775807∧(Yi id st b).Xk.length≤9223372036854775807∧(Yi id st b).Xc.length≤9223372036854775807:=by
  have h1:=X38 id st b h
  exact ⟨by omega,Nat.zero_le _,Nat.zero_le _,Nat.zero_le _,(by show b.length≤_;omega),Nat.zero_le _⟩
theorem Xbj (m:aM):(Yh m).length≤(Xq m 9).length:=by
  unfold Yh;split
  · exact Nat.le_refl _
  · exact Nat.zero_le _
theorem Fg (id st:Int) (b:List UInt8) (h:¬((b.length:Nat):Int)>4096):(Yh (Yi id st b)).length≤5000:=Nat.le_trans (Xbj _) (X38 id st b h)
theorem Xc8 {x y:Y7} (h1:x.f_To=y.f_To) (h2:x.E9=y.E9):x=y:=by
  cases x;cases y;simp only at h1 h2;rw [h1,h2]
def V1 (C:aE→Int) (f id st:Int) (e:aE):Prop:=Vl f e.X4∧C e=0∧E0 e.X9=0∧(Y6 e.X9).X3=8∧(Y6 e.X9).Xb=id∧(Y6 e.X9).Xv=st
instance (C:aE→Int) (f id st:Int) (e:aE):Decidable (V1 C f id st e):=by unfold V1;infer_instance
def Jt (e:aE):Xd:=(Y6 e.X9).X1
abbrev Vd:=List (Int×Xd)
def Fc (l:Vd) (r:Xd):Nat:=(l.filter fun x=>decide (x.2=r)).length
def Xat (l:Vd) (e:aE):Vd:=mput l e.X4 (Jt e)
def Id (C:aE→Int) (f id st:Int) (l:Vd) (e:aE):Vd:=if V1 C f id st e then Xat l e else l
def Fb (C:aE→Int) (f id st:Int) (l:Vd) (e:aE):Prop:=V1 C f id st e∧((Fc (Xat l e) (Jt e):Nat):Int)≥f+1
instance (C:aE→Int) (f id st:Int) (l:Vd) (e:aE):Decidable (Fb C f id st l e):=by unfold Fb;infer_instance
theorem Xes {C:aE→Int} {f id st:Int} {l:Vd} {e:aE} (h:¬V1 C f id st e):Id C f id st l e=l:=if_neg h
theorem Xc2 {C:aE→Int} {f id st:Int} {l:Vd} {e:aE} (h:V1 C f id st e):Id C f id st l e=Xat l e:=if_pos h
theorem X1r (l:Vd) (s:Int) (r:Xd):(mput l s r).length≤l.length+1:=by
  induction l with
  | nil=>exact Nat.le_refl _
  | cons a l ih=>unfold mput;split<;>simp only [List.length_cons]<;>omega
def Vp (l:Vd) (bn seen:List Nat) (r:Xd):Nat:=((List.range l.length).filter fun i=>decide (bn.getD i 0∈seen∧(l.getD i (0,Ye)).2=r)).length
theorem cntS_0 (l:Vd) (bn:List Nat) (r:Xd):Vp l bn [] r=0:=by
  unfold Vp
  rw [List.length_eq_zero_iff,List.filter_eq_nil_iff]
  intro i _;simp
theorem X6g {bn:List Nat} (h:bn.Nodup) {i j:Nat} (hi:i<bn.length) (hj:j<bn.length) (e:bn.getD i 0=bn.getD j 0):i=j:=by
  rw [List.getD_eq_getElem?_getD,List.getD_eq_getElem?_getD,List.getElem?_eq_getElem hi,List.getElem?_eq_getElem hj] at e
  exact (List.getElem_inj h).1 e
theorem filt_one {n:Nat} {p q:Nat→Prop} [DecidablePred p] [DecidablePred q] {j:Nat} (hj:j<n) (hp:¬p j) (hq:q j) (h:∀ i,i<n→i≠j→(p i↔q i)):((List.range n).filter fun i=>decide (q i)).length=((List.range n).filter fun i=>decide (p i)).length+1:=by
  induction n with
  | zero=>omega
  | succ n ih =>
    rw [List.range_succ,List.filter_append,List.filter_append,List.length_append,List.length_append]
    by_cases hjn:j=n
    · subst hjn
      have e:(List.range j).filter (fun i=>decide (q i))=(List.range j).filter fun i=>decide (p i):=List.filter_congr fun i hi=>by
        have:=List.mem_range.1 hi
        exact decide_eq_decide.2 (h i (by omega) (by omega)).symm
      rw [e];simp [hp,hq]
    · have:=ih (by omega) fun i hi=>h i (by omega)
      have e:[n].filter (fun i=>decide (q i))=[n].filter fun i=>decide (p i):=List.filter_congr fun i hi=>by
        simp at hi;subst hi
        exact decide_eq_decide.2 (h i (by omega) (by omega)).symm
      rw [e];omega
theorem Xbp {l:Vd} {bn seen:List Nat} {r:Xd} {clk j:Nat} (hb:H5 bn clk) (hl:bn.length=l.length) (hj:j<bn.length) (hn:bn.getD j 0 ∉ seen) (h:(l.getD j (0,Ye)).2=r):Vp l bn (seen++[bn.getD j 0]) r=Vp l bn seen r+1:=by
  unfold Vp
  refine filt_one (p:=fun i=>bn.getD i 0∈seen∧(l.getD i (0,Ye)).2=r) (q:=fun i=>bn.getD i 0∈seen++[bn.getD j 0]∧(l.getD i (0,Ye)).2=r) (j:=j) (by omega) (fun w=>hn w.1) ⟨by simp,h⟩ fun i hi hij=>?_
  refine and_congr ?_ Iff.rfl
  rw [List.mem_append,List.mem_singleton]
  exact ⟨.inl,fun w=>w.elim id fun e=>absurd (X6g hb.1 (by omega) hj e) hij⟩
theorem Xee {l:Vd} {bn seen:List Nat} {r:Xd} {clk j:Nat} (hb:H5 bn clk) (hl:bn.length=l.length) (hj:j<bn.length) (h:¬(l.getD j (0,Ye)).2=r):Vp l bn (seen++[bn.getD j 0]) r=Vp l bn seen r:=by
  unfold Vp
  congr 1
  refine List.filter_congr fun i hi=>decide_eq_decide.2 ?_
  have hi:=List.mem_range.1 hi
  rw [List.mem_append,List.mem_singleton]
  constructor
  · rintro ⟨w|e,w2⟩
    · exact ⟨w,w2⟩
    · rw [X6g hb.1 (by omega) hj e] at w2;exact absurd w2 h
  · exact fun w=>⟨.inl w.1,w.2⟩
theorem X6b {α:Type} (z:α) (p:α→Bool):∀ l:List α,((List.range l.length).filter fun i=>p (l.getD i z)).length=(l.filter p).length
  | []=>rfl
  | a::l=>by
    have ih:=X6b z p l
    rw [List.length_cons,List.range_succ_eq_map,List.filter_cons,List.filter_cons,List.filter_map]
    have e:(List.filter ((fun i=>p ((a::l).getD i z)) ∘ Nat.succ) (List.range l.length))=List.filter (fun i=>p (l.getD i z)) (List.range l.length):=List.filter_congr fun i _=>by simp
    simp only [List.getD_cons_zero]
    split
    · rw [List.length_cons,List.length_cons,List.length_map,e,ih]
    · rw [List.length_map,e,ih]
theorem cntS_all {l:Vd} {bn seen:List Nat} {r:Xd} (hl:bn.length=l.length) (h:∀ b,b∈bn→b∈seen):Vp l bn seen r=Fc l r:=by
  unfold Vp Fc
  rw [← X6b (0,Ye)]
  congr 1
  refine List.filter_congr fun i hi=>decide_eq_decide.2 ?_
  have hi:=List.mem_range.1 hi
  exact ⟨fun w=>w.2,fun w=>⟨h _ (Vt (by omega)),w⟩⟩
theorem Xef {l:Vd} {bn seen:List Nat} {r:Xd}:Vp l bn seen r≤l.length:=by
  unfold Vp
  exact Nat.le_trans (List.length_filter_le _ _) (by rw [List.length_range];exact Nat.le_refl _)
def Fi (bn seen:List Nat):Nat:=(bn.filter fun b=>decide (b ∉ seen)).length
theorem X9p {bn seen:List Nat} {j:Nat} (hj:j<bn.length) (hn:bn.getD j 0 ∉ seen):Fi bn (seen++[bn.getD j 0])<Fi bn seen:=by
  unfold Fi
  have hm:bn.getD j 0∈bn:=Vt hj
  generalize bn.getD j 0=b at hn hm
  clear hj
  induction bn with
  | nil=>cases hm
  | cons a r ih =>
    have hle:∀ r:List Nat,(r.filter fun x=>decide (x ∉ seen++[b])).length≤(r.filter fun x=>decide (x ∉ seen)).length:=fun r=>by
      induction r with
      | nil=>exact Nat.le_refl _
      | cons c r ih =>
        by_cases h1:c∈seen
        · have h2:c∈seen++[b]:=List.mem_append.2 (.inl h1)
          simp only [List.filter_cons,h1,h2,not_true_eq_false,decide_false,Bool.false_eq_true,if_false];exact ih
        · by_cases h2:c∈seen++[b]
          · simp only [List.filter_cons,h1,h2,not_true_eq_false,not_false_eq_true,decide_false,decide_true,Bool.false_eq_true,if_false,if_true,List.length_cons];omega
          · simp only [List.filter_cons,h1,h2,not_false_eq_true,decide_true,if_true,List.length_cons];omega
    rcases List.mem_cons.1 hm with rfl|h
    · have h2:b∈seen++[b]:=by simp
      simp only [List.filter_cons,hn,h2,not_true_eq_false,not_false_eq_true,decide_false,decide_true,Bool.false_eq_true,if_false,if_true,List.length_cons]
      have:=hle r;omega
    · have hi:=ih h
      by_cases h1:a∈seen
      · have h2:a∈seen++[b]:=List.mem_append.2 (.inl h1)
        simp only [List.filter_cons,h1,h2,not_true_eq_false,decide_false,Bool.false_eq_true,if_false];exact hi
      · by_cases h2:a∈seen++[b]
        · simp only [List.filter_cons,h1,h2,not_true_eq_false,not_false_eq_true,decide_false,decide_true,Bool.false_eq_true,if_false,if_true,List.length_cons];omega
        · simp only [List.filter_cons,h1,h2,not_false_eq_true,decide_true,if_true,List.length_cons];omega
def Yy (ws:List X6) (s:Int) (k:Nat):List X6:=(ws.take k).filter fun w=>decide (w.X4≠s)
def Wb (ws:List X6) (e:aE) (k:Nat):Nat:=1+((Yy ws e.X4 k).filter fun w=>decide (w.X1=Jt e)).length
def X33 (ws:List X6) (e:aE):List X6:=Yy ws e.X4 ws.length++[⟨e.X4,Jt e⟩]
def Uo (C:aE→Int) (f id st:Int) (ws:List X6) (e:aE):List X6:=if V1 C f id st e then X33 ws e else ws
def Fz (C:aE→Int) (f id st:Int) (ws:List X6) (e:aE):Prop:=V1 C f id st e∧((Wb ws e ws.length:Nat):Int)≥f+1
instance (C:aE→Int) (f id st:Int) (ws:List X6) (e:aE):Decidable (Fz C f id st ws e):=by unfold Fz;infer_instance
theorem X34 {C:aE→Int} {f id st:Int} {ws:List X6} {e:aE} (h:¬V1 C f id st e):Uo C f id st ws e=ws:=if_neg h
theorem X59 {C:aE→Int} {f id st:Int} {ws:List X6} {e:aE} (h:V1 C f id st e):Uo C f id st ws e=X33 ws e:=if_pos h
section
variable {ws:List X6} {e:aE} {s:Int} {k:Nat}
theorem X4z (hk:k<ws.length) (h:(ws.getD k Xp).X4≠s):Yy ws s (k+1)=Yy ws s k++[ws.getD k Xp]:=by
  unfold Yy;rw [X0h (z:=Xp) hk,List.filter_append,List.filter_cons,if_pos (decide_eq_true h)];rfl
theorem Xci (hk:k<ws.length) (h:¬(ws.getD k Xp).X4≠s):Yy ws s (k+1)=Yy ws s k:=by
  unfold Yy;rw [X0h (z:=Xp) hk,List.filter_append,List.filter_cons,if_neg (by simpa using h)];simp
theorem X0p:(Yy ws s k).length≤k:=Nat.le_trans (List.length_filter_le _ _) (by rw [List.length_take];omega)
theorem Xec (hk:k<ws.length) (h:¬(ws.getD k Xp).X4≠e.X4):Wb ws e (k+1)=Wb ws e k:=by unfold Wb;rw [Xci hk h]
theorem cntW_1 (hk:k<ws.length) (h:(ws.getD k Xp).X4≠e.X4) (h2:(ws.getD k Xp).X1=Jt e):Wb ws e (k+1)=Wb ws e k+1:=by
  unfold Wb;rw [X4z hk h,List.filter_append,List.length_append,List.filter_cons,if_pos (decide_eq_true h2)];simp;omega
theorem cntW_2 (hk:k<ws.length) (h:(ws.getD k Xp).X4≠e.X4) (h2:¬(ws.getD k Xp).X1=Jt e):Wb ws e (k+1)=Wb ws e k:=by
  unfold Wb;rw [X4z hk h,List.filter_append,List.length_append,List.filter_cons,if_neg (by simpa using h2)];simp
theorem Xed:Wb ws e k≤1+k:=by unfold Wb;have:=Nat.le_trans (List.length_filter_le (fun w:X6=>decide (w.X1=Jt e)) (Yy ws e.X4 k)) X0p;omega
end
def Vj (l:Vd) (ws:List X6):Prop:=(l.map fun x=>(⟨x.1,x.2⟩:X6)).Perm ws∧(l.map (·.1)).Nodup
theorem X3h (s:Int) (r:Xd):∀ {l:Vd},(l.map (·.1)).Nodup→(mput l s r).Perm ((l.filter fun x=>decide (x.1≠s))++[(s,r)])
  | [],_=>List.Perm.refl _
  | a::l,h=>by
    rw [List.map_cons,List.nodup_cons] at h
    unfold mput
    by_cases hs:a.1=s
    · rw [if_pos hs,List.filter_cons,if_neg (by simpa using hs)]
      have e:l.filter (fun x=>decide (x.1≠s))=l:=List.filter_eq_self.2 fun x hx=>decide_eq_true fun q=>h.1 (by rw [hs,← q];exact List.mem_map_of_mem hx)
      rw [e]
      exact (List.perm_append_singleton (s,r) l).symm
    · rw [if_neg hs,List.filter_cons,if_pos (by simpa using hs)]
      exact (X3h s r h.2).cons a
theorem Xfn (s:Int) (r:Xd) {l:Vd} (h:(l.map (·.1)).Nodup):((mput l s r).map (·.1)).Nodup:=by
  have hp:=(X3h s r h).map (·.1)
  refine hp.nodup_iff.2 ?_
  rw [List.map_append]
  refine List.nodup_append.2 ⟨(h.sublist ((List.filter_sublist).map _)),by simp,fun x hx y hy=>?_⟩
  obtain ⟨z,hz,rfl⟩:=List.mem_map.1 hx
  simp at hy
  rw [hy]
  simpa using (List.mem_filter.1 hz).2
theorem Xdg {l:Vd} {ws:List X6} (h:Vj l ws) (e:aE):Vj (Xat l e) (X33 ws e):=by
  refine ⟨?_,Xfn _ _ h.2⟩
  have h1:=(X3h e.X4 (Jt e) h.2).map fun x=>(⟨x.1,x.2⟩:X6)
  refine h1.trans ?_
  rw [List.map_append]
  unfold X33 Yy
  rw [List.take_length]
  refine List.Perm.append ?_ (List.Perm.refl _)
  have h2:=h.1.filter fun w=>decide (w.X4≠e.X4)
  rw [List.filter_map] at h2
  exact h2
theorem rel_cnt {l:Vd} {ws:List X6} (h:Vj l ws) (e:aE):Fc (Xat l e) (Jt e)=Wb ws e ws.length:=by
  have h1:=((Xdg h e).1.filter fun w=>decide (w.X1=Jt e)).length_eq
  rw [List.filter_map,List.length_map] at h1
  unfold Fc Wb
  refine h1.trans ?_
  unfold X33
  rw [List.filter_append,List.length_append]
  simp;omega
theorem Xdh {C:aE→Int} {f id st:Int} {l:Vd} {ws:List X6} {e:aE} (h:Vj l ws):Fb C f id st l e↔Fz C f id st ws e:=by
  unfold Fb Fz;rw [rel_cnt h]
theorem rel_told {C:aE→Int} {f id st:Int} {l:Vd} {ws:List X6} {e:aE} (h:Vj l ws):Vj (Id C f id st l e) (Uo C f id st ws e):=by
  unfold Id Uo;split
  · exact Xdg h e
  · exact h
theorem X0l:Vj [] []:=⟨List.Perm.refl _,List.nodup_nil⟩
end Go.Proofs.Ythnefnknoahbkaa.Q
namespace Go.Proofs.Ythnefnknoahbkaa.Q
open Go Go.RowKit
set_option linter.unusedVariables false
set_option linter.unusedSimpArgs false
set_option maxRecDepth 100000
set_option maxHeartbeats 4000000
section
variable (f:Int) (u:Int) (id:Int)
abbrev Zam:HS:=.live (.box 99 [dI (3*f+1),dI u,.mref 1])
abbrev Zan:List AV:=[pv 0 0,vI id,aa,aa,pv 3 0,aa,aa,aa,vB (decide ((X4k u id)<0))]
abbrev Zao:HS:=.live (mpK (W0 .i64) (Xi false) ([]:List (Int×Xd)))
abbrev Zap:SV:=.d (.val (.pointer none))
end
theorem X71 (f:Int) (u:Int) (rows:List (Xw×Bool)) (id:Int) (hf:0≤f∧f≤2) (hu:0≤u∧u≤8) (hid:-9223372036854775808≤id∧id≤9223372036854775807) (hc:Yr u id):Holds Try.prog 18 ⟨[pv 0 0,vI id],[.box 99 [dI (3*f+1),dI u,.mref 1],mpK Xa Y5 rows],pv 2 0,[.live (.box 99 [dI (3*f+1),dI u,.mref 1]),.live (mpK Xa Y5 rows),.live (.box 82 [.ptr 0 0,dI id,dI 0,.d (.val (.pointer none)),.mref 3,.own 4 (X5 false).sz 0 ([]:List Xj).length]),.live (mpK (W0 .i64) (Xi false) ([]:List (Int×Xd))),.live (Xe 78 (X5 false) ([]:List Xj))]⟩:=by
 refine Holds.of Try.func18 rfl (N:=14) Try.ntmps18 rfl fun w0 B0 S0 U0=>?_
 show T _ (Xz 14 2 w0 S0 U0 B0) ⟨[pv 0 0,vI id],[(Zam f u),.live (mpK Xa Y5 rows)]⟩ _ _
 refine sR [] (T.seq (sR [hR 2 rfl rfl (rCa (X8y f u rows id ‹_› ‹_› ‹_›) Try.func41 [0,1] [(.tmp 5,pv 0 0),(.tmp 6,vI id)] 2 2)] ?_))
 by_cases hq1:(X4k u id)<0
 ·exact absurd hq1 (by have ho:=org_cl hc;omega)
 refine cF (dF hq1) (T.skip (nT (sR [hR 2 rfl rfl (X8b 2 (W0 .i64) (Xi false) (X8 rfl))] (T.ret ?_))))
 refine eN ⟨(Zan u id),[(Zam f u),.live (mpK Xa Y5 rows),Zao,.live (.box 82 [.ptr 0 0,dI id,dI 0,Zap,.mref 2,.d (.val (.slice none 0 0))])]⟩ ?_
 refine Xm (s':=⟨(Zan u id),[(Zam f u),.live (mpK Xa Y5 rows),Zao,.live (.box 82 [.ptr 0 0,dI id,dI 0,Zap,.mref 2,.own 4 (X5 false).sz 0 0]),.live (Xe 78 (X5 false) ([]:List Xj))]⟩) (fun _ _ hG=>I7 4 3 5 78 (X5 false) (Tb:=82) (cs:=[.ptr 0 0,dI id,dI 0,Zap,.mref 2,.d (.val (.slice none 0 0))]) rfl rfl rfl hG) ?_
 exact eRt 4 (.one (.ptr 3 0)) [0,1,3,2,4] rfl (ix (ix ⟨⟨rfl,(by have e1:(0:Nat)=([]:List Xj).length:=(by rfl);have hE:=congrArg (fun (q1:Nat)=>(.live (.box 82 [.ptr 0 0,dI id,dI 0,Zap,.mref 2,.own 4 (X5 false).sz 0 q1]):HS)) e1;exact Eq.trans pZ4 hE)⟩,(ix (ix trivial))⟩))
theorem Xbq (f:Int) (u:Int) (rows:List (Xw×Bool)) (id:Int) (hf:0≤f∧f≤2) (hu:0≤u∧u≤8) (hid:-9223372036854775808≤id∧id≤9223372036854775807) (hc:¬Yr u id):Holds Try.prog 18 ⟨[pv 0 0,vI id],[.box 99 [dI (3*f+1),dI u,.mref 1],mpK Xa Y5 rows],dv (.pointer none),[.live (.box 99 [dI (3*f+1),dI u,.mref 1]),.live (mpK Xa Y5 rows)]⟩:=by
 refine Holds.of Try.func18 rfl (N:=14) Try.ntmps18 rfl fun w0 B0 S0 U0=>?_
 show T _ (Xz 14 2 w0 S0 U0 B0) ⟨[pv 0 0,vI id],[.live (.box 99 [dI (3*f+1),dI u,.mref 1]),.live (mpK Xa Y5 rows)]⟩ _ _
 refine sR [] (T.seq (sR [hR 2 rfl rfl (rCa (X8y f u rows id ‹_› ‹_› ‹_›) Try.func41 [0,1] [(.tmp 5,pv 0 0),(.tmp 6,vI id)] 2 2)] ?_))
 by_cases hq1:(X4k u id)<0
 ·refine cT (dT hq1) (sR [] (T.ret (rT ?_)))
  exact eRt 4 (.one (.d (.val (.pointer none)))) [0,1] rfl (ix (ix trivial))
 exact absurd (by have ho:=org_no hc;omega) hq1
theorem X7a:Holds Try.prog 83 ⟨[dv (.pointer none)],[],vI 0,[]⟩:=by
 refine Holds.of Try.func83 rfl (N:=9) Try.ntmps83 rfl fun w0 B0 S0 U0=>?_
 show T _ (Xz 9 0 w0 S0 U0 B0) ⟨[dv (.pointer none)],[]⟩ _ _
 refine sR [] (T.seq (sR [] (cT (b:=true) rfl (sR [] (T.ret (rT ?_))))))
 exact eRt 2 (.one (dI 0)) [] rfl trivial
theorem X7r (s:Int) (hs:-9223372036854775808≤s∧s≤9223372036854775807):Holds Try.prog 65 ⟨[dv (.pointer none),vI s],[],vB false,[]⟩:=by
 refine Holds.of Try.func65 rfl (N:=14) Try.ntmps65 rfl fun w0 B0 S0 U0=>?_
 show T _ (Xz 14 0 w0 S0 U0 B0) ⟨[dv (.pointer none),vI s],[]⟩ _ _
 refine sR [] ?_
 by_cases hq1:s≥1000
 ·refine sR [hY 3 (dT hq1),hS 4 (oY rfl rfl rfl rfl (X8 rfl) (dT hq1) (Y9 (u1:=.int .i64 s) (u2:=.int .i64 1000) (v:=.int .i64 (s-1000)) (X1d pZ5) (X8 rfl) ⟨rfl,trivial⟩)),hY 5 (dT hq1),hS 6 (oY rfl rfl rfl rfl (X8 rfl) (dT hq1) (rCa (X7a  ) Try.func83 [] [(.tmp 10,dv (.pointer none))] 0 0)),hY 7 (dT hq1),hP 8 (dT hq1)] (T.ret ?_)
  exact eRt 4 (.one (dB (decide ((s-1000)<0)))) [] (cB (by exact (dF (by omega)).symm)) trivial
 refine sR (Xl (hN · true (dF hq1)) [3,4,5,6,7] (hP 8 (dF hq1)::[])) (T.ret ?_)
 exact eRt 4 (.one (dB false)) [] rfl trivial
theorem Xd7 (s:Int) (hs:-9223372036854775808≤s∧s≤9223372036854775807):Holds Try.prog 41 ⟨[dv (.pointer none),vI s],[],vI (-1),[]⟩:=by
 refine Holds.of Try.func41 rfl (N:=12) Try.ntmps41 rfl fun w0 B0 S0 U0=>?_
 show T _ (Xz 12 0 w0 S0 U0 B0) ⟨[dv (.pointer none),vI s],[]⟩ _ _
 refine sR [] (T.seq (sR [hR 2 rfl rfl (rCa (X7r s ‹_›) Try.func65 [] [(.tmp 5,dv (.pointer none)),(.tmp 6,vI s)] 0 0)] (cT (b:=(!false)) rfl (sR [] (T.ret (rT ?_))))))
 exact eRt 4 (.one (dI (-1))) [] (cI (by rfl)) trivial
theorem X05 (id:Int) (hid:-9223372036854775808≤id∧id≤9223372036854775807):Holds Try.prog 18 ⟨[dv (.pointer none),vI id],[],dv (.pointer none),[]⟩:=by
 refine Holds.of Try.func18 rfl (N:=14) Try.ntmps18 rfl fun w0 B0 S0 U0=>?_
 show T _ (Xz 14 0 w0 S0 U0 B0) ⟨[dv (.pointer none),vI id],[]⟩ _ _
 refine sR [] (T.seq (sR [hR 2 rfl rfl (rCa (Xd7 id ‹_›) Try.func41 [] [(.tmp 5,dv (.pointer none)),(.tmp 6,vI id)] 0 0)] (cT (b:=true) rfl (sR [] (T.ret (rT ?_))))))
 exact eRt 4 (.one (.d (.val (.pointer none)))) [] rfl trivial
section
variable (f:Int) (u:Int) (id:Int) (st:Int) (done:List Xj) (told:List (Int×Xd))
abbrev Zaq:HS:=.live (.box 99 [dI (3*f+1),dI u,.mref 1])
abbrev Zar:HS:=.live (.box 82 [.ptr 0 0,dI id,dI st,.d (.val (.pointer none)),.mref 3,.own 4 (X5 false).sz 0 done.length])
abbrev Zas:HS:=.live (mpK (W0 .i64) (Xi false) told)
abbrev Zat:List AV:=[pv 2 0,aa,pv 5 0,vB false,aa,aa,aa,aa,aa,aa,aa,aa,vB true]
abbrev Zau:SV:=dU ([]:List UInt8)
end
theorem Ib (f:Int) (u:Int) (rows:List (Xw×Bool)) (id:Int) (st:Int) (told:List (Int×Xd)) (done:List Xj):Holds Try.prog 12 ⟨[pv 2 0],[.box 99 [dI (3*f+1),dI u,.mref 1],mpK Xa Y5 rows,.box 82 [.ptr 0 0,dI id,dI st,.d (.val (.pointer none)),.mref 3,.own 4 (X5 false).sz 0 done.length],mpK (W0 .i64) (Xi false) told,Xe 78 (X5 false) done],.tup [.agg [dI zE.X4,dU zE.X9],.one (dB false)],[.live (.box 99 [dI (3*f+1),dI u,.mref 1]),.live (mpK Xa Y5 rows),.live (.box 82 [.ptr 0 0,dI id,dI st,.d (.val (.pointer none)),.mref 3,.own 4 (X5 false).sz 0 done.length]),.live (mpK (W0 .i64) (Xi false) told),.live (Xe 78 (X5 false) done)]⟩:=by
 refine Holds.of Try.func12 rfl (N:=27) Try.ntmps12 rfl fun w0 B0 S0 U0=>?_
 show T _ (Xz 27 5 w0 S0 U0 B0) ⟨[pv 2 0],[(Zaq f u),.live (mpK Xa Y5 rows),(Zar id st done),(Zas told),.live (Xe 78 (X5 false) done)]⟩ _ _
 refine sR [] (T.seq (sR (Xl hY0 [3,4,5,6,7] (hP0 8::[])) (cT (b:=true) rfl (sR [] (T.ret (rT ?_))))))
 refine eN ⟨Zat,[(Zaq f u),.live (mpK Xa Y5 rows),(Zar id st done),(Zas told),.live (Xe 78 (X5 false) done),.live (.box 48 [dI 0,.d (.val (.slice none 0 0))])]⟩ ?_
 refine Xm (s':=⟨Zat,[(Zaq f u),.live (mpK Xa Y5 rows),(Zar id st done),(Zas told),.live (Xe 78 (X5 false) done),.live (.box 48 [dI 0,Zau])]⟩) (fun _ _ hG=>W7 (s:=⟨Zat,[(Zaq f u),.live (mpK Xa Y5 rows),(Zar id st done),(Zas told),.live (Xe 78 (X5 false) done),.live (.box 48 [dI 0,.d (.val (.slice none 0 0))])]⟩) ⟨.inl rfl,p2z⟩ ⟨.inl rfl,(kk4 ⟨p2b,trivial⟩)⟩ hG) ?_
 exact eX [.c 2 5 48 0 48 [dI 0,Zau] (.agg [dI 0,Zau]),.t 3 (.one (dB false))] ⟨⟨rfl,rfl,by kernel_rfl,by kernel_rfl,.inl ⟨2,I1,rfl,Nat.le_of_ble_eq_true rfl⟩⟩,⟨⟨rfl,by kernel_rfl⟩,trivial⟩⟩ [0,1,2,3,4] (cg2 (fun (q1:Int) (q2:List UInt8)=>(.tup [.agg [dI q1,dU q2],.one (dB false)]:AV)) (by rfl) (by rfl)) (ix (ix (ix (ix (ix trivial)))))
section
variable (f:Int) (u:Int) (rows:List (Xw×Bool)) (id:Int) (st:Int) (told:List (Int×Xd)) (done:List Xj) (E:aE)
abbrev Zav:HS:=.live (.box 99 [dI (3*f+1),dI u,.mref 1])
abbrev Zaw:HS:=.live (.box 82 [.ptr 0 0,dI id,dI st,.ptr 5 0,.mref 3,.own 4 (X5 false).sz 0 done.length])
abbrev Zax:HS:=.live (.box 48 [dI E.X4,dU E.X9])
abbrev Zay:List AV:=[pv 2 0,aa,pv 6 0,vB true,aa,aa,aa,aa,aa,aa,aa,aa,vB false]
abbrev Zaz:St:=⟨Zay,[(Zav f u),.live (mpK Xa Y5 rows),(Zaw id st done),.live (mpK (W0 .i64) (Xi false) told),.live (Xe 78 (X5 false) done),(Zax E),.live (.box 48 [dI id,.own 7 kU8.sz 0 E.X9.length]),.live (Xe 5 kU8 E.X9)]⟩
end
theorem H2 (f:Int) (u:Int) (rows:List (Xw×Bool)) (id:Int) (st:Int) (told:List (Int×Xd)) (done:List Xj) (E:aE) (hEl:E.X9.length≤100000000):Holds Try.prog 12 ⟨[pv 2 0],[.box 99 [dI (3*f+1),dI u,.mref 1],mpK Xa Y5 rows,.box 82 [.ptr 0 0,dI id,dI st,.ptr 5 0,.mref 3,.own 4 (X5 false).sz 0 done.length],mpK (W0 .i64) (Xi false) told,Xe 78 (X5 false) done,.box 48 [dI E.X4,dU E.X9]],.tup [.agg [dI (Yf id E).X4,dU (Yf id E).X9],.one (dB true)],[.live (.box 99 [dI (3*f+1),dI u,.mref 1]),.live (mpK Xa Y5 rows),.live (.box 82 [.ptr 0 0,dI id,dI st,.ptr 5 0,.mref 3,.own 4 (X5 false).sz 0 done.length]),.live (mpK (W0 .i64) (Xi false) told),.live (Xe 78 (X5 false) done),.live (.box 48 [dI E.X4,dU E.X9])]⟩:=by
 refine Holds.of Try.func12 rfl (N:=27) Try.ntmps12 rfl fun w0 B0 S0 U0=>?_
 show T _ (Xz 27 6 w0 S0 U0 B0) ⟨[pv 2 0],[(Zav f u),.live (mpK Xa Y5 rows),(Zaw id st done),.live (mpK (W0 .i64) (Xi false) told),.live (Xe 78 (X5 false) done),(Zax E)]⟩ _ _
 refine sR [] (T.seq (sR (Xl hY0 [3,4,5,6,7] (hP0 8::[])) (cF (b:=false) rfl (T.skip (nT ?_)))))
 refine sD [[],[0],[0,1],[0,1,2],[],[4],[4,5],[4,5,6],[4,5,6,7],[4,5,6,7,8],[4,5,6,7,8,9],[4,5,6,7,8,9,10],[0,1,2,3,4,5,6,7,8,9,10,11],[0,1,2,3,4,5,6,7,8,9,10,11,12],[0,1,2,3,4,5,6,7,8,9,10,11,12,13]] [hR 11 rfl rfl (rCa (X04 false false E.X9 (by omega)) Try.func32 [7] [(.tmp 24,slV false false kU8 E.X9)] 0 1)] (T.ret ?_)
 refine eN (Zaz f u rows id st told done E) ?_
 refine Xm (s':=⟨Zay,[(Zav f u),.live (mpK Xa Y5 rows),(Zaw id st done),.live (mpK (W0 .i64) (Xi false) told),.live (Xe 78 (X5 false) done),(Zax E),.live (.box 48 [dI id,dU E.X9]),.dead]⟩) (fun _ _ hG=>Gs.freeze (s:=(Zaz f u rows id st told done E)) 7 (el:=We kU8 E.X9) (sz:=kU8.sz) (n:=E.X9.length) rfl ⟨.inl rfl,p2z⟩ ⟨pc,⟨pc,⟨pc,⟨pc,⟨pc,⟨pc,⟨pZ23,⟨(.inl ⟨rfl,rfl⟩),trivial⟩⟩⟩⟩⟩⟩⟩⟩ hG) ?_
 exact eX [.c 2 6 48 0 48 [dI id,dU E.X9] (.agg [dI id,dU E.X9]),.t 3 (.one (dB true))] ⟨⟨rfl,rfl,by kernel_rfl,by kernel_rfl,.inl ⟨2,I1,rfl,Nat.le_of_ble_eq_true rfl⟩⟩,⟨⟨rfl,by kernel_rfl⟩,trivial⟩⟩ [0,1,2,3,4,5] (cg2 (fun (q1:Int) (q2:List UInt8)=>(.tup [.agg [dI q1,dU q2],.one (dB true)]:AV)) (by rfl) (by rfl)) (ix (ix (ix (ix (ix (ix trivial))))))
abbrev Zb0:List AV:=[dv (.pointer none),aa,pv 0 0,vB false,aa,aa,aa,aa,aa,aa,aa,aa,vB true]
abbrev Zb1:St:=⟨Zb0,[.live (.box 48 [dI 0,.d (.val (.slice none 0 0))])]⟩
abbrev Zb2:SV:=dU ([]:List UInt8)
theorem Hx:Holds Try.prog 12 ⟨[dv (.pointer none)],[],.tup [.agg [dI zE.X4,dU zE.X9],.one (dB false)],[]⟩:=by
 refine Holds.of Try.func12 rfl (N:=27) Try.ntmps12 rfl fun w0 B0 S0 U0=>?_
 show T _ (Xz 27 0 w0 S0 U0 B0) ⟨[dv (.pointer none)],[]⟩ _ _
 refine sR [] (T.seq (sR (Xl hN0 [3,4,5,6,7] (hP1 8::[])) (cT (b:=true) rfl (sR [] (T.ret (rT ?_))))))
 refine eN Zb1 ?_
 refine Xm (s':=⟨Zb0,[.live (.box 48 [dI 0,Zb2])]⟩) (fun _ _ hG=>W7 (s:=Zb1) ⟨.inl rfl,p2z⟩ ⟨p2b,trivial⟩ hG) ?_
 exact eX [.c 2 0 48 0 48 [dI 0,Zb2] (.agg [dI 0,Zb2]),.t 3 (.one (dB false))] ⟨⟨rfl,rfl,by kernel_rfl,by kernel_rfl,.inl ⟨2,I1,rfl,Nat.le_of_ble_eq_true rfl⟩⟩,⟨⟨rfl,by kernel_rfl⟩,trivial⟩⟩ [] (cg2 (fun (q1:Int) (q2:List UInt8)=>(.tup [.agg [dI q1,dU q2],.one (dB false)]:AV)) (by rfl) (by rfl)) trivial
abbrev Zb3 (id:Int) (st:Int) (done:List Xj):HS:=.live (.box 82 [.ptr 0 0,dI id,dI st,.d (.val (.pointer none)),.mref 3,.own 4 (X5 false).sz 0 done.length])
abbrev Zb4:List AV:=[pv 2 0,aa,dv (.slice none 0 0),pv 5 0,vB false,aa,aa,aa,aa,aa,aa,vB (!false)]
abbrev Zb5 (f:Int) (u:Int) (rows:List (Xw×Bool)) (id:Int) (st:Int) (told:List (Int×Xd)) (done:List Xj):List HS:=[.live (.box 99 [dI (3*f+1),dI u,.mref 1]),.live (mpK Xa Y5 rows),(Zb3 id st done),.live (mpK (W0 .i64) (Xi false) told),.live (Xe 78 (X5 false) done),.live (.box 48 [dI zE.X4,dU zE.X9])]
theorem X1b (f:Int) (u:Int) (rows:List (Xw×Bool)) (id:Int) (st:Int) (told:List (Int×Xd)) (done:List Xj):Holds Try.prog 17 ⟨[pv 2 0],[.box 99 [dI (3*f+1),dI u,.mref 1],mpK Xa Y5 rows,.box 82 [.ptr 0 0,dI id,dI st,.d (.val (.pointer none)),.mref 3,.own 4 (X5 false).sz 0 done.length],mpK (W0 .i64) (Xi false) told,Xe 78 (X5 false) done],slV false false (Y0 false) ([]:List Y7),[.live (.box 99 [dI (3*f+1),dI u,.mref 1]),.live (mpK Xa Y5 rows),.live (.box 82 [.ptr 0 0,dI id,dI st,.d (.val (.pointer none)),.mref 3,.own 4 (X5 false).sz 0 done.length]),.live (mpK (W0 .i64) (Xi false) told),.live (Xe 78 (X5 false) done)]⟩:=by
 refine Holds.of Try.func17 rfl (N:=15) Try.ntmps17 rfl fun w0 B0 S0 U0=>?_
 show T _ (Xz 15 5 w0 S0 U0 B0) ⟨[pv 2 0],[.live (.box 99 [dI (3*f+1),dI u,.mref 1]),.live (mpK Xa Y5 rows),(Zb3 id st done),.live (mpK (W0 .i64) (Xi false) told),.live (Xe 78 (X5 false) done)]⟩ _ _
 refine sR [] (sR [hR 1 rfl rfl (rCa (Ib f u rows id st told done ) Try.func12 [0,1,2,3,4] [(.tmp 6,pv 2 0)] 5 5)] (T.seq (sR [] (cT (b:=(!false)) rfl (sR [] (T.ret (rT ?_)))))))
 refine eN ⟨Zb4,(Zb5 f u rows id st told done)⟩ ?_
 refine Xm (s':=⟨[pv 2 0,aa,slV false false (Y0 false) ([]:List Y7),pv 5 0,vB false,aa,aa,aa,aa,aa,aa,vB (!false)],(Zb5 f u rows id st told done)⟩) (fun _ _ hG=>W7 (s:=⟨Zb4,(Zb5 f u rows id st told done)⟩) p48 p3d hG) ?_
 exact eRt 2 (.one (.d (dsl false false (Y0 false) ([]:List Y7)))) [0,1,2,3,4] rfl (ix (ix (ix (ix (ix trivial)))))
theorem Fa:Try.prog.info? 76=some Try.t76:=by kernel_rfl
theorem Xda:Zero Try.prog 76 [.int .i64 0,.int .i64 0,.slice none 0 0]:=⟨_,_,Fa,rfl,rfl⟩
section
variable (f:Int) (u:Int) (rows:List (Xw×Bool)) (id:Int) (st:Int) (told:List (Int×Xd)) (done:List Xj) (E:aE)
abbrev Zb6:HS:=.live (.box 99 [dI (3*f+1),dI u,.mref 1])
abbrev Zb7:HS:=.live (.box 82 [.ptr 0 0,dI id,dI st,.ptr 5 0,.mref 3,.own 4 (X5 false).sz 0 done.length])
abbrev Zb8:HS:=.live (.box 48 [dI E.X4,dU E.X9])
abbrev Zb9:St:=⟨[pv 2 0,aa,Y3 7 (Y0 false) 0 [(Y7.mk (-1) (Yf id E))].length,pv 6 0,vB true,aa,aa,aa,aa,aa,aa,vB (!true)],[(Zb6 f u),.live (mpK Xa Y5 rows),(Zb7 id st done),.live (mpK (W0 .i64) (Xi false) told),.live (Xe 78 (X5 false) done),(Zb8 E),.live (.box 48 [dI (Yf id E).X4,dU (Yf id E).X9]),.live (Xe 76 (Y0 false) [(Y7.mk (-1) (Yf id E))])]⟩
end
theorem X1c (f:Int) (u:Int) (rows:List (Xw×Bool)) (id:Int) (st:Int) (told:List (Int×Xd)) (done:List Xj) (E:aE) (hEl:E.X9.length≤100000000):Holds Try.prog 17 ⟨[pv 2 0],[.box 99 [dI (3*f+1),dI u,.mref 1],mpK Xa Y5 rows,.box 82 [.ptr 0 0,dI id,dI st,.ptr 5 0,.mref 3,.own 4 (X5 false).sz 0 done.length],mpK (W0 .i64) (Xi false) told,Xe 78 (X5 false) done,.box 48 [dI E.X4,dU E.X9]],slV false false (Y0 false) (Vb id E),[.live (.box 99 [dI (3*f+1),dI u,.mref 1]),.live (mpK Xa Y5 rows),.live (.box 82 [.ptr 0 0,dI id,dI st,.ptr 5 0,.mref 3,.own 4 (X5 false).sz 0 done.length]),.live (mpK (W0 .i64) (Xi false) told),.live (Xe 78 (X5 false) done),.live (.box 48 [dI E.X4,dU E.X9])]⟩:=by
 refine Holds.of Try.func17 rfl (N:=15) Try.ntmps17 rfl fun w0 B0 S0 U0=>?_
 show T _ (Xz 15 6 w0 S0 U0 B0) ⟨[pv 2 0],[(Zb6 f u),.live (mpK Xa Y5 rows),(Zb7 id st done),.live (mpK (W0 .i64) (Xi false) told),.live (Xe 78 (X5 false) done),(Zb8 E)]⟩ _ _
 refine sR [] (sR [hR 1 rfl rfl (rCa (H2 f u rows id st told done E ‹_›) Try.func12 [0,1,2,3,4,5] [(.tmp 6,pv 2 0)] 6 6)] (T.seq (sR [] (cF (b:=(!true)) rfl (T.skip (nT (sR [hR 2 rfl rfl (Yd 7 76 (Y0 false) (X16 false) [(Y7.mk (-1) (Yf id E))] [⟨0,.tmp 13,.agg [dI (-1),dI (Yf id E).X4,dU (Yf id E).X9],0⟩] (cs:=[dI (-1),dI (Yf id E).X4,dU (Yf id E).X9]) Try.underlying57 Fa rfl Xda rfl rfl rfl pf (Ws rfl rfl pf Wn) pZ4 (Vz pZ4) (X8 rfl) trivial)] (T.ret ?_))))))))
 refine eN (Zb9 f u rows id st told done E) ?_
 refine Xm (s':=⟨[pv 2 0,aa,slV false false (Y0 false) [(Y7.mk (-1) (Yf id E))],pv 6 0,vB true,aa,aa,aa,aa,aa,aa,vB (!true)],[(Zb6 f u),.live (mpK Xa Y5 rows),(Zb7 id st done),.live (mpK (W0 .i64) (Xi false) told),.live (Xe 78 (X5 false) done),(Zb8 E),.live (.box 48 [dI (Yf id E).X4,dU (Yf id E).X9]),.dead]⟩) (fun _ _ hG=>Gs.freeze (s:=(Zb9 f u rows id st told done E)) 7 (el:=We (Y0 false) [(Y7.mk (-1) (Yf id E))]) (sz:=(Y0 false).sz) (n:=[(Y7.mk (-1) (Yf id E))].length) rfl (kk2 ⟨(.inr pZ6),⟨.inl rfl,(kk8 trivial)⟩⟩) ⟨pc,⟨pc,⟨pc,⟨pc,⟨pc,⟨pc,⟨pc,⟨(.inl ⟨rfl,rfl⟩),trivial⟩⟩⟩⟩⟩⟩⟩⟩ hG) ?_
 exact eRt 2 (.one (.d (dsl false false (Y0 false) [(Y7.mk (-1) (Yf id E))]))) [0,1,2,3,4,5] p40 (ix (ix (ix (ix (ix (ix trivial))))))
abbrev Zba:List HS:=[.live (.box 48 [dI zE.X4,dU zE.X9])]
abbrev Zbb:St:=⟨[dv (.pointer none),aa,dv (.slice none 0 0),pv 0 0,vB false,aa,aa,aa,aa,aa,aa,vB (!false)],Zba⟩
theorem Fe:Holds Try.prog 17 ⟨[dv (.pointer none)],[],slV false false (Y0 false) ([]:List Y7),[]⟩:=by
 refine Holds.of Try.func17 rfl (N:=15) Try.ntmps17 rfl fun w0 B0 S0 U0=>?_
 show T _ (Xz 15 0 w0 S0 U0 B0) ⟨[dv (.pointer none)],[]⟩ _ _
 refine sR [] (sR [hR 1 rfl rfl (rCa (Hx  ) Try.func12 [] [(.tmp 6,dv (.pointer none))] 0 0)] (T.seq (sR [] (cT (b:=(!false)) rfl (sR [] (T.ret (rT ?_)))))))
 refine eN Zbb ?_
 refine Xm (s':=⟨[dv (.pointer none),aa,slV false false (Y0 false) ([]:List Y7),pv 0 0,vB false,aa,aa,aa,aa,aa,aa,vB (!false)],Zba⟩) (fun _ _ hG=>W7 (s:=Zbb) p48 ⟨.inl rfl,trivial⟩ hG) ?_
 exact eRt 2 (.one (.d (dsl false false (Y0 false) ([]:List Y7)))) [] rfl trivial
theorem Fx:Try.prog.info? 78=some Try.t78:=by kernel_rfl
theorem X4q:Zero Try.prog 78 [.int .i64 0,.int .i64 0,.int .i64 0,.int .i64 0]:=⟨_,_,Fx,rfl,rfl⟩
theorem X53:Elem Try.prog 51 78 4 32:=⟨Try.underlying51,_,_,Fx,rfl,rfl,rfl,rfl,by decide⟩
abbrev Zbc:St:=⟨[dv (.slice none 0 0),aa,dv (.slice none 0 0),aa,vB true],[]⟩
abbrev Zbd (ta:Bool) (a:List Xj):St:=⟨[slV ta true (X5 false) a,aa,Y3 1 (X5 false) 0 a.length,aa,vB false],[.dead,.live (Xe 78 (X5 false) a)]⟩
abbrev Zbe (ta:Bool) (a:List Xj):St:=⟨[slV ta true (X5 false) a,aa,slV false false (X5 false) a,aa,vB false],[.dead,.dead]⟩
theorem X6y (ta:Bool) (na:Bool) (a:List Xj) (hp:a.length≤1000000):Holds Try.prog 33 ⟨[slV ta na (X5 false) a],[],slV false false (X5 false) a,[]⟩:=by
 refine Holds.of Try.func33 rfl (N:=8) Try.ntmps33 rfl fun w0 B0 S0 U0=>?_
 show T _ (Xz 8 0 w0 S0 U0 B0) ⟨[slV ta na (X5 false) a],[]⟩ _ _
 cases na
 ·refine Xen (k:=0) rfl (fun h0=>?_) ?_
  ·have h0:=List.eq_nil_of_length_eq_zero h0
   subst h0
   show T _ _ ⟨[dv (.slice none 0 0)],[]⟩ _ _
   refine sR [] (T.seq (sR [hR 1 rfl rfl (Y9 (u1:=.slice none 0 0) (u2:=.slice none 0 0) (v:=.bool true) (X8x Try.underlying51) (X8 rfl) ⟨rfl,trivial⟩)] (cT (b:=true) rfl (sR [] (T.ret (rT ?_))))))
   refine eN Zbc ?_
   refine Xm (s':=⟨[dv (.slice none 0 0),aa,slV false false (X5 false) ([]:List Xj),aa,vB true],[]⟩) (fun _ _ hG=>W7 (s:=Zbc) (kk2 ⟨pZ9,(kk2 trivial)⟩) trivial hG) ?_
   exact eRt 2 (.one (.d (dsl false false (X5 false) ([]:List Xj)))) [] rfl trivial
  show T _ _ ⟨[slV ta true (X5 false) a],[]⟩ _ _
  refine sR [] (T.seq (sR [hR 1 rfl rfl (X4w (s:=.d (dsl ta true (X5 false) a)) Try.underlying51 (.inl rfl) (X8 rfl) ⟨rfl,trivial⟩)] (cF (b:=false) rfl (T.skip (nT ?_)))))
  refine sR [hR 0 rfl rfl (Yd 0 78 (X5 false) (U1 false) ([]:List Xj) [] (cs:=[]) Try.underlying51 Fx rfl X4q rfl rfl rfl pf Wn pZ4 (Vz pZ4) (X8 rfl) trivial),hR 2 rfl rfl (W4 0 1 78 32 (X5 false) (U1 false) ([]:List Xj) a a ([]:List Xj).length (sy:=(.d (dsl ta true (X5 false) a))) (rhs:=[]) X53 (by omega) (Jb ta true (X5 false) a) (by simp) (by (simp [maxLen,-List.getD_eq_getElem?_getD]<;>omega)) (by (simp [maxLen,-List.getD_eq_getElem?_getD]<;>omega)) (X8 rfl) trivial)] ?_
  refine T.ret ?_
  refine eN (Zbd ta a) ?_
  refine Xm (s':=(Zbe ta a)) (fun _ _ hG=>Gs.freeze (s:=(Zbd ta a)) 1 (el:=We (X5 false) a) (sz:=(X5 false).sz) (n:=a.length) rfl (kk2 ⟨(.inr pZ6),(kk2 trivial)⟩) ⟨pc,⟨(.inl ⟨rfl,rfl⟩),trivial⟩⟩ hG) ?_
  exact eRt 2 (.one (.d (dsl false false (X5 false) a))) [] rfl trivial
 refine sR [] (T.seq (sR [hR 1 rfl rfl (X4w (s:=.d (dsl ta true (X5 false) a)) Try.underlying51 (.inl rfl) (X8 rfl) ⟨rfl,trivial⟩)] (cF (b:=false) rfl (T.skip (nT ?_)))))
 refine sR [hR 0 rfl rfl (Yd 0 78 (X5 false) (U1 false) ([]:List Xj) [] (cs:=[]) Try.underlying51 Fx rfl X4q rfl rfl rfl pf Wn pZ4 (Vz pZ4) (X8 rfl) trivial),hR 2 rfl rfl (W4 0 1 78 32 (X5 false) (U1 false) ([]:List Xj) a a ([]:List Xj).length (sy:=(.d (dsl ta true (X5 false) a))) (rhs:=[]) X53 (by omega) (Jb ta true (X5 false) a) (by simp) (by (simp [maxLen,-List.getD_eq_getElem?_getD]<;>omega)) (by (simp [maxLen,-List.getD_eq_getElem?_getD]<;>omega)) (X8 rfl) trivial)] ?_
 refine T.ret ?_
 refine eN (Zbd ta a) ?_
 refine Xm (s':=(Zbe ta a)) (fun _ _ hG=>Gs.freeze (s:=(Zbd ta a)) 1 (el:=We (X5 false) a) (sz:=(X5 false).sz) (n:=a.length) rfl (kk2 ⟨(.inr pZ6),(kk2 trivial)⟩) ⟨pc,⟨(.inl ⟨rfl,rfl⟩),trivial⟩⟩ hG) ?_
 exact eRt 2 (.one (.d (dsl false false (X5 false) a))) [] rfl trivial
end Go.Proofs.Ythnefnknoahbkaa.Q
