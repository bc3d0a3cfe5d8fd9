import Derived.Test.YtnaopgohccacmaaGreatC19n24
namespace Go.Proofs.YtnaopgohccacmaaGreat.Q
open Go Go.RowKit
set_option linter.unusedVariables false
set_option linter.unusedSimpArgs false
set_option maxRecDepth 100000
set_option maxHeartbeats 4000000
abbrev Zd3 (B:List UInt8) (r:List UInt8) (e:Int):HS:=.live (.box 156 [dU B,dI ((V8 B (Vw (rdR r e 8 0) (rdE r e 8 0) 1099511627776):Nat):Int),dI (V5 (rdR r e 8 0) (rdE r e 8 0) 1099511627776)])
abbrev Zd4 (r:List UInt8) (e:Int):=(rdY (rdR r e 8 0) (rdE r e 8 0) 1099511627776)
abbrev Zd5 (B:List UInt8) (r:List UInt8) (e:Int):St:=⟨[pv 0 0,aa,pv 1 0],[(Zd3 B r e),.live (.box 43 [dI (rdI r e),.own 2 kU8.sz 0 (Zd4 r e).length]),.live (Xe 5 kU8 (Zd4 r e))]⟩
theorem X1j (B:List UInt8) (r:List UInt8) (e:Int) (hs:r <:+ B) (hB:B.length≤100000000):Holds Tryz.prog 193 ⟨[pv 0 0],[.box 156 [dU B,dI ((V8 B r:Nat):Int),dI e]],.tv (.agg [dI (evV 1099511627776 r e).X4,dU (evV 1099511627776 r e).Xf]),[.live (.box 156 [dU B,dI ((V8 B (evR 1099511627776 r e):Nat):Int),dI (evE 1099511627776 r e)])]⟩:=by
 refine Holds.of Tryz.func193 rfl (N:=8) Tryz.ntmps193 rfl fun w0 B0 S0 U0=>?_
 show T _ (Y2 8 1 w0 S0 U0 B0) ⟨[pv 0 0],[.live (.box 156 [dU B,dI ((V8 B r:Nat):Int),dI e])]⟩ _ _
 refine sR [] ?_
 refine sR [hR 1 rfl rfl (rCa (I8 B r e (by repeat assumption) (by omega)) Tryz.func94 [0] [(.tmp 3,pv 0 0)] 1 1),hR 3 rfl rfl (rCa (X0d B (rdR r e 8 0) (rdE r e 8 0) 1099511627776 pe (by omega)) Tryz.func95 [0,2] [(.tmp 5,pv 0 0),(.const (.int .i64 1099511627776),vI 1099511627776)] 1 2)] ?_
 refine T.ret ?_
 refine eN (Zd5 B r e) ?_
 refine Xc (s':=⟨[pv 0 0,aa,pv 1 0],[(Zd3 B r e),.live (.box 43 [dI (rdI r e),dU (Zd4 r e)]),.dead]⟩) (fun _ _ hG=>Gs.freeze (s:=(Zd5 B r e)) 2 (el:=W6 kU8 (rdY (rdR r e 8 0) (rdE r e 8 0) 1099511627776)) (sz:=kU8.sz) (n:=(rdY (rdR r e 8 0) (rdE r e 8 0) 1099511627776).length) rfl ⟨.inl rfl,(kk2 trivial)⟩ ⟨pc,⟨p36,⟨(.inl ⟨rfl,rfl⟩),trivial⟩⟩⟩ hG) ?_
 exact eX [.c 2 1 43 0 43 [dI (rdI r e),dU (Zd4 r e)] (.agg [dI (rdI r e),dU (Zd4 r e)])] ⟨⟨rfl,rfl,by kernel_rfl,by kernel_rfl,.inl ⟨2,F8,rfl,Nat.le_of_ble_eq_true rfl⟩⟩,trivial⟩ [0] (cg2 (fun (q1:Int) (q2:List UInt8)=>(.tv (.agg [dI q1,dU q2]):AV)) (by rfl) (by rfl)) ⟨⟨rfl,(by have e1:(((V8 B (Vw (rdR r e 8 0) (rdE r e 8 0) 1099511627776):Nat):Int):Int)=((V8 B (evR 1099511627776 r e):Nat):Int):=(by rfl);have e2:((V5 (rdR r e 8 0) (rdE r e 8 0) 1099511627776):Int)=(evE 1099511627776 r e):=(by rfl);have hE:=congr p2m e2;exact Eq.trans pZ7 hE)⟩,trivial⟩
section
variable (B:List UInt8) (r:List UInt8) (e:Int) (k:Nat)
abbrev Zd6:SV:=dU B
abbrev Zd7:AV:=vI ((rdC r e 15:Nat):Int)
abbrev Zd8:HS:=.live (.box 156 [(Zd6 B),dI ((V8 B (rdR r e 4 (Yu 15 (r.take 4))):Nat):Int),dI (rdE r e 4 (Yu 15 (r.take 4)))])
abbrev Zd9:=(Vm 1099511627776 r e k)
abbrev Zda:AV:=Y9 1 (kE false) 0 (Zd9 r e k).l.length
abbrev Zdb:List HS:=[.live (.box 156 [(Zd6 B),dI ((V8 B (Zd9 r e k).rest:Nat):Int),dI (Zd9 r e k).e]),.live (Xe 43 (kE false) (Zd9 r e k).l)]
abbrev Zde:=(evV 1099511627776 (Zd9 r e k).rest (Zd9 r e k).e)
abbrev Zdf:AV:=vI ((k+1:Nat):Int)
abbrev Zdg:List HS:=[.live (.box 156 [(Zd6 B),dI ((V8 B (Vm 1099511627776 r e (k+1)).rest:Nat):Int),dI (Vm 1099511627776 r e (k+1)).e]),.live (Xe 43 (kE false) (Vm 1099511627776 r e (k+1)).l)]
abbrev Zdh:List AV:=[pv 0 0,aa,(Zda r e k),(Zda r e k),(Zd7 r e),vI ((k:Nat):Int),aa,aa,aa,aa,vB (decide (((k:Nat):Int)<((rdC r e 15:Nat):Int)))]
end
theorem Ek (B:List UInt8) (r:List UInt8) (e:Int) (hs:r <:+ B) (hB:B.length≤100000000):Holds Tryz.prog 192 ⟨[pv 0 0],[.box 156 [dU B,dI ((V8 B r:Nat):Int),dI e]],slV false false (kE false) (Uq 1099511627776 r e).l,[.live (.box 156 [dU B,dI ((V8 B (Uq 1099511627776 r e).rest:Nat):Int),dI (Uq 1099511627776 r e).e])]⟩:=by
 refine Holds.of Tryz.func192 rfl (N:=19) Tryz.ntmps192 rfl fun w0 B0 S0 U0=>?_
 show T _ (Y2 19 1 w0 S0 U0 B0) ⟨[pv 0 0],[.live (.box 156 [(Zd6 B),dI ((V8 B r:Nat):Int),dI e])]⟩ _ _
 refine sR [] ?_
 refine sR [] ?_
 refine sR [hR 1 rfl rfl (rCa (X4m B r e 15 (by repeat assumption) (by omega)) Tryz.func137 [0] [(.tmp 6,pv 0 0),(.const (.int .i64 15),vI 15)] 1 1)] ?_
 refine T.seq ?_
 refine sR [] ?_
 refine T.block ?_
 refine tN ⟨[pv 0 0,aa,dv (.slice none 0 0),dv (.slice none 0 0),(Zd7 r e),vI 0],[(Zd8 B r e)]⟩ ?_
 refine Wv (s':=⟨[pv 0 0,aa,dv (.slice none 0 0),Y9 1 (kE false) 0 0,(Zd7 r e),vI 0],[(Zd8 B r e),.live (Xe 43 (kE false) ([]:List aE))]⟩) (fun _ _ hG=>Vy 1 3 43 (kE false) rfl rfl hG) ?_
 refine T.loop (ι:=Nat) (fun (k:Nat)=>⟨[pv 0 0,aa,aa,(Zda r e k),(Zd7 r e),vI ((k:Nat):Int)],(Zdb B r e k)⟩) (fun (k:Nat)=>(k≤rdC r e 15)) (fun (k:Nat)=>rdC r e 15-k) (0) (Nat.zero_le _) (fun _ _ hG=>Yt [0,1] (bm 6 57) (t2:=[pv 0 0,aa,aa,Y9 1 (kE false) 0 0,(Zd7 r e),vI 0]) (h2:=[(Zd8 B r e),.live (Xe 43 (kE false) ([]:List aE))]) (congrArg (fun (q1:Nat)=>([pv 0 0,aa,aa,Y9 1 (kE false) 0 q1,(Zd7 r e),vI 0]:List AV)) (by rfl)) (cg3 (fun (q1:Int) (q2:Int) (q3:List aE)=>([.live (.box 156 [(Zd6 B),dI q1,dI q2]),.live (Xe 43 (kE false) q3)]:List HS)) (by rfl) (by rfl) (by rfl)) hG) ?_
 rintro k hk
 show T _ _ ⟨[pv 0 0,aa,aa,(Zda r e k),(Zd7 r e),vI ((k:Nat):Int)],(Zdb B r e k)⟩ _ _
 replace hk:k≤rdC r e 15:=hk
 have hg:=Fi 1099511627776 r e k
 have hg1:=hg.1
 have hg2:=hg.2
 have hcm:rdC r e 15≤15:=X2m r e 15
 refine T.seq ?_
 refine sR [] ?_
 by_cases hq1:((k:Nat):Int)<((rdC r e 15:Nat):Int)
 ·refine cT (dT hq1) ?_
  refine T.skip (nT (T.seq ?_))
  refine T.block ?_
  refine xR [hR 2 rfl rfl (rCa (X1j B (Vm 1099511627776 r e k).rest (Vm 1099511627776 r e k).e pe ‹_›) Tryz.func193 [0] [(.tmp 14,pv 0 0)] 1 1),hR 3 rfl rfl (Yd 2 43 (kE false) (W5 false) [(evV 1099511627776 (Vm 1099511627776 r e k).rest (Vm 1099511627776 r e k).e)] [⟨0,.tmp 15,.agg [dI (Zde r e k).X4,dU (Zde r e k).Xf],0⟩] (cs:=[dI (Zde r e k).X4,dU (Zde r e k).Xf]) Tryz.underlying37 Vs rfl F7 rfl rfl rfl pd (Yp rfl rfl pd W4) pZ7 (V1 pZ7) (X3 rfl) trivial),hR 4 rfl rfl (Yy 1 3 43 32 (kE false) (W5 false) (Vm 1099511627776 r e k).l [(evV 1099511627776 (Vm 1099511627776 r e k).rest (Vm 1099511627776 r e k).e)] ((Vm 1099511627776 r e k).l++[(evV 1099511627776 (Vm 1099511627776 r e k).rest (Vm 1099511627776 r e k).e)]) (Vm 1099511627776 r e k).l.length (sy:=(.own 2 (kE false).sz 0 [(Zde r e k)].length)) (rhs:=[(2,.live (Xe 43 (kE false) [(Zde r e k)]))]) Fb (by omega) (Wu 2 43 (kE false) [(evV 1099511627776 (Vm 1099511627776 r e k).rest (Vm 1099511627776 r e k).e)]) Jn (by (simp [maxLen,-List.getD_eq_getElem?_getD]<;>omega)) (by (simp [maxLen,-List.getD_eq_getElem?_getD]<;>omega)) (X3 rfl) trivial)] pZ7 pZ7 ?_
  refine nB ?_
  refine nT ?_
  refine xK [hR 1 rfl rfl (Ye (u1:=.int .i64 ((k:Nat):Int)) (u2:=.int .i64 1) (v:=.int .i64 ((k+1:Nat):Int)) (Wa pa) (X3 rfl) ⟨rfl,trivial⟩)] ?_
  refine nL (k+1) (show (k+1)≤rdC r e 15 from (by omega)) (show (rdC r e 15-(k+1):Nat)<rdC r e 15-k from (by omega)) (fun _ _ hG=>Vb [0,3] (bm 6 57) (t1:=[pv 0 0,aa,aa,Y9 3 (kE false) 0 (Vm 1099511627776 r e (k+1)).l.length,(Zd7 r e),(Zdf k)]) (t2:=[pv 0 0,aa,aa,Y9 3 (kE false) 0 ((Zd9 r e k).l++[(Zde r e k)]).length,(Zd7 r e),(Zdf k)]) (h1:=(Zdg B r e k)) (h2:=[.live (.box 156 [(Zd6 B),dI ((V8 B (evR 1099511627776 (Zd9 r e k).rest (Zd9 r e k).e):Nat):Int),dI (evE 1099511627776 (Zd9 r e k).rest (Zd9 r e k).e)]),.live (Xe 43 (kE false) ((Zd9 r e k).l++[(Zde r e k)]))]) (congrArg (fun (q1:Nat)=>([pv 0 0,aa,aa,Y9 3 (kE false) 0 q1,(Zd7 r e),(Zdf k)]:List AV)) (by rfl)) (cg3 (fun (q1:Int) (q2:Int) (q3:List aE)=>([.live (.box 156 [(Zd6 B),dI q1,dI q2]),.live (Xe 43 (kE false) q3)]:List HS)) (by rfl) (by rfl) (by rfl)) hG)
 refine cF (dF hq1) ?_
 refine T.exit ?_
 refine xT ?_
 refine xT ?_
 refine xH ?_
 refine nT ?_
 refine sR [] ?_
 refine T.ret ?_
 refine eN ⟨(Zdh r e k),(Zdb B r e k)⟩ ?_
 refine Xc (s':=⟨[pv 0 0,aa,slV false false (kE false) (Zd9 r e k).l,slV false false (kE false) (Zd9 r e k).l,(Zd7 r e),vI ((k:Nat):Int),aa,aa,aa,aa,vB (decide (((k:Nat):Int)<((rdC r e 15:Nat):Int)))],[.live (.box 156 [(Zd6 B),dI ((V8 B (Zd9 r e k).rest:Nat):Int),dI (Zd9 r e k).e]),.dead]⟩) (fun _ _ hG=>Gs.freeze (s:=⟨(Zdh r e k),(Zdb B r e k)⟩) 1 (el:=W6 (kE false) (Vm 1099511627776 r e k).l) (sz:=(kE false).sz) (n:=(Vm 1099511627776 r e k).l.length) rfl (kk2 ⟨(.inr pZ0),⟨(.inr pZ0),⟨.inl rfl,p4s⟩⟩⟩) ⟨pc,⟨(.inl ⟨rfl,rfl⟩),trivial⟩⟩ hG) ?_
 exact eRt 2 (.one (.d (dsl false false (kE false) (Zd9 r e k).l))) [0] (by have e1:((Uq 1099511627776 r e).l:List aE)=(Vm 1099511627776 r e k).l:=p4r;have hE:=congrArg (fun (q1:List aE)=>(slV false false (kE false) q1:AV)) e1;exact hE) ⟨⟨rfl,(by have e1:(((V8 B (Vm 1099511627776 r e k).rest:Nat):Int):Int)=((V8 B (Uq 1099511627776 r e).rest:Nat):Int):=p4r;have e2:((Vm 1099511627776 r e k).e:Int)=(Uq 1099511627776 r e).e:=p4r;have hE:=congr (congrArg (fun (q1:Int) (q2:Int)=>(.live (.box 156 [(Zd6 B),dI q1,dI q2]):HS)) e1) e2;exact Eq.trans pZ7 hE)⟩,trivial⟩
end Go.Proofs.YtnaopgohccacmaaGreat.Q
