import Derived.Test.YthnefnknoahbkaaGreatC18n15
namespace Go.Proofs.YthnefnknoahbkaaGreat.Q
open Go Go.RowKit
set_option linter.unusedVariables false
set_option linter.unusedSimpArgs false
set_option maxRecDepth 100000
set_option maxHeartbeats 4000000
theorem Xe1:Elem Tryz.prog 40 110 3 56:=⟨Tryz.underlying40,_,_,Jz,rfl,rfl,rfl,rfl,by decide⟩
section
variable (rest:List UInt8) (e:Int) (k:Nat)
abbrev Z61:AV:=vI ((rdC rest e 8:Nat):Int)
abbrev Z62:HS:=.live (.box 162 [dU (rdR rest e 4 (Yc 8 (rest.take 4))),dI (rdE rest e 4 (Yc 8 (rest.take 4)))])
abbrev Z63:HS:=.live (.box 142 [.ptr 0 0])
abbrev Z64:=(Yk 16777216 rest e k)
abbrev Z65:List HS:=[.live (.box 162 [dU (Z64 rest e k).rest,dI (Z64 rest e k).e]),Z63,.live (Xc 110 (kC false) (Z64 rest e k).l)]
abbrev Z66:St:=⟨[aa,pv 1 0,Xx 2 (kC false) 0 (Z64 rest e k).l.length,aa,aa,aa,(Z61 rest e),vI ((k:Nat):Int)],(Z65 rest e k)⟩
abbrev Z69:=(evV 16777216 (Z64 rest e k).rest (Z64 rest e k).e)
abbrev Z6a:=(U3 16777216 (evR 16777216 (Z64 rest e k).rest (Z64 rest e k).e) (evE 16777216 (Z64 rest e k).rest (Z64 rest e k).e))
abbrev Z6b:=(aC.mk (Z69 rest e k) (Z6a rest e k).l)
abbrev Z6c:AV:=vI ((k+1:Nat):Int)
abbrev Z6d:List HS:=[.live (.box 162 [dU (Yk 16777216 rest e (k+1)).rest,dI (Yk 16777216 rest e (k+1)).e]),Z63,.live (Xc 110 (kC false) (Yk 16777216 rest e (k+1)).l)]
abbrev Z6e:List AV:=[aa,pv 1 0,Xx 2 (kC false) 0 (Z64 rest e k).l.length,aa,aa,aa,(Z61 rest e),vI ((k:Nat):Int),vB (decide (((k:Nat):Int)<((rdC rest e 8:Nat):Int)))]
end
theorem Xey (rest:List UInt8) (e:Int) (hr:rest.length≤100000000):Holds Tryz.prog 83 ⟨[.tv (.agg [.ptr 0 0])],[.box 162 [dU rest,dI e]],slV false false (kC false) (Fg 16777216 rest e).l,[.live (.box 162 [dU (Fg 16777216 rest e).rest,dI (Fg 16777216 rest e).e])]⟩:=by
 refine Holds.of Tryz.func83 rfl (N:=21) Tryz.ntmps83 rfl fun w0 B0 S0 U0=>?_
 show T _ (Y0 21 1 w0 S0 U0 B0) ⟨[.tv (.agg [.ptr 0 0])],[.live (.box 162 [dU rest,dI e])]⟩ _ _
 have hr1:=U6 rest e 4 (Yc 8 (rest.take 4))
 refine sR [] (T.seq (sR [hR 2 rfl rfl (rCa (X61 rest e 8 (by omega)) Tryz.func104 [0] [(.tmp 5,pv 0 0),(.const (.int .i64 8),vI 8)] 1 1)] (T.block ?_)))
 refine tN ⟨[.tv (.agg [.ptr 0 0]),pv 1 0,dv (.slice none 0 0),aa,aa,aa,(Z61 rest e),vI 0],[(Z62 rest e),Z63]⟩ ?_
 refine Wv (s':=⟨[.tv (.agg [.ptr 0 0]),pv 1 0,Xx 2 (kC false) 0 0,aa,aa,aa,(Z61 rest e),vI 0],[(Z62 rest e),Z63,.live (Xc 110 (kC false) ([]:List aC))]⟩) (fun _ _ hG=>Vw 2 2 110 (kC false) rfl rfl hG) ?_
 refine T.loop (ι:=Nat) (fun (k:Nat)=>(Z66 rest e k)) (fun (k:Nat)=>(k≤rdC rest e 8)) (fun (k:Nat)=>rdC rest e 8-k) (0) (Nat.zero_le _) (fun _ _ hG=>Y9 [0,1,2] (bm 8 198) (t2:=[aa,pv 1 0,Xx 2 (kC false) 0 0,aa,aa,aa,(Z61 rest e),vI 0]) (h2:=[(Z62 rest e),Z63,.live (Xc 110 (kC false) ([]:List aC))]) (congrArg (fun (q1:Nat)=>([aa,pv 1 0,Xx 2 (kC false) 0 q1,aa,aa,aa,(Z61 rest e),vI 0]:List AV)) (by rfl)) (cg3 (fun (q1:List UInt8) (q2:Int) (q3:List aC)=>([.live (.box 162 [dU q1,dI q2]),Z63,.live (Xc 110 (kC false) q3)]:List HS)) (by rfl) (by rfl) (by rfl)) hG) ?_
 rintro k hk
 show T _ _ (Z66 rest e k) _ _
 replace hk:k≤rdC rest e 8:=hk
 have hg:=Iz 16777216 rest e k
 have hg1:=hg.1
 have hg2:=hg.2
 have hcm:rdC rest e 8≤8:=X0m rest e 8
 have hve:=X4y 16777216 (Yk 16777216 rest e k).rest (Yk 16777216 rest e k).e
 refine sR [] (T.seq ?_)
 by_cases hq1:((k:Nat):Int)<((rdC rest e 8:Nat):Int)
 ·refine cT (dT hq1) (T.skip (nT (T.seq (T.block (sR [hR 1 rfl rfl (rCa (X20 (Yk 16777216 rest e k).rest (Yk 16777216 rest e k).e (by omega)) Tryz.func107 [0] [(.tmp 9,.tv (.agg [.ptr 0 0]))] 1 1)] (sR [hR 1 rfl rfl (rCa (X5c (evR 16777216 (Yk 16777216 rest e k).rest (Yk 16777216 rest e k).e) (evE 16777216 (Yk 16777216 rest e k).rest (Yk 16777216 rest e k).e) (by omega)) Tryz.func82 [0] [(.tmp 12,.tv (.agg [.ptr 0 0]))] 1 1)] ?_))))))
  refine xR [hR 2 rfl rfl (Yb 4 110 (kC false) (Iy false) [(aC.mk (evV 16777216 (Yk 16777216 rest e k).rest (Yk 16777216 rest e k).e) (U3 16777216 (evR 16777216 (Yk 16777216 rest e k).rest (Yk 16777216 rest e k).e) (evE 16777216 (Yk 16777216 rest e k).rest (Yk 16777216 rest e k).e)).l)] [⟨0,.tmp 16,.agg [dI (Z69 rest e k).f_Signer,dU (Z69 rest e k).X7,.d (dsl false false (kE false) (Z6a rest e k).l)],0⟩] (cs:=[dI (Z69 rest e k).f_Signer,dU (Z69 rest e k).X7,.d (dsl false false (kE false) (Z6a rest e k).l)]) Tryz.underlying40 Jz rfl X9s rfl rfl rfl pf (Wi rfl rfl pf Wa) pZ2 (Vk pZ2) (X4 rfl) trivial),hR 3 rfl rfl (Yq 2 5 110 56 (kC false) (Iy false) (Yk 16777216 rest e k).l [(aC.mk (evV 16777216 (Yk 16777216 rest e k).rest (Yk 16777216 rest e k).e) (U3 16777216 (evR 16777216 (Yk 16777216 rest e k).rest (Yk 16777216 rest e k).e) (evE 16777216 (Yk 16777216 rest e k).rest (Yk 16777216 rest e k).e)).l)] ((Yk 16777216 rest e k).l++[(aC.mk (evV 16777216 (Yk 16777216 rest e k).rest (Yk 16777216 rest e k).e) (U3 16777216 (evR 16777216 (Yk 16777216 rest e k).rest (Yk 16777216 rest e k).e) (evE 16777216 (Yk 16777216 rest e k).rest (Yk 16777216 rest e k).e)).l)]) (Yk 16777216 rest e k).l.length (sy:=(.own 4 (kC false).sz 0 [(Z6b rest e k)].length)) (rhs:=[(4,.live (Xc 110 (kC false) [(Z6b rest e k)]))]) Xe1 (by omega) (U4 4 110 (kC false) [(aC.mk (evV 16777216 (Yk 16777216 rest e k).rest (Yk 16777216 rest e k).e) (U3 16777216 (evR 16777216 (Yk 16777216 rest e k).rest (Yk 16777216 rest e k).e) (evE 16777216 (Yk 16777216 rest e k).rest (Yk 16777216 rest e k).e)).l)]) p1o (by (simp [maxLen,-List.getD_eq_getElem?_getD]<;>omega)) (by (simp [maxLen,-List.getD_eq_getElem?_getD]<;>omega)) (X4 rfl) trivial)] pZ2 pZ2 ?_
  refine nB (nT (xK [hR 0 rfl rfl (Y4 (u1:=.int .i64 ((k:Nat):Int)) (u2:=.int .i64 1) (v:=.int .i64 ((k+1:Nat):Int)) (Yn pZ5) (X4 rfl) ⟨rfl,trivial⟩)] ?_))
  refine nL (k+1) (show (k+1)≤rdC rest e 8 from (by omega)) (show (rdC rest e 8-(k+1):Nat)<rdC rest e 8-k from (by omega)) (fun _ _ hG=>Ww [0,1,5] (bm 8 198) (t1:=[aa,pv 1 0,Xx 5 (kC false) 0 (Yk 16777216 rest e (k+1)).l.length,aa,aa,aa,(Z61 rest e),(Z6c k)]) (t2:=[aa,pv 1 0,Xx 5 (kC false) 0 ((Z64 rest e k).l++[(Z6b rest e k)]).length,aa,aa,aa,(Z61 rest e),(Z6c k)]) (h1:=(Z6d rest e k)) (h2:=[.live (.box 162 [dU (Z6a rest e k).rest,dI (Z6a rest e k).e]),Z63,.live (Xc 110 (kC false) ((Z64 rest e k).l++[(Z6b rest e k)]))]) (congrArg (fun (q1:Nat)=>([aa,pv 1 0,Xx 5 (kC false) 0 q1,aa,aa,aa,(Z61 rest e),(Z6c k)]:List AV)) (by rfl)) (cg3 (fun (q1:List UInt8) (q2:Int) (q3:List aC)=>([.live (.box 162 [dU q1,dI q2]),Z63,.live (Xc 110 (kC false) q3)]:List HS)) (by rfl) (by rfl) (by rfl)) hG)
 refine cF (dF hq1) (T.exit (xT (xT (xH (nT (sR [] (T.ret ?_)))))))
 refine eN ⟨(Z6e rest e k),(Z65 rest e k)⟩ ?_
 refine Xh (s':=⟨[aa,pv 1 0,slV false false (kC false) (Z64 rest e k).l,aa,aa,aa,(Z61 rest e),vI ((k:Nat):Int),vB (decide (((k:Nat):Int)<((rdC rest e 8:Nat):Int)))],[.live (.box 162 [dU (Z64 rest e k).rest,dI (Z64 rest e k).e]),Z63,.dead]⟩) (fun _ _ hG=>Gs.freeze (s:=⟨(Z6e rest e k),(Z65 rest e k)⟩) 2 (el:=Yu (kC false) (Yk 16777216 rest e k).l) (sz:=(kC false).sz) (n:=(Yk 16777216 rest e k).l.length) rfl (kk2 ⟨(.inr pZ6),p3m⟩) ⟨pd,⟨pd,⟨(.inl ⟨rfl,rfl⟩),trivial⟩⟩⟩ hG) ?_
 exact eRt 2 (.one (.d (dsl false false (kC false) (Z64 rest e k).l))) [0] (by have e1:((Fg 16777216 rest e).l:List aC)=(Yk 16777216 rest e k).l:=p45;have hE:=congrArg (fun (q1:List aC)=>(slV false false (kC false) q1:AV)) e1;exact hE) ⟨⟨rfl,(by have e1:((Yk 16777216 rest e k).rest:List UInt8)=(Fg 16777216 rest e).rest:=p45;have e2:((Yk 16777216 rest e k).e:Int)=(Fg 16777216 rest e).e:=p45;have hE:=congr pZs e2;exact Eq.trans pZ2 hE)⟩,trivial⟩
section
variable (tb:Bool) (nb:Bool) (b:List UInt8) (j:Nat)
abbrev Z6f:List AV:=[slV tb nb kU8 b,aa,pv 0 0,vI 11,aa,aa,aa,aa,aa,aa,aa,vB (decide (((b.length:Nat):Int)>16777216))]
abbrev Z6g:SV:=.d (.val (.slice none 0 0))
abbrev Z6h:HS:=.live (.box 42 [dI 0,dI 0,dI 0,dI 0,dI 0,dS [],Z6g,dI 0,dI 0,Z6g,Z6g,Z6g])
abbrev Z6i:SV:=dU ([]:List UInt8)
abbrev Z6j:SV:=.d (dsl false false (kE false) ([]:List aE))
abbrev Z6k:SV:=.d (dsl false false (kC false) ([]:List aC))
abbrev Z6l:List SV:=[dI 0,dI 0,dI 0,dI 0,dI 0,dS [],Z6i,dI 0,dI 0,Z6j,Z6j,Z6k]
abbrev Z6m:AV:=vB (decide (okK (rdI b 0)))
abbrev Z6n:List AV:=[slV tb nb kU8 b,aa,pv 0 0,vI 0,pv 2 0,pv 3 0,pv 4 0,(Z6m b),vI 1,aa,aa,vB (decide (((b.length:Nat):Int)>16777216))]
abbrev Z6o:HS:=.live (.box 162 [dU (rdR b 0 8 0),dI (rdE b 0 8 0)])
abbrev Z6p:HS:=.live (.box 142 [.ptr 1 0])
abbrev Z6q:HS:=.live (.box 133 [dI (Y3 (rdI b 0)).V4,dI (Y3 (rdI b 0)).W4,dI (Y3 (rdI b 0)).Wm,dI (Y3 (rdI b 0)).V7])
abbrev Z6r:List HS:=[Z6h,(Z6o b),Z6p,.live (.box 42 [dI (rdI b 0),dI 0,dI 0,dI 0,dI 0,dS [],Z6g,dI 0,dI 0,Z6g,Z6g,Z6g]),(Z6q b)]
abbrev Z6s:HS:=.live (.box 42 [dI (rdI b 0),dI 0,dI 0,dI 0,dI 0,dS [],Z6i,dI 0,dI 0,Z6j,Z6j,Z6k])
abbrev Z6t:AV:=vI ((2 ^ j:Nat):Int)
abbrev Z6u:HS:=.live (.box 142 [.ptr 2 0])
abbrev Z6v:=(Xs ((b.length:Nat):Int) 16777216 (rdR b 0 8 0) (rdE b 0 8 0) (rdI b 0) j)
abbrev Z6w:SV:=dI (Z6v b j).m.X2
abbrev Z6x:SV:=dI (Z6v b j).m.Xr
abbrev Z6y:SV:=dI (Z6v b j).m.Xy
abbrev Z6z:SV:=dI (Z6v b j).m.Xa
abbrev Z70:SV:=dI (Z6v b j).m.Xw
abbrev Z71:SV:=dS (Z6v b j).m.Xb
abbrev Z72:SV:=dU (Z6v b j).m.Xi
abbrev Z73:SV:=dI (Z6v b j).m.X1.Xt
abbrev Z74:SV:=dI (Z6v b j).m.X1.Xn
abbrev Z75:SV:=.d (dsl false false (kE false) (Z6v b j).m.Xe)
abbrev Z76:SV:=.d (dsl false false (kE false) (Z6v b j).m.Xp)
abbrev Z77:SV:=.d (dsl false false (kC false) (Z6v b j).m.X5)
abbrev Z78:List SV:=[(Z6w b j),(Z6x b j),(Z6y b j),(Z6z b j),(Z70 b j),(Z71 b j),(Z72 b j),(Z73 b j),(Z74 b j),(Z75 b j),(Z76 b j),(Z77 b j)]
abbrev Z79:List HS:=[Z6h,Z6u,.live (.box 162 [dU (Z6v b j).rest,dI (Z6v b j).e]),.live (.box 42 (Z78 b j)),(Z6q b)]
abbrev Z7a:=(Xs ((b.length:Nat):Int) 16777216 (rdR b 0 8 0) (rdE b 0 8 0) (rdI b 0) 0)
abbrev Z7b:HS:=.live (.box 162 [dU (Z7a b).rest,dI (Z7a b).e])
abbrev Z7c:HS:=.live (.box 42 [dI (Z7a b).m.X2,dI (Z7a b).m.Xr,dI (Z7a b).m.Xy,dI (Z7a b).m.Xa,dI (Z7a b).m.Xw,dS (Z7a b).m.Xb,dU (Z7a b).m.Xi,dI (Z7a b).m.X1.Xt,dI (Z7a b).m.X1.Xn,.d (dsl false false (kE false) (Z7a b).m.Xe),.d (dsl false false (kE false) (Z7a b).m.Xp),.d (dsl false false (kC false) (Z7a b).m.X5)])
abbrev Z7h:List AV:=[slV tb nb kU8 b,aa,pv 0 0,aa,pv 1 0,pv 3 0,pv 4 0,(Z6m b),vI (((2 ^ j)*2 ^ 1:Nat):Int)]
abbrev Z7i:=(rdR (Z6v b j).rest (Z6v b j).e 8 0)
abbrev Z7j:=(rdE (Z6v b j).rest (Z6v b j).e 8 0)
abbrev Z7k:SV:=dI (rdI (Z6v b j).rest (Z6v b j).e)
abbrev Z7l:HS:=.live (.box 162 [dU (rdR (Z7i b j) (Z7j b j) 8 0),dI (rdE (Z7i b j) (Z7j b j) 8 0)])
abbrev Z7m:=(rdY (Z6v b j).rest (Z6v b j).e ((b.length:Nat):Int))
abbrev Z7n:List AV:=[slV tb nb kU8 b,aa,pv 0 0,aa,pv 1 0,pv 3 0,pv 4 0,(Z6m b),(Z6t j),aa,aa,aa,aa,aa,aa,aa,aa,aa,aa,aa,aa,aa,aa,aa,aa,aa,aa,aa,aa,(Z6m b),aa,aa,aa,aa,aa,aa,vB (decide ((J0 (Y3 (rdI b 0)).V4 ((2 ^ j:Nat):Int))=0)),(Z6t j),vB (decide (((2 ^ j:Nat):Int)=1)),aa,aa,aa,aa,vB (decide (((2 ^ j:Nat):Int)=2)),aa,aa,aa,aa,vB (decide (((2 ^ j:Nat):Int)=4)),aa,aa,aa,aa,aa,aa,aa,vB (decide (((2 ^ j:Nat):Int)=8))]
abbrev Z7o:HS:=.live (.box 162 [dU (Ia (Z6v b j).rest (Z6v b j).e ((b.length:Nat):Int)),dI (Jb (Z6v b j).rest (Z6v b j).e ((b.length:Nat):Int))])
abbrev Z7p:HS:=.live (.box 42 [(Z6w b j),(Z6x b j),(Z6y b j),(Z6z b j),(Z70 b j),dS (Z7m b j),(Z72 b j),(Z73 b j),(Z74 b j),(Z75 b j),(Z76 b j),(Z77 b j)])
abbrev Z7q:List AV:=[slV tb nb kU8 b,aa,pv 0 0,aa,pv 1 0,pv 3 0,pv 4 0,(Z6m b),(Z6t j),aa,aa,aa,aa,aa,aa,aa,aa,aa,aa,aa,aa,aa,aa,aa,aa,aa,aa,aa,aa,(Z6m b),aa,aa,aa,aa,aa,aa,vB (decide ((J0 (Y3 (rdI b 0)).V4 ((2 ^ j:Nat):Int))=0)),(Z6t j),vB (decide (((2 ^ j:Nat):Int)=1)),aa,aa,aa,aa,vB (decide (((2 ^ j:Nat):Int)=2)),aa,aa,aa,aa,vB (decide (((2 ^ j:Nat):Int)=4)),aa,aa,aa,aa,aa,aa,aa,vB (decide (((2 ^ j:Nat):Int)=8)),aa,aa,aa,aa,aa,aa,aa,aa,vB (decide (((2 ^ j:Nat):Int)=16))]
abbrev Z7r:List HS:=[Z6h,Z6u,(Z7o b j),.live (.box 42 [(Z6w b j),(Z6x b j),(Z6y b j),(Z6z b j),(Z70 b j),(Z71 b j),.own 5 kU8.sz 0 (Z7m b j).length,(Z73 b j),(Z74 b j),(Z75 b j),(Z76 b j),(Z77 b j)]),(Z6q b),.live (Xc 5 kU8 (Z7m b j))]
abbrev Z7s:HS:=.live (.box 42 [(Z6w b j),(Z6x b j),(Z6y b j),(Z6z b j),(Z70 b j),(Z71 b j),dU (Z7m b j),(Z73 b j),(Z74 b j),(Z75 b j),(Z76 b j),(Z77 b j)])
abbrev Z7t:=(U3 16777216 (Z6v b j).rest (Z6v b j).e)
abbrev Z7u:=(Fg 16777216 (Z6v b j).rest (Z6v b j).e)
abbrev Z7v:List AV:=[slV tb nb kU8 b,aa,pv 0 0,vI 12,pv 1 0,pv 3 0,pv 4 0,(Z6m b),(Z6t j),aa,aa,aa,aa,aa,aa,aa,aa,aa,aa,aa,aa,aa,aa,aa,aa,aa,aa,aa,aa,(Z6m b),aa,aa,aa,aa,aa,aa,aa,aa,aa,aa,aa,aa,aa,aa,aa,aa,aa,aa,aa,aa,aa,aa,aa,aa,aa,aa,aa,aa,aa,aa,aa,aa,aa,aa,aa,aa,aa,aa,aa,aa,aa,aa,aa,aa,aa,aa,aa,aa,aa,aa,aa,aa,aa,aa,aa,aa,aa,aa,aa,aa,aa,aa,aa,aa,aa,aa,aa,aa,aa,aa,aa,aa,aa,aa,aa,aa,aa,aa,aa,aa,aa,aa,aa,vB true]
abbrev Z7w:HS:=.live (.box 162 [dU (Z6v b j).rest,dI (rdX (Z6v b j).rest (Z6v b j).e)])
abbrev Z7x:List HS:=[Z6h,Z6u,(Z7w b j),.live (.box 42 (Z78 b j)),(Z6q b)]
abbrev Z7y:List HS:=[.live (.box 42 Z6l),Z6u,(Z7w b j),.live (.box 42 (Z78 b j)),(Z6q b)]
abbrev Z7z:TV:=.one (dI 12)
abbrev Z80:List AV:=[slV tb nb kU8 b,aa,pv 0 0,vI 12,pv 1 0,pv 3 0,pv 4 0,(Z6m b),(Z6t j),aa,aa,aa,aa,aa,aa,aa,aa,aa,aa,aa,aa,aa,aa,aa,aa,aa,aa,aa,aa,vB false,aa,aa,aa,aa,aa,aa,aa,aa,aa,aa,aa,aa,aa,aa,aa,aa,aa,aa,aa,aa,aa,aa,aa,aa,aa,aa,aa,aa,aa,aa,aa,aa,aa,aa,aa,aa,aa,aa,aa,aa,aa,aa,aa,aa,aa,aa,aa,aa,aa,aa,aa,aa,aa,aa,aa,aa,aa,aa,aa,aa,aa,aa,aa,aa,aa,aa,aa,aa,aa,aa,aa,aa,aa,aa,aa,aa,aa,aa,aa,aa,aa,aa,aa,vB true]
abbrev Z81:List AV:=[slV tb nb kU8 b,aa,pv 0 0,vI 12,pv 1 0,pv 3 0,pv 4 0,(Z6m b),(Z6t j),aa,aa,aa,aa,aa,aa,aa,aa,aa,aa,aa,aa,aa,aa,aa,aa,aa,aa,aa,aa,vB false,aa,aa,aa,aa,aa,aa,aa,aa,aa,aa,aa,aa,aa,aa,aa,aa,aa,aa,aa,aa,aa,aa,aa,aa,aa,aa,aa,aa,aa,aa,aa,aa,aa,aa,aa,aa,aa,aa,aa,aa,aa,aa,aa,aa,aa,aa,aa,aa,aa,aa,aa,aa,aa,aa,aa,aa,aa,aa,aa,aa,aa,aa,aa,aa,aa,aa,aa,aa,aa,aa,aa,aa,aa,aa,aa,aa,aa,aa,aa,aa,aa,aa,aa,vB (decide ((X1t (Z6v b j).m)≠0))]
end
theorem X6f (tb:Bool) (nb:Bool) (b:List UInt8) (hb:b.length≤140737488355328):Holds Tryz.prog 54 ⟨[slV tb nb kU8 b],[],.tup [.agg [dI (Y2 b).X2,dI (Y2 b).Xr,dI (Y2 b).Xy,dI (Y2 b).Xa,dI (Y2 b).Xw,dS (Y2 b).Xb,dU (Y2 b).Xi,dI (Y2 b).X1.Xt,dI (Y2 b).X1.Xn,.d (dsl false false (kE false) (Y2 b).Xe),.d (dsl false false (kE false) (Y2 b).Xp),.d (dsl false false (kC false) (Y2 b).X5)],.one (dI (X05 b))],[]⟩:=by
 refine Holds.of Tryz.func54 rfl (N:=116) Tryz.ntmps54 rfl fun w0 B0 S0 U0=>?_
 show T _ (Y0 116 0 w0 S0 U0 B0) ⟨[slV tb nb kU8 b],[]⟩ _ _
 have hr1:=U6 b 0 8 0
 refine sR [] (T.seq (sR [] ?_))
 by_cases hq1:((b.length:Nat):Int)>16777216
 ·have hd9:=Xb4 (M:=((b.length:Nat):Int)) (N:=16777216) (b:=b) (by omega)
  refine cT (dT hq1) (sR [] (T.ret (rT ?_)))
  refine eN ⟨(Z6f tb nb b),[Z6h]⟩ ?_
  refine Xh (s':=⟨(Z6f tb nb b),[.live (.box 42 Z6l)]⟩) (fun _ _ hG=>We (s:=⟨(Z6f tb nb b),[Z6h]⟩) p39 ⟨pa,trivial⟩ hG) ?_
  exact eX [.c 2 0 42 0 42 [dI 0,dI 0,dI 0,dI 0,dI 0,dS [],Z6i,dI 0,dI 0,Z6j,Z6j,Z6k] (.agg Z6l),.t 3 (.one (dI 11))] ⟨⟨rfl,rfl,by kernel_rfl,by kernel_rfl,.inl ⟨12,Jx,rfl,Nat.le_of_ble_eq_true rfl⟩⟩,⟨⟨rfl,by kernel_rfl⟩,trivial⟩⟩ [] pZ8 trivial
 have hbl:¬b.length>16777216:=(by omega)
 refine cF (dF hq1) (T.skip (nT (sR [hR 1 rfl rfl (rCa (wire_New tb nb b ‹_›) Tryz.func79 [1] [(.tmp 13,slV tb nb kU8 b)] 0 1)] (sR [hR 1 rfl rfl (rCa (Jc b 0 (by omega)) Tryz.func80 [1] [(.tmp 16,.tv (.agg [.ptr 1 0]))] 1 1)] (sR [hR 2 rfl rfl (rCa (Eu (rdI b 0) ) Tryz.func71 [] [(.tmp 21,vI (rdI b 0))] 0 0)] (T.seq (sR [] (T.block ?_))))))))
 refine tN ⟨(Z6n tb nb b),(Z6r b)⟩ ?_
 refine Wv (s':=⟨(Z6n tb nb b),[Z6h,(Z6o b),Z6p,(Z6s b),(Z6q b)]⟩) (fun _ _ hG=>We (s:=⟨(Z6n tb nb b),(Z6r b)⟩) p39 ⟨.inl rfl,(kk2 ⟨pa,⟨.inl rfl,trivial⟩⟩)⟩ hG) ?_
 refine T.loop (ι:=Nat) (fun (j:Nat)=>⟨[slV tb nb kU8 b,aa,pv 0 0,aa,pv 1 0,pv 3 0,pv 4 0,(Z6m b),(Z6t j)],(Z79 b j)⟩) (fun (j:Nat)=>(j≤9)) (fun (j:Nat)=>9-j) (0) (by omega) (fun _ _ hG=>Ww [0,2,1,3,4] (bm 9 501) (t1:=[slV tb nb kU8 b,aa,pv 0 0,aa,pv 2 0,pv 3 0,pv 4 0,(Z6m b),vI ((2 ^ 0:Nat):Int)]) (t2:=[slV tb nb kU8 b,aa,pv 0 0,aa,pv 2 0,pv 3 0,pv 4 0,(Z6m b),vI 1]) (h1:=[Z6h,Z6p,(Z7b b),(Z7c b),(Z6q b)]) (h2:=[Z6h,Z6p,(Z6o b),(Z6s b),(Z6q b)]) (congrArg (fun (q1:Int)=>([slV tb nb kU8 b,aa,pv 0 0,aa,pv 2 0,pv 3 0,pv 4 0,(Z6m b),vI q1]:List AV)) (by rfl)) (cg14 (fun (q1:List UInt8) (q2:Int) (q3:Int) (q4:Int) (q5:Int) (q6:Int) (q7:Int) (q8:List UInt8) (q9:List UInt8) (q10:Int) (q11:Int) (q12:List aE) (q13:List aE) (q14:List aC)=>([Z6h,Z6p,.live (.box 162 [dU q1,dI q2]),.live (.box 42 [dI q3,dI q4,dI q5,dI q6,dI q7,dS q8,dU q9,dI q10,dI q11,.d (dsl false false (kE false) q12),.d (dsl false false (kE false) q13),.d (dsl false false (kC false) q14)]),(Z6q b)]:List HS)) (by rfl) (by rfl) (by rfl) (by rfl) (by rfl) (by rfl) (by rfl) (by rfl) (by rfl) (by rfl) (by rfl) (by rfl) (by rfl) (by rfl)) hG) ?_
 rintro j hj
 show T _ _ ⟨[slV tb nb kU8 b,aa,pv 0 0,aa,pv 1 0,pv 3 0,pv 4 0,(Z6m b),(Z6t j)],(Z79 b j)⟩ _ _
 replace hj:j≤9:=hj
 have hp9:=Xdk hj
 have hrl:=Ei ((b.length:Nat):Int) 16777216 (rdR b 0 8 0) (rdE b 0 8 0) (rdI b 0) j
 have hr2:=U6 (Xs ((b.length:Nat):Int) 16777216 (rdR b 0 8 0) (rdE b 0 8 0) (rdI b 0) j).rest (Xs ((b.length:Nat):Int) 16777216 (rdR b 0 8 0) (rdE b 0 8 0) (rdI b 0) j).e 8 0
 have hr3:=X4u (Xs ((b.length:Nat):Int) 16777216 (rdR b 0 8 0) (rdE b 0 8 0) (rdI b 0) j).rest (Xs ((b.length:Nat):Int) 16777216 (rdR b 0 8 0) (rdE b 0 8 0) (rdI b 0) j).e ((b.length:Nat):Int)
 obtain ⟨hf1,hf2,hf3,hf4,hf5⟩:=X25 ((b.length:Nat):Int) 16777216 (rdR b 0 8 0) (rdE b 0 8 0) (rdI b 0) j
 refine T.seq ?_
 by_cases hq2:((2 ^ j:Nat):Int)≤256
 rotate_left
 ·have hj9:j=9:=(by have h9:¬j≤8:=fun q=>hq2 ((X95 hj).2 q);omega)
  refine sR [hN 3 true (dF hq2),hP 4 (dF hq2)] (cF (b:=false) rfl (T.exit (xT (xT (xH (nT (T.seq (sR [hR 2 rfl rfl (rCa (rd_End (Xs ((b.length:Nat):Int) 16777216 (rdR b 0 8 0) (rdE b 0 8 0) (rdI b 0) j).rest (Xs ((b.length:Nat):Int) 16777216 (rdR b 0 8 0) (rdE b 0 8 0) (rdI b 0) j).e (by omega)) Tryz.func84 [2] [(.tmp 99,pv 2 0)] 1 1)] ?_))))))))
  by_cases hq14:okK (rdI b 0)
  rotate_left
  ·have hd9:=X3k (M:=((b.length:Nat):Int)) (N:=16777216) (fun q=>hq14 q.2.1) hbl
   refine sR (Xf (hN · false (cn (dF hq14))) [3,4,5,6] (hP 7 (cn (dF hq14))::(Xf hN0 [9,10,11] (hP1 12::[])))) (cT (b:=true) rfl (sR [] (T.ret (rT ?_))))
   refine eN ⟨(Z80 tb nb b j),(Z7x b j)⟩ ?_
   refine Xh (s':=⟨(Z80 tb nb b j),(Z7y b j)⟩) (fun _ _ hG=>We (s:=⟨(Z80 tb nb b j),(Z7x b j)⟩) (kk2 (X6j (X6i p2z))) ⟨pa,(kk4 trivial)⟩ hG) ?_
   exact eX [.c 2 0 42 0 42 [dI 0,dI 0,dI 0,dI 0,dI 0,dS [],Z6i,dI 0,dI 0,Z6j,Z6j,Z6k] (.agg Z6l),.t 3 (Z7z)] ⟨⟨rfl,rfl,by kernel_rfl,by kernel_rfl,.inl ⟨12,Jx,rfl,Nat.le_of_ble_eq_true rfl⟩⟩,⟨⟨rfl,by kernel_rfl⟩,trivial⟩⟩ [] pZ8 trivial
  by_cases hq15:(rdX (Xs ((b.length:Nat):Int) 16777216 (rdR b 0 8 0) (rdE b 0 8 0) (rdI b 0) j).rest (Xs ((b.length:Nat):Int) 16777216 (rdR b 0 8 0) (rdE b 0 8 0) (rdI b 0) j).e)≠0
  ·have hF:(Xs ((b.length:Nat):Int) 16777216 (rdR b 0 8 0) (rdE b 0 8 0) (rdI b 0) j)=X3h ((b.length:Nat):Int) 16777216 b:=(by rw [hj9];rfl);have hd9:=X3k (M:=((b.length:Nat):Int)) (N:=16777216) (fun q=>hq15 (by rw [hF];exact q.2.2.1)) hbl
   refine sR (hY 3 (cn (dT hq14))::(hY 4 (cn (dT hq14))::(hS 5 (oY rfl rfl rfl rfl (X4 rfl) (cn (dT hq14)) (rCa (rd_Err (Xs ((b.length:Nat):Int) 16777216 (rdR b 0 8 0) (rdE b 0 8 0) (rdI b 0) j).rest (rdX (Xs ((b.length:Nat):Int) 16777216 (rdR b 0 8 0) (rdE b 0 8 0) (rdI b 0) j).rest (Xs ((b.length:Nat):Int) 16777216 (rdR b 0 8 0) (rdE b 0 8 0) (rdI b 0) j).e) ) Tryz.func85 [2] [(.tmp 105,pv 2 0)] 1 1))::(hY 6 (cn (dT hq14))::(hP 7 (cn (dT hq14))::(Xf (hN · false (dT hq15)) [9,10,11] (hP 12 (dT hq15)::[]))))))) (cT (b:=true) rfl (sR [] (T.ret (rT ?_))))
   refine eN ⟨(Z80 tb nb b j),(Z7x b j)⟩ ?_
   refine Xh (s':=⟨(Z80 tb nb b j),(Z7y b j)⟩) (fun _ _ hG=>We (s:=⟨(Z80 tb nb b j),(Z7x b j)⟩) (kk2 (X6j (X6i p2z))) ⟨pa,(kk4 trivial)⟩ hG) ?_
   exact eX [.c 2 0 42 0 42 [dI 0,dI 0,dI 0,dI 0,dI 0,dS [],Z6i,dI 0,dI 0,Z6j,Z6j,Z6k] (.agg Z6l),.t 3 (Z7z)] ⟨⟨rfl,rfl,by kernel_rfl,by kernel_rfl,.inl ⟨12,Jx,rfl,Nat.le_of_ble_eq_true rfl⟩⟩,⟨⟨rfl,by kernel_rfl⟩,trivial⟩⟩ [] pZ8 trivial
  refine sR [hY 3 (cn (dT hq14)),hY 4 (cn (dT hq14)),hS 5 (oY rfl rfl rfl rfl (X4 rfl) (cn (dT hq14)) (rCa (rd_Err (Xs ((b.length:Nat):Int) 16777216 (rdR b 0 8 0) (rdE b 0 8 0) (rdI b 0) j).rest (rdX (Xs ((b.length:Nat):Int) 16777216 (rdR b 0 8 0) (rdE b 0 8 0) (rdI b 0) j).rest (Xs ((b.length:Nat):Int) 16777216 (rdR b 0 8 0) (rdE b 0 8 0) (rdI b 0) j).e) ) Tryz.func85 [2] [(.tmp 105,pv 2 0)] 1 1)),hY 6 (cn (dT hq14)),hP 7 (cn (dT hq14)),hY 9 (dF hq15),hS 10 (oY rfl rfl rfl rfl (X4 rfl) (dF hq15) (rCa (X8b false (Xs ((b.length:Nat):Int) 16777216 (rdR b 0 8 0) (rdE b 0 8 0) (rdI b 0) j).m (by omega) (by omega) (by omega) (by omega) (by omega)) Tryz.func70 [] [(.tmp 110,.tv (.agg (Z78 b j)))] 0 0)),hY 11 (dF hq15),hP 12 (dF hq15)] ?_
  by_cases hq16:(X1t (Xs ((b.length:Nat):Int) 16777216 (rdR b 0 8 0) (rdE b 0 8 0) (rdI b 0) j).m)≠0
  ·have hF:(Xs ((b.length:Nat):Int) 16777216 (rdR b 0 8 0) (rdE b 0 8 0) (rdI b 0) j)=X3h ((b.length:Nat):Int) 16777216 b:=(by rw [hj9];rfl);have hd9:=X3k (M:=((b.length:Nat):Int)) (N:=16777216) (fun q=>hq16 (by rw [hF];exact chk0.2 q.2.2.2)) hbl
   refine cT (dT hq16) (sR [] (T.ret (rT ?_)))
   refine eN ⟨(Z81 tb nb b j),(Z7x b j)⟩ ?_
   refine Xh (s':=⟨(Z81 tb nb b j),(Z7y b j)⟩) (fun _ _ hG=>We (s:=⟨(Z81 tb nb b j),(Z7x b j)⟩) (kk2 (X6j (X6i p2z))) ⟨pa,(kk4 trivial)⟩ hG) ?_
   exact eX [.c 2 0 42 0 42 [dI 0,dI 0,dI 0,dI 0,dI 0,dS [],Z6i,dI 0,dI 0,Z6j,Z6j,Z6k] (.agg Z6l),.t 3 (Z7z)] ⟨⟨rfl,rfl,by kernel_rfl,by kernel_rfl,.inl ⟨12,Jx,rfl,Nat.le_of_ble_eq_true rfl⟩⟩,⟨⟨rfl,by kernel_rfl⟩,trivial⟩⟩ [] pZ8 trivial
  have hF:(Xs ((b.length:Nat):Int) 16777216 (rdR b 0 8 0) (rdE b 0 8 0) (rdI b 0) j)=X3h ((b.length:Nat):Int) 16777216 b:=(by rw [hj9];rfl);have hd9:=Xe3 (M:=((b.length:Nat):Int)) (N:=16777216) (b:=b) ⟨by omega,by assumption,by rw [← hF];exact Classical.not_not.1 ‹_›,chk0.1 (by rw [← hF];exact Classical.not_not.1 hq16)⟩;rw [← hF] at hd9
  refine cF (dF hq16) (T.skip (nT (sR [] (T.ret ?_))))
  exact eX [.c 2 0 42 0 42 [(Z6w b j),(Z6x b j),(Z6y b j),(Z6z b j),(Z70 b j),(Z71 b j),(Z72 b j),(Z73 b j),(Z74 b j),(Z75 b j),(Z76 b j),(Z77 b j)] (.agg (Z78 b j)),.t 3 (.one (dI 0))] ⟨⟨rfl,rfl,by kernel_rfl,by kernel_rfl,.inl ⟨12,Jx,rfl,Nat.le_of_ble_eq_true rfl⟩⟩,⟨⟨rfl,by kernel_rfl⟩,trivial⟩⟩ [] pZ8 trivial
 have hj8:j≤8:=(X95 hj).1 hq2
 refine sR [hY 3 (dT hq2),hP 4 (dT hq2)] ?_
 by_cases hq3:okK (rdI b 0)
 rotate_left
 ·have hd9:=X3k (M:=((b.length:Nat):Int)) (N:=16777216) (fun q=>hq3 q.2.1) hbl
  refine cF (dF hq3) (T.exit (xT (xT (xH (nT (T.seq (sR [hR 2 rfl rfl (rCa (rd_End (Xs ((b.length:Nat):Int) 16777216 (rdR b 0 8 0) (rdE b 0 8 0) (rdI b 0) j).rest (Xs ((b.length:Nat):Int) 16777216 (rdR b 0 8 0) (rdE b 0 8 0) (rdI b 0) j).e (by omega)) Tryz.func84 [2] [(.tmp 99,pv 2 0)] 1 1)] (sR (Xf (hN · false (cn (dF hq3))) [3,4,5,6] (hP 7 (cn (dF hq3))::(Xf hN0 [9,10,11] (hP1 12::[])))) (cT (b:=true) rfl (sR [] (T.ret (rT ?_))))))))))))
  refine eN ⟨(Z7v tb nb b j),(Z7x b j)⟩ ?_
  refine Xh (s':=⟨(Z7v tb nb b j),(Z7y b j)⟩) (fun _ _ hG=>We (s:=⟨(Z7v tb nb b j),(Z7x b j)⟩) (kk2 (X6j (X6i p2z))) ⟨pa,(kk4 trivial)⟩ hG) ?_
  exact eX [.c 2 0 42 0 42 [dI 0,dI 0,dI 0,dI 0,dI 0,dS [],Z6i,dI 0,dI 0,Z6j,Z6j,Z6k] (.agg Z6l),.t 3 (Z7z)] ⟨⟨rfl,rfl,by kernel_rfl,by kernel_rfl,.inl ⟨12,Jx,rfl,Nat.le_of_ble_eq_true rfl⟩⟩,⟨⟨rfl,by kernel_rfl⟩,trivial⟩⟩ [] pZ8 trivial
 refine cT (dT hq3) (T.skip (nT (T.seq (T.block (T.seq (sR [hR 3 rfl rfl (Y4 (u1:=.int .i64 (Y3 (rdI b 0)).V4) (u2:=.int .i64 ((2 ^ j:Nat):Int)) (v:=.int .i64 (J0 (Y3 (rdI b 0)).V4 ((2 ^ j:Nat):Int))) (X71 rfl) (X4 rfl) trivial)] ?_))))))
 by_cases hq4:(J0 (Y3 (rdI b 0)).V4 ((2 ^ j:Nat):Int))=0
 ·have hbt:=(X52 hj8).1 hq4;have hst:(Xs ((b.length:Nat):Int) 16777216 (rdR b 0 8 0) (rdE b 0 8 0) (rdI b 0) (j+1))=(Xs ((b.length:Nat):Int) 16777216 (rdR b 0 8 0) (rdE b 0 8 0) (rdI b 0) j):=F3 hbt
  refine cT (dT hq4) (T.exit (xT (xH (nT (xK [hR 1 rfl rfl (Y4 (u1:=.int .i64 ((2 ^ j:Nat):Int)) (u2:=.int .u64 1) (v:=.int .i64 (((2 ^ j)*2 ^ 1:Nat):Int)) (Ud (n:=1) rfl pk pZ5) (X4 rfl) ⟨rfl,trivial⟩)] ?_)))))
  refine nL (j+1) (show (j+1)≤9 from (by omega)) (show (9-(j+1):Nat)<9-j from (by omega)) (fun _ _ hG=>Y9 [0,1,2,3,4] (bm 9 501) (t2:=(Z7h tb nb b j)) (h2:=(Z79 b j)) pi pZ3 hG)
 have hbt:U8 (Xg (rdI b 0)) j=true:=Classical.byContradiction fun q=>hq4 ((X52 hj8).2 q)
 refine cF (dF hq4) (T.skip (nT (sR [] (T.block (sR [] ?_)))))
 by_cases hq5:((2 ^ j:Nat):Int)=1
 ·have hji:j=0:=J5 (i:=0) hj hq5;have hst:(Xs ((b.length:Nat):Int) 16777216 (rdR b 0 8 0) (rdE b 0 8 0) (rdI b 0) (j+1))=Wp ((b.length:Nat):Int) 16777216 (Xs ((b.length:Nat):Int) 16777216 (rdR b 0 8 0) (rdE b 0 8 0) (rdI b 0) j) 0:=U5 hji hbt;simp only [Wp] at hst
  refine cT (dT hq5) (xK [hR 1 rfl rfl (rCa (Jc (Xs ((b.length:Nat):Int) 16777216 (rdR b 0 8 0) (rdE b 0 8 0) (rdI b 0) j).rest (Xs ((b.length:Nat):Int) 16777216 (rdR b 0 8 0) (rdE b 0 8 0) (rdI b 0) j).e (by omega)) Tryz.func80 [2] [(.tmp 40,.tv (.agg [.ptr 2 0]))] 1 1)] (nB (nB (nT (xK [hR 1 rfl rfl (Y4 (u1:=.int .i64 ((2 ^ j:Nat):Int)) (u2:=.int .u64 1) (v:=.int .i64 (((2 ^ j)*2 ^ 1:Nat):Int)) (Ud (n:=1) rfl pk pZ5) (X4 rfl) ⟨rfl,trivial⟩)] ?_)))))
  refine nL (j+1) (show (j+1)≤9 from (by omega)) (show (9-(j+1):Nat)<9-j from (by omega)) (fun _ _ hG=>Y9 [0,1,2,3,4] (bm 9 501) (t2:=(Z7h tb nb b j)) (h2:=[Z6h,Z6u,.live (.box 162 [dU (Z7i b j),dI (Z7j b j)]),.live (.box 42 [(Z6w b j),(Z7k b j),(Z6y b j),(Z6z b j),(Z70 b j),(Z71 b j),(Z72 b j),(Z73 b j),(Z74 b j),(Z75 b j),(Z76 b j),(Z77 b j)]),(Z6q b)]) pi pZ3 hG)
 have hn0:j≠0:=(fun q=>hq5 p2q)
 refine cF (dF hq5) (sR [] ?_)
 by_cases hq6:((2 ^ j:Nat):Int)=2
 ·have hji:j=1:=J5 (i:=1) hj hq6;have hst:(Xs ((b.length:Nat):Int) 16777216 (rdR b 0 8 0) (rdE b 0 8 0) (rdI b 0) (j+1))=Wp ((b.length:Nat):Int) 16777216 (Xs ((b.length:Nat):Int) 16777216 (rdR b 0 8 0) (rdE b 0 8 0) (rdI b 0) j) 1:=U5 hji hbt;simp only [Wp] at hst
  refine cT (dT hq6) (xK [hR 1 rfl rfl (rCa (Jc (Xs ((b.length:Nat):Int) 16777216 (rdR b 0 8 0) (rdE b 0 8 0) (rdI b 0) j).rest (Xs ((b.length:Nat):Int) 16777216 (rdR b 0 8 0) (rdE b 0 8 0) (rdI b 0) j).e (by omega)) Tryz.func80 [2] [(.tmp 45,.tv (.agg [.ptr 2 0]))] 1 1)] (nB (nB (nT (xK [hR 1 rfl rfl (Y4 (u1:=.int .i64 ((2 ^ j:Nat):Int)) (u2:=.int .u64 1) (v:=.int .i64 (((2 ^ j)*2 ^ 1:Nat):Int)) (Ud (n:=1) rfl pk pZ5) (X4 rfl) ⟨rfl,trivial⟩)] ?_)))))
  refine nL (j+1) (show (j+1)≤9 from (by omega)) (show (9-(j+1):Nat)<9-j from (by omega)) (fun _ _ hG=>Y9 [0,1,2,3,4] (bm 9 501) (t2:=(Z7h tb nb b j)) (h2:=[Z6h,Z6u,.live (.box 162 [dU (Z7i b j),dI (Z7j b j)]),.live (.box 42 [(Z6w b j),(Z6x b j),(Z7k b j),(Z6z b j),(Z70 b j),(Z71 b j),(Z72 b j),(Z73 b j),(Z74 b j),(Z75 b j),(Z76 b j),(Z77 b j)]),(Z6q b)]) pi pZ3 hG)
 have hn1:j≠1:=(fun q=>hq6 p2q)
 refine cF (dF hq6) (sR [] ?_)
 by_cases hq7:((2 ^ j:Nat):Int)=4
 ·have hji:j=2:=J5 (i:=2) hj hq7;have hst:(Xs ((b.length:Nat):Int) 16777216 (rdR b 0 8 0) (rdE b 0 8 0) (rdI b 0) (j+1))=Wp ((b.length:Nat):Int) 16777216 (Xs ((b.length:Nat):Int) 16777216 (rdR b 0 8 0) (rdE b 0 8 0) (rdI b 0) j) 2:=U5 hji hbt;simp only [Wp] at hst
  refine cT (dT hq7) (sR [hR 1 rfl rfl (rCa (Jc (Xs ((b.length:Nat):Int) 16777216 (rdR b 0 8 0) (rdE b 0 8 0) (rdI b 0) j).rest (Xs ((b.length:Nat):Int) 16777216 (rdR b 0 8 0) (rdE b 0 8 0) (rdI b 0) j).e (by omega)) Tryz.func80 [2] [(.tmp 50,.tv (.agg [.ptr 2 0]))] 1 1)] (xK [hR 1 rfl rfl (rCa (Jc (rdR (Xs ((b.length:Nat):Int) 16777216 (rdR b 0 8 0) (rdE b 0 8 0) (rdI b 0) j).rest (Xs ((b.length:Nat):Int) 16777216 (rdR b 0 8 0) (rdE b 0 8 0) (rdI b 0) j).e 8 0) (rdE (Xs ((b.length:Nat):Int) 16777216 (rdR b 0 8 0) (rdE b 0 8 0) (rdI b 0) j).rest (Xs ((b.length:Nat):Int) 16777216 (rdR b 0 8 0) (rdE b 0 8 0) (rdI b 0) j).e 8 0) (by omega)) Tryz.func80 [2] [(.tmp 53,.tv (.agg [.ptr 2 0]))] 1 1)] (nB (nB (nT ?_)))))
  refine xK [hR 1 rfl rfl (Y4 (u1:=.int .i64 ((2 ^ j:Nat):Int)) (u2:=.int .u64 1) (v:=.int .i64 (((2 ^ j)*2 ^ 1:Nat):Int)) (Ud (n:=1) rfl pk pZ5) (X4 rfl) ⟨rfl,trivial⟩)] ?_
  refine nL (j+1) (show (j+1)≤9 from (by omega)) (show (9-(j+1):Nat)<9-j from (by omega)) (fun _ _ hG=>Y9 [0,1,2,3,4] (bm 9 501) (t2:=(Z7h tb nb b j)) (h2:=[Z6h,Z6u,(Z7l b j),.live (.box 42 [(Z6w b j),(Z6x b j),(Z6y b j),(Z7k b j),dI (rdI (Z7i b j) (Z7j b j)),(Z71 b j),(Z72 b j),(Z73 b j),(Z74 b j),(Z75 b j),(Z76 b j),(Z77 b j)]),(Z6q b)]) pi pZ3 hG)
 have hn2:j≠2:=(fun q=>hq7 p2q)
 refine cF (dF hq7) (sR [] ?_)
 by_cases hq8:((2 ^ j:Nat):Int)=8
 ·have hji:j=3:=J5 (i:=3) hj hq8;have hst:(Xs ((b.length:Nat):Int) 16777216 (rdR b 0 8 0) (rdE b 0 8 0) (rdI b 0) (j+1))=Wp ((b.length:Nat):Int) 16777216 (Xs ((b.length:Nat):Int) 16777216 (rdR b 0 8 0) (rdE b 0 8 0) (rdI b 0) j) 3:=U5 hji hbt;simp only [Wp] at hst
  refine cT (dT hq8) ?_
  refine xR [hR 4 rfl rfl (rCa (X62 (Xs ((b.length:Nat):Int) 16777216 (rdR b 0 8 0) (rdE b 0 8 0) (rdI b 0) j).rest (Xs ((b.length:Nat):Int) 16777216 (rdR b 0 8 0) (rdE b 0 8 0) (rdI b 0) j).e ((b.length:Nat):Int) (by omega)) Tryz.func81 [2,5] [(.tmp 59,pv 2 0),(.tmp 61,vI ((b.length:Nat):Int))] 1 2),hR 5 rfl rfl (X0o () (rdY (Xs ((b.length:Nat):Int) 16777216 (rdR b 0 8 0) (rdE b 0 8 0) (rdI b 0) j).rest (Xs ((b.length:Nat):Int) 16777216 (rdR b 0 8 0) (rdE b 0 8 0) (rdI b 0) j).e ((b.length:Nat):Int)) (ys:=(.own 5 kU8.sz 0 (Z7m b j).length)) (rhs:=[(5,.live (Xc 5 kU8 (Z7m b j)))]) Tryz.underlying34 Tryz.underlying5 Tryz.underlying35 (U4 5 5 kU8 (rdY (Xs ((b.length:Nat):Int) 16777216 (rdR b 0 8 0) (rdE b 0 8 0) (rdI b 0) j).rest (Xs ((b.length:Nat):Int) 16777216 (rdR b 0 8 0) (rdE b 0 8 0) (rdI b 0) j).e ((b.length:Nat):Int))) (X4 rfl) trivial)] pZ2 pZ2 ?_
  refine nB (nB (nT ?_))
  refine tN ⟨(Z7n tb nb b j),[Z6h,Z6u,(Z7o b j),(Z7p b j),(Z6q b),.live (Xc 5 kU8 (Z7m b j))]⟩ ?_
  refine Wv (s':=⟨(Z7n tb nb b j),[Z6h,Z6u,(Z7o b j),(Z7p b j),(Z6q b),.dead]⟩) (fun _ _ hG=>Gs.freeze (s:=⟨(Z7n tb nb b j),[Z6h,Z6u,(Z7o b j),(Z7p b j),(Z6q b),.live (Xc 5 kU8 (Z7m b j))]⟩) 5 (el:=Yu kU8 (rdY (Xs ((b.length:Nat):Int) 16777216 (rdR b 0 8 0) (rdE b 0 8 0) (rdI b 0) j).rest (Xs ((b.length:Nat):Int) 16777216 (rdR b 0 8 0) (rdE b 0 8 0) (rdI b 0) j).e ((b.length:Nat):Int))) (sz:=kU8.sz) (n:=(rdY (Xs ((b.length:Nat):Int) 16777216 (rdR b 0 8 0) (rdE b 0 8 0) (rdI b 0) j).rest (Xs ((b.length:Nat):Int) 16777216 (rdR b 0 8 0) (rdE b 0 8 0) (rdI b 0) j).e ((b.length:Nat):Int)).length) rfl ⟨.inl rfl,(kk8 p3j)⟩ ⟨pd,⟨pd,⟨pd,⟨pd,⟨pd,⟨(.inl ⟨rfl,rfl⟩),trivial⟩⟩⟩⟩⟩⟩ hG) ?_
  refine xK [hR 1 rfl rfl (Y4 (u1:=.int .i64 ((2 ^ j:Nat):Int)) (u2:=.int .u64 1) (v:=.int .i64 (((2 ^ j)*2 ^ 1:Nat):Int)) (Ud (n:=1) rfl pk pZ5) (X4 rfl) ⟨rfl,trivial⟩)] ?_
  refine nL (j+1) (show (j+1)≤9 from (by omega)) (show (9-(j+1):Nat)<9-j from (by omega)) (fun _ _ hG=>Y9 [0,1,2,3,4] (bm 9 501) (t2:=(Z7h tb nb b j)) (h2:=[Z6h,Z6u,(Z7o b j),(Z7p b j),(Z6q b)]) pi pZ3 hG)
 have hn3:j≠3:=(fun q=>hq8 p2q)
 refine cF (dF hq8) (sR [] ?_)
 by_cases hq9:((2 ^ j:Nat):Int)=16
 ·have hji:j=4:=J5 (i:=4) hj hq9;have hst:(Xs ((b.length:Nat):Int) 16777216 (rdR b 0 8 0) (rdE b 0 8 0) (rdI b 0) (j+1))=Wp ((b.length:Nat):Int) 16777216 (Xs ((b.length:Nat):Int) 16777216 (rdR b 0 8 0) (rdE b 0 8 0) (rdI b 0) j) 4:=U5 hji hbt;simp only [Wp] at hst
  refine cT (dT hq9) (xK [hR 4 rfl rfl (rCa (X62 (Xs ((b.length:Nat):Int) 16777216 (rdR b 0 8 0) (rdE b 0 8 0) (rdI b 0) j).rest (Xs ((b.length:Nat):Int) 16777216 (rdR b 0 8 0) (rdE b 0 8 0) (rdI b 0) j).e ((b.length:Nat):Int) (by omega)) Tryz.func81 [2,5] [(.tmp 68,pv 2 0),(.tmp 70,vI ((b.length:Nat):Int))] 1 2)] (nB (nB (nT ?_))))
  refine tN ⟨(Z7q tb nb b j),(Z7r b j)⟩ ?_
  refine Wv (s':=⟨(Z7q tb nb b j),[Z6h,Z6u,(Z7o b j),(Z7s b j),(Z6q b),.dead]⟩) (fun _ _ hG=>Gs.freeze (s:=⟨(Z7q tb nb b j),(Z7r b j)⟩) 5 (el:=Yu kU8 (rdY (Xs ((b.length:Nat):Int) 16777216 (rdR b 0 8 0) (rdE b 0 8 0) (rdI b 0) j).rest (Xs ((b.length:Nat):Int) 16777216 (rdR b 0 8 0) (rdE b 0 8 0) (rdI b 0) j).e ((b.length:Nat):Int))) (sz:=kU8.sz) (n:=(rdY (Xs ((b.length:Nat):Int) 16777216 (rdR b 0 8 0) (rdE b 0 8 0) (rdI b 0) j).rest (Xs ((b.length:Nat):Int) 16777216 (rdR b 0 8 0) (rdE b 0 8 0) (rdI b 0) j).e ((b.length:Nat):Int)).length) rfl (kk2 p2z) ⟨pd,⟨pd,⟨pd,⟨p4g,⟨pd,⟨(.inl ⟨rfl,rfl⟩),trivial⟩⟩⟩⟩⟩⟩ hG) ?_
  refine xK [hR 1 rfl rfl (Y4 (u1:=.int .i64 ((2 ^ j:Nat):Int)) (u2:=.int .u64 1) (v:=.int .i64 (((2 ^ j)*2 ^ 1:Nat):Int)) (Ud (n:=1) rfl pk pZ5) (X4 rfl) ⟨rfl,trivial⟩)] ?_
  refine nL (j+1) (show (j+1)≤9 from (by omega)) (show (9-(j+1):Nat)<9-j from (by omega)) (fun _ _ hG=>Y9 [0,1,2,3,4] (bm 9 501) (t2:=(Z7h tb nb b j)) (h2:=[Z6h,Z6u,(Z7o b j),(Z7s b j),(Z6q b)]) pi pZ3 hG)
 have hn4:j≠4:=(fun q=>hq9 p2q)
 refine cF (dF hq9) (sR [] ?_)
 by_cases hq10:((2 ^ j:Nat):Int)=32
 ·have hji:j=5:=J5 (i:=5) hj hq10;have hst:(Xs ((b.length:Nat):Int) 16777216 (rdR b 0 8 0) (rdE b 0 8 0) (rdI b 0) (j+1))=Wp ((b.length:Nat):Int) 16777216 (Xs ((b.length:Nat):Int) 16777216 (rdR b 0 8 0) (rdE b 0 8 0) (rdI b 0) j) 5:=U5 hji hbt;simp only [Wp] at hst
  refine cT (dT hq10) (sR [hR 1 rfl rfl (rCa (Jc (Xs ((b.length:Nat):Int) 16777216 (rdR b 0 8 0) (rdE b 0 8 0) (rdI b 0) j).rest (Xs ((b.length:Nat):Int) 16777216 (rdR b 0 8 0) (rdE b 0 8 0) (rdI b 0) j).e (by omega)) Tryz.func80 [2] [(.tmp 75,.tv (.agg [.ptr 2 0]))] 1 1)] (xK [hR 1 rfl rfl (rCa (Jc (rdR (Xs ((b.length:Nat):Int) 16777216 (rdR b 0 8 0) (rdE b 0 8 0) (rdI b 0) j).rest (Xs ((b.length:Nat):Int) 16777216 (rdR b 0 8 0) (rdE b 0 8 0) (rdI b 0) j).e 8 0) (rdE (Xs ((b.length:Nat):Int) 16777216 (rdR b 0 8 0) (rdE b 0 8 0) (rdI b 0) j).rest (Xs ((b.length:Nat):Int) 16777216 (rdR b 0 8 0) (rdE b 0 8 0) (rdI b 0) j).e 8 0) (by omega)) Tryz.func80 [2] [(.tmp 79,.tv (.agg [.ptr 2 0]))] 1 1)] (nB (nB (nT ?_)))))
  refine xK [hR 1 rfl rfl (Y4 (u1:=.int .i64 ((2 ^ j:Nat):Int)) (u2:=.int .u64 1) (v:=.int .i64 (((2 ^ j)*2 ^ 1:Nat):Int)) (Ud (n:=1) rfl pk pZ5) (X4 rfl) ⟨rfl,trivial⟩)] ?_
  refine nL (j+1) (show (j+1)≤9 from (by omega)) (show (9-(j+1):Nat)<9-j from (by omega)) (fun _ _ hG=>Y9 [0,1,2,3,4] (bm 9 501) (t2:=(Z7h tb nb b j)) (h2:=[Z6h,Z6u,(Z7l b j),.live (.box 42 [(Z6w b j),(Z6x b j),(Z6y b j),(Z6z b j),(Z70 b j),(Z71 b j),(Z72 b j),(Z7k b j),dI (rdI (Z7i b j) (Z7j b j)),(Z75 b j),(Z76 b j),(Z77 b j)]),(Z6q b)]) pi pZ3 hG)
 have hn5:j≠5:=(fun q=>hq10 p2q)
 refine cF (dF hq10) (sR [] ?_)
 by_cases hq11:((2 ^ j:Nat):Int)=64
 ·have hji:j=6:=J5 (i:=6) hj hq11;have hst:(Xs ((b.length:Nat):Int) 16777216 (rdR b 0 8 0) (rdE b 0 8 0) (rdI b 0) (j+1))=Wp ((b.length:Nat):Int) 16777216 (Xs ((b.length:Nat):Int) 16777216 (rdR b 0 8 0) (rdE b 0 8 0) (rdI b 0) j) 6:=U5 hji hbt;simp only [Wp] at hst
  refine cT (dT hq11) (xK [hR 1 rfl rfl (rCa (X5c (Xs ((b.length:Nat):Int) 16777216 (rdR b 0 8 0) (rdE b 0 8 0) (rdI b 0) j).rest (Xs ((b.length:Nat):Int) 16777216 (rdR b 0 8 0) (rdE b 0 8 0) (rdI b 0) j).e (by omega)) Tryz.func82 [2] [(.tmp 85,.tv (.agg [.ptr 2 0]))] 1 1)] (nB (nB (nT (xK [hR 1 rfl rfl (Y4 (u1:=.int .i64 ((2 ^ j:Nat):Int)) (u2:=.int .u64 1) (v:=.int .i64 (((2 ^ j)*2 ^ 1:Nat):Int)) (Ud (n:=1) rfl pk pZ5) (X4 rfl) ⟨rfl,trivial⟩)] ?_)))))
  refine nL (j+1) (show (j+1)≤9 from (by omega)) (show (9-(j+1):Nat)<9-j from (by omega)) (fun _ _ hG=>Y9 [0,1,2,3,4] (bm 9 501) (t2:=(Z7h tb nb b j)) (h2:=[Z6h,Z6u,.live (.box 162 [dU (Z7t b j).rest,dI (Z7t b j).e]),.live (.box 42 [(Z6w b j),(Z6x b j),(Z6y b j),(Z6z b j),(Z70 b j),(Z71 b j),(Z72 b j),(Z73 b j),(Z74 b j),.d (dsl false false (kE false) (Z7t b j).l),(Z76 b j),(Z77 b j)]),(Z6q b)]) pi pZ3 hG)
 have hn6:j≠6:=(fun q=>hq11 p2q)
 refine cF (dF hq11) (sR [] ?_)
 by_cases hq12:((2 ^ j:Nat):Int)=128
 ·have hji:j=7:=J5 (i:=7) hj hq12;have hst:(Xs ((b.length:Nat):Int) 16777216 (rdR b 0 8 0) (rdE b 0 8 0) (rdI b 0) (j+1))=Wp ((b.length:Nat):Int) 16777216 (Xs ((b.length:Nat):Int) 16777216 (rdR b 0 8 0) (rdE b 0 8 0) (rdI b 0) j) 7:=U5 hji hbt;simp only [Wp] at hst
  refine cT (dT hq12) (xK [hR 1 rfl rfl (rCa (X5c (Xs ((b.length:Nat):Int) 16777216 (rdR b 0 8 0) (rdE b 0 8 0) (rdI b 0) j).rest (Xs ((b.length:Nat):Int) 16777216 (rdR b 0 8 0) (rdE b 0 8 0) (rdI b 0) j).e (by omega)) Tryz.func82 [2] [(.tmp 90,.tv (.agg [.ptr 2 0]))] 1 1)] (nB (nB (nT (xK [hR 1 rfl rfl (Y4 (u1:=.int .i64 ((2 ^ j:Nat):Int)) (u2:=.int .u64 1) (v:=.int .i64 (((2 ^ j)*2 ^ 1:Nat):Int)) (Ud (n:=1) rfl pk pZ5) (X4 rfl) ⟨rfl,trivial⟩)] ?_)))))
  refine nL (j+1) (show (j+1)≤9 from (by omega)) (show (9-(j+1):Nat)<9-j from (by omega)) (fun _ _ hG=>Y9 [0,1,2,3,4] (bm 9 501) (t2:=(Z7h tb nb b j)) (h2:=[Z6h,Z6u,.live (.box 162 [dU (Z7t b j).rest,dI (Z7t b j).e]),.live (.box 42 [(Z6w b j),(Z6x b j),(Z6y b j),(Z6z b j),(Z70 b j),(Z71 b j),(Z72 b j),(Z73 b j),(Z74 b j),(Z75 b j),.d (dsl false false (kE false) (Z7t b j).l),(Z77 b j)]),(Z6q b)]) pi pZ3 hG)
 have hn7:j≠7:=(fun q=>hq12 p2q)
 refine cF (dF hq12) (sR [] ?_)
 by_cases hq13:((2 ^ j:Nat):Int)=256
 ·have hji:j=8:=J5 (i:=8) hj hq13;have hst:(Xs ((b.length:Nat):Int) 16777216 (rdR b 0 8 0) (rdE b 0 8 0) (rdI b 0) (j+1))=Wp ((b.length:Nat):Int) 16777216 (Xs ((b.length:Nat):Int) 16777216 (rdR b 0 8 0) (rdE b 0 8 0) (rdI b 0) j) 8:=U5 hji hbt;simp only [Wp] at hst
  refine cT (dT hq13) (xK [hR 1 rfl rfl (rCa (Xey (Xs ((b.length:Nat):Int) 16777216 (rdR b 0 8 0) (rdE b 0 8 0) (rdI b 0) j).rest (Xs ((b.length:Nat):Int) 16777216 (rdR b 0 8 0) (rdE b 0 8 0) (rdI b 0) j).e (by omega)) Tryz.func83 [2] [(.tmp 95,.tv (.agg [.ptr 2 0]))] 1 1)] (nB (nB (nT (xK [hR 1 rfl rfl (Y4 (u1:=.int .i64 ((2 ^ j:Nat):Int)) (u2:=.int .u64 1) (v:=.int .i64 (((2 ^ j)*2 ^ 1:Nat):Int)) (Ud (n:=1) rfl pk pZ5) (X4 rfl) ⟨rfl,trivial⟩)] ?_)))))
  refine nL (j+1) (show (j+1)≤9 from (by omega)) (show (9-(j+1):Nat)<9-j from (by omega)) (fun _ _ hG=>Y9 [0,1,2,3,4] (bm 9 501) (t2:=(Z7h tb nb b j)) (h2:=[Z6h,Z6u,.live (.box 162 [dU (Z7u b j).rest,dI (Z7u b j).e]),.live (.box 42 [(Z6w b j),(Z6x b j),(Z6y b j),(Z6z b j),(Z70 b j),(Z71 b j),(Z72 b j),(Z73 b j),(Z74 b j),(Z75 b j),(Z76 b j),.d (dsl false false (kC false) (Z7u b j).l)]),(Z6q b)]) pi pZ3 hG)
 exact absurd (show j=8 by omega) (fun q=>hq13 p2q)
abbrev Z82 (B:List UInt8) (r:List UInt8) (e:Int):HS:=.live (.box 83 [dU B,dI ((Wr B (Ia (rdR r e 8 0) (rdE r e 8 0) 1099511627776):Nat):Int),dI (Jb (rdR r e 8 0) (rdE r e 8 0) 1099511627776)])
abbrev Z83 (r:List UInt8) (e:Int):=(rdY (rdR r e 8 0) (rdE r e 8 0) 1099511627776)
abbrev Z84 (B:List UInt8) (r:List UInt8) (e:Int):St:=⟨[pv 0 0,aa,pv 1 0],[(Z82 B r e),.live (.box 53 [dI (rdI r e),.own 2 kU8.sz 0 (Z83 r e).length]),.live (Xc 5 kU8 (Z83 r e))]⟩
theorem Ek (B:List UInt8) (r:List UInt8) (e:Int) (hs:r <:+ B) (hB:B.length≤100000000):Holds Tryz.prog 62 ⟨[pv 0 0],[.box 83 [dU B,dI ((Wr B r:Nat):Int),dI e]],.tv (.agg [dI (evV 1099511627776 r e).f_Signer,dU (evV 1099511627776 r e).X7]),[.live (.box 83 [dU B,dI ((Wr B (evR 1099511627776 r e):Nat):Int),dI (evE 1099511627776 r e)])]⟩:=by
 refine Holds.of Tryz.func62 rfl (N:=8) Tryz.ntmps62 rfl fun w0 B0 S0 U0=>?_
 show T _ (Y0 8 1 w0 S0 U0 B0) ⟨[pv 0 0],[.live (.box 83 [dU B,dI ((Wr B r:Nat):Int),dI e])]⟩ _ _
 refine sR [] (sR [hR 1 rfl rfl (rCa (Je B r e (by repeat assumption) (by omega)) Tryz.func27 [0] [(.tmp 3,pv 0 0)] 1 1),hR 3 rfl rfl (rCa (Fo B (rdR r e 8 0) (rdE r e 8 0) 1099511627776 pZ7 (by omega)) Tryz.func59 [0,2] [(.tmp 5,pv 0 0),(.const (.int .i64 1099511627776),vI 1099511627776)] 1 2)] (T.ret ?_))
 refine eN (Z84 B r e) ?_
 refine Xh (s':=⟨[pv 0 0,aa,pv 1 0],[(Z82 B r e),.live (.box 53 [dI (rdI r e),dU (Z83 r e)]),.dead]⟩) (fun _ _ hG=>Gs.freeze (s:=(Z84 B r e)) 2 (el:=Yu kU8 (rdY (rdR r e 8 0) (rdE r e 8 0) 1099511627776)) (sz:=kU8.sz) (n:=(rdY (rdR r e 8 0) (rdE r e 8 0) 1099511627776).length) rfl ⟨.inl rfl,(kk2 trivial)⟩ ⟨pd,⟨pZ27,⟨(.inl ⟨rfl,rfl⟩),trivial⟩⟩⟩ hG) ?_
 exact eX [.c 2 1 53 0 53 [dI (rdI r e),dU (Z83 r e)] (.agg [dI (rdI r e),dU (Z83 r e)])] ⟨⟨rfl,rfl,by kernel_rfl,by kernel_rfl,.inl ⟨2,Ib,rfl,Nat.le_of_ble_eq_true rfl⟩⟩,trivial⟩ [0] (cg2 (fun (q1:Int) (q2:List UInt8)=>(.tv (.agg [dI q1,dU q2]):AV)) (by rfl) (by rfl)) ⟨⟨rfl,(by have e1:(((Wr B (Ia (rdR r e 8 0) (rdE r e 8 0) 1099511627776):Nat):Int):Int)=((Wr B (evR 1099511627776 r e):Nat):Int):=(by rfl);have e2:((Jb (rdR r e 8 0) (rdE r e 8 0) 1099511627776):Int)=(evE 1099511627776 r e):=(by rfl);have hE:=congr p2d e2;exact Eq.trans pZ2 hE)⟩,trivial⟩
section
variable (B:List UInt8) (r:List UInt8) (e:Int) (k:Nat)
abbrev Z85:SV:=dU B
abbrev Z86:AV:=vI ((rdC r e 15:Nat):Int)
abbrev Z87:HS:=.live (.box 83 [(Z85 B),dI ((Wr B (rdR r e 4 (Yc 15 (r.take 4))):Nat):Int),dI (rdE r e 4 (Yc 15 (r.take 4)))])
abbrev Z88:=(Vc 1099511627776 r e k)
abbrev Z89:AV:=Xx 1 (kE false) 0 (Z88 r e k).l.length
abbrev Z8a:List HS:=[.live (.box 83 [(Z85 B),dI ((Wr B (Z88 r e k).rest:Nat):Int),dI (Z88 r e k).e]),.live (Xc 53 (kE false) (Z88 r e k).l)]
abbrev Z8d:=(evV 1099511627776 (Z88 r e k).rest (Z88 r e k).e)
abbrev Z8e:AV:=vI ((k+1:Nat):Int)
abbrev Z8f:List HS:=[.live (.box 83 [(Z85 B),dI ((Wr B (Vc 1099511627776 r e (k+1)).rest:Nat):Int),dI (Vc 1099511627776 r e (k+1)).e]),.live (Xc 53 (kE false) (Vc 1099511627776 r e (k+1)).l)]
abbrev Z8g:List AV:=[pv 0 0,aa,(Z89 r e k),(Z89 r e k),(Z86 r e),vI ((k:Nat):Int),aa,aa,aa,aa,vB (decide (((k:Nat):Int)<((rdC r e 15:Nat):Int)))]
end
theorem F4 (B:List UInt8) (r:List UInt8) (e:Int) (hs:r <:+ B) (hB:B.length≤100000000):Holds Tryz.prog 60 ⟨[pv 0 0],[.box 83 [dU B,dI ((Wr B r:Nat):Int),dI e]],slV false false (kE false) (U3 1099511627776 r e).l,[.live (.box 83 [dU B,dI ((Wr B (U3 1099511627776 r e).rest:Nat):Int),dI (U3 1099511627776 r e).e])]⟩:=by
 refine Holds.of Tryz.func60 rfl (N:=19) Tryz.ntmps60 rfl fun w0 B0 S0 U0=>?_
 show T _ (Y0 19 1 w0 S0 U0 B0) ⟨[pv 0 0],[.live (.box 83 [(Z85 B),dI ((Wr B r:Nat):Int),dI e])]⟩ _ _
 refine sR [] (sR [] (sR [hR 1 rfl rfl (rCa (X2b B r e 15 (by repeat assumption) (by omega)) Tryz.func61 [0] [(.tmp 6,pv 0 0),(.const (.int .i64 15),vI 15)] 1 1)] (T.seq (sR [] (T.block ?_)))))
 refine tN ⟨[pv 0 0,aa,dv (.slice none 0 0),dv (.slice none 0 0),(Z86 r e),vI 0],[(Z87 B r e)]⟩ ?_
 refine Wv (s':=⟨[pv 0 0,aa,dv (.slice none 0 0),Xx 1 (kE false) 0 0,(Z86 r e),vI 0],[(Z87 B r e),.live (Xc 53 (kE false) ([]:List aE))]⟩) (fun _ _ hG=>Vw 1 3 53 (kE false) rfl rfl hG) ?_
 refine T.loop (ι:=Nat) (fun (k:Nat)=>⟨[pv 0 0,aa,aa,(Z89 r e k),(Z86 r e),vI ((k:Nat):Int)],(Z8a B r e k)⟩) (fun (k:Nat)=>(k≤rdC r e 15)) (fun (k:Nat)=>rdC r e 15-k) (0) (Nat.zero_le _) (fun _ _ hG=>Y9 [0,1] (bm 6 57) (t2:=[pv 0 0,aa,aa,Xx 1 (kE false) 0 0,(Z86 r e),vI 0]) (h2:=[(Z87 B r e),.live (Xc 53 (kE false) ([]:List aE))]) (congrArg (fun (q1:Nat)=>([pv 0 0,aa,aa,Xx 1 (kE false) 0 q1,(Z86 r e),vI 0]:List AV)) (by rfl)) (cg3 (fun (q1:Int) (q2:Int) (q3:List aE)=>([.live (.box 83 [(Z85 B),dI q1,dI q2]),.live (Xc 53 (kE false) q3)]:List HS)) (by rfl) (by rfl) (by rfl)) hG) ?_
 rintro k hk
 show T _ _ ⟨[pv 0 0,aa,aa,(Z89 r e k),(Z86 r e),vI ((k:Nat):Int)],(Z8a B r e k)⟩ _ _
 replace hk:k≤rdC r e 15:=hk
 have hg:=Fa 1099511627776 r e k
 have hg1:=hg.1
 have hg2:=hg.2
 have hcm:rdC r e 15≤15:=X0m r e 15
 refine T.seq (sR [] ?_)
 by_cases hq1:((k:Nat):Int)<((rdC r e 15:Nat):Int)
 ·refine cT (dT hq1) (T.skip (nT (T.seq (T.block ?_))))
  refine xR [hR 2 rfl rfl (rCa (Ek B (Vc 1099511627776 r e k).rest (Vc 1099511627776 r e k).e pZ7 ‹_›) Tryz.func62 [0] [(.tmp 14,pv 0 0)] 1 1),hR 3 rfl rfl (Yb 2 53 (kE false) (Vr false) [(evV 1099511627776 (Vc 1099511627776 r e k).rest (Vc 1099511627776 r e k).e)] [⟨0,.tmp 15,.agg [dI (Z8d r e k).f_Signer,dU (Z8d r e k).X7],0⟩] (cs:=[dI (Z8d r e k).f_Signer,dU (Z8d r e k).X7]) Tryz.underlying39 I3 rfl X8t rfl rfl rfl pf (Wi rfl rfl pf Wa) pZ2 (Vk pZ2) (X4 rfl) trivial),hR 4 rfl rfl (Yq 1 3 53 32 (kE false) (Vr false) (Vc 1099511627776 r e k).l [(evV 1099511627776 (Vc 1099511627776 r e k).rest (Vc 1099511627776 r e k).e)] ((Vc 1099511627776 r e k).l++[(evV 1099511627776 (Vc 1099511627776 r e k).rest (Vc 1099511627776 r e k).e)]) (Vc 1099511627776 r e k).l.length (sy:=(.own 2 (kE false).sz 0 [(Z8d r e k)].length)) (rhs:=[(2,.live (Xc 53 (kE false) [(Z8d r e k)]))]) X9n (by omega) (U4 2 53 (kE false) [(evV 1099511627776 (Vc 1099511627776 r e k).rest (Vc 1099511627776 r e k).e)]) p1o (by (simp [maxLen,-List.getD_eq_getElem?_getD]<;>omega)) (by (simp [maxLen,-List.getD_eq_getElem?_getD]<;>omega)) (X4 rfl) trivial)] pZ2 pZ2 ?_
  refine nB (nT (xK [hR 1 rfl rfl (Y4 (u1:=.int .i64 ((k:Nat):Int)) (u2:=.int .i64 1) (v:=.int .i64 ((k+1:Nat):Int)) (Yn pZ5) (X4 rfl) ⟨rfl,trivial⟩)] ?_))
  refine nL (k+1) (show (k+1)≤rdC r e 15 from (by omega)) (show (rdC r e 15-(k+1):Nat)<rdC r e 15-k from (by omega)) (fun _ _ hG=>Ww [0,3] (bm 6 57) (t1:=[pv 0 0,aa,aa,Xx 3 (kE false) 0 (Vc 1099511627776 r e (k+1)).l.length,(Z86 r e),(Z8e k)]) (t2:=[pv 0 0,aa,aa,Xx 3 (kE false) 0 ((Z88 r e k).l++[(Z8d r e k)]).length,(Z86 r e),(Z8e k)]) (h1:=(Z8f B r e k)) (h2:=[.live (.box 83 [(Z85 B),dI ((Wr B (evR 1099511627776 (Z88 r e k).rest (Z88 r e k).e):Nat):Int),dI (evE 1099511627776 (Z88 r e k).rest (Z88 r e k).e)]),.live (Xc 53 (kE false) ((Z88 r e k).l++[(Z8d r e k)]))]) (congrArg (fun (q1:Nat)=>([pv 0 0,aa,aa,Xx 3 (kE false) 0 q1,(Z86 r e),(Z8e k)]:List AV)) (by rfl)) (cg3 (fun (q1:Int) (q2:Int) (q3:List aE)=>([.live (.box 83 [(Z85 B),dI q1,dI q2]),.live (Xc 53 (kE false) q3)]:List HS)) (by rfl) (by rfl) (by rfl)) hG)
 refine cF (dF hq1) (T.exit (xT (xT (xH (nT (sR [] (T.ret ?_)))))))
 refine eN ⟨(Z8g r e k),(Z8a B r e k)⟩ ?_
 refine Xh (s':=⟨[pv 0 0,aa,slV false false (kE false) (Z88 r e k).l,slV false false (kE false) (Z88 r e k).l,(Z86 r e),vI ((k:Nat):Int),aa,aa,aa,aa,vB (decide (((k:Nat):Int)<((rdC r e 15:Nat):Int)))],[.live (.box 83 [(Z85 B),dI ((Wr B (Z88 r e k).rest:Nat):Int),dI (Z88 r e k).e]),.dead]⟩) (fun _ _ hG=>Gs.freeze (s:=⟨(Z8g r e k),(Z8a B r e k)⟩) 1 (el:=Yu (kE false) (Vc 1099511627776 r e k).l) (sz:=(kE false).sz) (n:=(Vc 1099511627776 r e k).l.length) rfl (kk2 ⟨(.inr pZ6),⟨(.inr pZ6),⟨.inl rfl,p3m⟩⟩⟩) ⟨pd,⟨(.inl ⟨rfl,rfl⟩),trivial⟩⟩ hG) ?_
 exact eRt 2 (.one (.d (dsl false false (kE false) (Z88 r e k).l))) [0] (by have e1:((U3 1099511627776 r e).l:List aE)=(Vc 1099511627776 r e k).l:=p46;have hE:=congrArg (fun (q1:List aE)=>(slV false false (kE false) q1:AV)) e1;exact hE) ⟨⟨rfl,(by have e1:(((Wr B (Vc 1099511627776 r e k).rest:Nat):Int):Int)=((Wr B (U3 1099511627776 r e).rest:Nat):Int):=p46;have e2:((Vc 1099511627776 r e k).e:Int)=(U3 1099511627776 r e).e:=p46;have hE:=congr (congrArg (fun (q1:Int) (q2:Int)=>(.live (.box 83 [(Z85 B),dI q1,dI q2]):HS)) e1) e2;exact Eq.trans pZ2 hE)⟩,trivial⟩
section
variable (B:List UInt8) (r:List UInt8) (e:Int) (k:Int) (h:aH) (k2:Nat)
abbrev Z8h:SV:=.d (.val (.slice none 0 0))
abbrev Z8i:List SV:=[dI k,dI 0,dI 0,dI 0,dI 0,dS [],Z8h,dI 0,dI 0,Z8h,Z8h,Z8h]
abbrev Z8j:List SV:=[dB h.Xr,dB h.Xy,dB h.Xa,dB h.Xb,dB h.Xi,dB h.X1,dB h.Xe,dB h.Xp,dB h.X5]
abbrev Z8k:SV:=dU B
abbrev Z8l:HS:=.live (.box 83 [(Z8k B),dI ((Wr B r:Nat):Int),dI e])
abbrev Z8m:List AV:=[pv 0 0,aa,aa,aa,pv 1 0,pv 2 0,pv 3 0]
abbrev Z8n:=(Xs 1099511627776 1099511627776 r e k 1)
abbrev Z8o:HS:=.live (.box 86 (Z8j h))
abbrev Z8p:HS:=.live (.box 42 [dI 0,dI 0,dI 0,dI 0,dI 0,dS [],Z8h,dI 0,dI 0,Z8h,Z8h,Z8h])
abbrev Z8q:List HS:=[.live (.box 83 [(Z8k B),dI ((Wr B (Z8n r e k).rest:Nat):Int),dI (Z8n r e k).e]),.live (.box 42 [dI (Z8n r e k).m.X2,dI (Z8n r e k).m.Xr,dI (Z8n r e k).m.Xy,dI (Z8n r e k).m.Xa,dI (Z8n r e k).m.Xw,dS (Z8n r e k).m.Xb,dU (Z8n r e k).m.Xi,dI (Z8n r e k).m.X1.Xt,dI (Z8n r e k).m.X1.Xn,.d (dsl false false (kE false) (Z8n r e k).m.Xe),.d (dsl false false (kE false) (Z8n r e k).m.Xp),Z8h]),(Z8o h),Z8p]
abbrev Z8r:List AV:=[pv 0 0,.tv (.agg (Z8i k)),.tv (.agg (Z8j h)),aa,pv 1 0,pv 2 0,pv 3 0]
abbrev Z8s:List HS:=[(Z8l B r e),.live (.box 42 [dI k,dI 0,dI 0,dI 0,dI 0,dS [],dU ([]:List UInt8),dI 0,dI 0,.d (dsl false false (kE false) ([]:List aE)),.d (dsl false false (kE false) ([]:List aE)),Z8h]),(Z8o h),Z8p]
abbrev Z8t:=(Xs 1099511627776 1099511627776 r e k 0)
abbrev Z8u:List HS:=[.live (.box 83 [(Z8k B),dI ((Wr B (Z8t r e k).rest:Nat):Int),dI (Z8t r e k).e]),.live (.box 42 [dI (Z8t r e k).m.X2,dI (Z8t r e k).m.Xr,dI (Z8t r e k).m.Xy,dI (Z8t r e k).m.Xa,dI (Z8t r e k).m.Xw,dS (Z8t r e k).m.Xb,dU (Z8t r e k).m.Xi,dI (Z8t r e k).m.X1.Xt,dI (Z8t r e k).m.X1.Xn,.d (dsl false false (kE false) (Z8t r e k).m.Xe),.d (dsl false false (kE false) (Z8t r e k).m.Xp),Z8h]),(Z8o h),Z8p]
abbrev Z8v:List AV:=[pv 0 0,aa,aa,aa,pv 1 0,pv 2 0,pv 3 0,aa,aa,aa,vB h.Xr]
abbrev Z8w:List HS:=[.live (.box 83 [(Z8k B),dI ((Wr B (rdR (Z8t r e k).rest (Z8t r e k).e 8 0):Nat):Int),dI (rdE (Z8t r e k).rest (Z8t r e k).e 8 0)]),.live (.box 42 [dI (Z8t r e k).m.X2,dI (rdI (Z8t r e k).rest (Z8t r e k).e),dI (Z8t r e k).m.Xy,dI (Z8t r e k).m.Xa,dI (Z8t r e k).m.Xw,dS (Z8t r e k).m.Xb,dU (Z8t r e k).m.Xi,dI (Z8t r e k).m.X1.Xt,dI (Z8t r e k).m.X1.Xn,.d (dsl false false (kE false) (Z8t r e k).m.Xe),.d (dsl false false (kE false) (Z8t r e k).m.Xp),Z8h]),(Z8o h),Z8p]
abbrev Z8x:=(Xs 1099511627776 1099511627776 r e k 2)
abbrev Z8y:List HS:=[.live (.box 83 [(Z8k B),dI ((Wr B (Z8x r e k).rest:Nat):Int),dI (Z8x r e k).e]),.live (.box 42 [dI (Z8x r e k).m.X2,dI (Z8x r e k).m.Xr,dI (Z8x r e k).m.Xy,dI (Z8x r e k).m.Xa,dI (Z8x r e k).m.Xw,dS (Z8x r e k).m.Xb,dU (Z8x r e k).m.Xi,dI (Z8x r e k).m.X1.Xt,dI (Z8x r e k).m.X1.Xn,.d (dsl false false (kE false) (Z8x r e k).m.Xe),.d (dsl false false (kE false) (Z8x r e k).m.Xp),Z8h]),(Z8o h),Z8p]
abbrev Z8z:List AV:=[pv 0 0,aa,aa,aa,pv 1 0,pv 2 0,pv 3 0,aa,aa,aa,aa,aa,aa,aa,aa,vB h.Xy]
abbrev Z90:List HS:=[.live (.box 83 [(Z8k B),dI ((Wr B (rdR (Z8n r e k).rest (Z8n r e k).e 8 0):Nat):Int),dI (rdE (Z8n r e k).rest (Z8n r e k).e 8 0)]),.live (.box 42 [dI (Z8n r e k).m.X2,dI (Z8n r e k).m.Xr,dI (rdI (Z8n r e k).rest (Z8n r e k).e),dI (Z8n r e k).m.Xa,dI (Z8n r e k).m.Xw,dS (Z8n r e k).m.Xb,dU (Z8n r e k).m.Xi,dI (Z8n r e k).m.X1.Xt,dI (Z8n r e k).m.X1.Xn,.d (dsl false false (kE false) (Z8n r e k).m.Xe),.d (dsl false false (kE false) (Z8n r e k).m.Xp),Z8h]),(Z8o h),Z8p]
abbrev Z91:=(Xs 1099511627776 1099511627776 r e k 3)
abbrev Z92:List HS:=[.live (.box 83 [(Z8k B),dI ((Wr B (Z91 r e k).rest:Nat):Int),dI (Z91 r e k).e]),.live (.box 42 [dI (Z91 r e k).m.X2,dI (Z91 r e k).m.Xr,dI (Z91 r e k).m.Xy,dI (Z91 r e k).m.Xa,dI (Z91 r e k).m.Xw,dS (Z91 r e k).m.Xb,dU (Z91 r e k).m.Xi,dI (Z91 r e k).m.X1.Xt,dI (Z91 r e k).m.X1.Xn,.d (dsl false false (kE false) (Z91 r e k).m.Xe),.d (dsl false false (kE false) (Z91 r e k).m.Xp),Z8h]),(Z8o h),Z8p]
abbrev Z93:List AV:=[pv 0 0,aa,aa,aa,pv 1 0,pv 2 0,pv 3 0,aa,aa,aa,aa,aa,aa,aa,aa,aa,aa,aa,aa,aa,vB h.Xa]
abbrev Z94:List HS:=[.live (.box 83 [(Z8k B),dI ((Wr B (rdR (rdR (Z8x r e k).rest (Z8x r e k).e 8 0) (rdE (Z8x r e k).rest (Z8x r e k).e 8 0) 8 0):Nat):Int),dI (rdE (rdR (Z8x r e k).rest (Z8x r e k).e 8 0) (rdE (Z8x r e k).rest (Z8x r e k).e 8 0) 8 0)]),.live (.box 42 [dI (Z8x r e k).m.X2,dI (Z8x r e k).m.Xr,dI (Z8x r e k).m.Xy,dI (rdI (Z8x r e k).rest (Z8x r e k).e),dI (rdI (rdR (Z8x r e k).rest (Z8x r e k).e 8 0) (rdE (Z8x r e k).rest (Z8x r e k).e 8 0)),dS (Z8x r e k).m.Xb,dU (Z8x r e k).m.Xi,dI (Z8x r e k).m.X1.Xt,dI (Z8x r e k).m.X1.Xn,.d (dsl false false (kE false) (Z8x r e k).m.Xe),.d (dsl false false (kE false) (Z8x r e k).m.Xp),Z8h]),(Z8o h),Z8p]
abbrev Z95:=(Xs 1099511627776 1099511627776 r e k 4)
abbrev Z96:SV:=.d (dsl false false (kE false) (Z95 r e k).m.Xe)
abbrev Z97:List HS:=[.live (.box 83 [(Z8k B),dI ((Wr B (Z95 r e k).rest:Nat):Int),dI (Z95 r e k).e]),.live (.box 42 [dI (Z95 r e k).m.X2,dI (Z95 r e k).m.Xr,dI (Z95 r e k).m.Xy,dI (Z95 r e k).m.Xa,dI (Z95 r e k).m.Xw,dS (Z95 r e k).m.Xb,dU (Z95 r e k).m.Xi,dI (Z95 r e k).m.X1.Xt,dI (Z95 r e k).m.X1.Xn,(Z96 r e k),.d (dsl false false (kE false) (Z95 r e k).m.Xp),Z8h]),(Z8o h),Z8p]
abbrev Z98:=(rdY (Z91 r e k).rest (Z91 r e k).e 1099511627776)
abbrev Z99:List AV:=[pv 0 0,aa,aa,aa,pv 1 0,pv 2 0,pv 3 0,aa,aa,aa,aa,aa,aa,aa,aa,aa,aa,aa,aa,aa,aa,aa,aa,aa,aa,aa,aa,aa,vB h.Xb]
abbrev Z9a:HS:=.live (.box 83 [(Z8k B),dI ((Wr B (Ia (Z91 r e k).rest (Z91 r e k).e 1099511627776):Nat):Int),dI (Jb (Z91 r e k).rest (Z91 r e k).e 1099511627776)])
abbrev Z9b:HS:=.live (.box 42 [dI (Z91 r e k).m.X2,dI (Z91 r e k).m.Xr,dI (Z91 r e k).m.Xy,dI (Z91 r e k).m.Xa,dI (Z91 r e k).m.Xw,dS (Z98 r e k),dU (Z91 r e k).m.Xi,dI (Z91 r e k).m.X1.Xt,dI (Z91 r e k).m.X1.Xn,.d (dsl false false (kE false) (Z91 r e k).m.Xe),.d (dsl false false (kE false) (Z91 r e k).m.Xp),Z8h])
abbrev Z9c:=(Xs 1099511627776 1099511627776 r e k 5)
abbrev Z9d:List HS:=[.live (.box 83 [(Z8k B),dI ((Wr B (Z9c r e k).rest:Nat):Int),dI (Z9c r e k).e]),.live (.box 42 [dI (Z9c r e k).m.X2,dI (Z9c r e k).m.Xr,dI (Z9c r e k).m.Xy,dI (Z9c r e k).m.Xa,dI (Z9c r e k).m.Xw,dS (Z9c r e k).m.Xb,dU (Z9c r e k).m.Xi,dI (Z9c r e k).m.X1.Xt,dI (Z9c r e k).m.X1.Xn,.d (dsl false false (kE false) (Z9c r e k).m.Xe),.d (dsl false false (kE false) (Z9c r e k).m.Xp),Z8h]),(Z8o h),Z8p]
abbrev Z9e:List AV:=[pv 0 0,aa,aa,aa,pv 1 0,pv 2 0,pv 3 0,aa,aa,aa,aa,aa,aa,aa,aa,aa,aa,aa,aa,aa,aa,aa,aa,aa,aa,aa,aa,aa,aa,aa,aa,aa,aa,aa,vB h.Xi]
abbrev Z9f:HS:=.live (.box 83 [(Z8k B),dI ((Wr B (Ia (Z95 r e k).rest (Z95 r e k).e 1099511627776):Nat):Int),dI (Jb (Z95 r e k).rest (Z95 r e k).e 1099511627776)])
abbrev Z9g:=(rdY (Z95 r e k).rest (Z95 r e k).e 1099511627776)
abbrev Z9h:St:=⟨(Z9e h),[(Z9f B r e k),.live (.box 42 [dI (Z95 r e k).m.X2,dI (Z95 r e k).m.Xr,dI (Z95 r e k).m.Xy,dI (Z95 r e k).m.Xa,dI (Z95 r e k).m.Xw,dS (Z95 r e k).m.Xb,.own 4 kU8.sz 0 (Z9g r e k).length,dI (Z95 r e k).m.X1.Xt,dI (Z95 r e k).m.X1.Xn,(Z96 r e k),.d (dsl false false (kE false) (Z95 r e k).m.Xp),Z8h]),(Z8o h),Z8p,.live (Xc 5 kU8 (Z9g r e k))]⟩
abbrev Z9i:HS:=.live (.box 42 [dI (Z95 r e k).m.X2,dI (Z95 r e k).m.Xr,dI (Z95 r e k).m.Xy,dI (Z95 r e k).m.Xa,dI (Z95 r e k).m.Xw,dS (Z95 r e k).m.Xb,dU (Z9g r e k),dI (Z95 r e k).m.X1.Xt,dI (Z95 r e k).m.X1.Xn,(Z96 r e k),.d (dsl false false (kE false) (Z95 r e k).m.Xp),Z8h])
abbrev Z9j:=(Xs 1099511627776 1099511627776 r e k 6)
abbrev Z9k:List HS:=[.live (.box 83 [(Z8k B),dI ((Wr B (Z9j r e k).rest:Nat):Int),dI (Z9j r e k).e]),.live (.box 42 [dI (Z9j r e k).m.X2,dI (Z9j r e k).m.Xr,dI (Z9j r e k).m.Xy,dI (Z9j r e k).m.Xa,dI (Z9j r e k).m.Xw,dS (Z9j r e k).m.Xb,dU (Z9j r e k).m.Xi,dI (Z9j r e k).m.X1.Xt,dI (Z9j r e k).m.X1.Xn,.d (dsl false false (kE false) (Z9j r e k).m.Xe),.d (dsl false false (kE false) (Z9j r e k).m.Xp),Z8h]),(Z8o h),Z8p]
abbrev Z9l:List AV:=[pv 0 0,aa,aa,aa,pv 1 0,pv 2 0,pv 3 0,aa,aa,aa,aa,aa,aa,aa,aa,aa,aa,aa,aa,aa,aa,aa,aa,aa,aa,aa,aa,aa,aa,aa,aa,aa,aa,aa,aa,aa,aa,aa,aa,vB h.X1]
abbrev Z9m:List HS:=[.live (.box 83 [(Z8k B),dI ((Wr B (rdR (rdR (Z9c r e k).rest (Z9c r e k).e 8 0) (rdE (Z9c r e k).rest (Z9c r e k).e 8 0) 8 0):Nat):Int),dI (rdE (rdR (Z9c r e k).rest (Z9c r e k).e 8 0) (rdE (Z9c r e k).rest (Z9c r e k).e 8 0) 8 0)]),.live (.box 42 [dI (Z9c r e k).m.X2,dI (Z9c r e k).m.Xr,dI (Z9c r e k).m.Xy,dI (Z9c r e k).m.Xa,dI (Z9c r e k).m.Xw,dS (Z9c r e k).m.Xb,dU (Z9c r e k).m.Xi,dI (rdI (Z9c r e k).rest (Z9c r e k).e),dI (rdI (rdR (Z9c r e k).rest (Z9c r e k).e 8 0) (rdE (Z9c r e k).rest (Z9c r e k).e 8 0)),.d (dsl false false (kE false) (Z9c r e k).m.Xe),.d (dsl false false (kE false) (Z9c r e k).m.Xp),Z8h]),(Z8o h),Z8p]
abbrev Z9n:=(Xs 1099511627776 1099511627776 r e k 7)
abbrev Z9o:List HS:=[.live (.box 83 [(Z8k B),dI ((Wr B (Z9n r e k).rest:Nat):Int),dI (Z9n r e k).e]),.live (.box 42 [dI (Z9n r e k).m.X2,dI (Z9n r e k).m.Xr,dI (Z9n r e k).m.Xy,dI (Z9n r e k).m.Xa,dI (Z9n r e k).m.Xw,dS (Z9n r e k).m.Xb,dU (Z9n r e k).m.Xi,dI (Z9n r e k).m.X1.Xt,dI (Z9n r e k).m.X1.Xn,.d (dsl false false (kE false) (Z9n r e k).m.Xe),.d (dsl false false (kE false) (Z9n r e k).m.Xp),Z8h]),(Z8o h),Z8p]
abbrev Z9p:List AV:=[pv 0 0,aa,aa,aa,pv 1 0,pv 2 0,pv 3 0,aa,aa,aa,aa,aa,aa,aa,aa,aa,aa,aa,aa,aa,aa,aa,aa,aa,aa,aa,aa,aa,aa,aa,aa,aa,aa,aa,aa,aa,aa,aa,aa,aa,aa,aa,aa,aa,aa,aa,aa,vB h.Xe]
abbrev Z9q:=(U3 1099511627776 (Z9j r e k).rest (Z9j r e k).e)
abbrev Z9r:List HS:=[.live (.box 83 [(Z8k B),dI ((Wr B (Z9q r e k).rest:Nat):Int),dI (Z9q r e k).e]),.live (.box 42 [dI (Z9j r e k).m.X2,dI (Z9j r e k).m.Xr,dI (Z9j r e k).m.Xy,dI (Z9j r e k).m.Xa,dI (Z9j r e k).m.Xw,dS (Z9j r e k).m.Xb,dU (Z9j r e k).m.Xi,dI (Z9j r e k).m.X1.Xt,dI (Z9j r e k).m.X1.Xn,.d (dsl false false (kE false) (Z9q r e k).l),.d (dsl false false (kE false) (Z9j r e k).m.Xp),Z8h]),(Z8o h),Z8p]
abbrev Z9s:=(Xs 1099511627776 1099511627776 r e k 8)
abbrev Z9t:SV:=dI (Z9s r e k).m.X2
abbrev Z9u:SV:=dI (Z9s r e k).m.Xr
abbrev Z9v:SV:=dI (Z9s r e k).m.Xy
abbrev Z9w:SV:=dI (Z9s r e k).m.Xa
abbrev Z9x:SV:=dI (Z9s r e k).m.Xw
abbrev Z9y:SV:=dS (Z9s r e k).m.Xb
abbrev Z9z:SV:=dU (Z9s r e k).m.Xi
abbrev Za0:SV:=dI (Z9s r e k).m.X1.Xt
abbrev Za1:SV:=dI (Z9s r e k).m.X1.Xn
abbrev Za2:SV:=.d (dsl false false (kE false) (Z9s r e k).m.Xe)
abbrev Za3:SV:=.d (dsl false false (kE false) (Z9s r e k).m.Xp)
abbrev Za4:HS:=.live (.box 42 [(Z9t r e k),(Z9u r e k),(Z9v r e k),(Z9w r e k),(Z9x r e k),(Z9y r e k),(Z9z r e k),(Za0 r e k),(Za1 r e k),(Za2 r e k),(Za3 r e k),Z8h])
abbrev Za5:List HS:=[.live (.box 83 [(Z8k B),dI ((Wr B (Z9s r e k).rest:Nat):Int),dI (Z9s r e k).e]),(Za4 r e k),(Z8o h),Z8p]
abbrev Za6:List AV:=[pv 0 0,aa,aa,aa,pv 1 0,pv 2 0,pv 3 0,aa,aa,aa,aa,aa,aa,aa,aa,aa,aa,aa,aa,aa,aa,aa,aa,aa,aa,aa,aa,aa,aa,aa,aa,aa,aa,aa,aa,aa,aa,aa,aa,aa,aa,aa,aa,aa,aa,aa,aa,aa,aa,aa,aa,aa,vB h.Xp]
abbrev Za7:=(U3 1099511627776 (Z9n r e k).rest (Z9n r e k).e)
abbrev Za8:List HS:=[.live (.box 83 [(Z8k B),dI ((Wr B (Za7 r e k).rest:Nat):Int),dI (Za7 r e k).e]),.live (.box 42 [dI (Z9n r e k).m.X2,dI (Z9n r e k).m.Xr,dI (Z9n r e k).m.Xy,dI (Z9n r e k).m.Xa,dI (Z9n r e k).m.Xw,dS (Z9n r e k).m.Xb,dU (Z9n r e k).m.Xi,dI (Z9n r e k).m.X1.Xt,dI (Z9n r e k).m.X1.Xn,.d (dsl false false (kE false) (Z9n r e k).m.Xe),.d (dsl false false (kE false) (Za7 r e k).l),Z8h]),(Z8o h),Z8p]
abbrev Za9:=(Xs 1099511627776 1099511627776 r e k 9)
abbrev Zaa:List SV:=[dI (Za9 r e k).m.X2,dI (Za9 r e k).m.Xr,dI (Za9 r e k).m.Xy,dI (Za9 r e k).m.Xa,dI (Za9 r e k).m.Xw,dS (Za9 r e k).m.Xb,dU (Za9 r e k).m.Xi,dI (Za9 r e k).m.X1.Xt,dI (Za9 r e k).m.X1.Xn,.d (dsl false false (kE false) (Za9 r e k).m.Xe),.d (dsl false false (kE false) (Za9 r e k).m.Xp),.d (dsl false false (kC false) (Za9 r e k).m.X5)]
abbrev Zab:List HS:=[.live (.box 83 [(Z8k B),dI ((Wr B (Za9 r e k).rest:Nat):Int),dI (Za9 r e k).e]),.live (.box 42 (Zaa r e k)),(Z8o h),Z8p]
abbrev Zac:AV:=vI ((rdC (Z9s r e k).rest (Z9s r e k).e 8:Nat):Int)
abbrev Zad:List AV:=[pv 0 0,aa,aa,aa,pv 1 0,pv 2 0,pv 3 0,(Zac r e k),vI 0,aa,aa,aa,aa,aa,aa,aa,aa,aa,aa,aa,aa,aa,aa,aa,aa,aa,aa,aa,aa,aa,aa,aa,aa,aa,aa,aa,aa,aa,aa,aa,aa,aa,aa,aa,aa,aa,aa,aa,aa,aa,aa,aa,aa,aa,aa,aa,aa,vB h.X5]
abbrev Zae:HS:=.live (.box 83 [(Z8k B),dI ((Wr B (rdR (Z9s r e k).rest (Z9s r e k).e 4 (Yc 8 ((Z9s r e k).rest.take 4))):Nat):Int),dI (rdE (Z9s r e k).rest (Z9s r e k).e 4 (Yc 8 ((Z9s r e k).rest.take 4)))])
abbrev Zaf:List HS:=[(Zae B r e k),.live (.box 42 [(Z9t r e k),(Z9u r e k),(Z9v r e k),(Z9w r e k),(Z9x r e k),(Z9y r e k),(Z9z r e k),(Za0 r e k),(Za1 r e k),(Za2 r e k),(Za3 r e k),.own 4 (kC false).sz 0 0]),(Z8o h),Z8p,.live (Xc 110 (kC false) ([]:List aC))]
abbrev Zag:=(Yk 1099511627776 (Z9s r e k).rest (Z9s r e k).e k2)
abbrev Zah:HS:=.live (.box 83 [(Z8k B),dI ((Wr B (Zag r e k k2).rest:Nat):Int),dI (Zag r e k k2).e])
abbrev Zai:List HS:=[(Zah B r e k k2),.live (.box 42 [(Z9t r e k),(Z9u r e k),(Z9v r e k),(Z9w r e k),(Z9x r e k),(Z9y r e k),(Z9z r e k),(Za0 r e k),(Za1 r e k),(Za2 r e k),(Za3 r e k),.own 4 (kC false).sz 0 (Zag r e k k2).l.length]),(Z8o h),Z8p,.live (Xc 110 (kC false) (Zag r e k k2).l)]
abbrev Zal:=(evV 1099511627776 (Zag r e k k2).rest (Zag r e k k2).e)
abbrev Zam:=(U3 1099511627776 (evR 1099511627776 (Zag r e k k2).rest (Zag r e k k2).e) (evE 1099511627776 (Zag r e k k2).rest (Zag r e k k2).e))
abbrev Zan:=(aC.mk (Zal r e k k2) (Zam r e k k2).l)
abbrev Zao:=(Yk 1099511627776 (Z9s r e k).rest (Z9s r e k).e (k2+1))
abbrev Zap:List AV:=[pv 0 0,aa,aa,aa,pv 1 0,pv 2 0,pv 3 0,(Zac r e k),vI ((k2:Nat):Int),aa,aa,aa,aa,aa,aa,aa,aa,aa,aa,aa,aa,aa,aa,aa,aa,aa,aa,aa,aa,aa,aa,aa,aa,aa,aa,aa,aa,aa,aa,aa,aa,aa,aa,aa,aa,aa,aa,aa,aa,aa,aa,aa,aa,aa,aa,aa,aa,aa,aa,aa,aa,aa,vB (decide (((k2:Nat):Int)<((rdC (Z9s r e k).rest (Z9s r e k).e 8:Nat):Int)))]
abbrev Zaq:HS:=.live (.box 42 [(Z9t r e k),(Z9u r e k),(Z9v r e k),(Z9w r e k),(Z9x r e k),(Z9y r e k),(Z9z r e k),(Za0 r e k),(Za1 r e k),(Za2 r e k),(Za3 r e k),.d (dsl false false (kC false) (Zag r e k k2).l)])
abbrev Zar:List AV:=[pv 0 0,aa,aa,aa,pv 1 0,pv 2 0,pv 3 0,aa,aa,aa,aa,aa,aa,aa,aa,aa,aa,aa,aa,aa,aa,aa,aa,aa,aa,aa,aa,aa,aa,aa,aa,aa,aa,aa,aa,aa,aa,aa,aa,aa,aa,aa,aa,aa,aa,aa,aa,aa,aa,aa,aa,aa,aa,aa,aa,aa,aa,vB h.X5]
abbrev Zas:List HS:=[.live (.box 83 [(Z8k B),dI ((Wr B (Z9s r e k).rest:Nat):Int),dI (Z9s r e k).e]),.live (.box 42 [(Z9t r e k),(Z9u r e k),(Z9v r e k),(Z9w r e k),(Z9x r e k),(Z9y r e k),(Z9z r e k),(Za0 r e k),(Za1 r e k),(Za2 r e k),(Za3 r e k),.d (dsl false false (kC false) ([]:List aC))]),(Z8o h),Z8p]
end
theorem Xf5 (B:List UInt8) (r:List UInt8) (e:Int) (k:Int) (h:aH) (hs:r <:+ B) (hB:B.length≤100000000) (hh:h=Xg k):Holds Tryz.prog 29 ⟨[pv 0 0,.tv (.agg [dI k,dI 0,dI 0,dI 0,dI 0,dS [],.d (.val (.slice none 0 0)),dI 0,dI 0,.d (.val (.slice none 0 0)),.d (.val (.slice none 0 0)),.d (.val (.slice none 0 0))]),.tv (.agg [dB h.Xr,dB h.Xy,dB h.Xa,dB h.Xb,dB h.Xi,dB h.X1,dB h.Xe,dB h.Xp,dB h.X5])],[.box 83 [dU B,dI ((Wr B r:Nat):Int),dI e]],.tv (.agg [dI (Xs 1099511627776 1099511627776 r e k 9).m.X2,dI (Xs 1099511627776 1099511627776 r e k 9).m.Xr,dI (Xs 1099511627776 1099511627776 r e k 9).m.Xy,dI (Xs 1099511627776 1099511627776 r e k 9).m.Xa,dI (Xs 1099511627776 1099511627776 r e k 9).m.Xw,dS (Xs 1099511627776 1099511627776 r e k 9).m.Xb,dU (Xs 1099511627776 1099511627776 r e k 9).m.Xi,dI (Xs 1099511627776 1099511627776 r e k 9).m.X1.Xt,dI (Xs 1099511627776 1099511627776 r e k 9).m.X1.Xn,.d (dsl false false (kE false) (Xs 1099511627776 1099511627776 r e k 9).m.Xe),.d (dsl false false (kE false) (Xs 1099511627776 1099511627776 r e k 9).m.Xp),.d (dsl false false (kC false) (Xs 1099511627776 1099511627776 r e k 9).m.X5)]),[.live (.box 83 [dU B,dI ((Wr B (Xs 1099511627776 1099511627776 r e k 9).rest:Nat):Int),dI (Xs 1099511627776 1099511627776 r e k 9).e])]⟩:=by
 refine Holds.of Tryz.func29 rfl (N:=76) Tryz.ntmps29 rfl fun w0 B0 S0 U0=>?_
 show T _ (Y0 76 1 w0 S0 U0 B0) ⟨[pv 0 0,.tv (.agg (Z8i k)),.tv (.agg (Z8j h))],[(Z8l B r e)]⟩ _ _
 refine sR [] ?_
 refine Va ⟨Z8m,(Z8q B r e k h)⟩ ?_ ?_
 ·refine tN ⟨(Z8r k h),[(Z8l B r e),.live (.box 42 (Z8i k)),(Z8o h),Z8p]⟩ ?_
  refine Wv (s':=⟨(Z8r k h),(Z8s B r e k h)⟩) (fun _ _ hG=>We (s:=⟨(Z8r k h),[(Z8l B r e),.live (.box 42 (Z8i k)),(Z8o h),Z8p]⟩) ⟨.inl rfl,p3m⟩ ⟨.inl rfl,⟨(.inr ⟨rfl,(kk2 (kk4 ⟨p1a,(kk2 ⟨p1a,⟨p1a,⟨.inl rfl,trivial⟩⟩⟩)⟩))⟩),(kk2 trivial)⟩⟩ hG) ?_
  refine Wv (s':=⟨Z8m,(Z8u B r e k h)⟩) (fun _ _ hG=>Y9 [0,1,2,3] (bm 7 113) (h2:=(Z8s B r e k h)) rfl (cg13 (fun (q1:Int) (q2:Int) (q3:Int) (q4:Int) (q5:Int) (q6:Int) (q7:Int) (q8:List UInt8) (q9:List UInt8) (q10:Int) (q11:Int) (q12:List aE) (q13:List aE)=>([.live (.box 83 [(Z8k B),dI q1,dI q2]),.live (.box 42 [dI q3,dI q4,dI q5,dI q6,dI q7,dS q8,dU q9,dI q10,dI q11,.d (dsl false false (kE false) q12),.d (dsl false false (kE false) q13),Z8h]),(Z8o h),Z8p]:List HS)) (by rfl) (by rfl) (by rfl) (by rfl) (by rfl) (by rfl) (by rfl) (by rfl) (by rfl) (by rfl) (by rfl) (by rfl) (by rfl)) hG) (sR [] ?_)
  by_cases hq1:h.Xr=true
  ·have hbt:U8 (Xg k) 0=true:=(by subst hh;exact hq1);have hst:(Xs 1099511627776 1099511627776 r e k 1)=Wp 1099511627776 1099511627776 (Xs 1099511627776 1099511627776 r e k 0) 0:=U5 rfl hbt;simp only [Wp] at hst
   refine cT hq1 (xK [hR 1 rfl rfl (rCa (Je B (Xs 1099511627776 1099511627776 r e k 0).rest (Xs 1099511627776 1099511627776 r e k 0).e (by repeat assumption) (by omega)) Tryz.func27 [0] [(.tmp 11,pv 0 0)] 1 1)] ?_)
   refine eN ⟨(Z8v h),(Z8w B r e k h)⟩ ?_
   refine Xh (s':=⟨Z8m,(Z8q B r e k h)⟩) (fun _ _ hG=>Y9 [0,1,2,3] (bm 7 113) (h2:=(Z8w B r e k h)) rfl pZ0 hG) ?_
   exact nJ
  have hbt:¬U8 (Xg k) 0=true:=(by subst hh;exact hq1);have hst:(Xs 1099511627776 1099511627776 r e k 1)=(Xs 1099511627776 1099511627776 r e k 0):=F3 hbt
  replace hq1:=Bool.eq_false_iff.2 hq1
  refine cF hq1 (T.skip ?_)
  refine eN ⟨(Z8v h),(Z8u B r e k h)⟩ ?_
  refine Xh (s':=⟨Z8m,(Z8q B r e k h)⟩) (fun _ _ hG=>Y9 [0,1,2,3] (bm 7 113) (h2:=(Z8u B r e k h)) rfl pZ0 hG) ?_
  exact nJ
 refine Va ⟨Z8m,(Z8y B r e k h)⟩ ?_ ?_
 ·refine sR [] ?_
  by_cases hq2:h.Xy=true
  ·have hbt:U8 (Xg k) 1=true:=(by subst hh;exact hq2);have hst:(Xs 1099511627776 1099511627776 r e k 2)=Wp 1099511627776 1099511627776 (Xs 1099511627776 1099511627776 r e k 1) 1:=U5 rfl hbt;simp only [Wp] at hst
   refine cT hq2 (xK [hR 1 rfl rfl (rCa (Je B (Xs 1099511627776 1099511627776 r e k 1).rest (Xs 1099511627776 1099511627776 r e k 1).e pZ7 (by omega)) Tryz.func27 [0] [(.tmp 16,pv 0 0)] 1 1)] ?_)
   refine eN ⟨(Z8z h),(Z90 B r e k h)⟩ ?_
   refine Xh (s':=⟨Z8m,(Z8y B r e k h)⟩) (fun _ _ hG=>Y9 [0,1,2,3] (bm 7 113) (h2:=(Z90 B r e k h)) rfl pZ0 hG) ?_
   exact nJ
  have hbt:¬U8 (Xg k) 1=true:=(by subst hh;exact hq2);have hst:(Xs 1099511627776 1099511627776 r e k 2)=(Xs 1099511627776 1099511627776 r e k 1):=F3 hbt
  replace hq2:=Bool.eq_false_iff.2 hq2
  refine cF hq2 (T.skip ?_)
  refine eN ⟨(Z8z h),(Z8q B r e k h)⟩ ?_
  refine Xh (s':=⟨Z8m,(Z8y B r e k h)⟩) (fun _ _ hG=>Y9 [0,1,2,3] (bm 7 113) (h2:=(Z8q B r e k h)) rfl pZ0 hG) ?_
  exact nJ
 refine Va ⟨Z8m,(Z92 B r e k h)⟩ ?_ ?_
 ·refine sR [] ?_
  by_cases hq3:h.Xa=true
  ·have hbt:U8 (Xg k) 2=true:=(by subst hh;exact hq3);have hst:(Xs 1099511627776 1099511627776 r e k 3)=Wp 1099511627776 1099511627776 (Xs 1099511627776 1099511627776 r e k 2) 2:=U5 rfl hbt;simp only [Wp] at hst
   refine cT hq3 (sR [hR 1 rfl rfl (rCa (Je B (Xs 1099511627776 1099511627776 r e k 2).rest (Xs 1099511627776 1099511627776 r e k 2).e pZ7 (by omega)) Tryz.func27 [0] [(.tmp 21,pv 0 0)] 1 1)] (xK [hR 1 rfl rfl (rCa (Je B (rdR (Xs 1099511627776 1099511627776 r e k 2).rest (Xs 1099511627776 1099511627776 r e k 2).e 8 0) (rdE (Xs 1099511627776 1099511627776 r e k 2).rest (Xs 1099511627776 1099511627776 r e k 2).e 8 0) pZ7 (by omega)) Tryz.func27 [0] [(.tmp 24,pv 0 0)] 1 1)] ?_))
   refine eN ⟨(Z93 h),(Z94 B r e k h)⟩ ?_
   refine Xh (s':=⟨Z8m,(Z92 B r e k h)⟩) (fun _ _ hG=>Y9 [0,1,2,3] (bm 7 113) (h2:=(Z94 B r e k h)) rfl pZ0 hG) ?_
   exact nJ
  have hbt:¬U8 (Xg k) 2=true:=(by subst hh;exact hq3);have hst:(Xs 1099511627776 1099511627776 r e k 3)=(Xs 1099511627776 1099511627776 r e k 2):=F3 hbt
  replace hq3:=Bool.eq_false_iff.2 hq3
  refine cF hq3 (T.skip ?_)
  refine eN ⟨(Z93 h),(Z8y B r e k h)⟩ ?_
  refine Xh (s':=⟨Z8m,(Z92 B r e k h)⟩) (fun _ _ hG=>Y9 [0,1,2,3] (bm 7 113) (h2:=(Z8y B r e k h)) rfl pZ0 hG) ?_
  exact nJ
 refine Va ⟨Z8m,(Z97 B r e k h)⟩ ?_ ?_
 ·refine sR [] ?_
  by_cases hq4:h.Xb=true
  ·have hbt:U8 (Xg k) 3=true:=(by subst hh;exact hq4);have hst:(Xs 1099511627776 1099511627776 r e k 4)=Wp 1099511627776 1099511627776 (Xs 1099511627776 1099511627776 r e k 3) 3:=U5 rfl hbt;simp only [Wp] at hst
   refine cT hq4 ?_
   refine xR [hR 1 rfl rfl (rCa (Fo B (Xs 1099511627776 1099511627776 r e k 3).rest (Xs 1099511627776 1099511627776 r e k 3).e 1099511627776 pZ7 (by omega)) Tryz.func59 [0,4] [(.tmp 29,pv 0 0),(.const (.int .i64 1099511627776),vI 1099511627776)] 1 2),hR 2 rfl rfl (X0o () (rdY (Xs 1099511627776 1099511627776 r e k 3).rest (Xs 1099511627776 1099511627776 r e k 3).e 1099511627776) (ys:=(.own 4 kU8.sz 0 (Z98 r e k).length)) (rhs:=[(4,.live (Xc 5 kU8 (Z98 r e k)))]) Tryz.underlying34 Tryz.underlying5 Tryz.underlying35 (U4 4 5 kU8 (rdY (Xs 1099511627776 1099511627776 r e k 3).rest (Xs 1099511627776 1099511627776 r e k 3).e 1099511627776)) (X4 rfl) trivial)] pZ2 pZ2 ?_
   refine eN ⟨(Z99 h),[(Z9a B r e k),(Z9b r e k),(Z8o h),Z8p,.live (Xc 5 kU8 (Z98 r e k))]⟩ ?_
   refine Xh (s':=⟨Z8m,(Z97 B r e k h)⟩) (fun _ _ hG=>Y9 [0,1,2,3] (bm 7 113) (h2:=[(Z9a B r e k),(Z9b r e k),(Z8o h),Z8p]) rfl pZ0 hG) ?_
   exact nJ
  have hbt:¬U8 (Xg k) 3=true:=(by subst hh;exact hq4);have hst:(Xs 1099511627776 1099511627776 r e k 4)=(Xs 1099511627776 1099511627776 r e k 3):=F3 hbt
  replace hq4:=Bool.eq_false_iff.2 hq4
  refine cF hq4 (T.skip ?_)
  refine eN ⟨(Z99 h),(Z92 B r e k h)⟩ ?_
  refine Xh (s':=⟨Z8m,(Z97 B r e k h)⟩) (fun _ _ hG=>Y9 [0,1,2,3] (bm 7 113) (h2:=(Z92 B r e k h)) rfl pZ0 hG) ?_
  exact nJ
 refine Va ⟨Z8m,(Z9d B r e k h)⟩ ?_ ?_
 ·refine sR [] ?_
  by_cases hq5:h.Xi=true
  ·have hbt:U8 (Xg k) 4=true:=(by subst hh;exact hq5);have hst:(Xs 1099511627776 1099511627776 r e k 5)=Wp 1099511627776 1099511627776 (Xs 1099511627776 1099511627776 r e k 4) 4:=U5 rfl hbt;simp only [Wp] at hst
   refine cT hq5 (xK [hR 1 rfl rfl (rCa (Fo B (Xs 1099511627776 1099511627776 r e k 4).rest (Xs 1099511627776 1099511627776 r e k 4).e 1099511627776 pZ7 (by omega)) Tryz.func59 [0,4] [(.tmp 35,pv 0 0),(.const (.int .i64 1099511627776),vI 1099511627776)] 1 2)] ?_)
   refine eN (Z9h B r e k h) ?_
   refine Xh (s':=⟨(Z9e h),[(Z9f B r e k),(Z9i r e k),(Z8o h),Z8p,.dead]⟩) (fun _ _ hG=>Gs.freeze (s:=(Z9h B r e k h)) 4 (el:=Yu kU8 (rdY (Xs 1099511627776 1099511627776 r e k 4).rest (Xs 1099511627776 1099511627776 r e k 4).e 1099511627776)) (sz:=kU8.sz) (n:=(rdY (Xs 1099511627776 1099511627776 r e k 4).rest (Xs 1099511627776 1099511627776 r e k 4).e 1099511627776).length) rfl ⟨.inl rfl,(kk2 (X6i trivial))⟩ ⟨pd,⟨p4g,⟨pd,⟨pd,⟨(.inl ⟨rfl,rfl⟩),trivial⟩⟩⟩⟩⟩ hG) ?_
   refine Xh (s':=⟨Z8m,(Z9d B r e k h)⟩) (fun _ _ hG=>Y9 [0,1,2,3] (bm 7 113) (h2:=[(Z9f B r e k),(Z9i r e k),(Z8o h),Z8p]) rfl pZ0 hG) ?_
   exact nJ
  have hbt:¬U8 (Xg k) 4=true:=(by subst hh;exact hq5);have hst:(Xs 1099511627776 1099511627776 r e k 5)=(Xs 1099511627776 1099511627776 r e k 4):=F3 hbt
  replace hq5:=Bool.eq_false_iff.2 hq5
  refine cF hq5 (T.skip ?_)
  refine eN ⟨(Z9e h),(Z97 B r e k h)⟩ ?_
  refine Xh (s':=⟨Z8m,(Z9d B r e k h)⟩) (fun _ _ hG=>Y9 [0,1,2,3] (bm 7 113) (h2:=(Z97 B r e k h)) rfl pZ0 hG) ?_
  exact nJ
 refine Va ⟨Z8m,(Z9k B r e k h)⟩ ?_ ?_
 ·refine sR [] ?_
  by_cases hq6:h.X1=true
  ·have hbt:U8 (Xg k) 5=true:=(by subst hh;exact hq6);have hst:(Xs 1099511627776 1099511627776 r e k 6)=Wp 1099511627776 1099511627776 (Xs 1099511627776 1099511627776 r e k 5) 5:=U5 rfl hbt;simp only [Wp] at hst
   refine cT hq6 ?_
   refine xR [hR 1 rfl rfl (rCa (Je B (Xs 1099511627776 1099511627776 r e k 5).rest (Xs 1099511627776 1099511627776 r e k 5).e pZ7 (by omega)) Tryz.func27 [0] [(.tmp 40,pv 0 0)] 1 1),hR 3 rfl rfl (rCa (Je B (rdR (Xs 1099511627776 1099511627776 r e k 5).rest (Xs 1099511627776 1099511627776 r e k 5).e 8 0) (rdE (Xs 1099511627776 1099511627776 r e k 5).rest (Xs 1099511627776 1099511627776 r e k 5).e 8 0) pZ7 (by omega)) Tryz.func27 [0] [(.tmp 42,pv 0 0)] 1 1)] pZ2 pZ2 ?_
   refine eN ⟨(Z9l h),(Z9m B r e k h)⟩ ?_
   refine Xh (s':=⟨Z8m,(Z9k B r e k h)⟩) (fun _ _ hG=>Y9 [0,1,2,3] (bm 7 113) (h2:=(Z9m B r e k h)) rfl pZ0 hG) ?_
   exact nJ
  have hbt:¬U8 (Xg k) 5=true:=(by subst hh;exact hq6);have hst:(Xs 1099511627776 1099511627776 r e k 6)=(Xs 1099511627776 1099511627776 r e k 5):=F3 hbt
  replace hq6:=Bool.eq_false_iff.2 hq6
  refine cF hq6 (T.skip ?_)
  refine eN ⟨(Z9l h),(Z9d B r e k h)⟩ ?_
  refine Xh (s':=⟨Z8m,(Z9k B r e k h)⟩) (fun _ _ hG=>Y9 [0,1,2,3] (bm 7 113) (h2:=(Z9d B r e k h)) rfl pZ0 hG) ?_
  exact nJ
 refine Va ⟨Z8m,(Z9o B r e k h)⟩ ?_ ?_
 ·refine sR [] ?_
  by_cases hq7:h.Xe=true
  ·have hbt:U8 (Xg k) 6=true:=(by subst hh;exact hq7);have hst:(Xs 1099511627776 1099511627776 r e k 7)=Wp 1099511627776 1099511627776 (Xs 1099511627776 1099511627776 r e k 6) 6:=U5 rfl hbt;simp only [Wp] at hst
   refine cT hq7 (xK [hR 1 rfl rfl (rCa (F4 B (Xs 1099511627776 1099511627776 r e k 6).rest (Xs 1099511627776 1099511627776 r e k 6).e pZ7 (by omega)) Tryz.func60 [0] [(.tmp 48,pv 0 0)] 1 1)] ?_)
   refine eN ⟨(Z9p h),(Z9r B r e k h)⟩ ?_
   refine Xh (s':=⟨Z8m,(Z9o B r e k h)⟩) (fun _ _ hG=>Y9 [0,1,2,3] (bm 7 113) (h2:=(Z9r B r e k h)) rfl pZ0 hG) ?_
   exact nJ
  have hbt:¬U8 (Xg k) 6=true:=(by subst hh;exact hq7);have hst:(Xs 1099511627776 1099511627776 r e k 7)=(Xs 1099511627776 1099511627776 r e k 6):=F3 hbt
  replace hq7:=Bool.eq_false_iff.2 hq7
  refine cF hq7 (T.skip ?_)
  refine eN ⟨(Z9p h),(Z9k B r e k h)⟩ ?_
  refine Xh (s':=⟨Z8m,(Z9o B r e k h)⟩) (fun _ _ hG=>Y9 [0,1,2,3] (bm 7 113) (h2:=(Z9k B r e k h)) rfl pZ0 hG) ?_
  exact nJ
 refine Va ⟨Z8m,(Za5 B r e k h)⟩ ?_ ?_
 ·refine sR [] ?_
  by_cases hq8:h.Xp=true
  ·have hbt:U8 (Xg k) 7=true:=(by subst hh;exact hq8);have hst:(Xs 1099511627776 1099511627776 r e k 8)=Wp 1099511627776 1099511627776 (Xs 1099511627776 1099511627776 r e k 7) 7:=U5 rfl hbt;simp only [Wp] at hst
   refine cT hq8 (xK [hR 1 rfl rfl (rCa (F4 B (Xs 1099511627776 1099511627776 r e k 7).rest (Xs 1099511627776 1099511627776 r e k 7).e pZ7 (by omega)) Tryz.func60 [0] [(.tmp 53,pv 0 0)] 1 1)] ?_)
   refine eN ⟨(Za6 h),(Za8 B r e k h)⟩ ?_
   refine Xh (s':=⟨Z8m,(Za5 B r e k h)⟩) (fun _ _ hG=>Y9 [0,1,2,3] (bm 7 113) (h2:=(Za8 B r e k h)) rfl pZ0 hG) ?_
   exact nJ
  have hbt:¬U8 (Xg k) 7=true:=(by subst hh;exact hq8);have hst:(Xs 1099511627776 1099511627776 r e k 8)=(Xs 1099511627776 1099511627776 r e k 7):=F3 hbt
  replace hq8:=Bool.eq_false_iff.2 hq8
  refine cF hq8 (T.skip ?_)
  refine eN ⟨(Za6 h),(Z9o B r e k h)⟩ ?_
  refine Xh (s':=⟨Z8m,(Za5 B r e k h)⟩) (fun _ _ hG=>Y9 [0,1,2,3] (bm 7 113) (h2:=(Z9o B r e k h)) rfl pZ0 hG) ?_
  exact nJ
 refine Va ⟨Z8m,(Zab B r e k h)⟩ ?_ ?_
 ·refine sR [] ?_
  by_cases hq9:h.X5=true
  rotate_left
  ·have hbt:¬U8 (Xg k) 8=true:=(by subst hh;exact hq9);have hst:(Xs 1099511627776 1099511627776 r e k 9)=(Xs 1099511627776 1099511627776 r e k 8):=F3 hbt
   replace hq9:=Bool.eq_false_iff.2 hq9
   refine cF hq9 (T.skip ?_)
   refine eN ⟨(Zar h),(Za5 B r e k h)⟩ ?_
   refine Xh (s':=⟨(Zar h),(Zas B r e k h)⟩) (fun _ _ hG=>We (s:=⟨(Zar h),(Za5 B r e k h)⟩) (kk2 (kk8 p3j)) ⟨.inl rfl,⟨(.inr ⟨rfl,⟨.inl rfl,(kk2 (kk8 ⟨p1a,trivial⟩))⟩⟩),(kk2 trivial)⟩⟩ hG) ?_
   refine Xh (s':=⟨Z8m,(Zab B r e k h)⟩) (fun _ _ hG=>Y9 [0,1,2,3] (bm 7 113) (h2:=(Zas B r e k h)) rfl (by have e1:(((Wr B (Xs 1099511627776 1099511627776 r e k 9).rest:Nat):Int):Int)=((Wr B (Xs 1099511627776 1099511627776 r e k 8).rest:Nat):Int):=pp;have e2:((Xs 1099511627776 1099511627776 r e k 9).e:Int)=(Xs 1099511627776 1099511627776 r e k 8).e:=pp;have e3:((Xs 1099511627776 1099511627776 r e k 9).m.X2:Int)=(Xs 1099511627776 1099511627776 r e k 8).m.X2:=pp;have e4:((Xs 1099511627776 1099511627776 r e k 9).m.Xr:Int)=(Xs 1099511627776 1099511627776 r e k 8).m.Xr:=pp;have e5:((Xs 1099511627776 1099511627776 r e k 9).m.Xy:Int)=(Xs 1099511627776 1099511627776 r e k 8).m.Xy:=pp;have e6:((Xs 1099511627776 1099511627776 r e k 9).m.Xa:Int)=(Xs 1099511627776 1099511627776 r e k 8).m.Xa:=pp;have e7:((Xs 1099511627776 1099511627776 r e k 9).m.Xw:Int)=(Xs 1099511627776 1099511627776 r e k 8).m.Xw:=pp;have e8:((Xs 1099511627776 1099511627776 r e k 9).m.Xb:List UInt8)=(Xs 1099511627776 1099511627776 r e k 8).m.Xb:=pp;have e9:((Xs 1099511627776 1099511627776 r e k 9).m.Xi:List UInt8)=(Xs 1099511627776 1099511627776 r e k 8).m.Xi:=pp;have e10:((Xs 1099511627776 1099511627776 r e k 9).m.X1.Xt:Int)=(Xs 1099511627776 1099511627776 r e k 8).m.X1.Xt:=pp;have e11:((Xs 1099511627776 1099511627776 r e k 9).m.X1.Xn:Int)=(Xs 1099511627776 1099511627776 r e k 8).m.X1.Xn:=pp;have e12:((Xs 1099511627776 1099511627776 r e k 9).m.Xe:List aE)=(Xs 1099511627776 1099511627776 r e k 8).m.Xe:=pp;have e13:((Xs 1099511627776 1099511627776 r e k 9).m.Xp:List aE)=(Xs 1099511627776 1099511627776 r e k 8).m.Xp:=pp;have e14:((Xs 1099511627776 1099511627776 r e k 9).m.X5:List aC)=([]:List aC):=(by (rw [hst,X5m 8 (by decide)];done));have hE:=congr (congr (congr (congr (congr (congr (congr (congr (congr (congr (congr (congr (congr (congrArg (fun (q1:Int) (q2:Int) (q3:Int) (q4:Int) (q5:Int) (q6:Int) (q7:Int) (q8:List UInt8) (q9:List UInt8) (q10:Int) (q11:Int) (q12:List aE) (q13:List aE) (q14:List aC)=>([.live (.box 83 [(Z8k B),dI q1,dI q2]),.live (.box 42 [dI q3,dI q4,dI q5,dI q6,dI q7,dS q8,dU q9,dI q10,dI q11,.d (dsl false false (kE false) q12),.d (dsl false false (kE false) q13),.d (dsl false false (kC false) q14)]),(Z8o h),Z8p]:List HS)) e1) e2) e3) e4) e5) e6) e7) e8) e9) e10) e11) e12) e13) e14;exact hE) hG) ?_
   exact nJ
  have hbt:U8 (Xg k) 8=true:=(by subst hh;exact hq9);have hst:(Xs 1099511627776 1099511627776 r e k 9)=Wp 1099511627776 1099511627776 (Xs 1099511627776 1099511627776 r e k 8) 8:=U5 rfl hbt;simp only [Wp] at hst
  refine cT hq9 (sR [hR 1 rfl rfl (rCa (X2b B (Xs 1099511627776 1099511627776 r e k 8).rest (Xs 1099511627776 1099511627776 r e k 8).e 8 pZ7 (by omega)) Tryz.func61 [0] [(.tmp 58,pv 0 0),(.const (.int .i64 8),vI 8)] 1 1)] (sR [] (T.block ?_)))
  refine tN ⟨(Zad r e k h),[(Zae B r e k),(Za4 r e k),(Z8o h),Z8p]⟩ ?_
  refine Wv (s':=⟨(Zad r e k h),(Zaf B r e k h)⟩) (fun _ _ hG=>I4 4 1 11 110 (kC false) (Tb:=42) (cs:=[(Z9t r e k),(Z9u r e k),(Z9v r e k),(Z9w r e k),(Z9x r e k),(Z9y r e k),(Z9z r e k),(Za0 r e k),(Za1 r e k),(Za2 r e k),(Za3 r e k),Z8h]) rfl rfl rfl hG) ?_
  refine T.loop (ι:=Nat) (fun (k2:Nat)=>⟨[pv 0 0,aa,aa,aa,pv 1 0,pv 2 0,pv 3 0,(Zac r e k),vI ((k2:Nat):Int)],(Zai B r e k h k2)⟩) (fun (k2:Nat)=>(k2≤rdC (Xs 1099511627776 1099511627776 r e k 8).rest (Xs 1099511627776 1099511627776 r e k 8).e 8)) (fun (k2:Nat)=>rdC (Xs 1099511627776 1099511627776 r e k 8).rest (Xs 1099511627776 1099511627776 r e k 8).e 8-k2) (0) (Nat.zero_le _) (fun _ _ hG=>Y9 [0,1,2,3,4] (bm 9 497) (h2:=(Zaf B r e k h)) rfl (cg4 (fun (q1:Int) (q2:Int) (q3:Nat) (q4:List aC)=>([.live (.box 83 [(Z8k B),dI q1,dI q2]),.live (.box 42 [(Z9t r e k),(Z9u r e k),(Z9v r e k),(Z9w r e k),(Z9x r e k),(Z9y r e k),(Z9z r e k),(Za0 r e k),(Za1 r e k),(Za2 r e k),(Za3 r e k),.own 4 (kC false).sz 0 q3]),(Z8o h),Z8p,.live (Xc 110 (kC false) q4)]:List HS)) (by rfl) (by rfl) (by rfl) (by rfl)) hG) ?_
  rintro k2 hk2
  show T _ _ ⟨[pv 0 0,aa,aa,aa,pv 1 0,pv 2 0,pv 3 0,(Zac r e k),vI ((k2:Nat):Int)],(Zai B r e k h k2)⟩ _ _
  replace hk2:k2≤rdC (Xs 1099511627776 1099511627776 r e k 8).rest (Xs 1099511627776 1099511627776 r e k 8).e 8:=hk2
  have hg:=Iz 1099511627776 (Xs 1099511627776 1099511627776 r e k 8).rest (Xs 1099511627776 1099511627776 r e k 8).e k2
  have hg2:=hg.2
  have hcm:rdC (Xs 1099511627776 1099511627776 r e k 8).rest (Xs 1099511627776 1099511627776 r e k 8).e 8≤8:=X0m (Xs 1099511627776 1099511627776 r e k 8).rest (Xs 1099511627776 1099511627776 r e k 8).e 8
  refine T.seq (sR [] ?_)
  by_cases hq10:((k2:Nat):Int)<((rdC (Xs 1099511627776 1099511627776 r e k 8).rest (Xs 1099511627776 1099511627776 r e k 8).e 8:Nat):Int)
  ·refine cT (dT hq10) (T.skip (nT (T.seq (T.block ?_))))
   refine xD [[],[0],[],[2],[],[2,3,4],[2,3,4,5],[2,3,4,5,6],[0,1,2,3,4,5,6,7],[0,1,2,3,4,5,6,7,8],[0,1,2,3,4,5,6,7,8,9]] [hR 3 rfl rfl (rCa (Ek B (Yk 1099511627776 (Xs 1099511627776 1099511627776 r e k 8).rest (Xs 1099511627776 1099511627776 r e k 8).e k2).rest (Yk 1099511627776 (Xs 1099511627776 1099511627776 r e k 8).rest (Xs 1099511627776 1099511627776 r e k 8).e k2).e pZ7 (by omega)) Tryz.func62 [0] [(.tmp 67,pv 0 0)] 1 1),hR 5 rfl rfl (rCa (F4 B (evR 1099511627776 (Yk 1099511627776 (Xs 1099511627776 1099511627776 r e k 8).rest (Xs 1099511627776 1099511627776 r e k 8).e k2).rest (Yk 1099511627776 (Xs 1099511627776 1099511627776 r e k 8).rest (Xs 1099511627776 1099511627776 r e k 8).e k2).e) (evE 1099511627776 (Yk 1099511627776 (Xs 1099511627776 1099511627776 r e k 8).rest (Xs 1099511627776 1099511627776 r e k 8).e k2).rest (Yk 1099511627776 (Xs 1099511627776 1099511627776 r e k 8).rest (Xs 1099511627776 1099511627776 r e k 8).e k2).e) pZ7 (by omega)) Tryz.func60 [0] [(.tmp 69,pv 0 0)] 1 1),hR 7 rfl rfl (Yb 5 110 (kC false) (Iy false) [(aC.mk (evV 1099511627776 (Yk 1099511627776 (Xs 1099511627776 1099511627776 r e k 8).rest (Xs 1099511627776 1099511627776 r e k 8).e k2).rest (Yk 1099511627776 (Xs 1099511627776 1099511627776 r e k 8).rest (Xs 1099511627776 1099511627776 r e k 8).e k2).e) (U3 1099511627776 (evR 1099511627776 (Yk 1099511627776 (Xs 1099511627776 1099511627776 r e k 8).rest (Xs 1099511627776 1099511627776 r e k 8).e k2).rest (Yk 1099511627776 (Xs 1099511627776 1099511627776 r e k 8).rest (Xs 1099511627776 1099511627776 r e k 8).e k2).e) (evE 1099511627776 (Yk 1099511627776 (Xs 1099511627776 1099511627776 r e k 8).rest (Xs 1099511627776 1099511627776 r e k 8).e k2).rest (Yk 1099511627776 (Xs 1099511627776 1099511627776 r e k 8).rest (Xs 1099511627776 1099511627776 r e k 8).e k2).e)).l)] [⟨0,.tmp 71,.agg [dI (Zal r e k k2).f_Signer,dU (Zal r e k k2).X7,.d (dsl false false (kE false) (Zam r e k k2).l)],0⟩] (cs:=[dI (Zal r e k k2).f_Signer,dU (Zal r e k k2).X7,.d (dsl false false (kE false) (Zam r e k k2).l)]) Tryz.underlying40 Jz rfl X9s rfl rfl rfl pf (Wi rfl rfl pf Wa) pZ2 (Vk pZ2) (X4 rfl) trivial),hR 8 rfl rfl (Yq 4 6 110 56 (kC false) (Iy false) (Yk 1099511627776 (Xs 1099511627776 1099511627776 r e k 8).rest (Xs 1099511627776 1099511627776 r e k 8).e k2).l [(aC.mk (evV 1099511627776 (Yk 1099511627776 (Xs 1099511627776 1099511627776 r e k 8).rest (Xs 1099511627776 1099511627776 r e k 8).e k2).rest (Yk 1099511627776 (Xs 1099511627776 1099511627776 r e k 8).rest (Xs 1099511627776 1099511627776 r e k 8).e k2).e) (U3 1099511627776 (evR 1099511627776 (Yk 1099511627776 (Xs 1099511627776 1099511627776 r e k 8).rest (Xs 1099511627776 1099511627776 r e k 8).e k2).rest (Yk 1099511627776 (Xs 1099511627776 1099511627776 r e k 8).rest (Xs 1099511627776 1099511627776 r e k 8).e k2).e) (evE 1099511627776 (Yk 1099511627776 (Xs 1099511627776 1099511627776 r e k 8).rest (Xs 1099511627776 1099511627776 r e k 8).e k2).rest (Yk 1099511627776 (Xs 1099511627776 1099511627776 r e k 8).rest (Xs 1099511627776 1099511627776 r e k 8).e k2).e)).l)] ((Yk 1099511627776 (Xs 1099511627776 1099511627776 r e k 8).rest (Xs 1099511627776 1099511627776 r e k 8).e k2).l++[(aC.mk (evV 1099511627776 (Yk 1099511627776 (Xs 1099511627776 1099511627776 r e k 8).rest (Xs 1099511627776 1099511627776 r e k 8).e k2).rest (Yk 1099511627776 (Xs 1099511627776 1099511627776 r e k 8).rest (Xs 1099511627776 1099511627776 r e k 8).e k2).e) (U3 1099511627776 (evR 1099511627776 (Yk 1099511627776 (Xs 1099511627776 1099511627776 r e k 8).rest (Xs 1099511627776 1099511627776 r e k 8).e k2).rest (Yk 1099511627776 (Xs 1099511627776 1099511627776 r e k 8).rest (Xs 1099511627776 1099511627776 r e k 8).e k2).e) (evE 1099511627776 (Yk 1099511627776 (Xs 1099511627776 1099511627776 r e k 8).rest (Xs 1099511627776 1099511627776 r e k 8).e k2).rest (Yk 1099511627776 (Xs 1099511627776 1099511627776 r e k 8).rest (Xs 1099511627776 1099511627776 r e k 8).e k2).e)).l)]) (Yk 1099511627776 (Xs 1099511627776 1099511627776 r e k 8).rest (Xs 1099511627776 1099511627776 r e k 8).e k2).l.length (sy:=(.own 5 (kC false).sz 0 [(Zan r e k k2)].length)) (rhs:=[(5,.live (Xc 110 (kC false) [(Zan r e k k2)]))]) Xe1 (by omega) (U4 5 110 (kC false) [(aC.mk (evV 1099511627776 (Yk 1099511627776 (Xs 1099511627776 1099511627776 r e k 8).rest (Xs 1099511627776 1099511627776 r e k 8).e k2).rest (Yk 1099511627776 (Xs 1099511627776 1099511627776 r e k 8).rest (Xs 1099511627776 1099511627776 r e k 8).e k2).e) (U3 1099511627776 (evR 1099511627776 (Yk 1099511627776 (Xs 1099511627776 1099511627776 r e k 8).rest (Xs 1099511627776 1099511627776 r e k 8).e k2).rest (Yk 1099511627776 (Xs 1099511627776 1099511627776 r e k 8).rest (Xs 1099511627776 1099511627776 r e k 8).e k2).e) (evE 1099511627776 (Yk 1099511627776 (Xs 1099511627776 1099511627776 r e k 8).rest (Xs 1099511627776 1099511627776 r e k 8).e k2).rest (Yk 1099511627776 (Xs 1099511627776 1099511627776 r e k 8).rest (Xs 1099511627776 1099511627776 r e k 8).e k2).e)).l)]) p1o p1z p1z (X4 rfl) trivial)] pZ2 pZ2 pZ2 pZ2 pZ2 pZ2 ?_
   refine nB (nT (xK [hR 1 rfl rfl (Y4 (u1:=.int .i64 ((k2:Nat):Int)) (u2:=.int .i64 1) (v:=.int .i64 ((k2+1:Nat):Int)) (Yn pZ5) (X4 rfl) ⟨rfl,trivial⟩)] ?_))
   refine nL (k2+1) (show (k2+1)≤rdC (Xs 1099511627776 1099511627776 r e k 8).rest (Xs 1099511627776 1099511627776 r e k 8).e 8 from (by omega)) (show (rdC (Xs 1099511627776 1099511627776 r e k 8).rest (Xs 1099511627776 1099511627776 r e k 8).e 8-(k2+1):Nat)<rdC (Xs 1099511627776 1099511627776 r e k 8).rest (Xs 1099511627776 1099511627776 r e k 8).e 8-k2 from (by omega)) (fun _ _ hG=>Ww [0,1,2,3,6] (bm 9 497) (h1:=[.live (.box 83 [(Z8k B),dI ((Wr B (Zao r e k k2).rest:Nat):Int),dI (Zao r e k k2).e]),.live (.box 42 [(Z9t r e k),(Z9u r e k),(Z9v r e k),(Z9w r e k),(Z9x r e k),(Z9y r e k),(Z9z r e k),(Za0 r e k),(Za1 r e k),(Za2 r e k),(Za3 r e k),.own 6 (kC false).sz 0 (Zao r e k k2).l.length]),(Z8o h),Z8p,.live (Xc 110 (kC false) (Zao r e k k2).l)]) (h2:=[.live (.box 83 [(Z8k B),dI ((Wr B (Zam r e k k2).rest:Nat):Int),dI (Zam r e k k2).e]),.live (.box 42 [(Z9t r e k),(Z9u r e k),(Z9v r e k),(Z9w r e k),(Z9x r e k),(Z9y r e k),(Z9z r e k),(Za0 r e k),(Za1 r e k),(Za2 r e k),(Za3 r e k),.own 6 (kC false).sz 0 ((Zag r e k k2).l++[(Zan r e k k2)]).length]),(Z8o h),Z8p,.live (Xc 110 (kC false) ((Zag r e k k2).l++[(Zan r e k k2)]))]) (t1:=[pv 0 0,aa,aa,aa,pv 1 0,pv 2 0,pv 3 0,(Zac r e k),vI ((k2+1:Nat):Int)]) rfl (by have e1:(((Wr B (Yk 1099511627776 (Xs 1099511627776 1099511627776 r e k 8).rest (Xs 1099511627776 1099511627776 r e k 8).e (k2+1)).rest:Nat):Int):Int)=((Wr B (U3 1099511627776 (evR 1099511627776 (Yk 1099511627776 (Xs 1099511627776 1099511627776 r e k 8).rest (Xs 1099511627776 1099511627776 r e k 8).e k2).rest (Yk 1099511627776 (Xs 1099511627776 1099511627776 r e k 8).rest (Xs 1099511627776 1099511627776 r e k 8).e k2).e) (evE 1099511627776 (Yk 1099511627776 (Xs 1099511627776 1099511627776 r e k 8).rest (Xs 1099511627776 1099511627776 r e k 8).e k2).rest (Yk 1099511627776 (Xs 1099511627776 1099511627776 r e k 8).rest (Xs 1099511627776 1099511627776 r e k 8).e k2).e)).rest:Nat):Int):=(by rfl);have e2:((Yk 1099511627776 (Xs 1099511627776 1099511627776 r e k 8).rest (Xs 1099511627776 1099511627776 r e k 8).e (k2+1)).e:Int)=(U3 1099511627776 (evR 1099511627776 (Yk 1099511627776 (Xs 1099511627776 1099511627776 r e k 8).rest (Xs 1099511627776 1099511627776 r e k 8).e k2).rest (Yk 1099511627776 (Xs 1099511627776 1099511627776 r e k 8).rest (Xs 1099511627776 1099511627776 r e k 8).e k2).e) (evE 1099511627776 (Yk 1099511627776 (Xs 1099511627776 1099511627776 r e k 8).rest (Xs 1099511627776 1099511627776 r e k 8).e k2).rest (Yk 1099511627776 (Xs 1099511627776 1099511627776 r e k 8).rest (Xs 1099511627776 1099511627776 r e k 8).e k2).e)).e:=(by rfl);have e3:((Yk 1099511627776 (Xs 1099511627776 1099511627776 r e k 8).rest (Xs 1099511627776 1099511627776 r e k 8).e (k2+1)).l.length:Nat)=((Yk 1099511627776 (Xs 1099511627776 1099511627776 r e k 8).rest (Xs 1099511627776 1099511627776 r e k 8).e k2).l++[(aC.mk (evV 1099511627776 (Yk 1099511627776 (Xs 1099511627776 1099511627776 r e k 8).rest (Xs 1099511627776 1099511627776 r e k 8).e k2).rest (Yk 1099511627776 (Xs 1099511627776 1099511627776 r e k 8).rest (Xs 1099511627776 1099511627776 r e k 8).e k2).e) (U3 1099511627776 (evR 1099511627776 (Yk 1099511627776 (Xs 1099511627776 1099511627776 r e k 8).rest (Xs 1099511627776 1099511627776 r e k 8).e k2).rest (Yk 1099511627776 (Xs 1099511627776 1099511627776 r e k 8).rest (Xs 1099511627776 1099511627776 r e k 8).e k2).e) (evE 1099511627776 (Yk 1099511627776 (Xs 1099511627776 1099511627776 r e k 8).rest (Xs 1099511627776 1099511627776 r e k 8).e k2).rest (Yk 1099511627776 (Xs 1099511627776 1099511627776 r e k 8).rest (Xs 1099511627776 1099511627776 r e k 8).e k2).e)).l)]).length:=(by (rw [(Iz 1099511627776 (Xs 1099511627776 1099511627776 r e k 8).rest (Xs 1099511627776 1099511627776 r e k 8).e (k2+1)).2,List.length_append,(Iz 1099511627776 (Xs 1099511627776 1099511627776 r e k 8).rest (Xs 1099511627776 1099511627776 r e k 8).e k2).2];rfl));have e4:((Yk 1099511627776 (Xs 1099511627776 1099511627776 r e k 8).rest (Xs 1099511627776 1099511627776 r e k 8).e (k2+1)).l:List aC)=(Yk 1099511627776 (Xs 1099511627776 1099511627776 r e k 8).rest (Xs 1099511627776 1099511627776 r e k 8).e k2).l++[(aC.mk (evV 1099511627776 (Yk 1099511627776 (Xs 1099511627776 1099511627776 r e k 8).rest (Xs 1099511627776 1099511627776 r e k 8).e k2).rest (Yk 1099511627776 (Xs 1099511627776 1099511627776 r e k 8).rest (Xs 1099511627776 1099511627776 r e k 8).e k2).e) (U3 1099511627776 (evR 1099511627776 (Yk 1099511627776 (Xs 1099511627776 1099511627776 r e k 8).rest (Xs 1099511627776 1099511627776 r e k 8).e k2).rest (Yk 1099511627776 (Xs 1099511627776 1099511627776 r e k 8).rest (Xs 1099511627776 1099511627776 r e k 8).e k2).e) (evE 1099511627776 (Yk 1099511627776 (Xs 1099511627776 1099511627776 r e k 8).rest (Xs 1099511627776 1099511627776 r e k 8).e k2).rest (Yk 1099511627776 (Xs 1099511627776 1099511627776 r e k 8).rest (Xs 1099511627776 1099511627776 r e k 8).e k2).e)).l)]:=(by rfl);have hE:=congr (congr (congr (congrArg (fun (q1:Int) (q2:Int) (q3:Nat) (q4:List aC)=>([.live (.box 83 [(Z8k B),dI q1,dI q2]),.live (.box 42 [(Z9t r e k),(Z9u r e k),(Z9v r e k),(Z9w r e k),(Z9x r e k),(Z9y r e k),(Z9z r e k),(Za0 r e k),(Za1 r e k),(Za2 r e k),(Za3 r e k),.own 6 (kC false).sz 0 q3]),(Z8o h),Z8p,.live (Xc 110 (kC false) q4)]:List HS)) e1) e2) e3) e4;exact hE) hG)
  have hfx:Fg 1099511627776 (Xs 1099511627776 1099511627776 r e k 8).rest (Xs 1099511627776 1099511627776 r e k 8).e=Yk 1099511627776 (Xs 1099511627776 1099511627776 r e k 8).rest (Xs 1099511627776 1099511627776 r e k 8).e k2:=(by rw [Fg,show rdC (Xs 1099511627776 1099511627776 r e k 8).rest (Xs 1099511627776 1099511627776 r e k 8).e 8=k2 by omega]);rw [hfx] at hst
  refine cF (dF hq10) (T.exit (xT (xT (xH ?_))))
  refine eN ⟨(Zap r e k k2),(Zai B r e k h k2)⟩ ?_
  refine Xh (s':=⟨(Zap r e k k2),[(Zah B r e k k2),(Zaq r e k k2),(Z8o h),Z8p,.dead]⟩) (fun _ _ hG=>Gs.freeze (s:=⟨(Zap r e k k2),(Zai B r e k h k2)⟩) 4 (el:=Yu (kC false) (Yk 1099511627776 (Xs 1099511627776 1099511627776 r e k 8).rest (Xs 1099511627776 1099511627776 r e k 8).e k2).l) (sz:=(kC false).sz) (n:=(Yk 1099511627776 (Xs 1099511627776 1099511627776 r e k 8).rest (Xs 1099511627776 1099511627776 r e k 8).e k2).l.length) rfl ⟨.inl rfl,(kk2 (kk4 (kk8 p3j)))⟩ ⟨pd,⟨(.inr ⟨by decide,.inr ⟨rfl,⟨.inl rfl,(kk2 (kk8 ⟨pZ6,trivial⟩))⟩⟩⟩),⟨pd,⟨pd,⟨(.inl ⟨rfl,rfl⟩),trivial⟩⟩⟩⟩⟩ hG) ?_
  refine Xh (s':=⟨Z8m,(Zab B r e k h)⟩) (fun _ _ hG=>Y9 [0,1,2,3] (bm 7 113) (h2:=[(Zah B r e k k2),(Zaq r e k k2),(Z8o h),Z8p]) rfl (by have hE:=congrArg (fun (qq0:RdM)=>([.live (.box 83 [(Z8k B),dI (((Wr B qq0.rest:Nat):Int)),dI (qq0.e)]),.live (.box 42 [dI (qq0.m.X2),dI (qq0.m.Xr),dI (qq0.m.Xy),dI (qq0.m.Xa),dI (qq0.m.Xw),dS (qq0.m.Xb),dU (qq0.m.Xi),dI (qq0.m.X1.Xt),dI (qq0.m.X1.Xn),.d (dsl false false (kE false) (qq0.m.Xe)),.d (dsl false false (kE false) (qq0.m.Xp)),.d (dsl false false (kC false) (qq0.m.X5))]),(Z8o h),Z8p]:List HS)) hst;(try dsimp only at hE);exact hE) hG) ?_
  exact nJ
 refine sR [] (T.ret ?_)
 exact eX [.c 6 3 42 0 42 [dI (Za9 r e k).m.X2,dI (Za9 r e k).m.Xr,dI (Za9 r e k).m.Xy,dI (Za9 r e k).m.Xa,dI (Za9 r e k).m.Xw,dS (Za9 r e k).m.Xb,dU (Za9 r e k).m.Xi,dI (Za9 r e k).m.X1.Xt,dI (Za9 r e k).m.X1.Xn,.d (dsl false false (kE false) (Za9 r e k).m.Xe),.d (dsl false false (kE false) (Za9 r e k).m.Xp),.d (dsl false false (kC false) (Za9 r e k).m.X5)] (.agg (Zaa r e k))] ⟨⟨rfl,rfl,by kernel_rfl,by kernel_rfl,.inl ⟨12,Jx,rfl,Nat.le_of_ble_eq_true rfl⟩⟩,trivial⟩ [0] rfl (ix trivial)
section
variable (b:List UInt8)
abbrev Zat:AV:=vB (decide (((b.length:Nat):Int)>16777216))
abbrev Zau:List AV:=[slV false false kU8 b,aa,pv 0 0,vI 11,aa,aa,aa,aa,aa,aa,aa,(Zat b)]
abbrev Zav:SV:=.d (.val (.slice none 0 0))
abbrev Zaw:HS:=.live (.box 42 [dI 0,dI 0,dI 0,dI 0,dI 0,dS [],Zav,dI 0,dI 0,Zav,Zav,Zav])
abbrev Zax:SV:=dU ([]:List UInt8)
abbrev Zay:SV:=.d (dsl false false (kE false) ([]:List aE))
abbrev Zaz:SV:=.d (dsl false false (kC false) ([]:List aC))
abbrev Zb0:List SV:=[dI 0,dI 0,dI 0,dI 0,dI 0,dS [],Zax,dI 0,dI 0,Zay,Zay,Zaz]
abbrev Zb1:List AV:=[slV false false kU8 b,aa,pv 0 0,vI 0,pv 1 0,aa,aa,aa,aa,aa,aa,(Zat b)]
abbrev Zb2:List HS:=[Zaw,.live (.box 83 [dU b,dI 0,dI 0])]
abbrev Zb3:List HS:=[Zaw,.live (.box 83 [dU b,dI ((Wr b b:Nat):Int),dI 0])]
abbrev Zb4:List SV:=[dB (Xg (rdI b 0)).Xr,dB (Xg (rdI b 0)).Xy,dB (Xg (rdI b 0)).Xa,dB (Xg (rdI b 0)).Xb,dB (Xg (rdI b 0)).Xi,dB (Xg (rdI b 0)).X1,dB (Xg (rdI b 0)).Xe,dB (Xg (rdI b 0)).Xp,dB (Xg (rdI b 0)).X5]
abbrev Zb5:List AV:=[slV false false kU8 b,aa,pv 0 0,vI 12,pv 1 0,vI (rdI b 0),pv 2 0,vB (decide (okK (rdI b 0))),pv 3 0,aa,aa,(Zat b),aa,aa,aa,aa,aa,aa,aa,aa,aa,aa,aa,aa,aa,aa,aa,aa,aa,aa,aa,aa,aa,aa,aa,aa,aa,aa,aa,aa,aa,aa,aa,vB true]
abbrev Zb6:=(Xs 1099511627776 1099511627776 (rdR b 0 8 0) (rdE b 0 8 0) (rdI b 0) 9)
abbrev Zb7:HS:=.live (.box 83 [dU b,dI ((Wr b (Zb6 b).rest:Nat):Int),dI (rdX (Zb6 b).rest (Zb6 b).e)])
abbrev Zb8:List SV:=[dI (Zb6 b).m.X2,dI (Zb6 b).m.Xr,dI (Zb6 b).m.Xy,dI (Zb6 b).m.Xa,dI (Zb6 b).m.Xw,dS (Zb6 b).m.Xb,dU (Zb6 b).m.Xi,dI (Zb6 b).m.X1.Xt,dI (Zb6 b).m.X1.Xn,.d (dsl false false (kE false) (Zb6 b).m.Xe),.d (dsl false false (kE false) (Zb6 b).m.Xp),.d (dsl false false (kC false) (Zb6 b).m.X5)]
abbrev Zb9:List HS:=[Zaw,(Zb7 b),.live (.box 86 (Zb4 b)),.live (.box 42 (Zb8 b))]
abbrev Zba:List HS:=[.live (.box 42 Zb0),(Zb7 b),.live (.box 86 (Zb4 b)),.live (.box 42 (Zb8 b))]
abbrev Zbb:List AV:=[slV false false kU8 b,aa,pv 0 0,vI 12,pv 1 0,vI (rdI b 0),pv 2 0,vB (decide (okK (rdI b 0))),pv 3 0,aa,aa,(Zat b),aa,aa,aa,aa,aa,aa,aa,aa,aa,aa,aa,aa,aa,aa,aa,aa,aa,aa,aa,aa,aa,aa,aa,aa,aa,aa,aa,aa,aa,aa,aa,vB (decide ((X1t (Zb6 b).m)≠0))]
end
theorem H7 (b:List UInt8) (hb:b.length≤140737488350000):Holds Tryz.prog 8 ⟨[slV false false kU8 b],[],.tup [.agg [dI (Y2 b).X2,dI (Y2 b).Xr,dI (Y2 b).Xy,dI (Y2 b).Xa,dI (Y2 b).Xw,dS (Y2 b).Xb,dU (Y2 b).Xi,dI (Y2 b).X1.Xt,dI (Y2 b).X1.Xn,.d (dsl false false (kE false) (Y2 b).Xe),.d (dsl false false (kE false) (Y2 b).Xp),.d (dsl false false (kC false) (Y2 b).X5)],.one (dI (X05 b))],[]⟩:=by
 refine Holds.of Tryz.func8 rfl (N:=46) Tryz.ntmps8 rfl fun w0 B0 S0 U0=>?_
 show T _ (Y0 46 0 w0 S0 U0 B0) ⟨[slV false false kU8 b],[]⟩ _ _
 obtain ⟨hf1,hf2,hf3,hf4,hf5⟩:=X25 1099511627776 1099511627776 (rdR b 0 8 0) (rdE b 0 8 0) (rdI b 0) 9
 have hr1:=U6 b 0 8 0
 refine sR [] (T.seq (sR [] ?_))
 by_cases hq1:((b.length:Nat):Int)>16777216
 ·have hd9:=Xb4 (M:=((b.length:Nat):Int)) (N:=16777216) (b:=b) (by omega)
  refine cT (dT hq1) (sR [] (T.ret (rT ?_)))
  refine eN ⟨(Zau b),[Zaw]⟩ ?_
  refine Xh (s':=⟨(Zau b),[.live (.box 42 Zb0)]⟩) (fun _ _ hG=>We (s:=⟨(Zau b),[Zaw]⟩) p39 ⟨pa,trivial⟩ hG) ?_
  exact eX [.c 2 0 42 0 42 [dI 0,dI 0,dI 0,dI 0,dI 0,dS [],Zax,dI 0,dI 0,Zay,Zay,Zaz] (.agg Zb0),.t 3 (.one (dI 11))] ⟨⟨rfl,rfl,by kernel_rfl,by kernel_rfl,.inl ⟨12,Jx,rfl,Nat.le_of_ble_eq_true rfl⟩⟩,⟨⟨rfl,by kernel_rfl⟩,trivial⟩⟩ [] pc trivial
 have hbl:¬b.length>16777216:=(by omega)
 refine cF (dF hq1) (T.skip (nT (sR [] ?_)))
 refine tN ⟨(Zb1 b),(Zb2 b)⟩ ?_
 refine Wv (s':=⟨(Zb1 b),(Zb3 b)⟩) (fun _ _ hG=>Y9 [0,1] (bm 12 2077) (h2:=(Zb2 b)) rfl (by have e1:(((Wr b b:Nat):Int):Int)=0:=(by (rw [pos_0];rfl));have hE:=congrArg (fun (q1:Int)=>([Zaw,.live (.box 83 [dU b,dI q1,dI 0])]:List HS)) e1;exact hE) hG) (sR [hR 1 rfl rfl (rCa (Je b b 0 (by repeat exact List.suffix_refl _) ‹_›) Tryz.func27 [1] [(.tmp 16,pv 1 0)] 1 1)] (sR [hR 1 rfl rfl (rCa (Fl (rdI b 0) ) Tryz.func28 [] [(.tmp 19,vI (rdI b 0))] 0 0)] ?_))
 refine sR [hR 4 rfl rfl (rCa (Xf5 b (rdR b 0 8 0) (rdE b 0 8 0) (rdI b 0) (aH.mk (Xg (rdI b 0)).Xr (Xg (rdI b 0)).Xy (Xg (rdI b 0)).Xa (Xg (rdI b 0)).Xb (Xg (rdI b 0)).Xi (Xg (rdI b 0)).X1 (Xg (rdI b 0)).Xe (Xg (rdI b 0)).Xp (Xg (rdI b 0)).X5) pZ7 (by omega) rfl) Tryz.func29 [1] [(.tmp 23,pv 1 0),(.tmp 25,.tv (.agg [dI (rdI b 0),dI 0,dI 0,dI 0,dI 0,dS [],Zav,dI 0,dI 0,Zav,Zav,Zav])),(.tmp 26,.tv (.agg (Zb4 b)))] 1 1)] ?_
 refine sR [hR 1 rfl rfl (rCa (Xbx b (Xs 1099511627776 1099511627776 (rdR b 0 8 0) (rdE b 0 8 0) (rdI b 0) 9).rest (Xs 1099511627776 1099511627776 (rdR b 0 8 0) (rdE b 0 8 0) (rdI b 0) 9).e pZ7 ‹_›) Tryz.func30 [1] [(.tmp 28,pv 1 0)] 1 1)] (T.seq ?_)
 by_cases hq2:okK (rdI b 0)
 rotate_left
 ·have hd9:=X3k (M:=((b.length:Nat):Int)) (N:=16777216) (fun q=>hq2 q.2.1) hbl
  refine sR (Xf (hN · false (cn (dF hq2))) [3,4,5,6,7] (hP 8 (cn (dF hq2))::(Xf hN0 [10,11,12] (hP1 13::[])))) (cT (b:=true) rfl (sR [] (T.ret (rT ?_))))
  refine eN ⟨(Zb5 b),(Zb9 b)⟩ ?_
  refine Xh (s':=⟨(Zb5 b),(Zba b)⟩) (fun _ _ hG=>We (s:=⟨(Zb5 b),(Zb9 b)⟩) (kk4 p4m) ⟨pa,⟨.inl rfl,(kk2 trivial)⟩⟩ hG) ?_
  exact eX [.c 2 0 42 0 42 [dI 0,dI 0,dI 0,dI 0,dI 0,dS [],Zax,dI 0,dI 0,Zay,Zay,Zaz] (.agg Zb0),.t 3 (.one (dI 12))] ⟨⟨rfl,rfl,by kernel_rfl,by kernel_rfl,.inl ⟨12,Jx,rfl,Nat.le_of_ble_eq_true rfl⟩⟩,⟨⟨rfl,by kernel_rfl⟩,trivial⟩⟩ [] pc trivial
 by_cases hq3:(rdX (Xs 1099511627776 1099511627776 (rdR b 0 8 0) (rdE b 0 8 0) (rdI b 0) 9).rest (Xs 1099511627776 1099511627776 (rdR b 0 8 0) (rdE b 0 8 0) (rdI b 0) 9).e)≠0
 ·have hd9:=X6s (b:=b) (fun q=>hq3 q.2.2.1) hbl
  refine sR (Xf (hY · (cn (dT hq2))) [3,4,5,6,7] (hP 8 (cn (dT hq2))::(Xf (hN · false (dT hq3)) [10,11,12] (hP 13 (dT hq3)::[])))) (cT (b:=true) rfl (sR [] (T.ret (rT ?_))))
  refine eN ⟨(Zb5 b),(Zb9 b)⟩ ?_
  refine Xh (s':=⟨(Zb5 b),(Zba b)⟩) (fun _ _ hG=>We (s:=⟨(Zb5 b),(Zb9 b)⟩) (kk4 p4m) ⟨pa,⟨.inl rfl,(kk2 trivial)⟩⟩ hG) ?_
  exact eX [.c 2 0 42 0 42 [dI 0,dI 0,dI 0,dI 0,dI 0,dS [],Zax,dI 0,dI 0,Zay,Zay,Zaz] (.agg Zb0),.t 3 (.one (dI 12))] ⟨⟨rfl,rfl,by kernel_rfl,by kernel_rfl,.inl ⟨12,Jx,rfl,Nat.le_of_ble_eq_true rfl⟩⟩,⟨⟨rfl,by kernel_rfl⟩,trivial⟩⟩ [] pc trivial
 refine sR (Xf (hY · (cn (dT hq2))) [3,4,5,6,7] (hP 8 (cn (dT hq2))::(hY 10 (dF hq3)::(hS 11 (oY rfl rfl rfl rfl (X4 rfl) (dF hq3) (rCa (X41 false (Xs 1099511627776 1099511627776 (rdR b 0 8 0) (rdE b 0 8 0) (rdI b 0) 9).m (by omega) (by omega) (by omega) (by omega) (by omega)) Tryz.func31 [] [(.tmp 40,.tv (.agg (Zb8 b)))] 0 0))::(hY 12 (dF hq3)::(hP 13 (dF hq3)::[])))))) ?_
 by_cases hq4:(X1t (Xs 1099511627776 1099511627776 (rdR b 0 8 0) (rdE b 0 8 0) (rdI b 0) 9).m)≠0
 ·have hd9:=X6s (b:=b) (fun q=>hq4 (chk0.2 q.2.2.2)) hbl
  refine cT (dT hq4) (sR [] (T.ret (rT ?_)))
  refine eN ⟨(Zbb b),(Zb9 b)⟩ ?_
  refine Xh (s':=⟨(Zbb b),(Zba b)⟩) (fun _ _ hG=>We (s:=⟨(Zbb b),(Zb9 b)⟩) (kk4 p4m) ⟨pa,⟨.inl rfl,(kk2 trivial)⟩⟩ hG) ?_
  exact eX [.c 2 0 42 0 42 [dI 0,dI 0,dI 0,dI 0,dI 0,dS [],Zax,dI 0,dI 0,Zay,Zay,Zaz] (.agg Zb0),.t 3 (.one (dI 12))] ⟨⟨rfl,rfl,by kernel_rfl,by kernel_rfl,.inl ⟨12,Jx,rfl,Nat.le_of_ble_eq_true rfl⟩⟩,⟨⟨rfl,by kernel_rfl⟩,trivial⟩⟩ [] pc trivial
 have hd9:=Xb5 (b:=b) ⟨by omega,by assumption,Classical.not_not.1 ‹_›,chk0.1 (Classical.not_not.1 hq4)⟩
 refine cF (dF hq4) (T.skip (nT (sR [] (T.ret ?_))))
 exact eX [.c 2 0 42 0 42 [dI (Zb6 b).m.X2,dI (Zb6 b).m.Xr,dI (Zb6 b).m.Xy,dI (Zb6 b).m.Xa,dI (Zb6 b).m.Xw,dS (Zb6 b).m.Xb,dU (Zb6 b).m.Xi,dI (Zb6 b).m.X1.Xt,dI (Zb6 b).m.X1.Xn,.d (dsl false false (kE false) (Zb6 b).m.Xe),.d (dsl false false (kE false) (Zb6 b).m.Xp),.d (dsl false false (kC false) (Zb6 b).m.X5)] (.agg (Zb8 b)),.t 3 (.one (dI 0))] ⟨⟨rfl,rfl,by kernel_rfl,by kernel_rfl,.inl ⟨12,Jx,rfl,Nat.le_of_ble_eq_true rfl⟩⟩,⟨⟨rfl,by kernel_rfl⟩,trivial⟩⟩ [] pc trivial
end Go.Proofs.YthnefnknoahbkaaGreat.Q
namespace Go.Proofs.YthnefnknoahbkaaGreat.Q
set_option linter.unusedVariables false
set_option linter.unusedSimpArgs false
set_option maxRecDepth 100000
theorem X1s (m:aM):(Xm m 9).length≤80+m.Xb.length+m.Xi.length+(Wc m.Xe).length+(Wc m.Xp).length+(H3 m.X5).length:=by
  have s:∀ j,(Xm m (j+1)).length≤(Xm m j).length+(Jg m j).length:=fun j=>by
    rw [Xm,List.length_append]
    split
    · exact Nat.le_refl _
    · simp
  have h0:(Xm m 0).length=8:=Yl _
  have f0:(Jg m 0).length=8:=Yl _
  have f1:(Jg m 1).length=8:=Yl _
  have f2:(Jg m 2).length=16:=by simp only [Jg,List.length_append,Yl]
  have f3:(Jg m 3).length=4+m.Xb.length:=(Wn _).trans (Nat.add_comm _ _)
  have f4:(Jg m 4).length=4+m.Xi.length:=(Wn _).trans (Nat.add_comm _ _)
  have f5:(Jg m 5).length=16:=by simp only [Jg,List.length_append,Yl]
  have f6:(Jg m 6).length=(Wc m.Xe).length:=rfl
  have f7:(Jg m 7).length=(Wc m.Xp).length:=rfl
  have f8:(Jg m 8).length=(H3 m.X5).length:=rfl
  have s0:=s 0
  have s1:=s 1
  have s2:=s 2
  have s3:=s 3
  have s4:=s 4
  have s5:=s 5
  have s6:=s 6
  have s7:=s 7
  have s8:=s 8
  simp only [Nat.reduceAdd] at s0 s1 s2 s3 s4 s5 s6 s7 s8
  omega
end Go.Proofs.YthnefnknoahbkaaGreat.Q
