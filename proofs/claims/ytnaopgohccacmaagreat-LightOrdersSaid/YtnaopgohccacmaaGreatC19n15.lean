import Derived.Test.YtnaopgohccacmaaGreatC19n11
namespace Go.Proofs.YtnaopgohccacmaaGreat.Q
open Go Go.RowKit
set_option linter.unusedVariables false
set_option linter.unusedSimpArgs false
set_option maxRecDepth 100000
set_option maxHeartbeats 4000000
theorem Xge (te:Bool) (e:aE) (r:Y4) (hb:e.X7.length≤100000000):Holds Tryz.prog 103 ⟨[.tv (.agg [dI e.X2,.d (dsl te false kU8 e.X7)]),.tv (.agg [dI r.Xu,dI r.Xl])],[],Y7 0 kU8 0 (Vp e r).length,[.live (Xf 5 kU8 (Vp e r))]⟩:=by
 refine Holds.of Tryz.func103 rfl (N:=19) Tryz.ntmps103 rfl fun w0 B0 S0 U0=>?_
 show T _ (Y5 19 0 w0 S0 U0 B0) ⟨[.tv (.agg [dI e.X2,.d (dsl te false kU8 e.X7)]),.tv (.agg [dI r.Xu,dI r.Xl])],[]⟩ _ _
 have hi1:=Wt e.X2
 have hi2:=Wt r.Xu
 have hy:=Vi e.X7
 refine sR [] ?_
 refine sD [[],[0],[0,1],[],[3],[0,1,2,3,4],[0,1,2,3,4,5]] [hR 2 rfl rfl (rCn (Ue false false ([]:List UInt8) e.X2 (by (simp [maxLen,-List.getD_eq_getElem?_getD]<;>omega))) Tryz.func63 [2] [(.const (.slice none 0 0),dv (.slice none 0 0)),(.tmp 7,vI e.X2)] 0 1 ⟨.inr pq,⟨.inl ⟨rfl,rfl⟩,trivial⟩⟩ ⟨rfl,trivial⟩),hR 5 rfl rfl (Wx (I4 true false (([]:List UInt8)++Yv e.X2) te false e.X7 (by (simp [maxLen,-List.getD_eq_getElem?_getD]<;>omega))) Tryz.func64 rfl (by decide) [3] [2] (l:=[(.tmp 8,Y7 2 kU8 0 (([]:List UInt8)++Yv e.X2).length),(.tmp 10,slV te false kU8 e.X7)]) [(2,.live (Xf 5 kU8 (([]:List UInt8)++Yv e.X2)))] rfl 0 1 rfl rfl rfl rfl rfl rfl rfl rfl rfl ⟨.inr (.inl ⟨rfl,pZs,rfl,rfl,by simp,5,(([]:List UInt8)++Yv e.X2).length,W6 kU8 (([]:List UInt8)++Yv e.X2),List.Mem.head _,pk,fun i j=>by rw [Nat.zero_add]⟩),⟨.inl ⟨rfl,rfl⟩,trivial⟩⟩ rfl pZ6 pj (X3 rfl) trivial)] ?_
 refine sD [[],[],[1],[0,1,2],[],[4],[0,1,2,3,4,5],[0,1,2,3,4,5,6]] [hR 3 rfl rfl (Wx (Ue true false (([]:List UInt8)++Yv e.X2++W2 e.X7) r.Xu (by (simp [maxLen,-List.getD_eq_getElem?_getD]<;>omega))) Tryz.func63 rfl (by decide) [4] [3] (l:=[(.tmp 12,Y7 3 kU8 0 (([]:List UInt8)++Yv e.X2++W2 e.X7).length),(.tmp 14,vI r.Xu)]) [(3,.live (Xf 5 kU8 (([]:List UInt8)++Yv e.X2++W2 e.X7)))] rfl 0 1 rfl rfl rfl rfl rfl rfl rfl rfl rfl ⟨.inr (.inl ⟨rfl,pZs,rfl,rfl,by simp,5,(([]:List UInt8)++Yv e.X2++W2 e.X7).length,W6 kU8 (([]:List UInt8)++Yv e.X2++W2 e.X7),List.Mem.head _,pk,fun i j=>by rw [Nat.zero_add]⟩),⟨.inl ⟨rfl,rfl⟩,trivial⟩⟩ rfl pZ6 pj (X3 rfl) trivial),hR 6 rfl rfl (Wx (Ue true false (([]:List UInt8)++Yv e.X2++W2 e.X7++Yv r.Xu) r.Xl (by (simp [maxLen,-List.getD_eq_getElem?_getD]<;>omega))) Tryz.func63 rfl (by decide) [5] [4] (l:=[(.tmp 15,Y7 4 kU8 0 (([]:List UInt8)++Yv e.X2++W2 e.X7++Yv r.Xu).length),(.tmp 17,vI r.Xl)]) [(4,.live (Xf 5 kU8 (([]:List UInt8)++Yv e.X2++W2 e.X7++Yv r.Xu)))] rfl 0 1 rfl rfl rfl rfl rfl rfl rfl rfl rfl ⟨.inr (.inl ⟨rfl,pZs,rfl,rfl,by simp,5,(([]:List UInt8)++Yv e.X2++W2 e.X7++Yv r.Xu).length,W6 kU8 (([]:List UInt8)++Yv e.X2++W2 e.X7++Yv r.Xu),List.Mem.head _,pk,fun i j=>by rw [Nat.zero_add]⟩),⟨.inl ⟨rfl,rfl⟩,trivial⟩⟩ rfl pZ6 pj (X3 rfl) trivial)] ?_
 refine T.ret ?_
 exact eRt 4 (.one (.own 5 kU8.sz 0 (([]:List UInt8)++Yv e.X2++W2 e.X7++Yv r.Xu++Yv r.Xl).length)) [5] (congrArg (fun (q1:Nat)=>(Y7 5 kU8 0 q1:AV)) (by rfl)) ⟨⟨rfl,(by have e1:(([]:List UInt8)++Yv e.X2++W2 e.X7++Yv r.Xu++Yv r.Xl:List UInt8)=Vp e r:=(by rfl);have hE:=congrArg (fun (q1:List UInt8)=>(.live (Xf 5 kU8 q1):HS)) e1;exact Eq.trans pZ8 hE)⟩,trivial⟩
theorem X73 (tb_:Bool) (b:Xs) (hq:b.Xh.length≤9223372036854775807) (hr:b.Xt.length≤9223372036854775807):Holds Tryz.prog 87 ⟨[.tv (.agg [dI b.Xq,dS b.Y9,.d (dsl tb_ false (kE tb_) b.Xh),.d (dsl tb_ false (Xk tb_) b.Xt)])],[],vI (Vx b),[]⟩:=by
 refine Holds.of Tryz.func87 rfl (N:=26) Tryz.ntmps87 rfl fun w0 B0 S0 U0=>?_
 show T _ (Y5 26 0 w0 S0 U0 B0) ⟨[.tv (.agg [dI b.Xq,dS b.Y9,.d (dsl tb_ false (kE tb_) b.Xh),.d (dsl tb_ false (Xk tb_) b.Xt)])],[]⟩ _ _
 refine sR [] (T.seq (T.block ?_))
 by_cases hq1:b.Xq<1
 ·refine sR (Xr (hN · false (dT hq1)) [4,5,6] (hP 7 (dT hq1)::[])) (cT (b:=true) rfl (sR [] (T.ret (rB (rT ?_)))))
  exact eRt 2 (.one (dI 100)) [] p1x trivial
 refine sR (Xr (hY · (dF hq1)) [4,5,6] (hP 7 (dF hq1)::[])) ?_
 by_cases hq2:b.Xq>1099511627776
 ·refine cT (dT hq2) (sR [] (T.ret (rB (rT ?_))))
  exact eRt 2 (.one (dI 100)) [] p1x trivial
 refine cF (dF hq2) ?_
 by_cases hq3:((b.Xh.length:Nat):Int)≠((b.Xt.length:Nat):Int)
 ·refine sR (Xr (hN · false (dT hq3)) [8,9,10,11] (hP 12 (dT hq3)::[])) (cT (b:=true) rfl (sR [] (T.ret (rB (rT ?_)))))
  exact eRt 2 (.one (dI 102)) [] p1l trivial
 refine sR (Xr (hY · (dF hq3)) [8,9,10,11] (hP 12 (dF hq3)::[])) ?_
 by_cases hq4:((b.Xt.length:Nat):Int)>4
 ·refine cT (dT hq4) (sR [] (T.ret (rB (rT ?_))))
  exact eRt 2 (.one (dI 102)) [] p1l trivial
 refine cF (dF hq4) (T.skip (nB (nT (sR [] (T.ret ?_)))))
 exact eRt 2 (.one (dI 0)) [] p3o trivial
theorem Xe4 (tb_:Bool) (b:Xs) (hq:b.Xh.length≤9223372036854775807) (hr:b.Xt.length≤9223372036854775807):Holds Tryz.prog 92 ⟨[.tv (.agg [dI b.Xq,dS b.Y9,.d (dsl tb_ false (kE tb_) b.Xh),.d (dsl tb_ false (Xk tb_) b.Xt)])],[],vI (Vx b),[]⟩:=by
 refine Holds.of Tryz.func92 rfl (N:=24) Tryz.ntmps92 rfl fun w0 B0 S0 U0=>?_
 show T _ (Y5 24 0 w0 S0 U0 B0) ⟨[.tv (.agg [dI b.Xq,dS b.Y9,.d (dsl tb_ false (kE tb_) b.Xh),.d (dsl tb_ false (Xk tb_) b.Xt)])],[]⟩ _ _
 refine sR [] (T.seq ?_)
 by_cases hq1:b.Xq<1
 ·refine sR (Xr (hN · false (dT hq1)) [4,5,6] (hP 7 (dT hq1)::[])) (cT (b:=true) rfl (sR [] (T.ret (rT ?_))))
  exact eRt 2 (.one (dI 100)) [] p1x trivial
 refine sR (Xr (hY · (dF hq1)) [4,5,6] (hP 7 (dF hq1)::[])) ?_
 by_cases hq2:b.Xq>1099511627776
 ·refine cT (dT hq2) (sR [] (T.ret (rT ?_)))
  exact eRt 2 (.one (dI 100)) [] p1x trivial
 refine cF (dF hq2) (T.skip (nT (T.seq ?_)))
 by_cases hq3:((b.Xh.length:Nat):Int)≠((b.Xt.length:Nat):Int)
 ·refine sR (Xr (hN · false (dT hq3)) [8,9,10,11] (hP 12 (dT hq3)::[])) (cT (b:=true) rfl (sR [] (T.ret (rT ?_))))
  exact eRt 2 (.one (dI 102)) [] p1l trivial
 refine sR (Xr (hY · (dF hq3)) [8,9,10,11] (hP 12 (dF hq3)::[])) ?_
 by_cases hq4:((b.Xh.length:Nat):Int)>4
 ·refine cT (dT hq4) (sR [] (T.ret (rT ?_)))
  exact eRt 2 (.one (dI 102)) [] p1l trivial
 refine cF (dF hq4) (T.skip (nT (sR [] (T.ret ?_))))
 exact eRt 2 (.one (dI 0)) [] p3o trivial
theorem X55:Elem Tryz.prog 136 25 1 24:=⟨Tryz.underlying136,_,_,U9,rfl,rfl,rfl,rfl,by decide⟩
theorem X0v:Tryz.prog.info? 46=some Tryz.t46:=by kernel_rfl
section
variable (tb_:Bool) (b:Xs) (k:Nat)
abbrev Z4h:List SV:=[dI b.Xq,dS b.Y9,.d (dsl tb_ false (kE tb_) b.Xh),.d (dsl tb_ false (Xk tb_) b.Xt)]
abbrev Z4i:AV:=vI (((Yd b).length:Nat):Int)
abbrev Z4j:HS:=.live (.box 65 (Z4h tb_ b))
abbrev Z4k:St:=⟨[aa,pv 0 0,aa,Y7 1 (kSl false kU8) 0 (V3 [] (Yd b) k).length,aa,aa,aa,aa,aa,aa,aa,aa,aa,aa,(Z4i b),vI ((k:Nat):Int)],[(Z4j tb_ b),.live (Xf 25 (kSl false kU8) (V3 [] (Yd b) k))]⟩
abbrev Z4l:AV:=Y7 1 (kSl false kU8) 0 (V3 [] (Yd b) 0).length
abbrev Z4n:=(Vp (b.Xh.getD k zE) (b.Xt.getD k Yk))
abbrev Z4o:AV:=vI ((k+1:Nat):Int)
abbrev Z4p:List AV:=[aa,pv 0 0,aa,Y7 1 (kSl false kU8) 0 (V3 [] (Yd b) k).length,vI ((k:Nat):Int),aa,aa,aa,aa,aa,aa,aa,aa,aa,(Z4i b),(Z4o k),vB (decide (((k:Nat):Int)<(((Yd b).length:Nat):Int)))]
abbrev Z4q:HS:=.live (Xf 25 (kSl false kU8) (((V3 [] (Yd b) k).set k (Z4n b k)).take (V3 [] (Yd b) k).length))
end
theorem X5c (tb_:Bool) (b:Xs) (hf:fewW b):Holds Tryz.prog 109 ⟨[.tv (.agg [dI b.Xq,dS b.Y9,.d (dsl tb_ false (kE tb_) b.Xh),.d (dsl tb_ false (Xk tb_) b.Xt)])],[],Y7 0 (kSl false kU8) 0 (Yd b).length,[.live (Xf 25 (kSl false kU8) (Yd b))]⟩:=by
 refine Holds.of Tryz.func109 rfl (N:=34) Tryz.ntmps109 rfl fun w0 B0 S0 U0=>?_
 show T _ (Y5 34 0 w0 S0 U0 B0) ⟨[.tv (.agg (Z4h tb_ b))],[]⟩ _ _
 have hf1:=hf.1.1
 have hf2:=hf.2.1
 have hf3:=hf.2.2
 have hll:=Uh b
 have hfl:=Eg hf
 refine sR [] (sR [hR 6 rfl rfl (r_minN (k:=.i64) (a:=b.Xh.length) (b:=b.Xt.length) (X3 rfl) trivial),hR 7 rfl rfl (Xig 1 25 24 (kSl false kU8) (V3 [] (Yd b) 0) (min b.Xh.length b.Xt.length) (min b.Xh.length b.Xt.length) (p:=((min b.Xh.length b.Xt.length:Nat):Int)) (q:=((min b.Xh.length b.Xt.length:Nat):Int)) X55 Hw rfl rfl (by omega) (by omega) (by (unfold maxLen;omega)) (by intro j hj;replace hj:j<1:=hj;rcases j with _|j<;>first|exact .inl rfl|exact .inr ⟨rfl,rfl,rfl⟩|omega) (by (rw [fill_0,hll];rfl)) (X3 rfl) trivial)] ?_)
 refine T.seq (sR [] (T.block ?_))
 refine T.loop (ι:=Nat) (fun (k:Nat)=>(Z4k tb_ b k)) (fun (k:Nat)=>(k≤(Yd b).length)) (fun (k:Nat)=>(Yd b).length-k) (0) (Nat.zero_le _) (fun _ _ hG=>Yp [0,1] (bm 16 49162) (t2:=[aa,pv 0 0,aa,(Z4l b),aa,aa,aa,aa,aa,aa,aa,aa,aa,aa,vI (((V3 [] (Yd b) 0).length:Nat):Int),vI 0]) (by have e1:((((Yd b).length:Nat):Int):Int)=(((V3 [] (Yd b) 0).length:Nat):Int):=(by (simp only [X0a];done));have hE:=congrArg (fun (q1:Int)=>([aa,pv 0 0,aa,(Z4l b),aa,aa,aa,aa,aa,aa,aa,aa,aa,aa,vI q1,vI 0]:List AV)) e1;exact hE) rfl hG) ?_
 rintro k hk
 show T _ _ (Z4k tb_ b k) _ _
 replace hk:k≤(Yd b).length:=hk
 have hf1:=hf.1.1
 have hf2:=hf.2.1
 have hf3:=hf.2.2
 have hll:=Uh b
 have hfl:=Eg hf
 have hbk:(b.Xh.getD k zE).X7.length≤20000:=Iw (sz:=szE) hf.1 (by decide) k
 have hfk:=X0a ([]:List UInt8) (Yd b) k
 refine sR [] (T.seq ?_)
 by_cases hq1:((k:Nat):Int)<(((Yd b).length:Nat):Int)
 ·refine cT (dT hq1) (T.skip (nT (T.seq (T.block (sR [] ?_)))))
  refine xD [[],[],[],[2],[],[2,3,4],[2,3,4,5],[],[7],[],[7,8,9],[7,8,9,10],[2,3,4,5,6,7,8,9,10,11],[0,1,2,3,4,5,6,7,8,9,10,11,12],[0,1,2,3,4,5,6,7,8,9,10,11,12,13]] [hR 5 rfl rfl (W9 tb_ false (kE tb_) b.Xh k (k:=.i64) (i:=((k:Nat):Int)) Tryz.underlying37 Wy rfl rfl (by omega) (X3 rfl) trivial),hR 10 rfl rfl (W9 tb_ false (Xk tb_) b.Xt k (k:=.i64) (i:=((k:Nat):Int)) Tryz.underlying63 X0v rfl rfl (by omega) (X3 rfl) trivial),hR 12 rfl rfl (rCa (Xa1 tb_ (b.Xh.getD k zE) (b.Xt.getD k Yk) (by omega)) Tryz.func101 [2] [(.tmp 24,.tv (.agg [dI (b.Xh.getD k zE).X2,.d (dsl tb_ false kU8 (b.Xh.getD k zE).X7)])),(.tmp 29,.tv (.agg [dI (b.Xt.getD k Yk).Xu,dI (b.Xt.getD k Yk).Xl]))] 0 1),hR 13 rfl rfl (Vk (k:=.i64) (l:=1) (sz:=(kSl false kU8).sz) (off:=0) (n:=(V3 [] (Yd b) k).length) (i:=((k:Nat):Int)) (m:=k) (o':=k*(kSl false kU8).sz+0) Tryz.underlying136 U9 rfl rfl (by omega) (by simp) (X3 rfl) trivial),hR 14 rfl rfl (Ug 1 30 2 5 kU8 (Vp (b.Xh.getD k zE) (b.Xt.getD k Yk)) (av:=Y7 2 kU8 0 (Z4n b k).length) (F5 1 25 (kSl false kU8) (V3 [] (Yd b) k) (Vp (b.Xh.getD k zE) (b.Xt.getD k Yk)) k 0 1 [dsl false false kU8 (Z4n b k)] (tv:=.one (dU (Z4n b k))) (off:=k*(kSl false kU8).sz+0) X9z ⟨.inl rfl,trivial⟩ rfl rfl (by omega) (by decide) rfl (by intro j hj;replace hj:j<1:=hj;rcases j with _|j<;>first|rfl|omega) trivial) rfl (.inr pZ2) p2g rfl rfl)] pZ8 pZ8 pZ8 pZ8 pZ8 pZ8 ?_
  refine nB (nT (xK [hR 0 rfl rfl (Yg (u1:=.int .i64 ((k:Nat):Int)) (u2:=.int .i64 1) (v:=.int .i64 ((k+1:Nat):Int)) (W8 pb) (X3 rfl) ⟨rfl,trivial⟩)] ?_))
  refine eN ⟨(Z4p b k),[(Z4j tb_ b),.live (Xf 25 (kSl false kU8) ((V3 [] (Yd b) k).set k (Z4n b k))),.dead]⟩ ?_
  refine X8 (s':=⟨(Z4p b k),[(Z4j tb_ b),(Z4q b k),.dead]⟩) (fun _ _ hG=>Xfz 1 25 (kSl false kU8) ((V3 [] (Yd b) k).set k (Vp (b.Xh.getD k zE) (b.Xt.getD k Yk))) (((V3 [] (Yd b) k).set k (Vp (b.Xh.getD k zE) (b.Xt.getD k Yk))).take (V3 [] (Yd b) k).length) (V3 [] (Yd b) k).length rfl rfl hG) ?_
  refine nL (k+1) (show (k+1)≤(Yd b).length from (by omega)) (show ((Yd b).length-(k+1):Nat)<(Yd b).length-k from (by omega)) (fun _ _ hG=>Yp [0,1] (bm 16 49162) (t2:=[aa,pv 0 0,aa,Y7 1 (kSl false kU8) 0 (V3 [] (Yd b) k).length,aa,aa,aa,aa,aa,aa,aa,aa,aa,aa,(Z4i b),(Z4o k)]) (h2:=[(Z4j tb_ b),(Z4q b k)]) (by have e1:((V3 [] (Yd b) (k+1)).length:Nat)=(V3 [] (Yd b) k).length:=(by (simp only [X0a,List.length_set]));have hE:=congrArg (fun (q1:Nat)=>([aa,pv 0 0,aa,Y7 1 (kSl false kU8) 0 q1,aa,aa,aa,aa,aa,aa,aa,aa,aa,aa,(Z4i b),(Z4o k)]:List AV)) e1;exact hE) (by have e1:((V3 [] (Yd b) (k+1)):List (List UInt8))=(((V3 [] (Yd b) k).set k (Vp (b.Xh.getD k zE) (b.Xt.getD k Yk))).take (V3 [] (Yd b) k).length):=(by (rw [← Fx (by omega) (by omega),Xf9 (by omega),List.take_of_length_le (by simp only [X0a];omega)]));have hE:=congrArg (fun (q1:List (List UInt8))=>([(Z4j tb_ b),.live (Xf 25 (kSl false kU8) q1)]:List HS)) e1;exact hE) hG)
 refine cF (dF hq1) (T.exit (xT (xT (xH (nT (sR [] (T.ret ?_)))))))
 exact eRt 2 (.one (.own 1 (kSl false kU8).sz 0 (V3 [] (Yd b) k).length)) [1] (by have e1:((Yd b).length:Nat)=(V3 [] (Yd b) k).length:=p4u;have hE:=congrArg (fun (q1:Nat)=>(Y7 1 (kSl false kU8) 0 q1:AV)) e1;exact hE) ⟨⟨rfl,(by have e1:((V3 [] (Yd b) k):List (List UInt8))=(Yd b):=p4u;have hE:=congrArg (fun (q1:List (List UInt8))=>(.live (Xf 25 (kSl false kU8) q1):HS)) e1;exact Eq.trans pZ8 hE)⟩,trivial⟩
section
variable (tb_:Bool) (b:Xs) (k:Nat)
abbrev Z4s:List SV:=[dI b.Xq,dS b.Y9,.d (dsl tb_ false (kE tb_) b.Xh),.d (dsl tb_ false (Xk tb_) b.Xt)]
abbrev Z4t:HS:=.live (.box 65 (Z4s tb_ b))
abbrev Z4u:List AV:=[aa,pv 0 0,aa,Y7 1 (kSl false kU8) 0 ((Yd b).take k).length,vI ((k:Nat):Int)]
abbrev Z4w:=(Vp (b.Xh.getD k zE) (b.Xt.getD k Yk))
abbrev Z4x:AV:=vI ((k+1:Nat):Int)
end
theorem Xc8 (tb_:Bool) (b:Xs) (hf:fewW b):Holds Tryz.prog 97 ⟨[.tv (.agg [dI b.Xq,dS b.Y9,.d (dsl tb_ false (kE tb_) b.Xh),.d (dsl tb_ false (Xk tb_) b.Xt)])],[],Y7 0 (kSl false kU8) 0 (Yd b).length,[.live (Xf 25 (kSl false kU8) (Yd b))]⟩:=by
 refine Holds.of Tryz.func97 rfl (N:=34) Tryz.ntmps97 rfl fun w0 B0 S0 U0=>?_
 show T _ (Y5 34 0 w0 S0 U0 B0) ⟨[.tv (.agg (Z4s tb_ b))],[]⟩ _ _
 have hf1:=hf.1.1
 have hf2:=hf.2.1
 have hf3:=hf.2.2
 have hll:=Uh b
 have hfl:=Eg hf
 refine sR [] (sR [] (T.seq (sR [] (T.block ?_))))
 refine tN ⟨[.tv (.agg (Z4s tb_ b)),pv 0 0,dv (.slice none 0 0),dv (.slice none 0 0),vI 0],[(Z4t tb_ b)]⟩ ?_
 refine Wr (s':=⟨[.tv (.agg (Z4s tb_ b)),pv 0 0,dv (.slice none 0 0),Y7 1 (kSl false kU8) 0 0,vI 0],[(Z4t tb_ b),.live (Xf 25 (kSl false kU8) ([]:List (List UInt8)))]⟩) (fun _ _ hG=>Vz 1 3 25 (kSl false kU8) rfl rfl hG) ?_
 refine T.loop (ι:=Nat) (fun (k:Nat)=>⟨(Z4u b k),[(Z4t tb_ b),.live (Xf 25 (kSl false kU8) ((Yd b).take k))]⟩) (fun (k:Nat)=>(k≤(Yd b).length)) (fun (k:Nat)=>(Yd b).length-k) (0) (Nat.zero_le _) (fun _ _ hG=>Yp [0,1] (bm 5 26) (t2:=[aa,pv 0 0,aa,Y7 1 (kSl false kU8) 0 0,vI 0]) (h2:=[(Z4t tb_ b),.live (Xf 25 (kSl false kU8) ([]:List (List UInt8)))]) (congrArg (fun (q1:Nat)=>([aa,pv 0 0,aa,Y7 1 (kSl false kU8) 0 q1,vI 0]:List AV)) (by rfl)) (congrArg (fun (q1:List (List UInt8))=>([(Z4t tb_ b),.live (Xf 25 (kSl false kU8) q1)]:List HS)) (by rfl)) hG) ?_
 rintro k hk
 show T _ _ ⟨(Z4u b k),[(Z4t tb_ b),.live (Xf 25 (kSl false kU8) ((Yd b).take k))]⟩ _ _
 replace hk:k≤(Yd b).length:=hk
 have hf1:=hf.1.1
 have hf2:=hf.2.1
 have hf3:=hf.2.2
 have hll:=Uh b
 have hfl:=Eg hf
 have hbk:(b.Xh.getD k zE).X7.length≤20000:=Iw (sz:=szE) hf.1 (by decide) k
 refine T.seq ?_
 by_cases hq1:((k:Nat):Int)<((b.Xh.length:Nat):Int)
 ·refine sR (Xr (hY · (dT hq1)) [6,7,8,9,10] (hP 11 (dT hq1)::[])) ?_
  by_cases hq2:((k:Nat):Int)<((b.Xt.length:Nat):Int)
  ·refine cT (dT hq2) (T.skip (nT (T.seq (T.block ?_))))
   refine xD [[],[],[1],[],[1,2,3],[1,2,3,4],[],[6],[],[6,7,8],[6,7,8,9],[1,2,3,4,5,6,7,8,9,10],[1,2,3,4,5,6,7,8,9,10,11],[0,1,2,3,4,5,6,7,8,9,10,11,12],[0,1,2,3,4,5,6,7,8,9,10,11,12,13]] [hR 4 rfl rfl (W9 tb_ false (kE tb_) b.Xh k (k:=.i64) (i:=((k:Nat):Int)) Tryz.underlying37 Wy rfl rfl (by omega) (X3 rfl) trivial),hR 9 rfl rfl (W9 tb_ false (Xk tb_) b.Xt k (k:=.i64) (i:=((k:Nat):Int)) Tryz.underlying63 X0v rfl rfl (by omega) (X3 rfl) trivial),hR 11 rfl rfl (rCa (Xge tb_ (b.Xh.getD k zE) (b.Xt.getD k Yk) (by omega)) Tryz.func103 [2] [(.tmp 24,.tv (.agg [dI (b.Xh.getD k zE).X2,.d (dsl tb_ false kU8 (b.Xh.getD k zE).X7)])),(.tmp 29,.tv (.agg [dI (b.Xt.getD k Yk).Xu,dI (b.Xt.getD k Yk).Xl]))] 0 1),hR 12 rfl rfl (Ug 0 30 2 5 kU8 (Vp (b.Xh.getD k zE) (b.Xt.getD k Yk)) (av:=Y7 2 kU8 0 (Z4w b k).length) (Ye 3 25 (kSl false kU8) (Et false kU8) [Vp (b.Xh.getD k zE) (b.Xt.getD k Yk)] [⟨0,.tmp 30,.one (dU (Z4w b k)),0⟩] (cs:=[dU (Z4w b k)]) Tryz.underlying136 U9 rfl Hw rfl rfl rfl pd (Yq rfl rfl pd W5) pZ8 (V6 pZ8) (X3 rfl) trivial) rfl (.inr pZ2) p2g rfl rfl),hR 13 rfl rfl (W0 1 4 25 24 (kSl false kU8) (Et false kU8) ((Yd b).take k) [Vp (b.Xh.getD k zE) (b.Xt.getD k Yk)] (((Yd b).take k)++[Vp (b.Xh.getD k zE) (b.Xt.getD k Yk)]) ((Yd b).take k).length (sy:=(.own 3 (kSl false kU8).sz 0 [Vp (b.Xh.getD k zE) (b.Xt.getD k Yk)].length)) (rhs:=[(3,.live (Xf 25 (kSl false kU8) [Vp (b.Xh.getD k zE) (b.Xt.getD k Yk)]))]) X55 (by omega) (V0 3 25 (kSl false kU8) [Vp (b.Xh.getD k zE) (b.Xt.getD k Yk)]) I7 (by (simp [maxLen,-List.getD_eq_getElem?_getD]<;>omega)) (by (simp [maxLen,-List.getD_eq_getElem?_getD]<;>omega)) (X3 rfl) trivial)] pZ8 pZ8 pZ8 pZ8 pZ8 pZ8 ?_
   refine nB (nT (xK [hR 1 rfl rfl (Yg (u1:=.int .i64 ((k:Nat):Int)) (u2:=.int .i64 1) (v:=.int .i64 ((k+1:Nat):Int)) (W8 pb) (X3 rfl) ⟨rfl,trivial⟩)] ?_))
   refine nL (k+1) (show (k+1)≤(Yd b).length from (by omega)) (show ((Yd b).length-(k+1):Nat)<(Yd b).length-k from (by omega)) (fun _ _ hG=>Wi [0,4] (bm 5 26) (t1:=[aa,pv 0 0,aa,Y7 4 (kSl false kU8) 0 ((Yd b).take (k+1)).length,(Z4x k)]) (t2:=[aa,pv 0 0,aa,Y7 4 (kSl false kU8) 0 (((Yd b).take k)++[Vp (b.Xh.getD k zE) (b.Xt.getD k Yk)]).length,(Z4x k)]) (h1:=[(Z4t tb_ b),.live (Xf 25 (kSl false kU8) ((Yd b).take (k+1)))]) (h2:=[(Z4t tb_ b),.live (Xf 25 (kSl false kU8) (((Yd b).take k)++[Vp (b.Xh.getD k zE) (b.Xt.getD k Yk)]))]) (by have e1:(((Yd b).take (k+1)).length:Nat)=(((Yd b).take k)++[Vp (b.Xh.getD k zE) (b.Xt.getD k Yk)]).length:=p54;have hE:=congrArg (fun (q1:Nat)=>([aa,pv 0 0,aa,Y7 4 (kSl false kU8) 0 q1,(Z4x k)]:List AV)) e1;exact hE) (by have e1:(((Yd b).take (k+1)):List (List UInt8))=((Yd b).take k)++[Vp (b.Xh.getD k zE) (b.Xt.getD k Yk)]:=p54;have hE:=congrArg (fun (q1:List (List UInt8))=>([(Z4t tb_ b),.live (Xf 25 (kSl false kU8) q1)]:List HS)) e1;exact hE) hG)
  refine cF (dF hq2) (T.exit (xT (xT (xH (nT (sR [] (T.ret ?_)))))))
  exact eRt 2 (.one (.own 1 (kSl false kU8).sz 0 ((Yd b).take k).length)) [1] p3c ⟨⟨rfl,pZ31⟩,trivial⟩
 refine sR (Xr (hN · true (dF hq1)) [6,7,8,9,10] (hP 11 (dF hq1)::[])) (cF (b:=false) rfl (T.exit (xT (xT (xH (nT (sR [] (T.ret ?_))))))))
 exact eRt 2 (.one (.own 1 (kSl false kU8).sz 0 ((Yd b).take k).length)) [1] p3c ⟨⟨rfl,pZ31⟩,trivial⟩
theorem H1:Tryz.prog.info? 69=some Tryz.t69:=by kernel_rfl
theorem Xc1:Zero Tryz.prog 69 [.int .i64 0,Ys [],.int .i64 0,Ys []]:=⟨_,_,H1,rfl,rfl⟩
theorem X9h:Tryz.prog.info? 65=some Tryz.t65:=by kernel_rfl
theorem X0d:Wide Tryz.prog 65 (some 4):=⟨_,_,Tryz.underlying65,.inl ⟨_,rfl⟩,X9h,rfl⟩
theorem Xhv:Wide Tryz.prog 69 (some 4):=⟨_,_,Tryz.underlying69,.inl ⟨_,rfl⟩,H1,rfl⟩
abbrev Z4y (tb_:Bool) (b:Xs):AV:=.tv (.agg [dI b.Xq,dS b.Y9,.d (dsl tb_ false (kE tb_) b.Xh),.d (dsl tb_ false (Xk tb_) b.Xt)])
theorem X14 (tb_:Bool) (b:Xs) (hf:Fb b):Holds Tryz.prog 53 ⟨[.tv (.agg [dI b.Xq,dS b.Y9,.d (dsl tb_ false (kE tb_) b.Xh),.d (dsl tb_ false (Xk tb_) b.Xt)])],[],.tv (.agg [dI (V2 b).Xq,dS (V2 b).Y9,dI (V2 b).Yl,dS (V2 b).Wf]),[]⟩:=by
 refine Holds.of Tryz.func53 rfl (N:=15) Tryz.ntmps53 rfl fun w0 B0 S0 U0=>?_
 show T _ (Y5 15 0 w0 S0 U0 B0) ⟨[(Z4y tb_ b)],[]⟩ _ _
 have hf1:=hf.1.1
 have hf2:=hf.2.1
 have hf3:=hf.2.2
 have hll:=Uh b
 have hfl:=Jh hf
 have hrl:=J2 hfl
 refine sR [] (sR [hR 1 rfl rfl (rCa (X5c tb_ b (by exact X9o ‹_›)) Tryz.func109 [2] [(.tmp 4,(Z4y tb_ b))] 0 1)] ?_)
 refine sD [[],[0],[],[2],[],[4],[],[6],[0,1,2,3,4,5,6,7],[0,1,2,3,4,5,6,7,8]] [hR 7 rfl rfl (Wx (X21 true false false (Yd b) ‹_›) Tryz.func110 rfl (by decide) [] [2] (l:=[(.tmp 12,Y7 2 (kSl false kU8) 0 (Yd b).length)]) [(2,.live (Xf 25 (kSl false kU8) (Yd b)))] rfl 0 0 rfl rfl rfl rfl rfl rfl rfl rfl rfl ⟨.inr (.inl ⟨rfl,pZs,rfl,rfl,by simp,25,(Yd b).length,W6 (kSl false kU8) (Yd b),List.Mem.head _,pk,fun i j=>by rw [Nat.zero_add]⟩),trivial⟩ rfl pZ6 p2a (X3 rfl) trivial)] (T.ret ?_)
 exact eX [.c 2 1 69 0 69 [dI b.Xq,dS b.Y9,dI (((Yd b).length:Nat):Int),dS (Wo (Yd b))] (.agg [dI b.Xq,dS b.Y9,dI (((Yd b).length:Nat):Int),dS (Wo (Yd b))])] ⟨⟨rfl,rfl,by kernel_rfl,by kernel_rfl,.inl ⟨4,Xhv,rfl,Nat.le_of_ble_eq_true rfl⟩⟩,trivial⟩ [] (cg4 (fun (q1:Int) (q2:List UInt8) (q3:Int) (q4:List UInt8)=>(.tv (.agg [dI q1,dS q2,dI q3,dS q4]):AV)) (by rfl) (by rfl) (by rfl) (by rfl)) trivial
abbrev Z4z (tb_:Bool) (b:Xs):AV:=.tv (.agg [dI b.Xq,dS b.Y9,.d (dsl tb_ false (kE tb_) b.Xh),.d (dsl tb_ false (Xk tb_) b.Xt)])
theorem Xc9 (tb_:Bool) (b:Xs) (hf:Fb b):Holds Tryz.prog 44 ⟨[.tv (.agg [dI b.Xq,dS b.Y9,.d (dsl tb_ false (kE tb_) b.Xh),.d (dsl tb_ false (Xk tb_) b.Xt)])],[],.tv (.agg [dI (V2 b).Xq,dS (V2 b).Y9,dI (V2 b).Yl,dS (V2 b).Wf]),[]⟩:=by
 refine Holds.of Tryz.func44 rfl (N:=15) Tryz.ntmps44 rfl fun w0 B0 S0 U0=>?_
 show T _ (Y5 15 0 w0 S0 U0 B0) ⟨[(Z4z tb_ b)],[]⟩ _ _
 have hf1:=hf.1.1
 have hf2:=hf.2.1
 have hf3:=hf.2.2
 have hll:=Uh b
 have hfl:=Jh hf
 have hrl:=J2 hfl
 refine sR [] (sR [hR 1 rfl rfl (rCa (Xc8 tb_ b (by exact X9o ‹_›)) Tryz.func97 [2] [(.tmp 4,(Z4z tb_ b))] 0 1)] ?_)
 refine sD [[],[0],[],[2],[],[4],[],[6],[0,1,2,3,4,5,6,7],[0,1,2,3,4,5,6,7,8]] [hR 7 rfl rfl (Wx (Xgg true false false (Yd b) ‹_›) Tryz.func98 rfl (by decide) [] [2] (l:=[(.tmp 12,Y7 2 (kSl false kU8) 0 (Yd b).length)]) [(2,.live (Xf 25 (kSl false kU8) (Yd b)))] rfl 0 0 rfl rfl rfl rfl rfl rfl rfl rfl rfl ⟨.inr (.inl ⟨rfl,pZs,rfl,rfl,by simp,25,(Yd b).length,W6 (kSl false kU8) (Yd b),List.Mem.head _,pk,fun i j=>by rw [Nat.zero_add]⟩),trivial⟩ rfl pZ6 p2a (X3 rfl) trivial)] (T.ret ?_)
 exact eX [.c 2 1 69 0 69 [dI b.Xq,dS b.Y9,dI (((Yd b).length:Nat):Int),dS (Wo (Yd b))] (.agg [dI b.Xq,dS b.Y9,dI (((Yd b).length:Nat):Int),dS (Wo (Yd b))])] ⟨⟨rfl,rfl,by kernel_rfl,by kernel_rfl,.inl ⟨4,Xhv,rfl,Nat.le_of_ble_eq_true rfl⟩⟩,trivial⟩ [] (cg4 (fun (q1:Int) (q2:List UInt8) (q3:Int) (q4:List UInt8)=>(.tv (.agg [dI q1,dS q2,dI q3,dS q4]):AV)) (by rfl) (by rfl) (by rfl) (by rfl)) trivial
theorem X5d (h:Yh) (hp:h.Y9.length≤10000000) (hr:h.Wf.length≤10000000):Holds Tryz.prog 91 ⟨[.tv (.agg [dI h.Xq,dS h.Y9,dI h.Yl,dS h.Wf])],[],dv (Ys (E0 h)),[]⟩:=by
 refine Holds.of Tryz.func91 rfl (N:=19) Tryz.ntmps91 rfl fun w0 B0 S0 U0=>?_
 show T _ (Y5 19 0 w0 S0 U0 B0) ⟨[.tv (.agg [dI h.Xq,dS h.Y9,dI h.Yl,dS h.Wf])],[]⟩ _ _
 have hz1:=sz4 (([]:List UInt8)++Wa [h.Xq]) h.Y9 (([]:List UInt8)++Wa [h.Yl]) h.Wf
 have hz2:=sz4 (([]:List UInt8)++Yv h.Xq) h.Y9 (([]:List UInt8)++Yv h.Yl) h.Wf
 have hi1n:(([]:List UInt8)++Yv h.Xq).length=8:=Wt _
 have hi2n:(([]:List UInt8)++Yv h.Yl).length=8:=Wt _
 have hi1:=Wt h.Xq
 have hi2:=Wt h.Yl
 have hi3:(Wa [h.Xq]).length=8:=I9 [h.Xq]
 have hi3n:(([]:List UInt8)++Wa [h.Xq]).length=8:=I9 [h.Xq]
 have hi4:(Wa [h.Yl]).length=8:=I9 [h.Yl]
 have hi4n:(([]:List UInt8)++Wa [h.Yl]).length=8:=I9 [h.Yl]
 refine sR [] ?_
 refine sD [[],[0],[0,1],[0,1,2],[],[4],[4,5],[],[7],[7,8],[0,1,2,3,7,8,9],[],[11],[11,12],[0,1,2,3,4,5,6,7,8,9,10,11,12,13],[0,1,2,3,4,5,6,7,8,9,10,11,12,13,14],[0,1,2,3,4,5,6,7,8,9,10,11,12,13,14,15]] [hR 2 rfl rfl (Ye 1 3 (U5 .i64) (X2w .i64) [h.Xq] [⟨0,.tmp 4,.one (dI h.Xq),0⟩] (cs:=[dI h.Xq]) Tryz.underlying24 X19 rfl X5m rfl rfl rfl pd (Yq rfl rfl pd W5) pZ8 (V6 pZ8) (X3 rfl) trivial),hR 3 rfl rfl (Wx (X13 false false ([]:List UInt8) true false [h.Xq] (by (simp [maxLen,-List.getD_eq_getElem?_getD]<;>omega)) (by (simp [maxLen,-List.getD_eq_getElem?_getD]<;>omega))) Tryz.func135 rfl (by decide) [2] [1] (l:=[(.const (.slice none 0 0),dv (.slice none 0 0)),(.tmp 5,Y7 1 (U5 .i64) 0 [h.Xq].length)]) [(1,.live (Xf 3 (U5 .i64) [h.Xq]))] rfl 0 1 rfl rfl rfl rfl rfl rfl rfl rfl rfl ⟨.inr pq,⟨.inr (.inl ⟨rfl,pZs,rfl,rfl,by simp,3,[h.Xq].length,W6 (U5 .i64) [h.Xq],List.Mem.head _,pk,fun i j=>by rw [Nat.zero_add]⟩),trivial⟩⟩ rfl pZ6 pj (X3 rfl) ⟨rfl,trivial⟩),hR 6 rfl rfl (Ju (l:=h.Y9) Tryz.underlying60 Tryz.underlying25 Tryz.underlying5 (X3 rfl) trivial),hR 9 rfl rfl (Ye 3 3 (U5 .i64) (X2w .i64) [h.Yl] [⟨0,.tmp 11,.one (dI h.Yl),0⟩] (cs:=[dI h.Yl]) Tryz.underlying24 X19 rfl X5m rfl rfl rfl pd (Yq rfl rfl pd W5) pZ8 (V6 pZ8) (X3 rfl) trivial),hR 10 rfl rfl (Wx (X13 false false ([]:List UInt8) true false [h.Yl] (by (simp [maxLen,-List.getD_eq_getElem?_getD]<;>omega)) (by (simp [maxLen,-List.getD_eq_getElem?_getD]<;>omega))) Tryz.func135 rfl (by decide) [4] [3] (l:=[(.const (.slice none 0 0),dv (.slice none 0 0)),(.tmp 12,Y7 3 (U5 .i64) 0 [h.Yl].length)]) [(3,.live (Xf 3 (U5 .i64) [h.Yl]))] rfl 0 1 rfl rfl rfl rfl rfl rfl rfl rfl rfl ⟨.inr pq,⟨.inr (.inl ⟨rfl,pZs,rfl,rfl,by simp,3,[h.Yl].length,W6 (U5 .i64) [h.Yl],List.Mem.head _,pk,fun i j=>by rw [Nat.zero_add]⟩),trivial⟩⟩ rfl pZ6 pj (X3 rfl) ⟨rfl,trivial⟩),hR 13 rfl rfl (Ju (l:=h.Wf) Tryz.underlying60 Tryz.underlying25 Tryz.underlying5 (X3 rfl) trivial),hR 14 rfl rfl (Ug 0 6 2 5 kU8 (([]:List UInt8)++Wa [h.Xq]) (av:=Y7 2 kU8 0 (([]:List UInt8)++Wa [h.Xq]).length) (Ug 2 13 4 5 kU8 (([]:List UInt8)++Wa [h.Yl]) (av:=Y7 4 kU8 0 (([]:List UInt8)++Wa [h.Yl]).length) (Ye 5 25 (kSl false kU8) (Et false kU8) [([]:List UInt8)++Wa [h.Xq],h.Y9,([]:List UInt8)++Wa [h.Yl],h.Wf] [⟨0,.tmp 6,.one (dU (([]:List UInt8)++Wa [h.Xq])),0⟩,⟨1,.tmp 9,.one (.d (dsl false true kU8 h.Y9)),1⟩,⟨2,.tmp 13,.one (dU (([]:List UInt8)++Wa [h.Yl])),2⟩,⟨3,.tmp 16,.one (.d (dsl false true kU8 h.Wf)),3⟩] (cs:=[dU (([]:List UInt8)++Wa [h.Xq]),.d (dsl false true kU8 h.Y9),dU (([]:List UInt8)++Wa [h.Yl]),.d (dsl false true kU8 h.Wf)]) Tryz.underlying136 U9 rfl Hw rfl rfl rfl pd (Yq rfl rfl pd (Yq rfl rfl pd (Yq rfl rfl pd (Yq rfl rfl pd W5)))) pZ8 ⟨.inl rfl,⟨pZ24,⟨.inl rfl,⟨pZ24,trivial⟩⟩⟩⟩ (X3 rfl) trivial) rfl (.inr pZ2) p2g rfl rfl) rfl (.inr pZ2) p2g rfl rfl),hR 15 rfl rfl (Wx (X2o (5:UInt8) true false false [([]:List UInt8)++Wa [h.Xq],h.Y9,([]:List UInt8)++Wa [h.Yl],h.Wf] (by omega)) Tryz.func84 rfl (by decide) [] [5] (l:=[(.const (.int .u8 5),dv (.int .u8 5)),(.tmp 17,Y7 5 (kSl false kU8) 0 [([]:List UInt8)++Wa [h.Xq],h.Y9,([]:List UInt8)++Wa [h.Yl],h.Wf].length)]) [(5,.live (Xf 25 (kSl false kU8) [([]:List UInt8)++Wa [h.Xq],h.Y9,([]:List UInt8)++Wa [h.Yl],h.Wf]))] rfl 0 0 rfl rfl rfl rfl rfl rfl rfl rfl rfl ⟨.inl ⟨rfl,rfl⟩,⟨.inr (.inl ⟨rfl,pZs,rfl,rfl,by simp,25,[([]:List UInt8)++Wa [h.Xq],h.Y9,([]:List UInt8)++Wa [h.Yl],h.Wf].length,W6 (kSl false kU8) [([]:List UInt8)++Wa [h.Xq],h.Y9,([]:List UInt8)++Wa [h.Yl],h.Wf],List.Mem.head _,pk,fun i j=>by rw [Nat.zero_add]⟩),trivial⟩⟩ rfl pZ6 p2a (X3 rfl) ⟨rfl,trivial⟩)] ?_
 refine T.ret ?_
 exact eRt 2 (.one (dS (ofB (5:UInt8) [([]:List UInt8)++Wa [h.Xq],h.Y9,([]:List UInt8)++Wa [h.Yl],h.Wf]))) [] p1o trivial
theorem Xca (h:Yh) (hp:h.Y9.length≤10000000) (hr:h.Wf.length≤10000000):Holds Tryz.prog 48 ⟨[.tv (.agg [dI h.Xq,dS h.Y9,dI h.Yl,dS h.Wf])],[],dv (Ys (E0 h)),[]⟩:=by
 refine Holds.of Tryz.func48 rfl (N:=17) Tryz.ntmps48 rfl fun w0 B0 S0 U0=>?_
 show T _ (Y5 17 0 w0 S0 U0 B0) ⟨[.tv (.agg [dI h.Xq,dS h.Y9,dI h.Yl,dS h.Wf])],[]⟩ _ _
 have hz1:=sz4 (([]:List UInt8)++Wa [h.Xq]) h.Y9 (([]:List UInt8)++Wa [h.Yl]) h.Wf
 have hz2:=sz4 (([]:List UInt8)++Yv h.Xq) h.Y9 (([]:List UInt8)++Yv h.Yl) h.Wf
 have hi1n:(([]:List UInt8)++Yv h.Xq).length=8:=Wt _
 have hi2n:(([]:List UInt8)++Yv h.Yl).length=8:=Wt _
 have hi1:=Wt h.Xq
 have hi2:=Wt h.Yl
 have hi3:(Wa [h.Xq]).length=8:=I9 [h.Xq]
 have hi3n:(([]:List UInt8)++Wa [h.Xq]).length=8:=I9 [h.Xq]
 have hi4:(Wa [h.Yl]).length=8:=I9 [h.Yl]
 have hi4n:(([]:List UInt8)++Wa [h.Yl]).length=8:=I9 [h.Yl]
 refine sR [] ?_
 refine sD [[],[0],[0,1],[],[3],[3,4],[],[6],[0,1,2,6,7],[],[9],[9,10],[0,1,2,3,4,5,6,7,8,9,10,11],[0,1,2,3,4,5,6,7,8,9,10,11,12],[0,1,2,3,4,5,6,7,8,9,10,11,12,13]] [hR 2 rfl rfl (rCn (Ue false false ([]:List UInt8) h.Xq (by (simp [maxLen,-List.getD_eq_getElem?_getD]<;>omega))) Tryz.func63 [1] [(.const (.slice none 0 0),dv (.slice none 0 0)),(.tmp 4,vI h.Xq)] 0 1 ⟨.inr pq,⟨.inl ⟨rfl,rfl⟩,trivial⟩⟩ ⟨rfl,trivial⟩),hR 5 rfl rfl (Ju (l:=h.Y9) Tryz.underlying60 Tryz.underlying25 Tryz.underlying5 (X3 rfl) trivial),hR 8 rfl rfl (rCn (Ue false false ([]:List UInt8) h.Yl (by (simp [maxLen,-List.getD_eq_getElem?_getD]<;>omega))) Tryz.func63 [2] [(.const (.slice none 0 0),dv (.slice none 0 0)),(.tmp 10,vI h.Yl)] 0 1 ⟨.inr pq,⟨.inl ⟨rfl,rfl⟩,trivial⟩⟩ ⟨rfl,trivial⟩),hR 11 rfl rfl (Ju (l:=h.Wf) Tryz.underlying60 Tryz.underlying25 Tryz.underlying5 (X3 rfl) trivial),hR 12 rfl rfl (Ug 0 5 1 5 kU8 (([]:List UInt8)++Yv h.Xq) (av:=Y7 1 kU8 0 (([]:List UInt8)++Yv h.Xq).length) (Ug 2 11 2 5 kU8 (([]:List UInt8)++Yv h.Yl) (av:=Y7 2 kU8 0 (([]:List UInt8)++Yv h.Yl).length) (Ye 3 25 (kSl false kU8) (Et false kU8) [([]:List UInt8)++Yv h.Xq,h.Y9,([]:List UInt8)++Yv h.Yl,h.Wf] [⟨0,.tmp 5,.one (dU (([]:List UInt8)++Yv h.Xq)),0⟩,⟨1,.tmp 8,.one (.d (dsl false true kU8 h.Y9)),1⟩,⟨2,.tmp 11,.one (dU (([]:List UInt8)++Yv h.Yl)),2⟩,⟨3,.tmp 14,.one (.d (dsl false true kU8 h.Wf)),3⟩] (cs:=[dU (([]:List UInt8)++Yv h.Xq),.d (dsl false true kU8 h.Y9),dU (([]:List UInt8)++Yv h.Yl),.d (dsl false true kU8 h.Wf)]) Tryz.underlying136 U9 rfl Hw rfl rfl rfl pd (Yq rfl rfl pd (Yq rfl rfl pd (Yq rfl rfl pd (Yq rfl rfl pd W5)))) pZ8 ⟨.inl rfl,⟨pZ24,⟨.inl rfl,⟨pZ24,trivial⟩⟩⟩⟩ (X3 rfl) trivial) rfl (.inr pZ2) p2g rfl rfl) rfl (.inr pZ2) p2g rfl rfl),hR 13 rfl rfl (Wx (X00 (5:UInt8) true false false [([]:List UInt8)++Yv h.Xq,h.Y9,([]:List UInt8)++Yv h.Yl,h.Wf] (by omega)) Tryz.func71 rfl (by decide) [] [3] (l:=[(.const (.int .u8 5),dv (.int .u8 5)),(.tmp 15,Y7 3 (kSl false kU8) 0 [([]:List UInt8)++Yv h.Xq,h.Y9,([]:List UInt8)++Yv h.Yl,h.Wf].length)]) [(3,.live (Xf 25 (kSl false kU8) [([]:List UInt8)++Yv h.Xq,h.Y9,([]:List UInt8)++Yv h.Yl,h.Wf]))] rfl 0 0 rfl rfl rfl rfl rfl rfl rfl rfl rfl ⟨.inl ⟨rfl,rfl⟩,⟨.inr (.inl ⟨rfl,pZs,rfl,rfl,by simp,25,[([]:List UInt8)++Yv h.Xq,h.Y9,([]:List UInt8)++Yv h.Yl,h.Wf].length,W6 (kSl false kU8) [([]:List UInt8)++Yv h.Xq,h.Y9,([]:List UInt8)++Yv h.Yl,h.Wf],List.Mem.head _,pk,fun i j=>by rw [Nat.zero_add]⟩),trivial⟩⟩ rfl pZ6 p2a (X3 rfl) ⟨rfl,trivial⟩)] ?_
 refine T.ret ?_
 exact eRt 2 (.one (dS (ofB (5:UInt8) [([]:List UInt8)++Yv h.Xq,h.Y9,([]:List UInt8)++Yv h.Yl,h.Wf]))) [] p1o trivial
abbrev Z50 (tb_:Bool) (b:Xs):List SV:=[dI b.Xq,dS b.Y9,.d (dsl tb_ false (kE tb_) b.Xh),.d (dsl tb_ false (Xk tb_) b.Xt)]
abbrev Z51 (tb_:Bool) (b:Xs) (i:Int):St:=⟨[.tv (.agg (Z50 tb_ b)),vI i,pv 0 0,aa,dv (.slice none 0 0),vI (Vx b),vI (Vx b),aa,aa,aa,vB (decide ((Vx b)≠0))],[.live (.box 65 (Z50 tb_ b))]⟩
theorem Xft (tb_:Bool) (b:Xs) (i:Int) (hf:Fb b):Holds Tryz.prog 54 ⟨[.tv (.agg [dI b.Xq,dS b.Y9,.d (dsl tb_ false (kE tb_) b.Xh),.d (dsl tb_ false (Xk tb_) b.Xt)]),vI i],[],.tup [.one (.d (dsl false false (Xz false) (E9 b i))),.one (dI (H2 b i))],[]⟩:=by
 refine Holds.of Tryz.func54 rfl (N:=18) Tryz.ntmps54 rfl fun w0 B0 S0 U0=>?_
 show T _ (Y5 18 0 w0 S0 U0 B0) ⟨[.tv (.agg (Z50 tb_ b)),vI i],[]⟩ _ _
 have hf1:=hf.1.1
 have hf2:=hf.2.1
 have hf3:=hf.2.2
 have hll:=Uh b
 have hfl:=Jh hf
 have hrl:=J2 hfl
 refine sR [] (T.seq (sR [hR 1 rfl rfl (rCa (X73 tb_ b (by omega) (by omega)) Tryz.func87 [] [(.tmp 7,.tv (.agg (Z50 tb_ b)))] 0 0)] (sR [] ?_)))
 by_cases hq1:(Vx b)≠0
 ·refine cT (dT hq1) (sR [] (T.ret (rT ?_)))
  refine eN (Z51 tb_ b i) ?_
  refine X8 (s':=⟨[.tv (.agg (Z50 tb_ b)),vI i,pv 0 0,aa,slV false false (Xz false) ([]:List Yn),vI (Vx b),vI (Vx b),aa,aa,aa,vB (decide ((Vx b)≠0))],[.live (.box 65 (Z50 tb_ b))]⟩) (fun _ _ hG=>Ym (s:=(Z51 tb_ b i)) (kk4 ⟨pq,p4x⟩) ⟨.inl rfl,trivial⟩ hG) ?_
  exact eX [.t 4 (.one (.d (dsl false false (Xz false) ([]:List Yn)))),.t 5 (.one (dI (Vx b)))] ⟨⟨rfl,by kernel_rfl⟩,⟨⟨rfl,by kernel_rfl⟩,trivial⟩⟩ [] (by have e1:((E9 b i):List Yn)=([]:List Yn):=(by (rw [E9,if_neg ‹_›]));have e2:((H2 b i):Int)=(Vx b):=(by (rw [H2,if_neg ‹_›]));have hE:=congr p1a e2;exact hE) trivial
 refine cF (dF hq1) (T.skip (nT ?_))
 refine sR [hR 1 rfl rfl (rCa (X5c tb_ b (by exact X9o ‹_›)) Tryz.func109 [1] [(.tmp 12,.tv (.agg (Z50 tb_ b)))] 0 1),hR 3 rfl rfl (Wx (Xeo true false false (Yd b) i ‹_›) Tryz.func111 rfl (by decide) [] [1] (l:=[(.tmp 13,Y7 1 (kSl false kU8) 0 (Yd b).length),(.tmp 14,vI i)]) [(1,.live (Xf 25 (kSl false kU8) (Yd b)))] rfl 0 0 rfl rfl rfl rfl rfl rfl rfl rfl rfl ⟨.inr (.inl ⟨rfl,pZs,rfl,rfl,by simp,25,(Yd b).length,W6 (kSl false kU8) (Yd b),List.Mem.head _,pk,fun i j=>by rw [Nat.zero_add]⟩),⟨.inl ⟨rfl,rfl⟩,trivial⟩⟩ rfl pZ6 (.inr ⟨(And.intro (dsl_nt (nn:=false) Xas) (And.intro trivial trivial)),trivial⟩) (X3 rfl) trivial)] ?_
 refine T.ret ?_
 exact eX [.t 4 (.one (.d (dsl false false (Xz false) (X03 (Yd b) i)))),.t 5 (.one (dI (X4t (Yd b) i)))] ⟨⟨rfl,by kernel_rfl⟩,⟨⟨rfl,by kernel_rfl⟩,trivial⟩⟩ [] (by have e1:((E9 b i):List Yn)=(X03 (Yd b) i):=(by (rw [E9,if_pos (Classical.not_not.1 ‹_›)]));have e2:((H2 b i):Int)=(X4t (Yd b) i):=(by (rw [H2,if_pos (Classical.not_not.1 ‹_›)]));have hE:=congr p1a e2;exact hE) trivial
theorem Xa2 (h:Yh) (i:Int) (te:Bool) (e:aE) (r:Y4) (tp:Bool) (np:Bool) (p:List Yn) (hp:Ig szS 70 30000 p) (hb:e.X7.length≤500) (hn:h.Yl≤9223372036854775807):Holds Tryz.prog 47 ⟨[.tv (.agg [dI h.Xq,dS h.Y9,dI h.Yl,dS h.Wf]),vI i,.tv (.agg [dI e.X2,.d (dsl te false kU8 e.X7)]),.tv (.agg [dI r.Xu,dI r.Xl]),slV tp np (Xz false) p],[],vI (Ia h.Wf (Vp e r) i h.Yl p),[]⟩:=by
 refine Holds.of Tryz.func47 rfl (N:=21) Tryz.ntmps47 rfl fun w0 B0 S0 U0=>?_
 show T _ (Y5 21 0 w0 S0 U0 B0) ⟨[.tv (.agg [dI h.Xq,dS h.Y9,dI h.Yl,dS h.Wf]),vI i,.tv (.agg [dI e.X2,.d (dsl te false kU8 e.X7)]),.tv (.agg [dI r.Xu,dI r.Xl]),slV tp np (Xz false) p],[]⟩ _ _
 have hlf:=X66 e r
 refine sR [] ?_
 refine sD [[],[0],[],[],[2,3],[],[],[6],[],[0,1,2,3,4,5,6,7,8],[0,1,2,3,4,5,6,7,8,9]] [hR 4 rfl rfl (rCa (Xa1 te e r (by omega)) Tryz.func101 [3] [(.tmp 13,.tv (.agg [dI e.X2,.d (dsl te false kU8 e.X7)])),(.tmp 14,.tv (.agg [dI r.Xu,dI r.Xl]))] 0 1),hR 9 rfl rfl (Wx (Xct h.Wf true false (Vp e r) i h.Yl tp np p ‹_› (by omega) ‹_›) Tryz.func100 rfl (by decide) [] [3] (l:=[(.tmp 12,dv (Ys h.Wf)),(.tmp 15,Y7 3 kU8 0 (Vp e r).length),(.tmp 16,vI i),(.tmp 18,vI h.Yl),(.tmp 19,slV tp np (Xz false) p)]) [(3,.live (Xf 5 kU8 (Vp e r)))] rfl 0 0 rfl rfl rfl rfl rfl rfl rfl rfl rfl ⟨.inl ⟨rfl,rfl⟩,⟨.inr (.inl ⟨rfl,pZs,rfl,rfl,by simp,5,(Vp e r).length,W6 kU8 (Vp e r),List.Mem.head _,pk,fun i j=>by rw [Nat.zero_add]⟩),⟨.inl ⟨rfl,rfl⟩,⟨.inl ⟨rfl,rfl⟩,⟨.inl ⟨rfl,rfl⟩,trivial⟩⟩⟩⟩⟩ rfl pZ6 p2a (X3 rfl) trivial)] ?_
 refine T.ret ?_
 exact eRt 10 (.one (dI (Ia h.Wf (Vp e r) i h.Yl p))) [] rfl trivial
theorem Xkv (ta:Bool) (na:Bool) (a:List aE) (hp:a.length≤1000000):Holds Tryz.prog 134 ⟨[slV ta na (kE false) a],[],Y7 0 (kE false) 0 a.length,[.live (Xf 43 (kE false) a)]⟩:=by
 refine Holds.of Tryz.func134 rfl (N:=8) Tryz.ntmps134 rfl fun w0 B0 S0 U0=>?_
 show T _ (Y5 8 0 w0 S0 U0 B0) ⟨[slV ta na (kE false) a],[]⟩ _ _
 cases na
 ·refine Xdc (k:=0) rfl (fun h0=>?_) ?_
  ·have h0:=List.eq_nil_of_length_eq_zero h0
   subst h0
   show T _ _ ⟨[dv (.slice none 0 0)],[]⟩ _ _
   refine sR [] (T.seq (sR [hR 1 rfl rfl (Yg (u1:=.slice none 0 0) (u2:=.slice none 0 0) (v:=.bool true) (X6h Tryz.underlying37) (X3 rfl) ⟨rfl,trivial⟩)] (cT (b:=true) rfl (sR [] (T.ret (rT ?_))))))
   refine eN ⟨[dv (.slice none 0 0),aa,dv (.slice none 0 0),aa,vB true],[]⟩ ?_
   refine X8 (s':=⟨[dv (.slice none 0 0),aa,Y7 0 (kE false) 0 0,aa,vB true],[.live (Xf 43 (kE false) ([]:List aE))]⟩) (fun _ _ hG=>Vz 0 2 43 (kE false) rfl rfl hG) ?_
   exact eRt 2 (.one (.own 0 (kE false).sz 0 0)) [0] (congrArg (fun (q1:Nat)=>(Y7 0 (kE false) 0 q1:AV)) (by rfl)) (ix trivial)
  show T _ _ ⟨[slV ta true (kE false) a],[]⟩ _ _
  refine sR [] (T.seq (sR [hR 1 rfl rfl (X2u (s:=.d (dsl ta true (kE false) a)) Tryz.underlying37 (.inl rfl) (X3 rfl) ⟨rfl,trivial⟩)] (cF (b:=false) rfl (T.skip (nT ?_)))))
  refine sR [hR 0 rfl rfl (Ye 0 43 (kE false) (Yt false) ([]:List aE) [] (cs:=[]) Tryz.underlying37 Wy rfl H8 rfl rfl rfl pd W5 pZ8 (V6 pZ8) (X3 rfl) trivial),hR 2 rfl rfl (W0 0 1 43 32 (kE false) (Yt false) ([]:List aE) a a ([]:List aE).length (sy:=(.d (dsl ta true (kE false) a))) (rhs:=[]) Hh (by omega) (Jc ta true (kE false) a) (by simp) (by (simp [maxLen,-List.getD_eq_getElem?_getD]<;>omega)) (by (simp [maxLen,-List.getD_eq_getElem?_getD]<;>omega)) (X3 rfl) trivial)] ?_
  refine T.ret ?_
  exact eRt 2 (.one (.own 1 (kE false).sz 0 a.length)) [1] rfl (ix trivial)
 refine sR [] (T.seq (sR [hR 1 rfl rfl (X2u (s:=.d (dsl ta true (kE false) a)) Tryz.underlying37 (.inl rfl) (X3 rfl) ⟨rfl,trivial⟩)] (cF (b:=false) rfl (T.skip (nT ?_)))))
 refine sR [hR 0 rfl rfl (Ye 0 43 (kE false) (Yt false) ([]:List aE) [] (cs:=[]) Tryz.underlying37 Wy rfl H8 rfl rfl rfl pd W5 pZ8 (V6 pZ8) (X3 rfl) trivial),hR 2 rfl rfl (W0 0 1 43 32 (kE false) (Yt false) ([]:List aE) a a ([]:List aE).length (sy:=(.d (dsl ta true (kE false) a))) (rhs:=[]) Hh (by omega) (Jc ta true (kE false) a) (by simp) (by (simp [maxLen,-List.getD_eq_getElem?_getD]<;>omega)) (by (simp [maxLen,-List.getD_eq_getElem?_getD]<;>omega)) (X3 rfl) trivial)] ?_
 refine T.ret ?_
 exact eRt 2 (.one (.own 1 (kE false).sz 0 a.length)) [1] rfl (ix trivial)
theorem X7l:Zero Tryz.prog 46 [.int .i64 0,.int .i64 0]:=⟨_,_,X0v,rfl,rfl⟩
theorem X7z:Elem Tryz.prog 63 46 2 16:=⟨Tryz.underlying63,_,_,X0v,rfl,rfl,rfl,rfl,by decide⟩
theorem Xku (ta:Bool) (na:Bool) (a:List Y4) (hp:a.length≤1000000):Holds Tryz.prog 133 ⟨[slV ta na (Xk false) a],[],Y7 0 (Xk false) 0 a.length,[.live (Xf 46 (Xk false) a)]⟩:=by
 refine Holds.of Tryz.func133 rfl (N:=8) Tryz.ntmps133 rfl fun w0 B0 S0 U0=>?_
 show T _ (Y5 8 0 w0 S0 U0 B0) ⟨[slV ta na (Xk false) a],[]⟩ _ _
 cases na
 ·refine Xdc (k:=0) rfl (fun h0=>?_) ?_
  ·have h0:=List.eq_nil_of_length_eq_zero h0
   subst h0
   show T _ _ ⟨[dv (.slice none 0 0)],[]⟩ _ _
   refine sR [] (T.seq (sR [hR 1 rfl rfl (Yg (u1:=.slice none 0 0) (u2:=.slice none 0 0) (v:=.bool true) (X6h Tryz.underlying63) (X3 rfl) ⟨rfl,trivial⟩)] (cT (b:=true) rfl (sR [] (T.ret (rT ?_))))))
   refine eN ⟨[dv (.slice none 0 0),aa,dv (.slice none 0 0),aa,vB true],[]⟩ ?_
   refine X8 (s':=⟨[dv (.slice none 0 0),aa,Y7 0 (Xk false) 0 0,aa,vB true],[.live (Xf 46 (Xk false) ([]:List Y4))]⟩) (fun _ _ hG=>Vz 0 2 46 (Xk false) rfl rfl hG) ?_
   exact eRt 2 (.one (.own 0 (Xk false).sz 0 0)) [0] (congrArg (fun (q1:Nat)=>(Y7 0 (Xk false) 0 q1:AV)) (by rfl)) (ix trivial)
  show T _ _ ⟨[slV ta true (Xk false) a],[]⟩ _ _
  refine sR [] (T.seq (sR [hR 1 rfl rfl (X2u (s:=.d (dsl ta true (Xk false) a)) Tryz.underlying63 (.inl rfl) (X3 rfl) ⟨rfl,trivial⟩)] (cF (b:=false) rfl (T.skip (nT ?_)))))
  refine sR [hR 0 rfl rfl (Ye 0 46 (Xk false) (U1 false) ([]:List Y4) [] (cs:=[]) Tryz.underlying63 X0v rfl X7l rfl rfl rfl pd W5 pZ8 (V6 pZ8) (X3 rfl) trivial),hR 2 rfl rfl (W0 0 1 46 16 (Xk false) (U1 false) ([]:List Y4) a a ([]:List Y4).length (sy:=(.d (dsl ta true (Xk false) a))) (rhs:=[]) X7z (by omega) (Jc ta true (Xk false) a) (by simp) (by (simp [maxLen,-List.getD_eq_getElem?_getD]<;>omega)) (by (simp [maxLen,-List.getD_eq_getElem?_getD]<;>omega)) (X3 rfl) trivial)] ?_
  refine T.ret ?_
  exact eRt 2 (.one (.own 1 (Xk false).sz 0 a.length)) [1] rfl (ix trivial)
 refine sR [] (T.seq (sR [hR 1 rfl rfl (X2u (s:=.d (dsl ta true (Xk false) a)) Tryz.underlying63 (.inl rfl) (X3 rfl) ⟨rfl,trivial⟩)] (cF (b:=false) rfl (T.skip (nT ?_)))))
 refine sR [hR 0 rfl rfl (Ye 0 46 (Xk false) (U1 false) ([]:List Y4) [] (cs:=[]) Tryz.underlying63 X0v rfl X7l rfl rfl rfl pd W5 pZ8 (V6 pZ8) (X3 rfl) trivial),hR 2 rfl rfl (W0 0 1 46 16 (Xk false) (U1 false) ([]:List Y4) a a ([]:List Y4).length (sy:=(.d (dsl ta true (Xk false) a))) (rhs:=[]) X7z (by omega) (Jc ta true (Xk false) a) (by simp) (by (simp [maxLen,-List.getD_eq_getElem?_getD]<;>omega)) (by (simp [maxLen,-List.getD_eq_getElem?_getD]<;>omega)) (X3 rfl) trivial)] ?_
 refine T.ret ?_
 exact eRt 2 (.one (.own 1 (Xk false).sz 0 a.length)) [1] rfl (ix trivial)
theorem zero_65:Zero Tryz.prog 65 [.int .i64 0,Ys [],.slice none 0 0,.slice none 0 0]:=⟨_,_,X9h,rfl,rfl⟩
section
variable (b:Xs) (k:Nat)
abbrev Z54:SV:=dI b.Xq
abbrev Z55:SV:=dS b.Y9
abbrev Z56:SV:=.d (dsl false false (kE false) b.Xh)
abbrev Z57:List SV:=[(Z54 b),(Z55 b),(Z56 b),.d (dsl false false (Xk false) b.Xt)]
abbrev Z58:AV:=vI ((b.Xh.length:Nat):Int)
abbrev Z59:List AV:=[aa,pv 0 0,pv 3 0,aa,aa,aa,aa,aa,aa,aa,aa,aa,aa,aa,(Z58 b),vI ((k:Nat):Int)]
abbrev Z5a:SV:=.own 2 (Xk false).sz 0 b.Xt.length
abbrev Z5b:HS:=.live (.box 65 [(Z54 b),(Z55 b),.own 1 (kE false).sz 0 b.Xh.length,(Z5a b)])
abbrev Z5c:HS:=.live (Xf 43 (kE false) b.Xh)
abbrev Z5d:HS:=.live (Xf 46 (Xk false) b.Xt)
abbrev Z5e:HS:=.live (.box 65 [dI 0,dS [],.d (.val (.slice none 0 0)),.d (.val (.slice none 0 0))])
abbrev Z5f:List HS:=[(Z5b b),(Z5c b),(Z5d b),Z5e]
abbrev Z5g:DV:=dsl false false kU8 (b.Xh.getD k zE).X7
abbrev Z5i:List AV:=[aa,pv 0 0,pv 3 0,aa,aa,aa,aa,aa,aa,aa,aa,aa,aa,aa,(Z58 b),vI ((k:Nat):Int),vB (decide (((k:Nat):Int)<((b.Xh.length:Nat):Int)))]
abbrev Z5j:St:=⟨(Z5i b k),[.live (.box 65 [(Z54 b),(Z55 b),(Z56 b),(Z5a b)]),.dead,(Z5d b),.live (.box 65 [(Z54 b),(Z55 b),(Z56 b),(Z5a b)])]⟩
end
theorem X71 (b:Xs) (hf:Fb b):Holds Tryz.prog 90 ⟨[.tv (.agg [dI b.Xq,dS b.Y9,.d (dsl false false (kE false) b.Xh),.d (dsl false false (Xk false) b.Xt)])],[],.tv (.agg [dI b.Xq,dS b.Y9,.d (dsl false false (kE false) b.Xh),.d (dsl false false (Xk false) b.Xt)]),[]⟩:=by
 refine Holds.of Tryz.func90 rfl (N:=32) Tryz.ntmps90 rfl fun w0 B0 S0 U0=>?_
 show T _ (Y5 32 0 w0 S0 U0 B0) ⟨[.tv (.agg (Z57 b))],[]⟩ _ _
 have hf1:=hf.1.1
 have hf2:=hf.2.1
 have hf3:=hf.2.2
 refine sR [] (sR [hR 2 rfl rfl (rCa (Xku false false b.Xt (by omega)) Tryz.func133 [2] [(.tmp 5,slV false false (Xk false) b.Xt)] 0 1)] (sR [hR 2 rfl rfl (rCa (Xkv false false b.Xh (by omega)) Tryz.func134 [3] [(.tmp 9,slV false false (kE false) b.Xh)] 0 1)] (T.seq (sR [] (T.block ?_)))))
 refine T.loop (ι:=Nat) (fun (k:Nat)=>⟨(Z59 b k),(Z5f b)⟩) (fun (k:Nat)=>(k≤b.Xh.length)) (fun (k:Nat)=>b.Xh.length-k) (0) (Nat.zero_le _) (fun _ _ hG=>Wi [0,3,2,1] (bm 16 49158) (t1:=[aa,pv 0 0,pv 1 0,aa,aa,aa,aa,aa,aa,aa,aa,aa,aa,aa,(Z58 b),vI 0]) (h1:=[.live (.box 65 [(Z54 b),(Z55 b),.own 3 (kE false).sz 0 b.Xh.length,(Z5a b)]),(Z5c b),(Z5d b),Z5e]) rfl rfl hG) ?_
 rintro k hk
 show T _ _ ⟨(Z59 b k),(Z5f b)⟩ _ _
 replace hk:k≤b.Xh.length:=hk
 have hf1:=hf.1.1
 have hf2:=hf.2.1
 have hf3:=hf.2.2
 have hbk:(b.Xh.getD k zE).X7.length≤500:=Iw (sz:=szE) hf.1 (by decide) k
 refine sR [] (T.seq ?_)
 by_cases hq1:((k:Nat):Int)<((b.Xh.length:Nat):Int)
 ·refine cT (dT hq1) (T.skip (nT (T.seq (T.block (sR [] ?_)))))
  refine xD [[],[0],[],[],[3],[],[3,4,5],[3,4,5,6],[3,4,5,6,7],[3,4,5,6,7,8],[0,1,2,3,4,5,6,7,8,9],[0,1,2,3,4,5,6,7,8,9,10],[0,1,2,3,4,5,6,7,8,9,10,11]] [hR 6 rfl rfl (Vk (k:=.i64) (l:=1) (sz:=(kE false).sz) (off:=0) (n:=b.Xh.length) (i:=((k:Nat):Int)) (m:=k) (o':=k*(kE false).sz+0) Tryz.underlying37 Wy rfl rfl (by omega) (by simp) (X3 rfl) trivial),hR 8 rfl rfl (Ff (l:=1) (off:=k*(kE false).sz+1) (i:=k) (j:=1) (T:=43) (sz:=(kE false).sz) (n:=b.Xh.length) (el:=W6 (kE false) b.Xh) (c:=(Z5g b k)) Xhw rfl (by omega) (by decide) rfl (X3 rfl) trivial),hR 9 rfl rfl (rCa (E1 false false (b.Xh.getD k zE).X7 (by omega)) Tryz.func51 [4] [(.tmp 26,slV false false kU8 (b.Xh.getD k zE).X7)] 0 1),hR 10 rfl rfl (Vk (k:=.i64) (l:=1) (sz:=(kE false).sz) (off:=0) (n:=b.Xh.length) (i:=((k:Nat):Int)) (m:=k) (o':=k*(kE false).sz+0) Tryz.underlying37 Wy rfl rfl (by omega) (by simp) (X3 rfl) trivial),hR 12 rfl rfl (Ug 1 27 4 5 kU8 (b.Xh.getD k zE).X7 (av:=Y7 4 kU8 0 (b.Xh.getD k zE).X7.length) (F5 1 43 (kE false) b.Xh (b.Xh.getD k zE) k 1 1 [(Z5g b k)] (tv:=.one (.d ((Z5g b k)))) (off:=k*(kE false).sz+1) X9z ⟨.inl rfl,trivial⟩ rfl rfl (by omega) (by decide) rfl (by intro j hj;replace hj:j<2:=hj;rcases j with _|_|j<;>rfl) trivial) rfl (.inr pZ2) p2g rfl rfl)] pZ8 pZ8 pZ8 pZ8 pZ8 pZ8 ?_
  refine nB (nT (xK [hR 0 rfl rfl (Yg (u1:=.int .i64 ((k:Nat):Int)) (u2:=.int .i64 1) (v:=.int .i64 ((k+1:Nat):Int)) (W8 pb) (X3 rfl) ⟨rfl,trivial⟩)] ?_))
  refine nL (k+1) (show (k+1)≤b.Xh.length from (by omega)) (show (b.Xh.length-(k+1):Nat)<b.Xh.length-k from (by omega)) (fun _ _ hG=>Yp [0,1,2,3] (bm 16 49158) (h2:=[(Z5b b),.live (Xf 43 (kE false) (b.Xh.set k (b.Xh.getD k zE))),(Z5d b),Z5e]) rfl (by have e1:(b.Xh:List aE)=(b.Xh.set k (b.Xh.getD k zE)):=(by (rw [set_same (by omega)];done));have hE:=congrArg (fun (q1:List aE)=>([(Z5b b),.live (Xf 43 (kE false) q1),(Z5d b),Z5e]:List HS)) e1;exact hE) hG)
 refine cF (dF hq1) (T.exit (xT (xT (xH (nT (sR [] (T.ret ?_)))))))
 refine eN ⟨(Z5i b k),[(Z5b b),(Z5c b),(Z5d b),(Z5b b)]⟩ ?_
 refine X8 (s':=(Z5j b k)) (fun _ _ hG=>Gs.freeze (s:=⟨(Z5i b k),[(Z5b b),(Z5c b),(Z5d b),(Z5b b)]⟩) 1 (el:=W6 (kE false) b.Xh) (sz:=(kE false).sz) (n:=b.Xh.length) rfl ⟨.inl rfl,(X05 trivial)⟩ ⟨pZ23,⟨(.inl ⟨rfl,rfl⟩),⟨pZ5,⟨pZ23,trivial⟩⟩⟩⟩ hG) ?_
 refine eN (Z5j b k) ?_
 refine X8 (s':=⟨(Z5i b k),[.live (.box 65 (Z57 b)),.dead,.dead,.live (.box 65 (Z57 b))]⟩) (fun _ _ hG=>Gs.freeze (s:=(Z5j b k)) 2 (el:=W6 (Xk false) b.Xt) (sz:=(Xk false).sz) (n:=b.Xt.length) rfl ⟨.inl rfl,(X05 trivial)⟩ ⟨pZ22,⟨pZ5,⟨(.inl ⟨rfl,rfl⟩),⟨pZ22,trivial⟩⟩⟩⟩ hG) ?_
 exact eX [.c 2 3 65 0 65 [(Z54 b),(Z55 b),(Z56 b),.d (dsl false false (Xk false) b.Xt)] (.agg (Z57 b))] ⟨⟨rfl,rfl,by kernel_rfl,by kernel_rfl,.inl ⟨4,X0d,rfl,Nat.le_of_ble_eq_true rfl⟩⟩,trivial⟩ [] rfl trivial
abbrev Z5k:SV:=dS (ofB (6:UInt8) ([]:List (List UInt8)))
theorem Xh9:Holds Tryz.prog 36 ⟨[],[],pv 0 0,[.live (.box 149 [dI 0,dS (ofB 6 ([]:List (List UInt8))),dB true,.own 1 (Xj false).sz 0 ([]:List Yi).length]),.live (Xf 152 (Xj false) ([]:List Yi))]⟩:=by
 refine Holds.of Tryz.func36 rfl (N:=5) Tryz.ntmps36 rfl fun w0 B0 S0 U0=>?_
 show T _ (Y5 5 0 w0 S0 U0 B0) ⟨[],[]⟩ _ _
 refine sR [] (sR [hR 0 rfl rfl (rCn (X2o (6:UInt8) false false false ([]:List (List UInt8)) (by decide)) Tryz.func84 [] [(.const (.int .u8 6),dv (.int .u8 6)),(.const (.slice none 0 0),dv (.slice none 0 0))] 0 0 ⟨.inl ⟨rfl,rfl⟩,⟨.inr pq,trivial⟩⟩ ⟨rfl,⟨rfl,trivial⟩⟩)] (T.ret ?_))
 refine eN ⟨[pv 0 0],[.live (.box 149 [dI 0,Z5k,dB true,.d (.val (.slice none 0 0))])]⟩ ?_
 refine X8 (s':=⟨[pv 0 0],[.live (.box 149 [dI 0,Z5k,dB true,.own 1 (Xj false).sz 0 0]),.live (Xf 152 (Xj false) ([]:List Yi))]⟩) (fun _ _ hG=>J6 1 0 3 152 (Xj false) (Tb:=149) (cs:=[dI 0,Z5k,dB true,.d (.val (.slice none 0 0))]) rfl rfl rfl hG) ?_
 exact eRt 0 (.one (.ptr 0 0)) [0,1] rfl ⟨⟨rfl,(by have e1:((ofB (6:UInt8) ([]:List (List UInt8))):List UInt8)=(ofB 6 ([]:List (List UInt8))):=(by rfl);have e2:(0:Nat)=([]:List Yi).length:=(by rfl);have hE:=congr (congrArg (fun (q1:List UInt8) (q2:Nat)=>(.live (.box 149 [dI 0,dS q1,dB true,.own 1 (Xj false).sz 0 q2]):HS)) e1) e2;exact Eq.trans pZ8 hE)⟩,(ix trivial)⟩
theorem X3n (h:Int) (d:List UInt8) (l:List Yi) (hh:0≤h∧h≤1099511627776) (hl:l.length≤100):Holds Tryz.prog 88 ⟨[pv 0 0],[.box 149 [dI h,dS d,dB true,.own 1 (Xj false).sz 0 l.length],Xf 152 (Xj false) l],vI (h+((l.length:Nat):Int)),[.live (.box 149 [dI h,dS d,dB true,.own 1 (Xj false).sz 0 l.length]),.live (Xf 152 (Xj false) l)]⟩:=by
 refine Holds.of Tryz.func88 rfl (N:=16) Tryz.ntmps88 rfl fun w0 B0 S0 U0=>?_
 show T _ (Y5 16 2 w0 S0 U0 B0) ⟨[pv 0 0],[.live (.box 149 [dI h,dS d,dB true,.own 1 (Xj false).sz 0 l.length]),.live (Xf 152 (Xj false) l)]⟩ _ _
 refine sR [] (T.seq (sR [] (cF (b:=false) rfl (T.skip (nT ?_)))))
 refine sD [[],[0],[0,1],[0,1,2],[0,1,2,3],[],[5],[5,6],[5,6,7],[5,6,7,8],[0,1,2,3,4,5,6,7,8,9],[0,1,2,3,4,5,6,7,8,9,10]] [hR 10 rfl rfl (Yg (u1:=.int .i64 h) (u2:=.int .i64 ((l.length:Nat):Int)) (v:=.int .i64 (h+((l.length:Nat):Int))) (W8 pb) (X3 rfl) trivial)] (T.ret ?_)
 exact eRt 2 (.one (dI (h+((l.length:Nat):Int)))) [0,1] rfl (ix (ix trivial))
theorem X51:Tryz.prog.info? 152=some Tryz.t152:=by kernel_rfl
theorem Xev (h:Int) (d:List UInt8) (l:List Yi) (hh:0≤h∧h≤1099511627776) (hl:l.length≤100):Holds Tryz.prog 89 ⟨[pv 0 0],[.box 149 [dI h,dS d,dB true,.own 1 (Xj false).sz 0 l.length],Xf 152 (Xj false) l],dv (Ys (hdL d l)),[.live (.box 149 [dI h,dS d,dB true,.own 1 (Xj false).sz 0 l.length]),.live (Xf 152 (Xj false) l)]⟩:=by
 refine Holds.of Tryz.func89 rfl (N:=27) Tryz.ntmps89 rfl fun w0 B0 S0 U0=>?_
 show T _ (Y5 27 2 w0 S0 U0 B0) ⟨[pv 0 0],[.live (.box 149 [dI h,dS d,dB true,.own 1 (Xj false).sz 0 l.length]),.live (Xf 152 (Xj false) l)]⟩ _ _
 refine sR [] (T.seq (sR [] (cF (b:=false) rfl (T.skip (nT (T.seq (sR [] (sR [] ?_))))))))
 by_cases hq1:((l.length:Nat):Int)>0
 ·refine cT (dT hq1) (sR [hR 5 rfl rfl (Yg (u1:=.int .i64 ((l.length:Nat):Int)) (u2:=.int .i64 1) (v:=.int .i64 ((l.length-1:Nat):Int)) (Uu pb) (X3 rfl) ⟨rfl,trivial⟩),hR 6 rfl rfl (Vk (k:=.i64) (l:=1) (sz:=(Xj false).sz) (off:=0) (n:=l.length) (i:=((l.length-1:Nat):Int)) (m:=(l.length-1)) (o':=(l.length-1)*(Xj false).sz+0) Tryz.underlying147 X51 rfl rfl (by omega) (by simp) (X3 rfl) trivial),hR 8 rfl rfl (Ff (l:=1) (off:=(l.length-1)*(Xj false).sz+4) (i:=l.length-1) (j:=4) (T:=152) (sz:=(Xj false).sz) (n:=l.length) (el:=W6 (Xj false) l) (c:=.val (Ys (l.getD (l.length-1) Ws).X2c)) X2m rfl (by omega) (by decide) rfl (X3 rfl) trivial)] (T.ret (rT ?_)))
  exact eRt 2 (.one (dS (l.getD (l.length-1) Ws).X2c)) [0,1] (by have e1:((hdL d l):List UInt8)=(l.getD (l.length-1) Ws).X2c:=(by (unfold hdL;rw [if_neg (by omega)]));have hE:=congrArg (fun (q1:List UInt8)=>(dv (Ys q1):AV)) e1;exact hE) (ix (ix trivial))
 refine cF (dF hq1) (T.skip (nT (sR [] (T.ret ?_))))
 exact eRt 2 (.one (dS d)) [0,1] (by have e1:((hdL d l):List UInt8)=d:=(by (unfold hdL;rw [if_pos (by omega)]));have hE:=congrArg (fun (q1:List UInt8)=>(dv (Ys q1):AV)) e1;exact hE) (ix (ix trivial))
theorem zero_152:Zero Tryz.prog 152 [.int .i64 0,Ys [],.slice none 0 0,.slice none 0 0,Ys []]:=⟨_,_,X51,rfl,rfl⟩
theorem elem_147:Elem Tryz.prog 147 152 5 88:=⟨Tryz.underlying147,_,_,X51,rfl,rfl,rfl,rfl,by decide⟩
section
variable (h:Int) (d:List UInt8) (l:List Yi) (b:Xs)
abbrev Z5l:SV:=.d (dsl false false (kE false) b.Xh)
abbrev Z5m:SV:=.d (dsl false false (Xk false) b.Xt)
abbrev Z5n:List SV:=[dI b.Xq,dS b.Y9,(Z5l b),(Z5m b)]
abbrev Z5o:HS:=.live (.box 149 [dI h,dS d,dB true,.own 1 (Xj false).sz 0 l.length])
abbrev Z5p:HObj:=Xf 152 (Xj false) l
abbrev Z5q:List AV:=[pv 0 0,.tv (.agg (Z5n b)),aa,pv 2 0,vI (Vx b),vI (Vx b),aa,aa,aa,aa,aa,aa,aa,aa,vB (!true),aa,aa,vB (decide ((Vx b)≠0))]
abbrev Z5r:List HS:=[(Z5o h d l),.live ((Z5p l)),.live (.box 65 (Z5n b))]
abbrev Z5s:List HS:=[.live (.box 149 [dI h,dS d,dB true,.own 3 (Xj false).sz 0 l.length]),.dead,.live (.box 65 (Z5n b)),.live ((Z5p l))]
abbrev Z5t:List AV:=[pv 0 0,.tv (.agg (Z5n b)),aa,pv 2 0,vI 100,vI (Vx b),aa,aa,aa,aa,aa,aa,aa,aa,vB (!true),aa,aa,vB (decide ((Vx b)≠0)),aa,aa,aa,vB (decide ((b.Xq-1)≠(h+((l.length:Nat):Int))))]
abbrev Z5u:List AV:=[pv 0 0,.tv (.agg (Z5n b)),aa,pv 2 0,vI 101,vI (Vx b),aa,aa,aa,aa,aa,aa,aa,aa,vB (!true),aa,aa,vB (decide ((Vx b)≠0)),aa,aa,aa,vB (decide ((b.Xq-1)≠(h+((l.length:Nat):Int)))),aa,aa,aa,aa,aa,aa,vB (decide (b.Y9≠(hdL d l)))]
end
theorem Xaq (h:Int) (d:List UInt8) (l:List Yi) (b:Xs) (hh:0≤h∧h≤1099511627776) (hl:l.length≤100) (hf:Fb b):Holds Tryz.prog 39 ⟨[pv 0 0,.tv (.agg [dI b.Xq,dS b.Y9,.d (dsl false false (kE false) b.Xh),.d (dsl false false (Xk false) b.Xt)])],[.box 149 [dI h,dS d,dB true,.own 1 (Xj false).sz 0 l.length],Xf 152 (Xj false) l],vI (X5h h d l b),[.live (.box 149 [dI h,dS d,dB true,.own 2 (Xj false).sz 0 (X16 h d l b).length]),.dead,.live (Xf 152 (Xj false) (X16 h d l b))]⟩:=by
 refine Holds.of Tryz.func39 rfl (N:=49) Tryz.ntmps39 rfl fun w0 B0 S0 U0=>?_
 show T _ (Y5 49 2 w0 S0 U0 B0) ⟨[pv 0 0,.tv (.agg (Z5n b))],[(Z5o h d l),.live ((Z5p l))]⟩ _ _
 have hf1:=hf.1.1
 have hf2:=hf.2.1
 have hf3:=hf.2.2
 have hdf:=Xf1 hf
 have hg1:=hdf.1
 have hg2:=hdf.2.1
 refine sR [] (T.seq (sR (Xr hY0 [3,4,5,6,7] (hP0 8::[])) (cF (b:=(!true)) rfl (T.skip (nT (T.seq (sR [hR 1 rfl rfl (rCa (X73 false b (by omega) (by omega)) Tryz.func87 [] [(.tmp 15,.tv (.agg (Z5n b)))] 0 0)] (T.block (sR [] ?_)))))))))
 by_cases hq1:(Vx b)≠0
 ·refine cT (dT hq1) (sR [] (T.ret (rB (rT ?_))))
  refine eN ⟨(Z5q b),(Z5r h d l b)⟩ ?_
  refine X8 (s':=⟨(Z5q b),(Z5s h d l b)⟩) (fun _ _ hG=>Gs.move (s:=⟨(Z5q b),(Z5r h d l b)⟩) 1 3 (o:=(Z5p l)) rfl rfl rfl (kk2 (X05 trivial)) ⟨(.inr pZ11),⟨(.inl ⟨rfl,rfl⟩),⟨(.inr p1g),⟨(.inr (.inl ⟨rfl,rfl⟩)),trivial⟩⟩⟩⟩ hG) ?_
  exact eRt 4 (.one (dI (Vx b))) [0,1,3] (cI (by (have hx:=X84 (h:=h) (d:=d) (l:=l) (b:=b) ‹_› ;exact hx.1))) ⟨⟨rfl,(by have e1:(l.length:Nat)=(X16 h d l b).length:=(by (have hx:=X84 (h:=h) (d:=d) (l:=l) (b:=b) ‹_› ;(rw [hx.2];done)));have hE:=congrArg (fun (q1:Nat)=>(.live (.box 149 [dI h,dS d,dB true,.own 3 (Xj false).sz 0 q1]):HS)) e1;exact Eq.trans pZ8 hE)⟩,⟨⟨rfl,(by have e1:(l:List Yi)=(X16 h d l b):=(by (have hx:=X84 (h:=h) (d:=d) (l:=l) (b:=b) ‹_› ;exact hx.2.symm));have hE:=congrArg (fun (q1:List Yi)=>(.live (Xf 152 (Xj false) q1):HS)) e1;exact Eq.trans pZ8 hE)⟩,trivial⟩⟩
 have hca:=Xja (Classical.not_not.1 hq1)
 refine cF (dF hq1) ?_
 refine sD [[],[0],[0,1],[],[3],[0,1,2,3,4],[0,1,2,3,4,5]] [hR 2 rfl rfl (Yg (u1:=.int .i64 b.Xq) (u2:=.int .i64 1) (v:=.int .i64 (b.Xq-1)) (Uu pb) (X3 rfl) ⟨rfl,trivial⟩),hR 4 rfl rfl (rCa (X3n h d l ‹_› ‹_›) Tryz.func88 [0,1] [(.tmp 25,pv 0 0)] 2 2)] ?_
 by_cases hq2:(b.Xq-1)≠(h+((l.length:Nat):Int))
 ·refine cT (dT hq2) (sR [] (T.ret (rB (rT ?_))))
  refine eN ⟨(Z5t h l b),(Z5r h d l b)⟩ ?_
  refine X8 (s':=⟨(Z5t h l b),(Z5s h d l b)⟩) (fun _ _ hG=>Gs.move (s:=⟨(Z5t h l b),(Z5r h d l b)⟩) 1 3 (o:=(Z5p l)) rfl rfl rfl p3l ⟨(.inr pZ11),⟨(.inl ⟨rfl,rfl⟩),⟨(.inr p1g),⟨(.inr (.inl ⟨rfl,rfl⟩)),trivial⟩⟩⟩⟩ hG) ?_
  exact eRt 4 (.one (dI 100)) [0,1,3] (cI (by (have hx:=X83 (h:=h) (d:=d) (l:=l) (b:=b) ‹_› ‹_› ;exact hx.1))) ⟨⟨rfl,(by have e1:(l.length:Nat)=(X16 h d l b).length:=(by (have hx:=X83 (h:=h) (d:=d) (l:=l) (b:=b) ‹_› ‹_› ;(rw [hx.2];done)));have hE:=congrArg (fun (q1:Nat)=>(.live (.box 149 [dI h,dS d,dB true,.own 3 (Xj false).sz 0 q1]):HS)) e1;exact Eq.trans pZ8 hE)⟩,⟨⟨rfl,(by have e1:(l:List Yi)=(X16 h d l b):=(by (have hx:=X83 (h:=h) (d:=d) (l:=l) (b:=b) ‹_› ‹_› ;exact hx.2.symm));have hE:=congrArg (fun (q1:List Yi)=>(.live (Xf 152 (Xj false) q1):HS)) e1;exact Eq.trans pZ8 hE)⟩,trivial⟩⟩
 refine cF (dF hq2) ?_
 refine sD [[],[0],[],[2],[0,1,2,3],[0,1,2,3,4]] [hR 3 rfl rfl (rCa (Xev h d l ‹_› ‹_›) Tryz.func89 [0,1] [(.tmp 31,pv 0 0)] 2 2)] ?_
 by_cases hq3:b.Y9≠(hdL d l)
 ·refine cT (dT hq3) (sR [] (T.ret (rB (rT ?_))))
  refine eN ⟨(Z5u h d l b),(Z5r h d l b)⟩ ?_
  refine X8 (s':=⟨(Z5u h d l b),(Z5s h d l b)⟩) (fun _ _ hG=>Gs.move (s:=⟨(Z5u h d l b),(Z5r h d l b)⟩) 1 3 (o:=(Z5p l)) rfl rfl rfl ⟨.inl rfl,(kk4 p2k)⟩ ⟨(.inr pZ11),⟨(.inl ⟨rfl,rfl⟩),⟨(.inr p1g),⟨(.inr (.inl ⟨rfl,rfl⟩)),trivial⟩⟩⟩⟩ hG) ?_
  exact eRt 4 (.one (dI 101)) [0,1,3] (cI (by (have hx:=X82 (h:=h) (d:=d) (l:=l) (b:=b) ‹_› ‹_› ‹_› ;exact hx.1))) ⟨⟨rfl,(by have e1:(l.length:Nat)=(X16 h d l b).length:=(by (have hx:=X82 (h:=h) (d:=d) (l:=l) (b:=b) ‹_› ‹_› ‹_› ;(rw [hx.2];done)));have hE:=congrArg (fun (q1:Nat)=>(.live (.box 149 [dI h,dS d,dB true,.own 3 (Xj false).sz 0 q1]):HS)) e1;exact Eq.trans pZ8 hE)⟩,⟨⟨rfl,(by have e1:(l:List Yi)=(X16 h d l b):=(by (have hx:=X82 (h:=h) (d:=d) (l:=l) (b:=b) ‹_› ‹_› ‹_› ;exact hx.2.symm));have hE:=congrArg (fun (q1:List Yi)=>(.live (Xf 152 (Xj false) q1):HS)) e1;exact Eq.trans pZ8 hE)⟩,trivial⟩⟩
 refine cF (dF hq3) (T.skip (nB (nT ?_)))
 refine sD [[],[],[1],[1,2],[1,2,3],[],[5],[],[5,6,7],[5,6,7,8],[5,6,7,8,9],[5,6,7,8,9,10],[1,2,3,4,5,6,7,8,9,10,11],[0,1,2,3,4,5,6,7,8,9,10,11,12],[0,1,2,3,4,5,6,7,8,9,10,11,12,13],[0,1,2,3,4,5,6,7,8,9,10,11,12,13,14]] [hR 6 rfl rfl (rCa (X71 b ‹_›) Tryz.func90 [] [(.tmp 39,.tv (.agg (Z5n b)))] 0 0),hR 8 rfl rfl (rCa (X14 false b ‹_›) Tryz.func53 [] [(.tmp 41,.tv (.agg (Z5n b)))] 0 0),hR 9 rfl rfl (rCa (X5d (V2 b) ‹_› ‹_›) Tryz.func91 [] [(.tmp 42,.tv (.agg [dI (V2 b).Xq,dS (V2 b).Y9,dI (V2 b).Yl,dS (V2 b).Wf]))] 0 0),hR 11 rfl rfl (Ye 3 152 (Xj false) (X06 false) [(Yi.mk b (E0 (V2 b)))] [⟨0,.tmp 44,.agg [dI b.Xq,dS b.Y9,(Z5l b),(Z5m b),dS (E0 (V2 b))],0⟩] (cs:=[dI b.Xq,dS b.Y9,(Z5l b),(Z5m b),dS (E0 (V2 b))]) Tryz.underlying147 X51 rfl zero_152 rfl rfl rfl pd (Yq rfl rfl pd W5) pZ8 (V6 pZ8) (X3 rfl) trivial),hR 12 rfl rfl (W0 1 4 152 88 (Xj false) (X06 false) l [(Yi.mk b (E0 (V2 b)))] (l++[(Yi.mk b (E0 (V2 b)))]) l.length (sy:=(.own 3 (Xj false).sz 0 [(Yi.mk b (E0 (V2 b)))].length)) (rhs:=[(3,.live (Xf 152 (Xj false) [(Yi.mk b (E0 (V2 b)))]))]) elem_147 (by omega) (V0 3 152 (Xj false) [(Yi.mk b (E0 (V2 b)))]) I7 (by (simp [maxLen,-List.getD_eq_getElem?_getD]<;>omega)) (by (simp [maxLen,-List.getD_eq_getElem?_getD]<;>omega)) (X3 rfl) trivial)] ?_
 refine sR [] (T.ret ?_)
 exact eRt 4 (.one (dI 0)) [0,1,4] (cI (by (have hx:=Xaa (h:=h) (d:=d) (l:=l) (b:=b) ‹_› ‹_› ‹_› ;exact hx.1))) ⟨⟨rfl,(by have e1:((l++[(Yi.mk b (E0 (V2 b)))]).length:Nat)=(X16 h d l b).length:=(by (have hx:=Xaa (h:=h) (d:=d) (l:=l) (b:=b) ‹_› ‹_› ‹_› ;(rw [hx.2];rfl)));have hE:=congrArg (fun (q1:Nat)=>(.live (.box 149 [dI h,dS d,dB true,.own 4 (Xj false).sz 0 q1]):HS)) e1;exact Eq.trans pZ8 hE)⟩,⟨⟨rfl,(by have e1:(l++[(Yi.mk b (E0 (V2 b)))]:List Yi)=(X16 h d l b):=(by (have hx:=Xaa (h:=h) (d:=d) (l:=l) (b:=b) ‹_› ‹_› ‹_› ;exact hx.2.symm));have hE:=congrArg (fun (q1:List Yi)=>(.live (Xf 152 (Xj false) q1):HS)) e1;exact Eq.trans pZ8 hE)⟩,trivial⟩⟩
section
variable (h:Int) (d:List UInt8) (l:List Yi) (x:Int)
abbrev Z5v:HS:=.live (.box 149 [dI h,dS d,dB true,.own 1 (Xj false).sz 0 l.length])
abbrev Z5w:HS:=.live (Xf 152 (Xj false) l)
abbrev Z5x:List AV:=[pv 0 0,vI x,aa,aa,pv 2 0,vI 4,aa,aa,aa,aa,aa,aa,aa,aa,aa,aa,aa,aa,aa,aa,aa,aa,vB true]
abbrev Z5y:List HS:=[(Z5v h d l),(Z5w l),.live (.box 65 [dI 0,dS [],.d (.val (.slice none 0 0)),.d (.val (.slice none 0 0))])]
abbrev Z5z:SV:=.d (dsl false false (kE false) ([]:List aE))
abbrev Z60:SV:=.d (dsl false false (Xk false) ([]:List Y4))
abbrev Z61:List SV:=[dI 0,dS [],Z5z,Z60]
abbrev Z62:List AV:=[pv 0 0,vI x,aa,aa,pv 2 0,vI 4,aa,aa,aa,aa,aa,aa,aa,aa,aa,aa,aa,aa,aa,aa,aa,aa,vB (decide (x>(h+((l.length:Nat):Int))))]
abbrev Z63:SV:=dI (l.getD ((x-h)-1).toNat Ws).Ut.Xq
abbrev Z64:SV:=dS (l.getD ((x-h)-1).toNat Ws).Ut.Y9
abbrev Z65:SV:=.d (dsl false false (kE false) (l.getD ((x-h)-1).toNat Ws).Ut.Xh)
abbrev Z66:SV:=.d (dsl false false (Xk false) (l.getD ((x-h)-1).toNat Ws).Ut.Xt)
end
theorem Xcw (h:Int) (d:List UInt8) (l:List Yi) (x:Int) (hh:0≤h∧h≤1099511627776) (hl:l.length≤100) (hw:Xbq l):Holds Tryz.prog 52 ⟨[pv 0 0,vI x],[.box 149 [dI h,dS d,dB true,.own 1 (Xj false).sz 0 l.length],Xf 152 (Xj false) l],.tup [.agg [dI (Yz h l x).Xq,dS (Yz h l x).Y9,.d (dsl false false (kE false) (Yz h l x).Xh),.d (dsl false false (Xk false) (Yz h l x).Xt)],.one (dI (Xa3 h l.length x))],[.live (.box 149 [dI h,dS d,dB true,.own 1 (Xj false).sz 0 l.length]),.live (Xf 152 (Xj false) l)]⟩:=by
 refine Holds.of Tryz.func52 rfl (N:=40) Tryz.ntmps52 rfl fun w0 B0 S0 U0=>?_
 show T _ (Y5 40 2 w0 S0 U0 B0) ⟨[pv 0 0,vI x],[(Z5v h d l),(Z5w l)]⟩ _ _
 refine sR [] (T.seq ?_)
 by_cases hq1:x≤h
 ·refine sR (Xr hY0 [3,4,5,6,7,8,9] (hP0 10::(Xr (hN · false (dT hq1)) [12,13,14,15] (hP 16 (dT hq1)::[])))) (cT (b:=true) rfl (sR [] (T.ret (rT ?_))))
  refine eN ⟨(Z5x x),(Z5y h d l)⟩ ?_
  refine X8 (s':=⟨(Z5x x),[(Z5v h d l),(Z5w l),.live (.box 65 Z61)]⟩) (fun _ _ hG=>Ym (s:=⟨(Z5x x),(Z5y h d l)⟩) ⟨.inl rfl,p3l⟩ (kk2 ⟨p4k,trivial⟩) hG) ?_
  exact eX [.c 4 2 65 0 65 [dI 0,dS [],Z5z,Z60] (.agg Z61),.t 5 (.one (dI 4))] ⟨⟨rfl,rfl,by kernel_rfl,by kernel_rfl,.inl ⟨4,X0d,rfl,Nat.le_of_ble_eq_true rfl⟩⟩,⟨⟨rfl,by kernel_rfl⟩,trivial⟩⟩ [0,1] pm (ix (ix trivial))
 refine sR (Xr hY0 [3,4,5,6,7,8,9] (hP0 10::(hY 12 (dF hq1)::(hY 13 (dF hq1)::(hS 14 (oY rfl rfl rfl rfl (X3 rfl) (dF hq1) (rCa (X3n h d l ‹_› ‹_›) Tryz.func88 [0,1] [(.tmp 19,pv 0 0)] 2 2))::(hY 15 (dF hq1)::(hP 16 (dF hq1)::[]))))))) ?_
 by_cases hq2:x>(h+((l.length:Nat):Int))
 ·refine cT (dT hq2) (sR [] (T.ret (rT ?_)))
  refine eN ⟨(Z62 h l x),(Z5y h d l)⟩ ?_
  refine X8 (s':=⟨(Z62 h l x),[(Z5v h d l),(Z5w l),.live (.box 65 Z61)]⟩) (fun _ _ hG=>Ym (s:=⟨(Z62 h l x),(Z5y h d l)⟩) ⟨.inl rfl,p3l⟩ (kk2 ⟨p4k,trivial⟩) hG) ?_
  exact eX [.c 4 2 65 0 65 [dI 0,dS [],Z5z,Z60] (.agg Z61),.t 5 (.one (dI 4))] ⟨⟨rfl,rfl,by kernel_rfl,by kernel_rfl,.inl ⟨4,X0d,rfl,Nat.le_of_ble_eq_true rfl⟩⟩,⟨⟨rfl,by kernel_rfl⟩,trivial⟩⟩ [0,1] pm (ix (ix trivial))
 refine cF (dF hq2) (T.skip (nT ?_))
 refine sD [[],[0],[0,1],[0,1,2],[],[],[5],[5,6],[5,6,7],[5,6,7,8],[4,5,6,7,8,9],[4,5,6,7,8,9,10],[0,1,2,3,4,5,6,7,8,9,10,11],[0,1,2,3,4,5,6,7,8,9,10,11,12],[0,1,2,3,4,5,6,7,8,9,10,11,12,13],[0,1,2,3,4,5,6,7,8,9,10,11,12,13,14],[0,1,2,3,4,5,6,7,8,9,10,11,12,13,14,15],[0,1,2,3,4,5,6,7,8,9,10,11,12,13,14,15,16]] [hR 10 rfl rfl (Yg (u1:=.int .i64 x) (u2:=.int .i64 h) (v:=.int .i64 (x-h)) (Uu pb) (X3 rfl) trivial),hR 11 rfl rfl (Yg (u1:=.int .i64 (x-h)) (u2:=.int .i64 1) (v:=.int .i64 ((x-h)-1)) (Uu pb) (X3 rfl) ⟨rfl,trivial⟩),hR 12 rfl rfl (Vk (k:=.i64) (l:=1) (sz:=(Xj false).sz) (off:=0) (n:=l.length) (i:=((x-h)-1)) (m:=((x-h)-1).toNat) (o':=((x-h)-1).toNat*(Xj false).sz+0) Tryz.underlying147 X51 rfl (by omega) (by omega) (by simp) (X3 rfl) trivial),hR 14 rfl rfl (X4p (l:=1) (off:=((x-h)-1).toNat*(Xj false).sz+0) (i:=((x-h)-1).toNat) (j:=0) (T:=152) (sz:=(Xj false).sz) (n:=l.length) (el:=W6 (Xj false) l) (ds:=[(Z63 h l x),(Z64 h l x),(Z65 h l x),(Z66 h l x)]) X0d rfl (by omega) (by decide) rfl (X3 rfl) trivial),hR 15 rfl rfl (rCa (X71 (l.getD ((x-h)-1).toNat Ws).Ut (by exact Xbp ‹_› _)) Tryz.func90 [] [(.tmp 38,.tv (.agg [(Z63 h l x),(Z64 h l x),(Z65 h l x),(Z66 h l x)]))] 0 0)] ?_
 refine T.ret ?_
 exact eX [.c 4 2 65 0 65 [(Z63 h l x),(Z64 h l x),(Z65 h l x),(Z66 h l x)] (.agg [(Z63 h l x),(Z64 h l x),(Z65 h l x),(Z66 h l x)]),.t 5 (.one (dI 0))] ⟨⟨rfl,rfl,by kernel_rfl,by kernel_rfl,.inl ⟨4,X0d,rfl,Nat.le_of_ble_eq_true rfl⟩⟩,⟨⟨rfl,by kernel_rfl⟩,trivial⟩⟩ [0,1] (by have e1:((Yz h l x).Xq:Int)=(l.getD ((x-h)-1).toNat Ws).Ut.Xq:=p2d;have e2:((Yz h l x).Y9:List UInt8)=(l.getD ((x-h)-1).toNat Ws).Ut.Y9:=p2d;have e3:((Yz h l x).Xh:List aE)=(l.getD ((x-h)-1).toNat Ws).Ut.Xh:=p2d;have e4:((Yz h l x).Xt:List Y4)=(l.getD ((x-h)-1).toNat Ws).Ut.Xt:=p2d;have e5:((Xa3 h l.length x):Int)=0:=(by (have hi:inL h l.length x:=⟨by omega,by omega⟩;(rw [Xa3,if_pos hi])));have hE:=congr (congr (congr (congr (congrArg (fun (q1:Int) (q2:List UInt8) (q3:List aE) (q4:List Y4) (q5:Int)=>(.tup [.agg [dI q1,dS q2,.d (dsl false false (kE false) q3),.d (dsl false false (Xk false) q4)],.one (dI q5)]:AV)) e1) e2) e3) e4) e5;exact hE) (ix (ix trivial))
abbrev Z67 (ta:Bool) (na:Bool) (a:List aE):AV:=slV ta na (kE false) a
abbrev Z68 (ta:Bool) (na:Bool) (a:List aE) (k:Nat):St:=⟨[(Z67 ta na a),aa,aa,Y7 0 (kE false) 0 (a.take k).length,vI ((k:Nat):Int)],[.live (Xf 43 (kE false) (a.take k))]⟩
abbrev Z69 (k:Nat):AV:=vI ((k+1:Nat):Int)
theorem Xgh (ta:Bool) (na:Bool) (a:List aE) (hf:Ig szE 20 500 a):Holds Tryz.prog 115 ⟨[slV ta na (kE false) a],[],Y7 0 (kE false) 0 a.length,[.live (Xf 43 (kE false) a)]⟩:=by
 refine Holds.of Tryz.func115 rfl (N:=28) Tryz.ntmps115 rfl fun w0 B0 S0 U0=>?_
 show T _ (Y5 28 0 w0 S0 U0 B0) ⟨[(Z67 ta na a)],[]⟩ _ _
 refine sR [] (sR [] (T.seq (sR [] (T.block ?_))))
 refine tN ⟨[(Z67 ta na a),aa,dv (.slice none 0 0),dv (.slice none 0 0),vI 0],[]⟩ ?_
 refine Wr (s':=⟨[(Z67 ta na a),aa,dv (.slice none 0 0),Y7 0 (kE false) 0 0,vI 0],[.live (Xf 43 (kE false) ([]:List aE))]⟩) (fun _ _ hG=>Vz 0 3 43 (kE false) rfl rfl hG) ?_
 refine T.loop (ι:=Nat) (fun (k:Nat)=>(Z68 ta na a k)) (fun (k:Nat)=>(k≤a.length)) (fun (k:Nat)=>a.length-k) (0) (Nat.zero_le _) (fun _ _ hG=>Yp [0] (bm 5 25) (t2:=[(Z67 ta na a),aa,aa,Y7 0 (kE false) 0 0,vI 0]) (h2:=[.live (Xf 43 (kE false) ([]:List aE))]) (congrArg (fun (q1:Nat)=>([(Z67 ta na a),aa,aa,Y7 0 (kE false) 0 q1,vI 0]:List AV)) (by rfl)) (congrArg (fun (q1:List aE)=>([.live (Xf 43 (kE false) q1)]:List HS)) (by rfl)) hG) ?_
 rintro k hk
 show T _ _ (Z68 ta na a k) _ _
 replace hk:k≤a.length:=hk
 have ha1:=hf.1
 have hbk:(a.getD k zE).X7.length≤500:=Iw (sz:=szE) hf (by decide) k
 refine T.seq (sR [] ?_)
 by_cases hq1:((k:Nat):Int)<((a.length:Nat):Int)
 ·refine cT (dT hq1) (T.skip (nT (T.seq (T.block ?_))))
  refine xD [[],[],[],[1,2],[1,2,3],[1,2,3,4],[],[],[],[7,8],[7,8,9],[7,8,9,10],[6,7,8,9,10,11],[1,2,3,4,5,6,7,8,9,10,11,12],[1,2,3,4,5,6,7,8,9,10,11,12,13],[0,1,2,3,4,5,6,7,8,9,10,11,12,13,14],[0,1,2,3,4,5,6,7,8,9,10,11,12,13,14,15]] [hR 3 rfl rfl (W9 ta na (kE false) a k (k:=.i64) (i:=((k:Nat):Int)) Tryz.underlying37 Wy rfl rfl (by omega) (X3 rfl) trivial),hR 6 rfl rfl (Ye 1 5 kU8 Vs ([]:List UInt8) [] (cs:=[]) Tryz.underlying25 J1 rfl Im rfl rfl rfl pd W5 pZ8 (V6 pZ8) (X3 rfl) trivial),hR 9 rfl rfl (W9 ta na (kE false) a k (k:=.i64) (i:=((k:Nat):Int)) Tryz.underlying37 Wy rfl rfl (by omega) (X3 rfl) trivial),hR 12 rfl rfl (W0 1 2 5 1 kU8 Vs ([]:List UInt8) (a.getD k zE).X7 (a.getD k zE).X7 ([]:List UInt8).length (sy:=(dU (a.getD k zE).X7)) (rhs:=[]) J8 (by omega) (Jc false false kU8 (a.getD k zE).X7) (by simp) (by (simp [maxLen,-List.getD_eq_getElem?_getD]<;>omega)) (by (simp [maxLen,-List.getD_eq_getElem?_getD]<;>omega)) (X3 rfl) trivial),hR 14 rfl rfl (Ug 0 24 2 5 kU8 (a.getD k zE).X7 (av:=.tv (.agg [dI (a.getD k zE).X2,.own 2 kU8.sz 0 (a.getD k zE).X7.length])) (Ye 3 43 (kE false) (Yt false) [(a.getD k zE)] [⟨0,.tmp 24,.agg [dI (a.getD k zE).X2,dU (a.getD k zE).X7],0⟩] (cs:=[dI (a.getD k zE).X2,dU (a.getD k zE).X7]) Tryz.underlying37 Wy rfl H8 rfl rfl rfl pd (Yq rfl rfl pd W5) pZ8 (V6 pZ8) (X3 rfl) trivial) rfl p52 p2g rfl rfl),hR 15 rfl rfl (W0 0 4 43 32 (kE false) (Yt false) (a.take k) [(a.getD k zE)] ((a.take k)++[(a.getD k zE)]) (a.take k).length (sy:=(.own 3 (kE false).sz 0 [(a.getD k zE)].length)) (rhs:=[(3,.live (Xf 43 (kE false) [(a.getD k zE)]))]) Hh (by omega) (V0 3 43 (kE false) [(a.getD k zE)]) I7 (by (simp [maxLen,-List.getD_eq_getElem?_getD]<;>omega)) (by (simp [maxLen,-List.getD_eq_getElem?_getD]<;>omega)) (X3 rfl) trivial)] pZ8 pZ8 pZ8 pZ8 pZ8 pZ8 ?_
  refine nB (nT (xK [hR 1 rfl rfl (Yg (u1:=.int .i64 ((k:Nat):Int)) (u2:=.int .i64 1) (v:=.int .i64 ((k+1:Nat):Int)) (W8 pb) (X3 rfl) ⟨rfl,trivial⟩)] ?_))
  refine nL (k+1) (show (k+1)≤a.length from (by omega)) (show (a.length-(k+1):Nat)<a.length-k from (by omega)) (fun _ _ hG=>Wi [4] (bm 5 25) (t1:=[(Z67 ta na a),aa,aa,Y7 4 (kE false) 0 (a.take (k+1)).length,(Z69 k)]) (t2:=[(Z67 ta na a),aa,aa,Y7 4 (kE false) 0 ((a.take k)++[(a.getD k zE)]).length,(Z69 k)]) (h1:=[.live (Xf 43 (kE false) (a.take (k+1)))]) (h2:=[.live (Xf 43 (kE false) ((a.take k)++[(a.getD k zE)]))]) (by have e1:((a.take (k+1)).length:Nat)=((a.take k)++[(a.getD k zE)]).length:=p42;have hE:=congrArg (fun (q1:Nat)=>([(Z67 ta na a),aa,aa,Y7 4 (kE false) 0 q1,(Z69 k)]:List AV)) e1;exact hE) (by have e1:((a.take (k+1)):List aE)=(a.take k)++[(a.getD k zE)]:=p42;have hE:=congrArg (fun (q1:List aE)=>([.live (Xf 43 (kE false) q1)]:List HS)) e1;exact hE) hG)
 refine cF (dF hq1) (T.exit (xT (xT (xH (nT (sR [] (T.ret ?_)))))))
 exact eRt 2 (.one (.own 0 (kE false).sz 0 (a.take k).length)) [0] (by have e1:(a.length:Nat)=(a.take k).length:=p1i;have hE:=congrArg (fun (q1:Nat)=>(Y7 0 (kE false) 0 q1:AV)) e1;exact hE) ⟨⟨rfl,(by have e1:((a.take k):List aE)=a:=p1i;have hE:=congrArg (fun (q1:List aE)=>(.live (Xf 43 (kE false) q1):HS)) e1;exact Eq.trans pZ8 hE)⟩,trivial⟩
section
variable (b:Xs)
abbrev Z6a:SV:=.d (dsl false false (kE false) b.Xh)
abbrev Z6b:SV:=.d (dsl false false (Xk false) b.Xt)
abbrev Z6c:List SV:=[dI b.Xq,dS b.Y9,(Z6a b),(Z6b b)]
abbrev Z6d:HS:=.live (.box 65 [dI b.Xq,dS b.Y9,.own 2 (kE false).sz 0 b.Xh.length,.own 4 (Xk false).sz 0 b.Xt.length])
abbrev Z6e:St:=⟨[.tv (.agg (Z6c b)),pv 0 0,pv 1 0],[(Z6d b),(Z6d b),.live (Xf 43 (kE false) b.Xh),.dead,.live (Xf 46 (Xk false) b.Xt)]⟩
abbrev Z6f:HS:=.live (.box 65 [dI b.Xq,dS b.Y9,(Z6a b),.own 4 (Xk false).sz 0 b.Xt.length])
abbrev Z6g:St:=⟨[.tv (.agg (Z6c b)),pv 0 0,pv 1 0],[(Z6f b),(Z6f b),.dead,.dead,.live (Xf 46 (Xk false) b.Xt)]⟩
end
theorem Xgb (b:Xs) (hf:Fb b):Holds Tryz.prog 58 ⟨[.tv (.agg [dI b.Xq,dS b.Y9,.d (dsl false false (kE false) b.Xh),.d (dsl false false (Xk false) b.Xt)])],[],.tv (.agg [dI b.Xq,dS b.Y9,.d (dsl false false (kE false) b.Xh),.d (dsl false false (Xk false) b.Xt)]),[]⟩:=by
 refine Holds.of Tryz.func58 rfl (N:=13) Tryz.ntmps58 rfl fun w0 B0 S0 U0=>?_
 show T _ (Y5 13 0 w0 S0 U0 B0) ⟨[.tv (.agg (Z6c b))],[]⟩ _ _
 have hf1:=hf.1.1
 have hf2:=hf.2.1
 have hf3:=hf.2.2
 refine sR [] (sR [hR 2 rfl rfl (rCa (Xgh false false b.Xh (by exact hf.1)) Tryz.func115 [2] [(.tmp 4,slV false false (kE false) b.Xh)] 0 1)] ?_)
 refine sR [hR 0 rfl rfl (Ye 3 46 (Xk false) (U1 false) ([]:List Y4) [] (cs:=[]) Tryz.underlying63 X0v rfl X7l rfl rfl rfl pd W5 pZ8 (V6 pZ8) (X3 rfl) trivial),hR 3 rfl rfl (W0 3 4 46 16 (Xk false) (U1 false) ([]:List Y4) b.Xt b.Xt ([]:List Y4).length (sy:=((Z6b b))) (rhs:=[]) X7z (by omega) (Jc false false (Xk false) b.Xt) (by simp) (by (simp [maxLen,-List.getD_eq_getElem?_getD]<;>omega)) (by (simp [maxLen,-List.getD_eq_getElem?_getD]<;>omega)) (X3 rfl) trivial)] ?_
 refine sR [] (T.ret ?_)
 refine eN (Z6e b) ?_
 refine X8 (s':=(Z6g b)) (fun _ _ hG=>Gs.freeze (s:=(Z6e b)) 2 (el:=W6 (kE false) b.Xh) (sz:=(kE false).sz) (n:=b.Xh.length) rfl ⟨.inl rfl,(kk2 trivial)⟩ ⟨pZ23,⟨pZ23,⟨(.inl ⟨rfl,rfl⟩),⟨pZ5,⟨pZ5,trivial⟩⟩⟩⟩⟩ hG) ?_
 refine eN (Z6g b) ?_
 refine X8 (s':=⟨[.tv (.agg (Z6c b)),pv 0 0,pv 1 0],[.live (.box 65 (Z6c b)),.live (.box 65 (Z6c b)),.dead,.dead,.dead]⟩) (fun _ _ hG=>Gs.freeze (s:=(Z6g b)) 4 (el:=W6 (Xk false) b.Xt) (sz:=(Xk false).sz) (n:=b.Xt.length) rfl ⟨.inl rfl,(kk2 trivial)⟩ ⟨pZ22,⟨pZ22,⟨pZ5,⟨pZ5,⟨(.inl ⟨rfl,rfl⟩),trivial⟩⟩⟩⟩⟩ hG) ?_
 exact eX [.c 2 1 65 0 65 [dI b.Xq,dS b.Y9,(Z6a b),(Z6b b)] (.agg (Z6c b))] ⟨⟨rfl,rfl,by kernel_rfl,by kernel_rfl,.inl ⟨4,X0d,rfl,Nat.le_of_ble_eq_true rfl⟩⟩,trivial⟩ [] rfl trivial
theorem Xe3:Holds Tryz.prog 85 ⟨[],[],dv (Ys (ofB 6 ([]:List (List UInt8)))),[]⟩:=by
 refine Holds.of Tryz.func85 rfl (N:=2) Tryz.ntmps85 rfl fun w0 B0 S0 U0=>?_
 show T _ (Y5 2 0 w0 S0 U0 B0) ⟨[],[]⟩ _ _
 refine sR [] (sR [hR 0 rfl rfl (rCn (X00 (6:UInt8) false false false ([]:List (List UInt8)) (by decide)) Tryz.func71 [] [(.const (.int .u8 6),dv (.int .u8 6)),(.const (.slice none 0 0),dv (.slice none 0 0))] 0 0 ⟨.inl ⟨rfl,rfl⟩,⟨.inr pq,trivial⟩⟩ ⟨rfl,⟨rfl,trivial⟩⟩)] (T.ret ?_))
 exact eRt 0 (.one (dS (ofB (6:UInt8) ([]:List (List UInt8))))) [] p1o trivial
abbrev Z6h:SV:=dS (ofB 6 ([]:List (List UInt8)))
theorem Xk0:Holds Tryz.prog 37 ⟨[],[],pv 0 0,[.live (.box 106 [dB true,dI 0,dS (ofB 6 ([]:List (List UInt8))),.own 1 (Xy false).sz 0 ([]:List Xs).length]),.live (Xf 65 (Xy false) ([]:List Xs))]⟩:=by
 refine Holds.of Tryz.func37 rfl (N:=4) Tryz.ntmps37 rfl fun w0 B0 S0 U0=>?_
 show T _ (Y5 4 0 w0 S0 U0 B0) ⟨[],[]⟩ _ _
 refine sR [] (sR [hR 0 rfl rfl (rCa (Xe3  ) Tryz.func85 [] [] 0 0)] (T.ret ?_))
 refine eN ⟨[pv 0 0],[.live (.box 106 [dB true,dI 0,Z6h,.d (.val (.slice none 0 0))])]⟩ ?_
 refine X8 (s':=⟨[pv 0 0],[.live (.box 106 [dB true,dI 0,Z6h,.own 1 (Xy false).sz 0 0]),.live (Xf 65 (Xy false) ([]:List Xs))]⟩) (fun _ _ hG=>J6 1 0 3 65 (Xy false) (Tb:=106) (cs:=[dB true,dI 0,Z6h,.d (.val (.slice none 0 0))]) rfl rfl rfl hG) ?_
 exact eRt 0 (.one (.ptr 0 0)) [0,1] rfl ⟨⟨rfl,(by have e1:(0:Nat)=([]:List Xs).length:=(by rfl);have hE:=congrArg (fun (q1:Nat)=>(.live (.box 106 [dB true,dI 0,Z6h,.own 1 (Xy false).sz 0 q1]):HS)) e1;exact Eq.trans pZ8 hE)⟩,(ix trivial)⟩
theorem X4k (h:Int) (d:List UInt8) (L:List Xs) (hh:0≤h∧h≤1099511627776) (hl:L.length≤100):Holds Tryz.prog 12 ⟨[pv 0 0],[.box 106 [dB true,dI h,dS d,.own 1 (Xy false).sz 0 L.length],Xf 65 (Xy false) L],vI (h+((L.length:Nat):Int)),[.live (.box 106 [dB true,dI h,dS d,.own 1 (Xy false).sz 0 L.length]),.live (Xf 65 (Xy false) L)]⟩:=by
 refine Holds.of Tryz.func12 rfl (N:=13) Tryz.ntmps12 rfl fun w0 B0 S0 U0=>?_
 show T _ (Y5 13 2 w0 S0 U0 B0) ⟨[pv 0 0],[.live (.box 106 [dB true,dI h,dS d,.own 1 (Xy false).sz 0 L.length]),.live (Xf 65 (Xy false) L)]⟩ _ _
 refine sR [] ?_
 refine sD [[],[0],[0,1],[0,1,2],[],[4],[4,5],[4,5,6],[4,5,6,7],[0,1,2,3,4,5,6,7,8],[0,1,2,3,4,5,6,7,8,9]] [hR 9 rfl rfl (Yg (u1:=.int .i64 h) (u2:=.int .i64 ((L.length:Nat):Int)) (v:=.int .i64 (h+((L.length:Nat):Int))) (W8 pb) (X3 rfl) trivial)] (T.ret ?_)
 exact eRt 2 (.one (dI (h+((L.length:Nat):Int)))) [0,1] rfl (ix (ix trivial))
abbrev Z6i (L:List Xs) (n:Nat):=(V2 (L.getD (n-1) Wp))
theorem ref11_at (h:Int) (d:List UInt8) (L:List Xs) (n:Nat) (hh:0≤h∧h≤1099511627776) (hl:L.length≤100) (hw:X72 L) (hn:n≤L.length):Holds Tryz.prog 86 ⟨[pv 0 0,vI ((n:Nat):Int)],[.box 106 [dB true,dI h,dS d,.own 1 (Xy false).sz 0 L.length],Xf 65 (Xy false) L],dv (Ys (atB d L n)),[.live (.box 106 [dB true,dI h,dS d,.own 1 (Xy false).sz 0 L.length]),.live (Xf 65 (Xy false) L)]⟩:=by
 refine Holds.of Tryz.func86 rfl (N:=21) Tryz.ntmps86 rfl fun w0 B0 S0 U0=>?_
 show T _ (Y5 21 2 w0 S0 U0 B0) ⟨[pv 0 0,vI ((n:Nat):Int)],[.live (.box 106 [dB true,dI h,dS d,.own 1 (Xy false).sz 0 L.length]),.live (Xf 65 (Xy false) L)]⟩ _ _
 have hwn:=Xko hw (n-1)
 have hhn:=Xf1 hwn
 have hg1:=hhn.1
 have hg2:=hhn.2.1
 refine sR [] (T.seq (sR [] ?_))
 by_cases hq1:((n:Nat):Int)=0
 ·refine cT (dT hq1) (sR [] (T.ret (rT ?_)))
  exact eRt 4 (.one (dS d)) [0,1] (by have e1:((atB d L n):List UInt8)=d:=(by (unfold atB;rw [if_pos (by omega)]));have hE:=congrArg (fun (q1:List UInt8)=>(dv (Ys q1):AV)) e1;exact hE) (ix (ix trivial))
 refine cF (dF hq1) (T.skip (nT ?_))
 refine sR [hR 5 rfl rfl (Yg (u1:=.int .i64 ((n:Nat):Int)) (u2:=.int .i64 1) (v:=.int .i64 ((n-1:Nat):Int)) (Uu pb) (X3 rfl) ⟨rfl,trivial⟩),hR 6 rfl rfl (Vk (k:=.i64) (l:=1) (sz:=(Xy false).sz) (off:=0) (n:=L.length) (i:=((n-1:Nat):Int)) (m:=(n-1)) (o':=(n-1)*(Xy false).sz+0) Tryz.underlying104 X9h rfl rfl (by omega) (by simp) (X3 rfl) trivial),hR 7 rfl rfl (X4p (l:=1) (off:=(n-1)*(Xy false).sz+0) (i:=n-1) (j:=0) (T:=65) (sz:=(Xy false).sz) (n:=L.length) (el:=W6 (Xy false) L) (ds:=[dI (L.getD (n-1) Wp).Xq,dS (L.getD (n-1) Wp).Y9,.d (dsl false false (kE false) (L.getD (n-1) Wp).Xh),.d (dsl false false (Xk false) (L.getD (n-1) Wp).Xt)]) X0d rfl (by omega) (by decide) rfl (X3 rfl) trivial),hR 8 rfl rfl (rCa (Xc9 false (L.getD (n-1) Wp) ‹_›) Tryz.func44 [] [(.tmp 18,.tv (.agg [dI (L.getD (n-1) Wp).Xq,dS (L.getD (n-1) Wp).Y9,.d (dsl false false (kE false) (L.getD (n-1) Wp).Xh),.d (dsl false false (Xk false) (L.getD (n-1) Wp).Xt)]))] 0 0),hR 9 rfl rfl (rCa (Xca (V2 (L.getD (n-1) Wp)) ‹_› ‹_›) Tryz.func48 [] [(.tmp 19,.tv (.agg [dI (Z6i L n).Xq,dS (Z6i L n).Y9,dI (Z6i L n).Yl,dS (Z6i L n).Wf]))] 0 0)] ?_
 refine T.ret ?_
 exact eRt 4 (.one (dS (E0 (Z6i L n)))) [0,1] (by have e1:((atB d L n):List UInt8)=(E0 (V2 (L.getD (n-1) Wp))):=(by (unfold atB;rw [if_neg (by omega)]));have hE:=congrArg (fun (q1:List UInt8)=>(dv (Ys q1):AV)) e1;exact hE) (ix (ix trivial))
theorem X3y (h:Int) (d:List UInt8) (L:List Xs) (hh:0≤h∧h≤1099511627776) (hl:L.length≤100) (hw:X72 L):Holds Tryz.prog 38 ⟨[pv 0 0],[.box 106 [dB true,dI h,dS d,.own 1 (Xy false).sz 0 L.length],Xf 65 (Xy false) L],dv (Ys (atB d L L.length)),[.live (.box 106 [dB true,dI h,dS d,.own 1 (Xy false).sz 0 L.length]),.live (Xf 65 (Xy false) L)]⟩:=by
 refine Holds.of Tryz.func38 rfl (N:=10) Tryz.ntmps38 rfl fun w0 B0 S0 U0=>?_
 show T _ (Y5 10 2 w0 S0 U0 B0) ⟨[pv 0 0],[.live (.box 106 [dB true,dI h,dS d,.own 1 (Xy false).sz 0 L.length]),.live (Xf 65 (Xy false) L)]⟩ _ _
 refine sR [] (sR [hR 6 rfl rfl (rCa (ref11_at h d L L.length ‹_› ‹_› ‹_› (by omega)) Tryz.func86 [0,1] [(.tmp 3,pv 0 0),(.tmp 8,vI ((L.length:Nat):Int))] 2 2)] (T.ret ?_))
 exact eRt 2 (.one (dS (atB d L L.length))) [0,1] rfl (ix (ix trivial))
theorem elem_104:Elem Tryz.prog 104 65 4 72:=⟨Tryz.underlying104,_,_,X9h,rfl,rfl,rfl,rfl,by decide⟩
section
variable (h:Int) (d:List UInt8) (L:List Xs) (b:Xs)
abbrev Z6j:List SV:=[dI b.Xq,dS b.Y9,.d (dsl false false (kE false) b.Xh),.d (dsl false false (Xk false) b.Xt)]
abbrev Z6k:HS:=.live (.box 106 [dB true,dI h,dS d,.own 1 (Xy false).sz 0 L.length])
abbrev Z6l:HObj:=Xf 65 (Xy false) L
abbrev Z6m:List AV:=[pv 0 0,.tv (.agg (Z6j b)),aa,pv 2 0,vI (Vx b),vI (Vx b),aa,aa,aa,aa,vB (!true),aa,aa,aa,vB (decide ((Vx b)≠0))]
abbrev Z6n:List HS:=[(Z6k h d L),.live ((Z6l L)),.live (.box 65 (Z6j b))]
abbrev Z6o:List HS:=[.live (.box 106 [dB true,dI h,dS d,.own 3 (Xy false).sz 0 L.length]),.dead,.live (.box 65 (Z6j b)),.live ((Z6l L))]
abbrev Z6p:List AV:=[pv 0 0,.tv (.agg (Z6j b)),aa,pv 2 0,vI 100,vI (Vx b),aa,aa,aa,aa,vB (!true),aa,aa,aa,vB (decide ((Vx b)≠0)),aa,aa,aa,aa,aa,aa,vB (decide (b.Xq≠((h+((L.length:Nat):Int))+1)))]
abbrev Z6q:List AV:=[pv 0 0,.tv (.agg (Z6j b)),aa,pv 2 0,vI 101,vI (Vx b),aa,aa,aa,aa,vB (!true),aa,aa,aa,vB (decide ((Vx b)≠0)),aa,aa,aa,aa,aa,aa,vB (decide (b.Xq≠((h+((L.length:Nat):Int))+1))),aa,aa,aa,aa,vB (decide (b.Y9≠(atB d L L.length)))]
end
theorem Xc7 (h:Int) (d:List UInt8) (L:List Xs) (b:Xs) (hh:0≤h∧h≤1099511627776) (hl:L.length≤100) (hw:X72 L) (hf:Fb b):Holds Tryz.prog 40 ⟨[pv 0 0,.tv (.agg [dI b.Xq,dS b.Y9,.d (dsl false false (kE false) b.Xh),.d (dsl false false (Xk false) b.Xt)])],[.box 106 [dB true,dI h,dS d,.own 1 (Xy false).sz 0 L.length],Xf 65 (Xy false) L],vI (X3i h d L b),[.live (.box 106 [dB true,dI h,dS d,.own 2 (Xy false).sz 0 (Hc h d L b).length]),.dead,.live (Xf 65 (Xy false) (Hc h d L b))]⟩:=by
 refine Holds.of Tryz.func40 rfl (N:=38) Tryz.ntmps40 rfl fun w0 B0 S0 U0=>?_
 show T _ (Y5 38 2 w0 S0 U0 B0) ⟨[pv 0 0,.tv (.agg (Z6j b))],[(Z6k h d L),.live ((Z6l L))]⟩ _ _
 have hf1:=hf.1.1
 have hf2:=hf.2.1
 have hf3:=hf.2.2
 refine sR [] (T.seq (sR [] (cF (b:=(!true)) rfl (T.skip (nT (sR [hR 1 rfl rfl (rCa (Xe4 false b (by omega) (by omega)) Tryz.func92 [] [(.tmp 11,.tv (.agg (Z6j b)))] 0 0)] (T.seq (sR [] ?_))))))))
 by_cases hq1:(Vx b)≠0
 ·refine cT (dT hq1) (sR [] (T.ret (rT ?_)))
  refine eN ⟨(Z6m b),(Z6n h d L b)⟩ ?_
  refine X8 (s':=⟨(Z6m b),(Z6o h d L b)⟩) (fun _ _ hG=>Gs.move (s:=⟨(Z6m b),(Z6n h d L b)⟩) 1 3 (o:=(Z6l L)) rfl rfl rfl ⟨.inl rfl,(kk2 p3f)⟩ ⟨(.inr pZ11),⟨(.inl ⟨rfl,rfl⟩),⟨(.inr p1g),⟨(.inr (.inl ⟨rfl,rfl⟩)),trivial⟩⟩⟩⟩ hG) ?_
  exact eRt 4 (.one (dI (Vx b))) [0,1,3] (cI (by (have hx:=X95 (h:=h) (d:=d) (L:=L) (b:=b) ‹_› ;exact hx.1))) ⟨⟨rfl,(by have e1:(L.length:Nat)=(Hc h d L b).length:=(by (have hx:=X95 (h:=h) (d:=d) (L:=L) (b:=b) ‹_› ;(rw [hx.2];done)));have hE:=congrArg (fun (q1:Nat)=>(.live (.box 106 [dB true,dI h,dS d,.own 3 (Xy false).sz 0 q1]):HS)) e1;exact Eq.trans pZ8 hE)⟩,⟨⟨rfl,(by have e1:(L:List Xs)=(Hc h d L b):=(by (have hx:=X95 (h:=h) (d:=d) (L:=L) (b:=b) ‹_› ;exact hx.2.symm));have hE:=congrArg (fun (q1:List Xs)=>(.live (Xf 65 (Xy false) q1):HS)) e1;exact Eq.trans pZ8 hE)⟩,trivial⟩⟩
 have hca:=Xja (Classical.not_not.1 hq1)
 refine cF (dF hq1) (T.skip (nT (T.seq ?_)))
 refine sD [[],[0],[],[2],[2,3],[0,1,2,3,4]] [hR 3 rfl rfl (rCa (X4k h d L ‹_› ‹_›) Tryz.func12 [0,1] [(.tmp 18,pv 0 0)] 2 2),hR 4 rfl rfl (Yg (u1:=.int .i64 (h+((L.length:Nat):Int))) (u2:=.int .i64 1) (v:=.int .i64 ((h+((L.length:Nat):Int))+1)) (W8 pb) (X3 rfl) ⟨rfl,trivial⟩)] ?_
 by_cases hq2:b.Xq≠((h+((L.length:Nat):Int))+1)
 ·refine cT (dT hq2) (sR [] (T.ret (rT ?_)))
  refine eN ⟨(Z6p h L b),(Z6n h d L b)⟩ ?_
  refine X8 (s':=⟨(Z6p h L b),(Z6o h d L b)⟩) (fun _ _ hG=>Gs.move (s:=⟨(Z6p h L b),(Z6n h d L b)⟩) 1 3 (o:=(Z6l L)) rfl rfl rfl p3l ⟨(.inr pZ11),⟨(.inl ⟨rfl,rfl⟩),⟨(.inr p1g),⟨(.inr (.inl ⟨rfl,rfl⟩)),trivial⟩⟩⟩⟩ hG) ?_
  exact eRt 4 (.one (dI 100)) [0,1,3] (cI (by (have hx:=X94 (h:=h) (d:=d) (L:=L) (b:=b) ‹_› ‹_› ;exact hx.1))) ⟨⟨rfl,(by have e1:(L.length:Nat)=(Hc h d L b).length:=(by (have hx:=X94 (h:=h) (d:=d) (L:=L) (b:=b) ‹_› ‹_› ;(rw [hx.2];done)));have hE:=congrArg (fun (q1:Nat)=>(.live (.box 106 [dB true,dI h,dS d,.own 3 (Xy false).sz 0 q1]):HS)) e1;exact Eq.trans pZ8 hE)⟩,⟨⟨rfl,(by have e1:(L:List Xs)=(Hc h d L b):=(by (have hx:=X94 (h:=h) (d:=d) (L:=L) (b:=b) ‹_› ‹_› ;exact hx.2.symm));have hE:=congrArg (fun (q1:List Xs)=>(.live (Xf 65 (Xy false) q1):HS)) e1;exact Eq.trans pZ8 hE)⟩,trivial⟩⟩
 refine cF (dF hq2) (T.skip (nT (T.seq ?_)))
 refine sD [[],[0],[],[2],[0,1,2,3]] [hR 3 rfl rfl (rCa (X3y h d L ‹_› ‹_› ‹_›) Tryz.func38 [0,1] [(.tmp 24,pv 0 0)] 2 2)] ?_
 by_cases hq3:b.Y9≠(atB d L L.length)
 ·refine cT (dT hq3) (sR [] (T.ret (rT ?_)))
  refine eN ⟨(Z6q h d L b),(Z6n h d L b)⟩ ?_
  refine X8 (s':=⟨(Z6q h d L b),(Z6o h d L b)⟩) (fun _ _ hG=>Gs.move (s:=⟨(Z6q h d L b),(Z6n h d L b)⟩) 1 3 (o:=(Z6l L)) rfl rfl rfl ⟨.inl rfl,(kk2 p2k)⟩ ⟨(.inr pZ11),⟨(.inl ⟨rfl,rfl⟩),⟨(.inr p1g),⟨(.inr (.inl ⟨rfl,rfl⟩)),trivial⟩⟩⟩⟩ hG) ?_
  exact eRt 4 (.one (dI 101)) [0,1,3] (cI (by (have hx:=X93 (h:=h) (d:=d) (L:=L) (b:=b) ‹_› ‹_› ‹_› ;exact hx.1))) ⟨⟨rfl,(by have e1:(L.length:Nat)=(Hc h d L b).length:=(by (have hx:=X93 (h:=h) (d:=d) (L:=L) (b:=b) ‹_› ‹_› ‹_› ;(rw [hx.2];done)));have hE:=congrArg (fun (q1:Nat)=>(.live (.box 106 [dB true,dI h,dS d,.own 3 (Xy false).sz 0 q1]):HS)) e1;exact Eq.trans pZ8 hE)⟩,⟨⟨rfl,(by have e1:(L:List Xs)=(Hc h d L b):=(by (have hx:=X93 (h:=h) (d:=d) (L:=L) (b:=b) ‹_› ‹_› ‹_› ;exact hx.2.symm));have hE:=congrArg (fun (q1:List Xs)=>(.live (Xf 65 (Xy false) q1):HS)) e1;exact Eq.trans pZ8 hE)⟩,trivial⟩⟩
 refine cF (dF hq3) (T.skip (nT ?_))
 refine sD [[],[],[1],[1,2],[1,2,3],[],[5],[5,6],[1,2,3,4,5,6,7],[0,1,2,3,4,5,6,7,8],[0,1,2,3,4,5,6,7,8,9],[0,1,2,3,4,5,6,7,8,9,10]] [hR 6 rfl rfl (rCa (Xgb b ‹_›) Tryz.func58 [] [(.tmp 32,.tv (.agg (Z6j b)))] 0 0),hR 7 rfl rfl (Ye 3 65 (Xy false) (X26 false) [b] [⟨0,.tmp 33,.agg (Z6j b),0⟩] (cs:=[dI b.Xq,dS b.Y9,.d (dsl false false (kE false) b.Xh),.d (dsl false false (Xk false) b.Xt)]) Tryz.underlying104 X9h rfl zero_65 rfl rfl rfl pd (Yq rfl rfl pd W5) pZ8 (V6 pZ8) (X3 rfl) trivial),hR 8 rfl rfl (W0 1 4 65 72 (Xy false) (X26 false) L [b] (L++[b]) L.length (sy:=(.own 3 (Xy false).sz 0 [b].length)) (rhs:=[(3,.live (Xf 65 (Xy false) [b]))]) elem_104 (by omega) (V0 3 65 (Xy false) [b]) I7 (by (simp [maxLen,-List.getD_eq_getElem?_getD]<;>omega)) (by (simp [maxLen,-List.getD_eq_getElem?_getD]<;>omega)) (X3 rfl) trivial)] ?_
 refine sR [] (T.ret ?_)
 exact eRt 4 (.one (dI 0)) [0,1,4] (cI (by (have hx:=X7s (h:=h) (d:=d) (L:=L) (b:=b) ‹_› ‹_› ‹_› ;exact hx.1))) ⟨⟨rfl,(by have e1:((L++[b]).length:Nat)=(Hc h d L b).length:=(by (have hx:=X7s (h:=h) (d:=d) (L:=L) (b:=b) ‹_› ‹_› ‹_› ;(rw [hx.2];done)));have hE:=congrArg (fun (q1:Nat)=>(.live (.box 106 [dB true,dI h,dS d,.own 4 (Xy false).sz 0 q1]):HS)) e1;exact Eq.trans pZ8 hE)⟩,⟨⟨rfl,(by have e1:(L++[b]:List Xs)=(Hc h d L b):=(by (have hx:=X7s (h:=h) (d:=d) (L:=L) (b:=b) ‹_› ‹_› ‹_› ;exact hx.2.symm));have hE:=congrArg (fun (q1:List Xs)=>(.live (Xf 65 (Xy false) q1):HS)) e1;exact Eq.trans pZ8 hE)⟩,trivial⟩⟩
section
variable (h:Int) (d:List UInt8) (L:List Xs) (x:Int)
end
theorem iat_242:Tryz.prog.info? 242=some Tryz.t242:=by kernel_rfl
theorem Jk:Wide Tryz.prog 242 (some 4):=⟨_,_,Tryz.underlying242,.inl ⟨_,rfl⟩,iat_242,rfl⟩
abbrev Z72:TV:=.one (dB true)
abbrev Z73:TV:=.agg [dI 11,dI 0,dI 1,dI 7]
theorem X6z (k:Int):Holds Tryz.prog 195 ⟨[vI k],[],.tup [.agg [dI (Yj k).Vw,dI (Yj k).Ww,dI (Yj k).Va,dI (Yj k).Vq],.one (dB (decide (okK k)))],[]⟩:=by
 refine Holds.of Tryz.func195 rfl (N:=54) Tryz.ntmps195 rfl fun w0 B0 S0 U0=>?_
 show T _ (Y5 54 0 w0 S0 U0 B0) ⟨[vI k],[]⟩ _ _
 refine sR [] (sR [] (T.seq (sR [] (T.block (T.seq (T.block (T.seq (T.block (T.seq (T.block (T.seq (T.block (T.seq (T.block (T.seq (T.block (T.seq (T.block (T.seq (T.block (T.seq (T.block (T.seq (T.block (T.seq (T.block (T.seq (T.seq (sR [] ?_)))))))))))))))))))))))))))))
 by_cases hq1:k=1
 ·refine cT (dT hq1) (T.exit (xT (xT (xH (nT (sR [] (T.exit (xM rfl (xT (xM rfl (xT (xM rfl (xT (xM rfl (xT (xM rfl (xT (xM rfl (xT (xM rfl (xT (xM rfl (xT (xM rfl (xT (xM rfl (xT (xH (nT (sR [] (T.ret ?_)))))))))))))))))))))))))))))))
  exact eX [.c 2 0 242 0 242 [dI 20,dI 0,dI 1,dI 7] (.agg [dI 20,dI 0,dI 1,dI 7]),.t 3 (Z72)] ⟨⟨rfl,rfl,by kernel_rfl,by kernel_rfl,.inl ⟨4,Jk,rfl,Nat.le_of_ble_eq_true rfl⟩⟩,⟨⟨rfl,by kernel_rfl⟩,trivial⟩⟩ [] (gc2 (show (Yj k)=⟨20,0,1,7⟩ from Es) (show ((decide (okK k)):Bool)=true from Es) (fun qq0 (q5:Bool)=>(.tup [.agg [dI (qq0.Vw),dI (qq0.Ww),dI (qq0.Va),dI (qq0.Vq)],.one (dB q5)]:AV))) trivial
 refine cF (dF hq1) (T.skip (nT (T.seq (sR [] ?_))))
 by_cases hq2:k=2
 ·refine cT (dT hq2) (T.exit (xT (xT (xM rfl (xT (xH (nT (sR [hR 2 rfl rfl (Yg (u1:=.int .i64 0) (u2:=.int .i64 64) (v:=.int .i64 64) (X74 p40) (X3 rfl) ⟨rfl,trivial⟩)] (xK [] (nB (nT (xK [hR 2 rfl rfl (Yg (u1:=.int .i64 64) (u2:=.int .i64 1) (v:=.int .i64 65) (X74 p40) (X3 rfl) ⟨rfl,trivial⟩)] (nB (nT (sR [hR 2 rfl rfl (Yg (u1:=.int .i64 65) (u2:=.int .i64 10) (v:=.int .i64 75) (X74 p40) (X3 rfl) ⟨rfl,trivial⟩)] (T.exit (xM rfl (xT (xM rfl (xT (xM rfl (xT (xM rfl (xT (xM rfl (xT (xM rfl (xT (xM rfl (xT (xH (nT (sR [] (T.ret ?_))))))))))))))))))))))))))))))))))
  exact eX [.c 2 0 242 0 242 [dI 75,dI 0,dI 1,dI 4] (.agg [dI 75,dI 0,dI 1,dI 4]),.t 3 (Z72)] ⟨⟨rfl,rfl,by kernel_rfl,by kernel_rfl,.inl ⟨4,Jk,rfl,Nat.le_of_ble_eq_true rfl⟩⟩,⟨⟨rfl,by kernel_rfl⟩,trivial⟩⟩ [] (gc2 (show (Yj k)=⟨75,0,1,4⟩ from Es) (show ((decide (okK k)):Bool)=true from Es) (fun qq0 (q5:Bool)=>(.tup [.agg [dI (qq0.Vw),dI (qq0.Ww),dI (qq0.Va),dI (qq0.Vq)],.one (dB q5)]:AV))) trivial
 refine cF (dF hq2) (T.skip (nT (T.seq (T.seq (sR [] ?_)))))
 by_cases hq3:k=3
 ·refine cT (dT hq3) (T.skip (nT (cT (dT hq3) (T.exit (xT (xT (xM rfl (xT (xM rfl (xT (xH (nT (xK [hR 2 rfl rfl (Yg (u1:=.int .i64 0) (u2:=.int .i64 1) (v:=.int .i64 1) (X74 p40) (X3 rfl) ⟨rfl,trivial⟩)] (nB (nT (sR [hR 2 rfl rfl (Yg (u1:=.int .i64 1) (u2:=.int .i64 10) (v:=.int .i64 11) (X74 p40) (X3 rfl) ⟨rfl,trivial⟩)] (T.exit (xM rfl (xT (xM rfl (xT (xM rfl (xT (xM rfl (xT (xM rfl (xT (xM rfl (xT (xM rfl (xT (xH (nT (sR [] (T.ret ?_)))))))))))))))))))))))))))))))))))
  exact eX [.c 2 0 242 0 242 [dI 11,dI 0,dI 1,dI 7] (Z73),.t 3 (Z72)] ⟨⟨rfl,rfl,by kernel_rfl,by kernel_rfl,.inl ⟨4,Jk,rfl,Nat.le_of_ble_eq_true rfl⟩⟩,⟨⟨rfl,by kernel_rfl⟩,trivial⟩⟩ [] p2i trivial
 refine cF (dF hq3) (xK [] (nT ?_))
 by_cases hq4:k=4
 ·refine cT (dT hq4) (T.exit (xT (xT (xM rfl (xT (xM rfl (xT (xH (nT (xK [hR 2 rfl rfl (Yg (u1:=.int .i64 0) (u2:=.int .i64 1) (v:=.int .i64 1) (X74 p40) (X3 rfl) ⟨rfl,trivial⟩)] (nB (nT (sR [hR 2 rfl rfl (Yg (u1:=.int .i64 1) (u2:=.int .i64 10) (v:=.int .i64 11) (X74 p40) (X3 rfl) ⟨rfl,trivial⟩)] (T.exit (xM rfl (xT (xM rfl (xT (xM rfl (xT (xM rfl (xT (xM rfl (xT (xM rfl (xT (xM rfl (xT (xH (nT (sR [] (T.ret ?_))))))))))))))))))))))))))))))))
  exact eX [.c 2 0 242 0 242 [dI 11,dI 0,dI 1,dI 7] (Z73),.t 3 (Z72)] ⟨⟨rfl,rfl,by kernel_rfl,by kernel_rfl,.inl ⟨4,Jk,rfl,Nat.le_of_ble_eq_true rfl⟩⟩,⟨⟨rfl,by kernel_rfl⟩,trivial⟩⟩ [] p2i trivial
 refine cF (dF hq4) (T.skip (nT (T.seq (sR [] ?_))))
 by_cases hq5:k=5
 ·refine cT (dT hq5) (T.exit (xT (xT (xM rfl (xT (xM rfl (xT (xM rfl (xT (xH (nT (sR [hR 2 rfl rfl (Yg (u1:=.int .i64 0) (u2:=.int .i64 10) (v:=.int .i64 10) (X74 p40) (X3 rfl) ⟨rfl,trivial⟩)] (T.exit (xM rfl (xT (xM rfl (xT (xM rfl (xT (xM rfl (xT (xM rfl (xT (xM rfl (xT (xM rfl (xT (xH (nT (sR [] (T.ret ?_)))))))))))))))))))))))))))))))
  exact eX [.c 2 0 242 0 242 [dI 10,dI 0,dI 1,dI 7] (.agg [dI 10,dI 0,dI 1,dI 7]),.t 3 (Z72)] ⟨⟨rfl,rfl,by kernel_rfl,by kernel_rfl,.inl ⟨4,Jk,rfl,Nat.le_of_ble_eq_true rfl⟩⟩,⟨⟨rfl,by kernel_rfl⟩,trivial⟩⟩ [] (gc2 (show (Yj k)=⟨10,0,1,7⟩ from Es) (show ((decide (okK k)):Bool)=true from Es) (fun qq0 (q5:Bool)=>(.tup [.agg [dI (qq0.Vw),dI (qq0.Ww),dI (qq0.Va),dI (qq0.Vq)],.one (dB q5)]:AV))) trivial
 refine cF (dF hq5) (T.skip (nT (T.seq (sR [] ?_))))
 by_cases hq6:k=6
 ·refine cT (dT hq6) (T.exit (xT (xT (xM rfl (xT (xM rfl (xT (xM rfl (xT (xM rfl (xT (xH (nT (sR [] (T.exit (xM rfl (xT (xM rfl (xT (xM rfl (xT (xM rfl (xT (xM rfl (xT (xM rfl (xT (xH (nT (sR [] (T.ret ?_)))))))))))))))))))))))))))))))
  exact eX [.c 2 0 242 0 242 [dI 323,dI 1,dI 0,dI 7] (.agg [dI 323,dI 1,dI 0,dI 7]),.t 3 (Z72)] ⟨⟨rfl,rfl,by kernel_rfl,by kernel_rfl,.inl ⟨4,Jk,rfl,Nat.le_of_ble_eq_true rfl⟩⟩,⟨⟨rfl,by kernel_rfl⟩,trivial⟩⟩ [] (gc2 (show (Yj k)=⟨323,1,0,7⟩ from Es) (show ((decide (okK k)):Bool)=true from Es) (fun qq0 (q5:Bool)=>(.tup [.agg [dI (qq0.Vw),dI (qq0.Ww),dI (qq0.Va),dI (qq0.Vq)],.one (dB q5)]:AV))) trivial
 refine cF (dF hq6) (T.skip (nT (T.seq (sR [] ?_))))
 by_cases hq7:k=7
 ·refine cT (dT hq7) (T.exit (xT (xT (xM rfl (xT (xM rfl (xT (xM rfl (xT (xM rfl (xT (xM rfl (xT (xH (nT (sR [] (T.exit (xM rfl (xT (xM rfl (xT (xM rfl (xT (xM rfl (xT (xM rfl (xT (xH (nT (sR [] (T.ret ?_)))))))))))))))))))))))))))))))
  exact eX [.c 2 0 242 0 242 [dI 193,dI 1,dI 1,dI 7] (.agg [dI 193,dI 1,dI 1,dI 7]),.t 3 (Z72)] ⟨⟨rfl,rfl,by kernel_rfl,by kernel_rfl,.inl ⟨4,Jk,rfl,Nat.le_of_ble_eq_true rfl⟩⟩,⟨⟨rfl,by kernel_rfl⟩,trivial⟩⟩ [] (gc2 (show (Yj k)=⟨193,1,1,7⟩ from Es) (show ((decide (okK k)):Bool)=true from Es) (fun qq0 (q5:Bool)=>(.tup [.agg [dI (qq0.Vw),dI (qq0.Ww),dI (qq0.Va),dI (qq0.Vq)],.one (dB q5)]:AV))) trivial
 refine cF (dF hq7) (T.skip (nT (T.seq (sR [] ?_))))
 by_cases hq8:k=8
 ·refine cT (dT hq8) (T.exit (xT (xT (xM rfl (xT (xM rfl (xT (xM rfl (xT (xM rfl (xT (xM rfl (xT (xM rfl (xT (xH (nT (sR [] (T.exit (xM rfl (xT (xM rfl (xT (xM rfl (xT (xM rfl (xT (xH (nT (sR [] (T.ret ?_)))))))))))))))))))))))))))))))
  exact eX [.c 2 0 242 0 242 [dI 37,dI 0,dI 1,dI 7] (.agg [dI 37,dI 0,dI 1,dI 7]),.t 3 (Z72)] ⟨⟨rfl,rfl,by kernel_rfl,by kernel_rfl,.inl ⟨4,Jk,rfl,Nat.le_of_ble_eq_true rfl⟩⟩,⟨⟨rfl,by kernel_rfl⟩,trivial⟩⟩ [] (gc2 (show (Yj k)=⟨37,0,1,7⟩ from Es) (show ((decide (okK k)):Bool)=true from Es) (fun qq0 (q5:Bool)=>(.tup [.agg [dI (qq0.Vw),dI (qq0.Ww),dI (qq0.Va),dI (qq0.Vq)],.one (dB q5)]:AV))) trivial
 refine cF (dF hq8) (T.skip (nT (T.seq (sR [] ?_))))
 by_cases hq9:k=9
 ·refine cT (dT hq9) (T.exit (xT (xT (xM rfl (xT (xM rfl (xT (xM rfl (xT (xM rfl (xT (xM rfl (xT (xM rfl (xT (xM rfl (xT (xH (nT (sR [] (T.exit (xM rfl (xT (xM rfl (xT (xM rfl (xT (xH (nT (sR [] (T.ret ?_)))))))))))))))))))))))))))))))
  exact eX [.c 2 0 242 0 242 [dI 2,dI 0,dI 0,dI 7] (.agg [dI 2,dI 0,dI 0,dI 7]),.t 3 (Z72)] ⟨⟨rfl,rfl,by kernel_rfl,by kernel_rfl,.inl ⟨4,Jk,rfl,Nat.le_of_ble_eq_true rfl⟩⟩,⟨⟨rfl,by kernel_rfl⟩,trivial⟩⟩ [] (gc2 (show (Yj k)=⟨2,0,0,7⟩ from Es) (show ((decide (okK k)):Bool)=true from Es) (fun qq0 (q5:Bool)=>(.tup [.agg [dI (qq0.Vw),dI (qq0.Ww),dI (qq0.Va),dI (qq0.Vq)],.one (dB q5)]:AV))) trivial
 refine cF (dF hq9) (T.skip (nT (T.seq (sR [] ?_))))
 by_cases hq10:k=10
 ·refine cT (dT hq10) (T.exit (xT (xT (xM rfl (xT (xM rfl (xT (xM rfl (xT (xM rfl (xT (xM rfl (xT (xM rfl (xT (xM rfl (xT (xM rfl (xT (xH (nT (sR [] (T.exit (xM rfl (xT (xM rfl (xT (xH (nT (sR [] (T.ret ?_)))))))))))))))))))))))))))))))
  exact eX [.c 2 0 242 0 242 [dI 256,dI 0,dI 1,dI 7] (.agg [dI 256,dI 0,dI 1,dI 7]),.t 3 (Z72)] ⟨⟨rfl,rfl,by kernel_rfl,by kernel_rfl,.inl ⟨4,Jk,rfl,Nat.le_of_ble_eq_true rfl⟩⟩,⟨⟨rfl,by kernel_rfl⟩,trivial⟩⟩ [] (gc2 (show (Yj k)=⟨256,0,1,7⟩ from Es) (show ((decide (okK k)):Bool)=true from Es) (fun qq0 (q5:Bool)=>(.tup [.agg [dI (qq0.Vw),dI (qq0.Ww),dI (qq0.Va),dI (qq0.Vq)],.one (dB q5)]:AV))) trivial
 refine cF (dF hq10) (T.skip (nT (sR [] ?_)))
 by_cases hq11:k=11
 ·refine cT (dT hq11) (T.exit (xT (xM rfl (xT (xM rfl (xT (xM rfl (xT (xM rfl (xT (xM rfl (xT (xM rfl (xT (xM rfl (xT (xM rfl (xT (xM rfl (xT (xH (nT (sR [] (T.exit (xM rfl (xT (xH (nT (sR [] (T.ret ?_))))))))))))))))))))))))))))))
  exact eX [.c 2 0 242 0 242 [dI 82,dI 0,dI 1,dI 7] (.agg [dI 82,dI 0,dI 1,dI 7]),.t 3 (Z72)] ⟨⟨rfl,rfl,by kernel_rfl,by kernel_rfl,.inl ⟨4,Jk,rfl,Nat.le_of_ble_eq_true rfl⟩⟩,⟨⟨rfl,by kernel_rfl⟩,trivial⟩⟩ [] (gc2 (show (Yj k)=⟨82,0,1,7⟩ from Es) (show ((decide (okK k)):Bool)=true from Es) (fun qq0 (q5:Bool)=>(.tup [.agg [dI (qq0.Vw),dI (qq0.Ww),dI (qq0.Va),dI (qq0.Vq)],.one (dB q5)]:AV))) trivial
 refine cF (dF hq11) (T.skip (nT (T.exit (xM rfl (xT (xM rfl (xT (xM rfl (xT (xM rfl (xT (xM rfl (xT (xM rfl (xT (xM rfl (xT (xM rfl (xT (xM rfl (xT (xM rfl (xT (xH (nT (T.seq (sR [] (T.ret (rT (rB (rT ?_)))))))))))))))))))))))))))))))
 exact eX [.c 2 0 242 0 242 [dI 0,dI 0,dI 1,dI 7] (.agg [dI 0,dI 0,dI 1,dI 7]),.t 3 (.one (dB false))] ⟨⟨rfl,rfl,by kernel_rfl,by kernel_rfl,.inl ⟨4,Jk,rfl,Nat.le_of_ble_eq_true rfl⟩⟩,⟨⟨rfl,by kernel_rfl⟩,trivial⟩⟩ [] (gc2 (show (Yj k)=⟨0,0,1,7⟩ from Es) (by exact dF (by unfold okK;omega)) (fun qq0 (q5:Bool)=>(.tup [.agg [dI (qq0.Vw),dI (qq0.Ww),dI (qq0.Va),dI (qq0.Vq)],.one (dB q5)]:AV))) trivial
theorem Uq (s:J4) (f:Int) (n:Int) (lo:Int) (hi:Int):Holds Tryz.prog 200 ⟨[.tv (.agg [dI s.Vw,dI s.Ww,dI s.Va,dI s.Vq]),vI f,vI n,vI lo,vI hi],[],vB (decide (inM s f n lo hi)),[]⟩:=by
 refine Holds.of Tryz.func200 rfl (N:=24) Tryz.ntmps200 rfl fun w0 B0 S0 U0=>?_
 show T _ (Y5 24 0 w0 S0 U0 B0) ⟨[.tv (.agg [dI s.Vw,dI s.Ww,dI s.Va,dI s.Vq]),vI f,vI n,vI lo,vI hi],[]⟩ _ _
 refine sR [] (T.seq (sR [hR 3 rfl rfl (Yg (u1:=.int .i64 s.Vw) (u2:=.int .i64 f) (v:=.int .i64 (Jw s.Vw f)) (Xd9 rfl) (X3 rfl) trivial)] ?_))
 by_cases hq1:(Jw s.Vw f)=0
 ·refine cT (dT hq1) (xK [] (nT ?_))
  by_cases hq2:0≤n
  ·refine sR (Xr (hY · (dT hq2)) [4,5,6] (hP 7 (dT hq2)::[])) (T.ret ?_)
   exact eRt 10 (.one (dB (decide (n≤0)))) [] (by have e1:((decide (inM s f n lo hi)):Bool)=(decide (n≤0)):=(by (simp [inM, *];done));have hE:=cB e1;exact hE) trivial
  refine sR (Xr (hN · true (dF hq2)) [4,5,6] (hP 7 (dF hq2)::[])) (T.ret ?_)
  exact eRt 10 (.one (dB false)) [] p3z trivial
 refine cF (dF hq1) (T.skip (nT ?_))
 by_cases hq3:lo≤n
 ·refine sR (Xr (hY · (dT hq3)) [4,5,6] (hP 7 (dT hq3)::[])) (T.ret ?_)
  exact eRt 10 (.one (dB (decide (n≤hi)))) [] (by have e1:((decide (inM s f n lo hi)):Bool)=(decide (n≤hi)):=(by (simp [inM, *];done));have hE:=cB e1;exact hE) trivial
 refine sR (Xr (hN · true (dF hq3)) [4,5,6] (hP 7 (dF hq3)::[])) (T.ret ?_)
 exact eRt 10 (.one (dB false)) [] p3z trivial
theorem Xh4 (tc:Bool) (c:aC):Holds Tryz.prog 202 ⟨[.tv (.agg [dI c.Yf.X2,.d (dsl tc false kU8 c.Yf.X7),.d (dsl tc false (kE tc) c.Xo)])],[],vB (decide (((c.Xo.length:Nat):Int)>7)),[]⟩:=by
 refine Holds.of Tryz.func202 rfl (N:=7) Tryz.ntmps202 rfl fun w0 B0 S0 U0=>?_
 show T _ (Y5 7 0 w0 S0 U0 B0) ⟨[.tv (.agg [dI c.Yf.X2,.d (dsl tc false kU8 c.Yf.X7),.d (dsl tc false (kE tc) c.Xo)])],[]⟩ _ _
 refine sR [] (sR [] (T.ret ?_))
 exact eRt 2 (.one (dB (decide (((c.Xo.length:Nat):Int)>7)))) [] rfl trivial
theorem Fy:Tryz.prog.info? 86=some Tryz.t86:=by kernel_rfl
abbrev Z74:AV:=dv (.func (.func 202) #[] #[])
abbrev Z75 (l:List aC):AV:=vI ((l.length:Nat):Int)
theorem idx_Cert (tl:Bool) (nl:Bool) (sl_:Bool) (l:List aC) (hl:l.length≤9223372036854775807):Holds Tryz.prog 203 ⟨[slV tl nl (kC sl_) l,dv (.func (.func 202) #[] #[])],[],vI (idxV l),[]⟩:=by
 refine Holds.of Tryz.func203 rfl (N:=19) Tryz.ntmps203 rfl fun w0 B0 S0 U0=>?_
 show T _ (Y5 19 0 w0 S0 U0 B0) ⟨[slV tl nl (kC sl_) l,Z74],[]⟩ _ _
 refine sR [] (T.seq (sR [] (T.block ?_)))
 refine T.loop (ι:=Nat) (fun (k:Nat)=>⟨[slV tl nl (kC sl_) l,Z74,aa,aa,vI 0,aa,aa,(Z75 l),vI ((k:Nat):Int)],[]⟩) (fun (k:Nat)=>(k≤l.length)∧(∀ j,j<k→(l.getD j zC).Xo.length≤7)) (fun (k:Nat)=>l.length-k) (0) ⟨(Nat.zero_le _),(fun j hj=>absurd hj (Nat.not_lt_zero _))⟩ (fun _ _ hG=>Yp [] (bm 9 403) rfl rfl hG) ?_
 rintro k ⟨hk,hb⟩
 show T _ _ ⟨[slV tl nl (kC sl_) l,Z74,aa,aa,vI 0,aa,aa,(Z75 l),vI ((k:Nat):Int)],[]⟩ _ _
 replace hk:k≤l.length:=hk
 replace hb:∀ j,j<k→(l.getD j zC).Xo.length≤7:=hb
 refine sR [] (T.seq ?_)
 by_cases hq1:((k:Nat):Int)<((l.length:Nat):Int)
 ·refine cT (dT hq1) (T.skip (nT (T.seq (T.block (sR [] (sR [hR 3 rfl rfl (W9 tl nl (kC sl_) l k (k:=.i64) (i:=((k:Nat):Int)) Tryz.underlying76 Fy rfl rfl (by omega) (X3 rfl) trivial),hR 5 rfl rfl (X7t (fs:=#[]) (cs:=#[]) (Xh4 sl_ (l.getD k zC) ) Tryz.func202 rfl (by decide) [] [] (l:=[(.tmp 15,.tv (.agg [dI (l.getD k zC).Yf.X2,.d (dsl sl_ false kU8 (l.getD k zC).Yf.X7),.d (dsl sl_ false (kE sl_) (l.getD k zC).Xo)]))]) [] rfl 0 0 rfl rfl rfl rfl rfl rfl rfl rfl rfl rfl rfl ⟨⟨.inl ⟨rfl,rfl⟩,⟨.inl ⟨rfl,rfl⟩,⟨.inl ⟨rfl,rfl⟩,trivial⟩⟩⟩,trivial⟩ rfl p3a (.inl rfl) (X3 rfl) trivial)] ?_))))))
  by_cases hq2:(((l.getD k zC).Xo.length:Nat):Int)>7
  ·refine cT (dT hq2) (sR [] (T.ret (rB (rT (rT (rB (rT ?_)))))))
   exact eRt 4 (.one (dI ((k:Nat):Int))) [] (cI (by exact idx_at hb (by omega) (by omega))) trivial
  refine cF (dF hq2) (T.skip (nB (nT (xK [hR 0 rfl rfl (Yg (u1:=.int .i64 ((k:Nat):Int)) (u2:=.int .i64 1) (v:=.int .i64 ((k+1:Nat):Int)) (W8 pb) (X3 rfl) ⟨rfl,trivial⟩)] ?_))))
  refine nL (k+1) ⟨(show (k+1)≤l.length from (by omega)),(show ∀ j,j<(k+1)→(l.getD j zC).Xo.length≤7 from (Ud hb (by omega)))⟩ (show (l.length-(k+1):Nat)<l.length-k from (by omega)) (fun _ _ hG=>Yp [] (bm 9 403) rfl rfl hG)
 refine cF (dF hq1) (T.exit (xT (xT (xH (nT (sR [] (T.ret ?_)))))))
 exact eRt 4 (.one (dI (-1))) [] (cI (by exact idx_no hb (by omega))) trivial
theorem F6 (tl:Bool) (nl:Bool) (sl_:Bool) (l:List aC) (hl:l.length≤9223372036854775807):Holds Tryz.prog 201 ⟨[slV tl nl (kC sl_) l,dv (.func (.func 202) #[] #[])],[],vB (decide (¬X2b l)),[]⟩:=by
 refine Holds.of Tryz.func201 rfl (N:=9) Tryz.ntmps201 rfl fun w0 B0 S0 U0=>?_
 show T _ (Y5 9 0 w0 S0 U0 B0) ⟨[slV tl nl (kC sl_) l,dv (.func (.func 202) #[] #[])],[]⟩ _ _
 refine sR [] (sR [hR 2 rfl rfl (rCa (idx_Cert tl nl sl_ l ‹_›) Tryz.func203 [] [(.tmp 5,slV tl nl (kC sl_) l),(.tmp 6,dv (.func (.func 202) #[] #[]))] 0 0)] (T.ret ?_))
 exact eRt 4 (.one (dB (decide ((idxV l)≥0)))) [] (by have e1:((decide (¬X2b l)):Bool)=(decide ((idxV l)≥0)):=(by (rw [decide_eq_decide];exact (idx_few _).symm));have hE:=cB e1;exact hE) trivial
end Go.Proofs.YtnaopgohccacmaaGreat.Q
