import Derived.Test.YtnaopgohccacmaaGreatC19n11
namespace Go.Proofs.YtnaopgohccacmaaGreat.Q
open Go Go.RowKit
set_option linter.unusedVariables false
set_option linter.unusedSimpArgs false
set_option maxRecDepth 100000
set_option maxHeartbeats 4000000
theorem Xg5 (te:Bool) (e:aE) (r:Y6) (hb:e.Xd.length≤100000000):Holds Tryz.prog 103 ⟨[.tv (.agg [dI e.X5,.d (dsl te false kU8 e.Xd)]),.tv (.agg [dI r.Xt,dI r.Xn])],[],Y8 0 kU8 0 (Vr e r).length,[.live (Xf 5 kU8 (Vr e r))]⟩:=by
 refine Holds.of Tryz.func103 rfl (N:=19) Tryz.ntmps103 rfl fun w0 B0 S0 U0=>?_
 show T _ (Y2 19 0 w0 S0 U0 B0) ⟨[.tv (.agg [dI e.X5,.d (dsl te false kU8 e.Xd)]),.tv (.agg [dI r.Xt,dI r.Xn])],[]⟩ _ _
 have hi1:=Wk e.X5
 have hi2:=Wk r.Xt
 have hy:=Vf e.Xd
 refine sR [] ?_
 refine sD [[],[0],[0,1],[],[3],[0,1,2,3,4],[0,1,2,3,4,5]] [hR 2 rfl rfl (rCn (Ud false false ([]:List UInt8) e.X5 (by (simp [maxLen,-List.getD_eq_getElem?_getD]<;>omega))) Tryz.func63 [2] [(.const (.slice none 0 0),dv (.slice none 0 0)),(.tmp 7,vI e.X5)] 0 1 ⟨.inr pZ5,⟨.inl ⟨rfl,rfl⟩,trivial⟩⟩ ⟨rfl,trivial⟩),hR 5 rfl rfl (Wu (Ia true false (([]:List UInt8)++Yy e.X5) te false e.Xd (by (simp [maxLen,-List.getD_eq_getElem?_getD]<;>omega))) Tryz.func64 rfl (by decide) [3] [2] (l:=[(.tmp 8,Y8 2 kU8 0 (([]:List UInt8)++Yy e.X5).length),(.tmp 10,slV te false kU8 e.Xd)]) [(2,.live (Xf 5 kU8 (([]:List UInt8)++Yy e.X5)))] rfl 0 1 rfl rfl rfl rfl rfl rfl rfl rfl rfl ⟨.inr (.inl ⟨rfl,pZv,rfl,rfl,by simp,5,(([]:List UInt8)++Yy e.X5).length,W7 kU8 (([]:List UInt8)++Yy e.X5),List.Mem.head _,pZl,fun i j=>by rw [Nat.zero_add]⟩),⟨.inl ⟨rfl,rfl⟩,trivial⟩⟩ rfl pZ6 pk (X3 rfl) trivial)] ?_
 refine sD [[],[],[1],[0,1,2],[],[4],[0,1,2,3,4,5],[0,1,2,3,4,5,6]] [hR 3 rfl rfl (Wu (Ud true false (([]:List UInt8)++Yy e.X5++Yx e.Xd) r.Xt (by (simp [maxLen,-List.getD_eq_getElem?_getD]<;>omega))) Tryz.func63 rfl (by decide) [4] [3] (l:=[(.tmp 12,Y8 3 kU8 0 (([]:List UInt8)++Yy e.X5++Yx e.Xd).length),(.tmp 14,vI r.Xt)]) [(3,.live (Xf 5 kU8 (([]:List UInt8)++Yy e.X5++Yx e.Xd)))] rfl 0 1 rfl rfl rfl rfl rfl rfl rfl rfl rfl ⟨.inr (.inl ⟨rfl,pZv,rfl,rfl,by simp,5,(([]:List UInt8)++Yy e.X5++Yx e.Xd).length,W7 kU8 (([]:List UInt8)++Yy e.X5++Yx e.Xd),List.Mem.head _,pZl,fun i j=>by rw [Nat.zero_add]⟩),⟨.inl ⟨rfl,rfl⟩,trivial⟩⟩ rfl pZ6 pk (X3 rfl) trivial),hR 6 rfl rfl (Wu (Ud true false (([]:List UInt8)++Yy e.X5++Yx e.Xd++Yy r.Xt) r.Xn (by (simp [maxLen,-List.getD_eq_getElem?_getD]<;>omega))) Tryz.func63 rfl (by decide) [5] [4] (l:=[(.tmp 15,Y8 4 kU8 0 (([]:List UInt8)++Yy e.X5++Yx e.Xd++Yy r.Xt).length),(.tmp 17,vI r.Xn)]) [(4,.live (Xf 5 kU8 (([]:List UInt8)++Yy e.X5++Yx e.Xd++Yy r.Xt)))] rfl 0 1 rfl rfl rfl rfl rfl rfl rfl rfl rfl ⟨.inr (.inl ⟨rfl,pZv,rfl,rfl,by simp,5,(([]:List UInt8)++Yy e.X5++Yx e.Xd++Yy r.Xt).length,W7 kU8 (([]:List UInt8)++Yy e.X5++Yx e.Xd++Yy r.Xt),List.Mem.head _,pZl,fun i j=>by rw [Nat.zero_add]⟩),⟨.inl ⟨rfl,rfl⟩,trivial⟩⟩ rfl pZ6 pk (X3 rfl) trivial)] ?_
 refine T.ret ?_
 exact eRt 4 (.one (.own 5 kU8.sz 0 (([]:List UInt8)++Yy e.X5++Yx e.Xd++Yy r.Xt++Yy r.Xn).length)) [5] (congrArg (fun (q1:Nat)=>(Y8 5 kU8 0 q1:AV)) (by rfl)) ⟨⟨rfl,(by have e1:(([]:List UInt8)++Yy e.X5++Yx e.Xd++Yy r.Xt++Yy r.Xn:List UInt8)=Vr e r:=(by rfl);have hE:=congrArg (fun (q1:List UInt8)=>(.live (Xf 5 kU8 q1):HS)) e1;exact Eq.trans pZ8 hE)⟩,trivial⟩
theorem X6u (tb_:Bool) (b:Xq) (hq:b.Xb.length≤9223372036854775807) (hr:b.Xj.length≤9223372036854775807):Holds Tryz.prog 87 ⟨[.tv (.agg [dI b.Xg,dS b.Y0,.d (dsl tb_ false (kE tb_) b.Xb),.d (dsl tb_ false (Xe tb_) b.Xj)])],[],vI (Vd b),[]⟩:=by
 refine Holds.of Tryz.func87 rfl (N:=26) Tryz.ntmps87 rfl fun w0 B0 S0 U0=>?_
 show T _ (Y2 26 0 w0 S0 U0 B0) ⟨[.tv (.agg [dI b.Xg,dS b.Y0,.d (dsl tb_ false (kE tb_) b.Xb),.d (dsl tb_ false (Xe tb_) b.Xj)])],[]⟩ _ _
 refine sR [] (T.seq (T.block ?_))
 by_cases hq1:b.Xg<1
 ·refine sR (Xm (hN · false (dT hq1)) [4,5,6] (hP 7 (dT hq1)::[])) (cT (b:=true) rfl (sR [] (T.ret (rB (rT ?_)))))
  exact eRt 2 (.one (dI 100)) [] p1x trivial
 refine sR (Xm (hY · (dF hq1)) [4,5,6] (hP 7 (dF hq1)::[])) ?_
 by_cases hq2:b.Xg>1099511627776
 ·refine cT (dT hq2) (sR [] (T.ret (rB (rT ?_))))
  exact eRt 2 (.one (dI 100)) [] p1x trivial
 refine cF (dF hq2) ?_
 by_cases hq3:((b.Xb.length:Nat):Int)≠((b.Xj.length:Nat):Int)
 ·refine sR (Xm (hN · false (dT hq3)) [8,9,10,11] (hP 12 (dT hq3)::[])) (cT (b:=true) rfl (sR [] (T.ret (rB (rT ?_)))))
  exact eRt 2 (.one (dI 102)) [] p1j trivial
 refine sR (Xm (hY · (dF hq3)) [8,9,10,11] (hP 12 (dF hq3)::[])) ?_
 by_cases hq4:((b.Xj.length:Nat):Int)>4
 ·refine cT (dT hq4) (sR [] (T.ret (rB (rT ?_))))
  exact eRt 2 (.one (dI 102)) [] p1j trivial
 refine cF (dF hq4) (T.skip (nB (nT (sR [] (T.ret ?_)))))
 exact eRt 2 (.one (dI 0)) [] p3u trivial
theorem X6m (tb_:Bool) (b:Xq) (hq:b.Xb.length≤9223372036854775807) (hr:b.Xj.length≤9223372036854775807):Holds Tryz.prog 92 ⟨[.tv (.agg [dI b.Xg,dS b.Y0,.d (dsl tb_ false (kE tb_) b.Xb),.d (dsl tb_ false (Xe tb_) b.Xj)])],[],vI (Vd b),[]⟩:=by
 refine Holds.of Tryz.func92 rfl (N:=24) Tryz.ntmps92 rfl fun w0 B0 S0 U0=>?_
 show T _ (Y2 24 0 w0 S0 U0 B0) ⟨[.tv (.agg [dI b.Xg,dS b.Y0,.d (dsl tb_ false (kE tb_) b.Xb),.d (dsl tb_ false (Xe tb_) b.Xj)])],[]⟩ _ _
 refine sR [] (T.seq ?_)
 by_cases hq1:b.Xg<1
 ·refine sR (Xm (hN · false (dT hq1)) [4,5,6] (hP 7 (dT hq1)::[])) (cT (b:=true) rfl (sR [] (T.ret (rT ?_))))
  exact eRt 2 (.one (dI 100)) [] p1x trivial
 refine sR (Xm (hY · (dF hq1)) [4,5,6] (hP 7 (dF hq1)::[])) ?_
 by_cases hq2:b.Xg>1099511627776
 ·refine cT (dT hq2) (sR [] (T.ret (rT ?_)))
  exact eRt 2 (.one (dI 100)) [] p1x trivial
 refine cF (dF hq2) (T.skip (nT (T.seq ?_)))
 by_cases hq3:((b.Xb.length:Nat):Int)≠((b.Xj.length:Nat):Int)
 ·refine sR (Xm (hN · false (dT hq3)) [8,9,10,11] (hP 12 (dT hq3)::[])) (cT (b:=true) rfl (sR [] (T.ret (rT ?_))))
  exact eRt 2 (.one (dI 102)) [] p1j trivial
 refine sR (Xm (hY · (dF hq3)) [8,9,10,11] (hP 12 (dF hq3)::[])) ?_
 by_cases hq4:((b.Xb.length:Nat):Int)>4
 ·refine cT (dT hq4) (sR [] (T.ret (rT ?_)))
  exact eRt 2 (.one (dI 102)) [] p1j trivial
 refine cF (dF hq4) (T.skip (nT (sR [] (T.ret ?_))))
 exact eRt 2 (.one (dI 0)) [] p3u trivial
theorem Xf2:Elem Tryz.prog 136 25 1 24:=⟨Tryz.underlying136,_,_,U1,rfl,rfl,rfl,rfl,by decide⟩
theorem Ej:Tryz.prog.info? 46=some Tryz.t46:=by kernel_rfl
section
variable (tb_:Bool) (b:Xq) (k:Nat)
abbrev Z4h:List SV:=[dI b.Xg,dS b.Y0,.d (dsl tb_ false (kE tb_) b.Xb),.d (dsl tb_ false (Xe tb_) b.Xj)]
abbrev Z4i:AV:=vI (((Y9 b).length:Nat):Int)
abbrev Z4j:HS:=.live (.box 65 (Z4h tb_ b))
abbrev Z4k:St:=⟨[aa,pv 0 0,aa,Y8 1 (kSl false kU8) 0 (Ue [] (Y9 b) k).length,aa,aa,aa,aa,aa,aa,aa,aa,aa,aa,(Z4i b),vI ((k:Nat):Int)],[(Z4j tb_ b),.live (Xf 25 (kSl false kU8) (Ue [] (Y9 b) k))]⟩
abbrev Z4l:AV:=Y8 1 (kSl false kU8) 0 (Ue [] (Y9 b) 0).length
abbrev Z4n:=(Vr (b.Xb.getD k zE) (b.Xj.getD k Yj))
abbrev Z4o:AV:=vI ((k+1:Nat):Int)
abbrev Z4p:List AV:=[aa,pv 0 0,aa,Y8 1 (kSl false kU8) 0 (Ue [] (Y9 b) k).length,vI ((k:Nat):Int),aa,aa,aa,aa,aa,aa,aa,aa,aa,(Z4i b),(Z4o k),vB (decide (((k:Nat):Int)<(((Y9 b).length:Nat):Int)))]
abbrev Z4q:HS:=.live (Xf 25 (kSl false kU8) (((Ue [] (Y9 b) k).set k (Z4n b k)).take (Ue [] (Y9 b) k).length))
end
theorem X4x (tb_:Bool) (b:Xq) (hf:fewW b):Holds Tryz.prog 109 ⟨[.tv (.agg [dI b.Xg,dS b.Y0,.d (dsl tb_ false (kE tb_) b.Xb),.d (dsl tb_ false (Xe tb_) b.Xj)])],[],Y8 0 (kSl false kU8) 0 (Y9 b).length,[.live (Xf 25 (kSl false kU8) (Y9 b))]⟩:=by
 refine Holds.of Tryz.func109 rfl (N:=34) Tryz.ntmps109 rfl fun w0 B0 S0 U0=>?_
 show T _ (Y2 34 0 w0 S0 U0 B0) ⟨[.tv (.agg (Z4h tb_ b))],[]⟩ _ _
 have hf1:=hf.1.1
 have hf2:=hf.2.1
 have hf3:=hf.2.2
 have hll:=U4 b
 have hfl:=E7 hf
 refine sR [] (sR [hR 6 rfl rfl (r_minN (k:=.i64) (a:=b.Xb.length) (b:=b.Xj.length) (X3 rfl) trivial),hR 7 rfl rfl (q_makeW 1 25 24 (kSl false kU8) (Ue [] (Y9 b) 0) (min b.Xb.length b.Xj.length) (min b.Xb.length b.Xj.length) (p:=((min b.Xb.length b.Xj.length:Nat):Int)) (q:=((min b.Xb.length b.Xj.length:Nat):Int)) Xf2 Fw rfl rfl (by omega) (by omega) (by (unfold maxLen;omega)) (by intro j hj;replace hj:j<1:=hj;rcases j with _|j<;>first|exact .inl rfl|exact .inr ⟨rfl,rfl,rfl⟩|omega) (by (rw [fill_0,hll];rfl)) (X3 rfl) trivial)] ?_)
 refine T.seq (sR [] (T.block ?_))
 refine T.loop (ι:=Nat) (fun (k:Nat)=>(Z4k tb_ b k)) (fun (k:Nat)=>(k≤(Y9 b).length)) (fun (k:Nat)=>(Y9 b).length-k) (0) (Nat.zero_le _) (fun _ _ hG=>Yv [0,1] (bm 16 49162) (t2:=[aa,pv 0 0,aa,(Z4l b),aa,aa,aa,aa,aa,aa,aa,aa,aa,aa,vI (((Ue [] (Y9 b) 0).length:Nat):Int),vI 0]) (by have e1:((((Y9 b).length:Nat):Int):Int)=(((Ue [] (Y9 b) 0).length:Nat):Int):=(by (simp only [X4o];done));have hE:=congrArg (fun (q1:Int)=>([aa,pv 0 0,aa,(Z4l b),aa,aa,aa,aa,aa,aa,aa,aa,aa,aa,vI q1,vI 0]:List AV)) e1;exact hE) rfl hG) ?_
 rintro k hk
 show T _ _ (Z4k tb_ b k) _ _
 replace hk:k≤(Y9 b).length:=hk
 have hf1:=hf.1.1
 have hf2:=hf.2.1
 have hf3:=hf.2.2
 have hll:=U4 b
 have hfl:=E7 hf
 have hbk:(b.Xb.getD k zE).Xd.length≤20000:=Iu (sz:=szE) hf.1 (by decide) k
 have hfk:=X4o ([]:List UInt8) (Y9 b) k
 refine sR [] (T.seq ?_)
 by_cases hq1:((k:Nat):Int)<(((Y9 b).length:Nat):Int)
 ·refine cT (dT hq1) (T.skip (nT (T.seq (T.block (sR [] ?_)))))
  refine xD [[],[],[],[2],[],[2,3,4],[2,3,4,5],[],[7],[],[7,8,9],[7,8,9,10],[2,3,4,5,6,7,8,9,10,11],[0,1,2,3,4,5,6,7,8,9,10,11,12],[0,1,2,3,4,5,6,7,8,9,10,11,12,13]] [hR 5 rfl rfl (We tb_ false (kE tb_) b.Xb k (k:=.i64) (i:=((k:Nat):Int)) Tryz.underlying37 Vi rfl rfl (by omega) (X3 rfl) trivial),hR 10 rfl rfl (We tb_ false (Xe tb_) b.Xj k (k:=.i64) (i:=((k:Nat):Int)) Tryz.underlying63 Ej rfl rfl (by omega) (X3 rfl) trivial),hR 12 rfl rfl (rCa (X9p tb_ (b.Xb.getD k zE) (b.Xj.getD k Yj) (by omega)) Tryz.func101 [2] [(.tmp 24,.tv (.agg [dI (b.Xb.getD k zE).X5,.d (dsl tb_ false kU8 (b.Xb.getD k zE).Xd)])),(.tmp 29,.tv (.agg [dI (b.Xj.getD k Yj).Xt,dI (b.Xj.getD k Yj).Xn]))] 0 1),hR 13 rfl rfl (Vh (k:=.i64) (l:=1) (sz:=(kSl false kU8).sz) (off:=0) (n:=(Ue [] (Y9 b) k).length) (i:=((k:Nat):Int)) (m:=k) (o':=k*(kSl false kU8).sz+0) Tryz.underlying136 U1 rfl rfl (by omega) (by simp) (X3 rfl) trivial),hR 14 rfl rfl (Uz 1 30 2 5 kU8 (Vr (b.Xb.getD k zE) (b.Xj.getD k Yj)) (av:=Y8 2 kU8 0 (Z4n b k).length) (Fi 1 25 (kSl false kU8) (Ue [] (Y9 b) k) (Vr (b.Xb.getD k zE) (b.Xj.getD k Yj)) k 0 1 [dsl false false kU8 (Z4n b k)] (tv:=.one (dU (Z4n b k))) (off:=k*(kSl false kU8).sz+0) Xfe ⟨.inl rfl,trivial⟩ rfl rfl (by omega) (by decide) rfl (by intro j hj;replace hj:j<1:=hj;rcases j with _|j<;>first|rfl|omega) trivial) rfl (.inr pZ0) X71 rfl rfl)] pZ8 pZ8 pZ8 pZ8 pZ8 pZ8 ?_
  refine nB (nT (xK [hR 0 rfl rfl (Yd (u1:=.int .i64 ((k:Nat):Int)) (u2:=.int .i64 1) (v:=.int .i64 ((k+1:Nat):Int)) (Wb pc) (X3 rfl) ⟨rfl,trivial⟩)] ?_))
  refine eN ⟨(Z4p b k),[(Z4j tb_ b),.live (Xf 25 (kSl false kU8) ((Ue [] (Y9 b) k).set k (Z4n b k))),.dead]⟩ ?_
  refine X7 (s':=⟨(Z4p b k),[(Z4j tb_ b),(Z4q b k),.dead]⟩) (fun _ _ hG=>Xo7 1 25 (kSl false kU8) ((Ue [] (Y9 b) k).set k (Vr (b.Xb.getD k zE) (b.Xj.getD k Yj))) (((Ue [] (Y9 b) k).set k (Vr (b.Xb.getD k zE) (b.Xj.getD k Yj))).take (Ue [] (Y9 b) k).length) (Ue [] (Y9 b) k).length rfl rfl hG) ?_
  refine nL (k+1) (show (k+1)≤(Y9 b).length from (by omega)) (show ((Y9 b).length-(k+1):Nat)<(Y9 b).length-k from (by omega)) (fun _ _ hG=>Yv [0,1] (bm 16 49162) (t2:=[aa,pv 0 0,aa,Y8 1 (kSl false kU8) 0 (Ue [] (Y9 b) k).length,aa,aa,aa,aa,aa,aa,aa,aa,aa,aa,(Z4i b),(Z4o k)]) (h2:=[(Z4j tb_ b),(Z4q b k)]) (by have e1:((Ue [] (Y9 b) (k+1)).length:Nat)=(Ue [] (Y9 b) k).length:=(by (simp only [X4o,List.length_set]));have hE:=congrArg (fun (q1:Nat)=>([aa,pv 0 0,aa,Y8 1 (kSl false kU8) 0 q1,aa,aa,aa,aa,aa,aa,aa,aa,aa,aa,(Z4i b),(Z4o k)]:List AV)) e1;exact hE) (by have e1:((Ue [] (Y9 b) (k+1)):List (List UInt8))=(((Ue [] (Y9 b) k).set k (Vr (b.Xb.getD k zE) (b.Xj.getD k Yj))).take (Ue [] (Y9 b) k).length):=(by (rw [← Fo (by omega) (by omega),fill_set (by omega),List.take_of_length_le (by simp only [X4o];omega)]));have hE:=congrArg (fun (q1:List (List UInt8))=>([(Z4j tb_ b),.live (Xf 25 (kSl false kU8) q1)]:List HS)) e1;exact hE) hG)
 refine cF (dF hq1) (T.exit (xT (xT (xH (nT (sR [] (T.ret ?_)))))))
 exact eRt 2 (.one (.own 1 (kSl false kU8).sz 0 (Ue [] (Y9 b) k).length)) [1] (by have e1:((Y9 b).length:Nat)=(Ue [] (Y9 b) k).length:=(by (rw [Xeu (by omega)]));have hE:=congrArg (fun (q1:Nat)=>(Y8 1 (kSl false kU8) 0 q1:AV)) e1;exact hE) ⟨⟨rfl,(by have e1:((Ue [] (Y9 b) k):List (List UInt8))=(Y9 b):=(by (rw [Xeu (by omega)]));have hE:=congrArg (fun (q1:List (List UInt8))=>(.live (Xf 25 (kSl false kU8) q1):HS)) e1;exact Eq.trans pZ8 hE)⟩,trivial⟩
section
variable (tb_:Bool) (b:Xq) (k:Nat)
abbrev Z4s:List SV:=[dI b.Xg,dS b.Y0,.d (dsl tb_ false (kE tb_) b.Xb),.d (dsl tb_ false (Xe tb_) b.Xj)]
abbrev Z4t:HS:=.live (.box 65 (Z4s tb_ b))
abbrev Z4u:List AV:=[aa,pv 0 0,aa,Y8 1 (kSl false kU8) 0 ((Y9 b).take k).length,vI ((k:Nat):Int)]
abbrev Z4w:=(Vr (b.Xb.getD k zE) (b.Xj.getD k Yj))
abbrev Z4x:AV:=vI ((k+1:Nat):Int)
end
theorem X47 (tb_:Bool) (b:Xq) (hf:fewW b):Holds Tryz.prog 97 ⟨[.tv (.agg [dI b.Xg,dS b.Y0,.d (dsl tb_ false (kE tb_) b.Xb),.d (dsl tb_ false (Xe tb_) b.Xj)])],[],Y8 0 (kSl false kU8) 0 (Y9 b).length,[.live (Xf 25 (kSl false kU8) (Y9 b))]⟩:=by
 refine Holds.of Tryz.func97 rfl (N:=34) Tryz.ntmps97 rfl fun w0 B0 S0 U0=>?_
 show T _ (Y2 34 0 w0 S0 U0 B0) ⟨[.tv (.agg (Z4s tb_ b))],[]⟩ _ _
 have hf1:=hf.1.1
 have hf2:=hf.2.1
 have hf3:=hf.2.2
 have hll:=U4 b
 have hfl:=E7 hf
 refine sR [] (sR [] (T.seq (sR [] (T.block ?_))))
 refine tN ⟨[.tv (.agg (Z4s tb_ b)),pv 0 0,dv (.slice none 0 0),dv (.slice none 0 0),vI 0],[(Z4t tb_ b)]⟩ ?_
 refine Wx (s':=⟨[.tv (.agg (Z4s tb_ b)),pv 0 0,dv (.slice none 0 0),Y8 1 (kSl false kU8) 0 0,vI 0],[(Z4t tb_ b),.live (Xf 25 (kSl false kU8) ([]:List (List UInt8)))]⟩) (fun _ _ hG=>U5 1 3 25 (kSl false kU8) rfl rfl hG) ?_
 refine T.loop (ι:=Nat) (fun (k:Nat)=>⟨(Z4u b k),[(Z4t tb_ b),.live (Xf 25 (kSl false kU8) ((Y9 b).take k))]⟩) (fun (k:Nat)=>(k≤(Y9 b).length)) (fun (k:Nat)=>(Y9 b).length-k) (0) (Nat.zero_le _) (fun _ _ hG=>Yv [0,1] (bm 5 26) (t2:=[aa,pv 0 0,aa,Y8 1 (kSl false kU8) 0 0,vI 0]) (h2:=[(Z4t tb_ b),.live (Xf 25 (kSl false kU8) ([]:List (List UInt8)))]) (congrArg (fun (q1:Nat)=>([aa,pv 0 0,aa,Y8 1 (kSl false kU8) 0 q1,vI 0]:List AV)) (by rfl)) (congrArg (fun (q1:List (List UInt8))=>([(Z4t tb_ b),.live (Xf 25 (kSl false kU8) q1)]:List HS)) (by rfl)) hG) ?_
 rintro k hk
 show T _ _ ⟨(Z4u b k),[(Z4t tb_ b),.live (Xf 25 (kSl false kU8) ((Y9 b).take k))]⟩ _ _
 replace hk:k≤(Y9 b).length:=hk
 have hf1:=hf.1.1
 have hf2:=hf.2.1
 have hf3:=hf.2.2
 have hll:=U4 b
 have hfl:=E7 hf
 have hbk:(b.Xb.getD k zE).Xd.length≤20000:=Iu (sz:=szE) hf.1 (by decide) k
 refine T.seq ?_
 by_cases hq1:((k:Nat):Int)<((b.Xb.length:Nat):Int)
 ·refine sR (Xm (hY · (dT hq1)) [6,7,8,9,10] (hP 11 (dT hq1)::[])) ?_
  by_cases hq2:((k:Nat):Int)<((b.Xj.length:Nat):Int)
  ·refine cT (dT hq2) (T.skip (nT (T.seq (T.block ?_))))
   refine xD [[],[],[1],[],[1,2,3],[1,2,3,4],[],[6],[],[6,7,8],[6,7,8,9],[1,2,3,4,5,6,7,8,9,10],[1,2,3,4,5,6,7,8,9,10,11],[0,1,2,3,4,5,6,7,8,9,10,11,12],[0,1,2,3,4,5,6,7,8,9,10,11,12,13]] [hR 4 rfl rfl (We tb_ false (kE tb_) b.Xb k (k:=.i64) (i:=((k:Nat):Int)) Tryz.underlying37 Vi rfl rfl (by omega) (X3 rfl) trivial),hR 9 rfl rfl (We tb_ false (Xe tb_) b.Xj k (k:=.i64) (i:=((k:Nat):Int)) Tryz.underlying63 Ej rfl rfl (by omega) (X3 rfl) trivial),hR 11 rfl rfl (rCa (Xg5 tb_ (b.Xb.getD k zE) (b.Xj.getD k Yj) (by omega)) Tryz.func103 [2] [(.tmp 24,.tv (.agg [dI (b.Xb.getD k zE).X5,.d (dsl tb_ false kU8 (b.Xb.getD k zE).Xd)])),(.tmp 29,.tv (.agg [dI (b.Xj.getD k Yj).Xt,dI (b.Xj.getD k Yj).Xn]))] 0 1),hR 12 rfl rfl (Uz 0 30 2 5 kU8 (Vr (b.Xb.getD k zE) (b.Xj.getD k Yj)) (av:=Y8 2 kU8 0 (Z4w b k).length) (Yc 3 25 (kSl false kU8) (X1x false kU8) [Vr (b.Xb.getD k zE) (b.Xj.getD k Yj)] [⟨0,.tmp 30,.one (dU (Z4w b k)),0⟩] (cs:=[dU (Z4w b k)]) Tryz.underlying136 U1 rfl Fw rfl rfl rfl pd (Yr rfl rfl pd W5) pZ8 (V4 pZ8) (X3 rfl) trivial) rfl (.inr pZ0) X71 rfl rfl),hR 13 rfl rfl (W2 1 4 25 24 (kSl false kU8) (X1x false kU8) ((Y9 b).take k) [Vr (b.Xb.getD k zE) (b.Xj.getD k Yj)] (((Y9 b).take k)++[Vr (b.Xb.getD k zE) (b.Xj.getD k Yj)]) ((Y9 b).take k).length (sy:=(.own 3 (kSl false kU8).sz 0 [Vr (b.Xb.getD k zE) (b.Xj.getD k Yj)].length)) (rhs:=[(3,.live (Xf 25 (kSl false kU8) [Vr (b.Xb.getD k zE) (b.Xj.getD k Yj)]))]) Xf2 (by omega) (Wv 3 25 (kSl false kU8) [Vr (b.Xb.getD k zE) (b.Xj.getD k Yj)]) Jy (by (simp [maxLen,-List.getD_eq_getElem?_getD]<;>omega)) (by (simp [maxLen,-List.getD_eq_getElem?_getD]<;>omega)) (X3 rfl) trivial)] pZ8 pZ8 pZ8 pZ8 pZ8 pZ8 ?_
   refine nB (nT (xK [hR 1 rfl rfl (Yd (u1:=.int .i64 ((k:Nat):Int)) (u2:=.int .i64 1) (v:=.int .i64 ((k+1:Nat):Int)) (Wb pc) (X3 rfl) ⟨rfl,trivial⟩)] ?_))
   refine nL (k+1) (show (k+1)≤(Y9 b).length from (by omega)) (show ((Y9 b).length-(k+1):Nat)<(Y9 b).length-k from (by omega)) (fun _ _ hG=>Wf [0,4] (bm 5 26) (t1:=[aa,pv 0 0,aa,Y8 4 (kSl false kU8) 0 ((Y9 b).take (k+1)).length,(Z4x k)]) (t2:=[aa,pv 0 0,aa,Y8 4 (kSl false kU8) 0 (((Y9 b).take k)++[Vr (b.Xb.getD k zE) (b.Xj.getD k Yj)]).length,(Z4x k)]) (h1:=[(Z4t tb_ b),.live (Xf 25 (kSl false kU8) ((Y9 b).take (k+1)))]) (h2:=[(Z4t tb_ b),.live (Xf 25 (kSl false kU8) (((Y9 b).take k)++[Vr (b.Xb.getD k zE) (b.Xj.getD k Yj)]))]) (by have e1:(((Y9 b).take (k+1)).length:Nat)=(((Y9 b).take k)++[Vr (b.Xb.getD k zE) (b.Xj.getD k Yj)]).length:=p53;have hE:=congrArg (fun (q1:Nat)=>([aa,pv 0 0,aa,Y8 4 (kSl false kU8) 0 q1,(Z4x k)]:List AV)) e1;exact hE) (by have e1:(((Y9 b).take (k+1)):List (List UInt8))=((Y9 b).take k)++[Vr (b.Xb.getD k zE) (b.Xj.getD k Yj)]:=p53;have hE:=congrArg (fun (q1:List (List UInt8))=>([(Z4t tb_ b),.live (Xf 25 (kSl false kU8) q1)]:List HS)) e1;exact hE) hG)
  refine cF (dF hq2) (T.exit (xT (xT (xH (nT (sR [] (T.ret ?_)))))))
  exact eRt 2 (.one (.own 1 (kSl false kU8).sz 0 ((Y9 b).take k).length)) [1] p3g ⟨⟨rfl,pZ31⟩,trivial⟩
 refine sR (Xm (hN · true (dF hq1)) [6,7,8,9,10] (hP 11 (dF hq1)::[])) (cF (b:=false) rfl (T.exit (xT (xT (xH (nT (sR [] (T.ret ?_))))))))
 exact eRt 2 (.one (.own 1 (kSl false kU8).sz 0 ((Y9 b).take k).length)) [1] p3g ⟨⟨rfl,pZ31⟩,trivial⟩
theorem Jz:Tryz.prog.info? 69=some Tryz.t69:=by kernel_rfl
theorem X78:Zero Tryz.prog 69 [.int .i64 0,Yk [],.int .i64 0,Yk []]:=⟨_,_,Jz,rfl,rfl⟩
theorem X5u:Tryz.prog.info? 65=some Tryz.t65:=by kernel_rfl
theorem H5:Wide Tryz.prog 65 (some 4):=⟨_,_,Tryz.underlying65,.inl ⟨_,rfl⟩,X5u,rfl⟩
theorem Xhk:Wide Tryz.prog 69 (some 4):=⟨_,_,Tryz.underlying69,.inl ⟨_,rfl⟩,Jz,rfl⟩
abbrev Z4y (tb_:Bool) (b:Xq):AV:=.tv (.agg [dI b.Xg,dS b.Y0,.d (dsl tb_ false (kE tb_) b.Xb),.d (dsl tb_ false (Xe tb_) b.Xj)])
theorem X0s (tb_:Bool) (b:Xq) (hf:Hl b):Holds Tryz.prog 53 ⟨[.tv (.agg [dI b.Xg,dS b.Y0,.d (dsl tb_ false (kE tb_) b.Xb),.d (dsl tb_ false (Xe tb_) b.Xj)])],[],.tv (.agg [dI (Wp b).Xg,dS (Wp b).Y0,dI (Wp b).Ye,dS (Wp b).W3]),[]⟩:=by
 refine Holds.of Tryz.func53 rfl (N:=15) Tryz.ntmps53 rfl fun w0 B0 S0 U0=>?_
 show T _ (Y2 15 0 w0 S0 U0 B0) ⟨[(Z4y tb_ b)],[]⟩ _ _
 have hf1:=hf.1.1
 have hf2:=hf.2.1
 have hf3:=hf.2.2
 have hll:=U4 b
 have hfl:=J6 hf
 have hrl:=Ua hfl
 refine sR [] (sR [hR 1 rfl rfl (rCa (X4x tb_ b p56) Tryz.func109 [2] [(.tmp 4,(Z4y tb_ b))] 0 1)] ?_)
 refine sD [[],[0],[],[2],[],[4],[],[6],[0,1,2,3,4,5,6,7],[0,1,2,3,4,5,6,7,8]] [hR 7 rfl rfl (Wu (X1r true false false (Y9 b) ‹_›) Tryz.func110 rfl (by decide) [] [2] (l:=[(.tmp 12,Y8 2 (kSl false kU8) 0 (Y9 b).length)]) [(2,.live (Xf 25 (kSl false kU8) (Y9 b)))] rfl 0 0 rfl rfl rfl rfl rfl rfl rfl rfl rfl ⟨.inr (.inl ⟨rfl,pZv,rfl,rfl,by simp,25,(Y9 b).length,W7 (kSl false kU8) (Y9 b),List.Mem.head _,pZl,fun i j=>by rw [Nat.zero_add]⟩),trivial⟩ rfl pZ6 p2v (X3 rfl) trivial)] (T.ret ?_)
 exact eX [.c 2 1 69 0 69 [dI b.Xg,dS b.Y0,dI (((Y9 b).length:Nat):Int),dS (W6 (Y9 b))] (.agg [dI b.Xg,dS b.Y0,dI (((Y9 b).length:Nat):Int),dS (W6 (Y9 b))])] ⟨⟨rfl,rfl,by kernel_rfl,by kernel_rfl,.inl ⟨4,Xhk,rfl,Nat.le_of_ble_eq_true rfl⟩⟩,trivial⟩ [] (cg4 (fun (q1:Int) (q2:List UInt8) (q3:Int) (q4:List UInt8)=>(.tv (.agg [dI q1,dS q2,dI q3,dS q4]):AV)) (by rfl) (by rfl) (by rfl) (by rfl)) trivial
abbrev Z4z (tb_:Bool) (b:Xq):AV:=.tv (.agg [dI b.Xg,dS b.Y0,.d (dsl tb_ false (kE tb_) b.Xb),.d (dsl tb_ false (Xe tb_) b.Xj)])
theorem X48 (tb_:Bool) (b:Xq) (hf:Hl b):Holds Tryz.prog 44 ⟨[.tv (.agg [dI b.Xg,dS b.Y0,.d (dsl tb_ false (kE tb_) b.Xb),.d (dsl tb_ false (Xe tb_) b.Xj)])],[],.tv (.agg [dI (Wp b).Xg,dS (Wp b).Y0,dI (Wp b).Ye,dS (Wp b).W3]),[]⟩:=by
 refine Holds.of Tryz.func44 rfl (N:=15) Tryz.ntmps44 rfl fun w0 B0 S0 U0=>?_
 show T _ (Y2 15 0 w0 S0 U0 B0) ⟨[(Z4z tb_ b)],[]⟩ _ _
 have hf1:=hf.1.1
 have hf2:=hf.2.1
 have hf3:=hf.2.2
 have hll:=U4 b
 have hfl:=J6 hf
 have hrl:=Ua hfl
 refine sR [] (sR [hR 1 rfl rfl (rCa (X47 tb_ b p56) Tryz.func97 [2] [(.tmp 4,(Z4z tb_ b))] 0 1)] ?_)
 refine sD [[],[0],[],[2],[],[4],[],[6],[0,1,2,3,4,5,6,7],[0,1,2,3,4,5,6,7,8]] [hR 7 rfl rfl (Wu (X3e true false false (Y9 b) ‹_›) Tryz.func98 rfl (by decide) [] [2] (l:=[(.tmp 12,Y8 2 (kSl false kU8) 0 (Y9 b).length)]) [(2,.live (Xf 25 (kSl false kU8) (Y9 b)))] rfl 0 0 rfl rfl rfl rfl rfl rfl rfl rfl rfl ⟨.inr (.inl ⟨rfl,pZv,rfl,rfl,by simp,25,(Y9 b).length,W7 (kSl false kU8) (Y9 b),List.Mem.head _,pZl,fun i j=>by rw [Nat.zero_add]⟩),trivial⟩ rfl pZ6 p2v (X3 rfl) trivial)] (T.ret ?_)
 exact eX [.c 2 1 69 0 69 [dI b.Xg,dS b.Y0,dI (((Y9 b).length:Nat):Int),dS (W6 (Y9 b))] (.agg [dI b.Xg,dS b.Y0,dI (((Y9 b).length:Nat):Int),dS (W6 (Y9 b))])] ⟨⟨rfl,rfl,by kernel_rfl,by kernel_rfl,.inl ⟨4,Xhk,rfl,Nat.le_of_ble_eq_true rfl⟩⟩,trivial⟩ [] (cg4 (fun (q1:Int) (q2:List UInt8) (q3:Int) (q4:List UInt8)=>(.tv (.agg [dI q1,dS q2,dI q3,dS q4]):AV)) (by rfl) (by rfl) (by rfl) (by rfl)) trivial
theorem X4y (h:Yb) (hp:h.Y0.length≤10000000) (hr:h.W3.length≤10000000):Holds Tryz.prog 91 ⟨[.tv (.agg [dI h.Xg,dS h.Y0,dI h.Ye,dS h.W3])],[],dv (Yk (Fa h)),[]⟩:=by
 refine Holds.of Tryz.func91 rfl (N:=19) Tryz.ntmps91 rfl fun w0 B0 S0 U0=>?_
 show T _ (Y2 19 0 w0 S0 U0 B0) ⟨[.tv (.agg [dI h.Xg,dS h.Y0,dI h.Ye,dS h.W3])],[]⟩ _ _
 have hz1:=sz4 (([]:List UInt8)++W8 [h.Xg]) h.Y0 (([]:List UInt8)++W8 [h.Ye]) h.W3
 have hz2:=sz4 (([]:List UInt8)++Yy h.Xg) h.Y0 (([]:List UInt8)++Yy h.Ye) h.W3
 have hi1n:(([]:List UInt8)++Yy h.Xg).length=8:=Wk _
 have hi2n:(([]:List UInt8)++Yy h.Ye).length=8:=Wk _
 have hi1:=Wk h.Xg
 have hi2:=Wk h.Ye
 have hi3:(W8 [h.Xg]).length=8:=Ie [h.Xg]
 have hi3n:(([]:List UInt8)++W8 [h.Xg]).length=8:=Ie [h.Xg]
 have hi4:(W8 [h.Ye]).length=8:=Ie [h.Ye]
 have hi4n:(([]:List UInt8)++W8 [h.Ye]).length=8:=Ie [h.Ye]
 refine sR [] ?_
 refine sD [[],[0],[0,1],[0,1,2],[],[4],[4,5],[],[7],[7,8],[0,1,2,3,7,8,9],[],[11],[11,12],[0,1,2,3,4,5,6,7,8,9,10,11,12,13],[0,1,2,3,4,5,6,7,8,9,10,11,12,13,14],[0,1,2,3,4,5,6,7,8,9,10,11,12,13,14,15]] [hR 2 rfl rfl (Yc 1 3 (Vv .i64) (X2o .i64) [h.Xg] [⟨0,.tmp 4,.one (dI h.Xg),0⟩] (cs:=[dI h.Xg]) Tryz.underlying24 X1z rfl X54 rfl rfl rfl pd (Yr rfl rfl pd W5) pZ8 (V4 pZ8) (X3 rfl) trivial),hR 3 rfl rfl (Wu (X0r false false ([]:List UInt8) true false [h.Xg] (by (simp [maxLen,-List.getD_eq_getElem?_getD]<;>omega)) (by (simp [maxLen,-List.getD_eq_getElem?_getD]<;>omega))) Tryz.func135 rfl (by decide) [2] [1] (l:=[(.const (.slice none 0 0),dv (.slice none 0 0)),(.tmp 5,Y8 1 (Vv .i64) 0 [h.Xg].length)]) [(1,.live (Xf 3 (Vv .i64) [h.Xg]))] rfl 0 1 rfl rfl rfl rfl rfl rfl rfl rfl rfl ⟨.inr pZ5,⟨.inr (.inl ⟨rfl,pZv,rfl,rfl,by simp,3,[h.Xg].length,W7 (Vv .i64) [h.Xg],List.Mem.head _,pZl,fun i j=>by rw [Nat.zero_add]⟩),trivial⟩⟩ rfl pZ6 pk (X3 rfl) ⟨rfl,trivial⟩),hR 6 rfl rfl (Jv (l:=h.Y0) Tryz.underlying60 Tryz.underlying25 Tryz.underlying5 (X3 rfl) trivial),hR 9 rfl rfl (Yc 3 3 (Vv .i64) (X2o .i64) [h.Ye] [⟨0,.tmp 11,.one (dI h.Ye),0⟩] (cs:=[dI h.Ye]) Tryz.underlying24 X1z rfl X54 rfl rfl rfl pd (Yr rfl rfl pd W5) pZ8 (V4 pZ8) (X3 rfl) trivial),hR 10 rfl rfl (Wu (X0r false false ([]:List UInt8) true false [h.Ye] (by (simp [maxLen,-List.getD_eq_getElem?_getD]<;>omega)) (by (simp [maxLen,-List.getD_eq_getElem?_getD]<;>omega))) Tryz.func135 rfl (by decide) [4] [3] (l:=[(.const (.slice none 0 0),dv (.slice none 0 0)),(.tmp 12,Y8 3 (Vv .i64) 0 [h.Ye].length)]) [(3,.live (Xf 3 (Vv .i64) [h.Ye]))] rfl 0 1 rfl rfl rfl rfl rfl rfl rfl rfl rfl ⟨.inr pZ5,⟨.inr (.inl ⟨rfl,pZv,rfl,rfl,by simp,3,[h.Ye].length,W7 (Vv .i64) [h.Ye],List.Mem.head _,pZl,fun i j=>by rw [Nat.zero_add]⟩),trivial⟩⟩ rfl pZ6 pk (X3 rfl) ⟨rfl,trivial⟩),hR 13 rfl rfl (Jv (l:=h.W3) Tryz.underlying60 Tryz.underlying25 Tryz.underlying5 (X3 rfl) trivial),hR 14 rfl rfl (Uz 0 6 2 5 kU8 (([]:List UInt8)++W8 [h.Xg]) (av:=Y8 2 kU8 0 (([]:List UInt8)++W8 [h.Xg]).length) (Uz 2 13 4 5 kU8 (([]:List UInt8)++W8 [h.Ye]) (av:=Y8 4 kU8 0 (([]:List UInt8)++W8 [h.Ye]).length) (Yc 5 25 (kSl false kU8) (X1x false kU8) [([]:List UInt8)++W8 [h.Xg],h.Y0,([]:List UInt8)++W8 [h.Ye],h.W3] [⟨0,.tmp 6,.one (dU (([]:List UInt8)++W8 [h.Xg])),0⟩,⟨1,.tmp 9,.one (.d (dsl false true kU8 h.Y0)),1⟩,⟨2,.tmp 13,.one (dU (([]:List UInt8)++W8 [h.Ye])),2⟩,⟨3,.tmp 16,.one (.d (dsl false true kU8 h.W3)),3⟩] (cs:=[dU (([]:List UInt8)++W8 [h.Xg]),.d (dsl false true kU8 h.Y0),dU (([]:List UInt8)++W8 [h.Ye]),.d (dsl false true kU8 h.W3)]) Tryz.underlying136 U1 rfl Fw rfl rfl rfl pd (Yr rfl rfl pd (Yr rfl rfl pd (Yr rfl rfl pd (Yr rfl rfl pd W5)))) pZ8 ⟨.inl rfl,⟨pZ25,⟨.inl rfl,⟨pZ25,trivial⟩⟩⟩⟩ (X3 rfl) trivial) rfl (.inr pZ0) X71 rfl rfl) rfl (.inr pZ0) X71 rfl rfl),hR 15 rfl rfl (Wu (X3x (5:UInt8) true false false [([]:List UInt8)++W8 [h.Xg],h.Y0,([]:List UInt8)++W8 [h.Ye],h.W3] (by omega)) Tryz.func84 rfl (by decide) [] [5] (l:=[(.const (.int .u8 5),dv (.int .u8 5)),(.tmp 17,Y8 5 (kSl false kU8) 0 [([]:List UInt8)++W8 [h.Xg],h.Y0,([]:List UInt8)++W8 [h.Ye],h.W3].length)]) [(5,.live (Xf 25 (kSl false kU8) [([]:List UInt8)++W8 [h.Xg],h.Y0,([]:List UInt8)++W8 [h.Ye],h.W3]))] rfl 0 0 rfl rfl rfl rfl rfl rfl rfl rfl rfl ⟨.inl ⟨rfl,rfl⟩,⟨.inr (.inl ⟨rfl,pZv,rfl,rfl,by simp,25,[([]:List UInt8)++W8 [h.Xg],h.Y0,([]:List UInt8)++W8 [h.Ye],h.W3].length,W7 (kSl false kU8) [([]:List UInt8)++W8 [h.Xg],h.Y0,([]:List UInt8)++W8 [h.Ye],h.W3],List.Mem.head _,pZl,fun i j=>by rw [Nat.zero_add]⟩),trivial⟩⟩ rfl pZ6 p2v (X3 rfl) ⟨rfl,trivial⟩)] ?_
 refine T.ret ?_
 exact eRt 2 (.one (dS (ofB (5:UInt8) [([]:List UInt8)++W8 [h.Xg],h.Y0,([]:List UInt8)++W8 [h.Ye],h.W3]))) [] p2e trivial
theorem Xbx (h:Yb) (hp:h.Y0.length≤10000000) (hr:h.W3.length≤10000000):Holds Tryz.prog 48 ⟨[.tv (.agg [dI h.Xg,dS h.Y0,dI h.Ye,dS h.W3])],[],dv (Yk (Fa h)),[]⟩:=by
 refine Holds.of Tryz.func48 rfl (N:=17) Tryz.ntmps48 rfl fun w0 B0 S0 U0=>?_
 show T _ (Y2 17 0 w0 S0 U0 B0) ⟨[.tv (.agg [dI h.Xg,dS h.Y0,dI h.Ye,dS h.W3])],[]⟩ _ _
 have hz1:=sz4 (([]:List UInt8)++W8 [h.Xg]) h.Y0 (([]:List UInt8)++W8 [h.Ye]) h.W3
 have hz2:=sz4 (([]:List UInt8)++Yy h.Xg) h.Y0 (([]:List UInt8)++Yy h.Ye) h.W3
 have hi1n:(([]:List UInt8)++Yy h.Xg).length=8:=Wk _
 have hi2n:(([]:List UInt8)++Yy h.Ye).length=8:=Wk _
 have hi1:=Wk h.Xg
 have hi2:=Wk h.Ye
 have hi3:(W8 [h.Xg]).length=8:=Ie [h.Xg]
 have hi3n:(([]:List UInt8)++W8 [h.Xg]).length=8:=Ie [h.Xg]
 have hi4:(W8 [h.Ye]).length=8:=Ie [h.Ye]
 have hi4n:(([]:List UInt8)++W8 [h.Ye]).length=8:=Ie [h.Ye]
 refine sR [] ?_
 refine sD [[],[0],[0,1],[],[3],[3,4],[],[6],[0,1,2,6,7],[],[9],[9,10],[0,1,2,3,4,5,6,7,8,9,10,11],[0,1,2,3,4,5,6,7,8,9,10,11,12],[0,1,2,3,4,5,6,7,8,9,10,11,12,13]] [hR 2 rfl rfl (rCn (Ud false false ([]:List UInt8) h.Xg (by (simp [maxLen,-List.getD_eq_getElem?_getD]<;>omega))) Tryz.func63 [1] [(.const (.slice none 0 0),dv (.slice none 0 0)),(.tmp 4,vI h.Xg)] 0 1 ⟨.inr pZ5,⟨.inl ⟨rfl,rfl⟩,trivial⟩⟩ ⟨rfl,trivial⟩),hR 5 rfl rfl (Jv (l:=h.Y0) Tryz.underlying60 Tryz.underlying25 Tryz.underlying5 (X3 rfl) trivial),hR 8 rfl rfl (rCn (Ud false false ([]:List UInt8) h.Ye (by (simp [maxLen,-List.getD_eq_getElem?_getD]<;>omega))) Tryz.func63 [2] [(.const (.slice none 0 0),dv (.slice none 0 0)),(.tmp 10,vI h.Ye)] 0 1 ⟨.inr pZ5,⟨.inl ⟨rfl,rfl⟩,trivial⟩⟩ ⟨rfl,trivial⟩),hR 11 rfl rfl (Jv (l:=h.W3) Tryz.underlying60 Tryz.underlying25 Tryz.underlying5 (X3 rfl) trivial),hR 12 rfl rfl (Uz 0 5 1 5 kU8 (([]:List UInt8)++Yy h.Xg) (av:=Y8 1 kU8 0 (([]:List UInt8)++Yy h.Xg).length) (Uz 2 11 2 5 kU8 (([]:List UInt8)++Yy h.Ye) (av:=Y8 2 kU8 0 (([]:List UInt8)++Yy h.Ye).length) (Yc 3 25 (kSl false kU8) (X1x false kU8) [([]:List UInt8)++Yy h.Xg,h.Y0,([]:List UInt8)++Yy h.Ye,h.W3] [⟨0,.tmp 5,.one (dU (([]:List UInt8)++Yy h.Xg)),0⟩,⟨1,.tmp 8,.one (.d (dsl false true kU8 h.Y0)),1⟩,⟨2,.tmp 11,.one (dU (([]:List UInt8)++Yy h.Ye)),2⟩,⟨3,.tmp 14,.one (.d (dsl false true kU8 h.W3)),3⟩] (cs:=[dU (([]:List UInt8)++Yy h.Xg),.d (dsl false true kU8 h.Y0),dU (([]:List UInt8)++Yy h.Ye),.d (dsl false true kU8 h.W3)]) Tryz.underlying136 U1 rfl Fw rfl rfl rfl pd (Yr rfl rfl pd (Yr rfl rfl pd (Yr rfl rfl pd (Yr rfl rfl pd W5)))) pZ8 ⟨.inl rfl,⟨pZ25,⟨.inl rfl,⟨pZ25,trivial⟩⟩⟩⟩ (X3 rfl) trivial) rfl (.inr pZ0) X71 rfl rfl) rfl (.inr pZ0) X71 rfl rfl),hR 13 rfl rfl (Wu (X1h (5:UInt8) true false false [([]:List UInt8)++Yy h.Xg,h.Y0,([]:List UInt8)++Yy h.Ye,h.W3] (by omega)) Tryz.func71 rfl (by decide) [] [3] (l:=[(.const (.int .u8 5),dv (.int .u8 5)),(.tmp 15,Y8 3 (kSl false kU8) 0 [([]:List UInt8)++Yy h.Xg,h.Y0,([]:List UInt8)++Yy h.Ye,h.W3].length)]) [(3,.live (Xf 25 (kSl false kU8) [([]:List UInt8)++Yy h.Xg,h.Y0,([]:List UInt8)++Yy h.Ye,h.W3]))] rfl 0 0 rfl rfl rfl rfl rfl rfl rfl rfl rfl ⟨.inl ⟨rfl,rfl⟩,⟨.inr (.inl ⟨rfl,pZv,rfl,rfl,by simp,25,[([]:List UInt8)++Yy h.Xg,h.Y0,([]:List UInt8)++Yy h.Ye,h.W3].length,W7 (kSl false kU8) [([]:List UInt8)++Yy h.Xg,h.Y0,([]:List UInt8)++Yy h.Ye,h.W3],List.Mem.head _,pZl,fun i j=>by rw [Nat.zero_add]⟩),trivial⟩⟩ rfl pZ6 p2v (X3 rfl) ⟨rfl,trivial⟩)] ?_
 refine T.ret ?_
 exact eRt 2 (.one (dS (ofB (5:UInt8) [([]:List UInt8)++Yy h.Xg,h.Y0,([]:List UInt8)++Yy h.Ye,h.W3]))) [] p2e trivial
abbrev Z50 (tb_:Bool) (b:Xq):List SV:=[dI b.Xg,dS b.Y0,.d (dsl tb_ false (kE tb_) b.Xb),.d (dsl tb_ false (Xe tb_) b.Xj)]
abbrev Z51 (tb_:Bool) (b:Xq) (i:Int):St:=⟨[.tv (.agg (Z50 tb_ b)),vI i,pv 0 0,aa,dv (.slice none 0 0),vI (Vd b),vI (Vd b),aa,aa,aa,vB (decide ((Vd b)≠0))],[.live (.box 65 (Z50 tb_ b))]⟩
theorem Xfi (tb_:Bool) (b:Xq) (i:Int) (hf:Hl b):Holds Tryz.prog 54 ⟨[.tv (.agg [dI b.Xg,dS b.Y0,.d (dsl tb_ false (kE tb_) b.Xb),.d (dsl tb_ false (Xe tb_) b.Xj)]),vI i],[],.tup [.one (.d (dsl false false (Xa false) (Is b i))),.one (dI (J8 b i))],[]⟩:=by
 refine Holds.of Tryz.func54 rfl (N:=18) Tryz.ntmps54 rfl fun w0 B0 S0 U0=>?_
 show T _ (Y2 18 0 w0 S0 U0 B0) ⟨[.tv (.agg (Z50 tb_ b)),vI i],[]⟩ _ _
 have hf1:=hf.1.1
 have hf2:=hf.2.1
 have hf3:=hf.2.2
 have hll:=U4 b
 have hfl:=J6 hf
 have hrl:=Ua hfl
 refine sR [] (T.seq (sR [hR 1 rfl rfl (rCa (X6u tb_ b (by omega) (by omega)) Tryz.func87 [] [(.tmp 7,.tv (.agg (Z50 tb_ b)))] 0 0)] (sR [] ?_)))
 by_cases hq1:(Vd b)≠0
 ·refine cT (dT hq1) (sR [] (T.ret (rT ?_)))
  refine eN (Z51 tb_ b i) ?_
  refine X7 (s':=⟨[.tv (.agg (Z50 tb_ b)),vI i,pv 0 0,aa,slV false false (Xa false) ([]:List Xz),vI (Vd b),vI (Vd b),aa,aa,aa,vB (decide ((Vd b)≠0))],[.live (.box 65 (Z50 tb_ b))]⟩) (fun _ _ hG=>Yt (s:=(Z51 tb_ b i)) (kk4 ⟨pZ5,p4k⟩) ⟨.inl rfl,trivial⟩ hG) ?_
  exact eX [.t 4 (.one (.d (dsl false false (Xa false) ([]:List Xz)))),.t 5 (.one (dI (Vd b)))] ⟨⟨rfl,by kernel_rfl⟩,⟨⟨rfl,by kernel_rfl⟩,trivial⟩⟩ [] p2p trivial
 refine cF (dF hq1) (T.skip (nT ?_))
 refine sR [hR 1 rfl rfl (rCa (X4x tb_ b p56) Tryz.func109 [1] [(.tmp 12,.tv (.agg (Z50 tb_ b)))] 0 1),hR 3 rfl rfl (Wu (Xea true false false (Y9 b) i ‹_›) Tryz.func111 rfl (by decide) [] [1] (l:=[(.tmp 13,Y8 1 (kSl false kU8) 0 (Y9 b).length),(.tmp 14,vI i)]) [(1,.live (Xf 25 (kSl false kU8) (Y9 b)))] rfl 0 0 rfl rfl rfl rfl rfl rfl rfl rfl rfl ⟨.inr (.inl ⟨rfl,pZv,rfl,rfl,by simp,25,(Y9 b).length,W7 (kSl false kU8) (Y9 b),List.Mem.head _,pZl,fun i j=>by rw [Nat.zero_add]⟩),⟨.inl ⟨rfl,rfl⟩,trivial⟩⟩ rfl pZ6 p4n (X3 rfl) trivial)] ?_
 refine T.ret ?_
 exact eX [.t 4 (.one (.d (dsl false false (Xa false) (Hv (Y9 b) i)))),.t 5 (.one (dI (X0z (Y9 b) i)))] ⟨⟨rfl,by kernel_rfl⟩,⟨⟨rfl,by kernel_rfl⟩,trivial⟩⟩ [] pZ29 trivial
abbrev Z52 (tb_:Bool) (b:Xq):List SV:=[dI b.Xg,dS b.Y0,.d (dsl tb_ false (kE tb_) b.Xb),.d (dsl tb_ false (Xe tb_) b.Xj)]
abbrev Z53 (tb_:Bool) (b:Xq) (i:Int):St:=⟨[.tv (.agg (Z52 tb_ b)),vI i,pv 0 0,aa,dv (.slice none 0 0),vI (Vd b),vI (Vd b),aa,aa,aa,vB (decide ((Vd b)≠0))],[.live (.box 65 (Z52 tb_ b))]⟩
theorem Xdr (tb_:Bool) (b:Xq) (i:Int) (hf:Hl b):Holds Tryz.prog 45 ⟨[.tv (.agg [dI b.Xg,dS b.Y0,.d (dsl tb_ false (kE tb_) b.Xb),.d (dsl tb_ false (Xe tb_) b.Xj)]),vI i],[],.tup [.one (.d (dsl false false (Xa false) (Is b i))),.one (dI (J8 b i))],[]⟩:=by
 refine Holds.of Tryz.func45 rfl (N:=18) Tryz.ntmps45 rfl fun w0 B0 S0 U0=>?_
 show T _ (Y2 18 0 w0 S0 U0 B0) ⟨[.tv (.agg (Z52 tb_ b)),vI i],[]⟩ _ _
 have hf1:=hf.1.1
 have hf2:=hf.2.1
 have hf3:=hf.2.2
 have hll:=U4 b
 have hfl:=J6 hf
 have hrl:=Ua hfl
 refine sR [] (sR [hR 1 rfl rfl (rCa (X6m tb_ b (by omega) (by omega)) Tryz.func92 [] [(.tmp 7,.tv (.agg (Z52 tb_ b)))] 0 0)] (T.seq (sR [] ?_)))
 by_cases hq1:(Vd b)≠0
 ·refine cT (dT hq1) (sR [] (T.ret (rT ?_)))
  refine eN (Z53 tb_ b i) ?_
  refine X7 (s':=⟨[.tv (.agg (Z52 tb_ b)),vI i,pv 0 0,aa,slV false false (Xa false) ([]:List Xz),vI (Vd b),vI (Vd b),aa,aa,aa,vB (decide ((Vd b)≠0))],[.live (.box 65 (Z52 tb_ b))]⟩) (fun _ _ hG=>Yt (s:=(Z53 tb_ b i)) (kk4 ⟨pZ5,p4k⟩) ⟨.inl rfl,trivial⟩ hG) ?_
  exact eX [.t 4 (.one (.d (dsl false false (Xa false) ([]:List Xz)))),.t 5 (.one (dI (Vd b)))] ⟨⟨rfl,by kernel_rfl⟩,⟨⟨rfl,by kernel_rfl⟩,trivial⟩⟩ [] p2p trivial
 refine cF (dF hq1) (T.skip (nT ?_))
 refine sR [hR 1 rfl rfl (rCa (X47 tb_ b p56) Tryz.func97 [1] [(.tmp 12,.tv (.agg (Z52 tb_ b)))] 0 1),hR 3 rfl rfl (Wu (Xg8 true false false (Y9 b) i ‹_›) Tryz.func99 rfl (by decide) [] [1] (l:=[(.tmp 13,Y8 1 (kSl false kU8) 0 (Y9 b).length),(.tmp 14,vI i)]) [(1,.live (Xf 25 (kSl false kU8) (Y9 b)))] rfl 0 0 rfl rfl rfl rfl rfl rfl rfl rfl rfl ⟨.inr (.inl ⟨rfl,pZv,rfl,rfl,by simp,25,(Y9 b).length,W7 (kSl false kU8) (Y9 b),List.Mem.head _,pZl,fun i j=>by rw [Nat.zero_add]⟩),⟨.inl ⟨rfl,rfl⟩,trivial⟩⟩ rfl pZ6 p4n (X3 rfl) trivial)] ?_
 refine T.ret ?_
 exact eX [.t 4 (.one (.d (dsl false false (Xa false) (Hv (Y9 b) i)))),.t 5 (.one (dI (X0z (Y9 b) i)))] ⟨⟨rfl,by kernel_rfl⟩,⟨⟨rfl,by kernel_rfl⟩,trivial⟩⟩ [] pZ29 trivial
theorem X9q (h:Yb) (i:Int) (te:Bool) (e:aE) (r:Y6) (tp:Bool) (np:Bool) (p:List Xz) (hp:I0 szS 70 30000 p) (hb:e.Xd.length≤500) (hn:h.Ye≤9223372036854775807):Holds Tryz.prog 47 ⟨[.tv (.agg [dI h.Xg,dS h.Y0,dI h.Ye,dS h.W3]),vI i,.tv (.agg [dI e.X5,.d (dsl te false kU8 e.Xd)]),.tv (.agg [dI r.Xt,dI r.Xn]),slV tp np (Xa false) p],[],vI (I1 h.W3 (Vr e r) i h.Ye p),[]⟩:=by
 refine Holds.of Tryz.func47 rfl (N:=21) Tryz.ntmps47 rfl fun w0 B0 S0 U0=>?_
 show T _ (Y2 21 0 w0 S0 U0 B0) ⟨[.tv (.agg [dI h.Xg,dS h.Y0,dI h.Ye,dS h.W3]),vI i,.tv (.agg [dI e.X5,.d (dsl te false kU8 e.Xd)]),.tv (.agg [dI r.Xt,dI r.Xn]),slV tp np (Xa false) p],[]⟩ _ _
 have hlf:=X5q e r
 refine sR [] ?_
 refine sD [[],[0],[],[],[2,3],[],[],[6],[],[0,1,2,3,4,5,6,7,8],[0,1,2,3,4,5,6,7,8,9]] [hR 4 rfl rfl (rCa (X9p te e r (by omega)) Tryz.func101 [3] [(.tmp 13,.tv (.agg [dI e.X5,.d (dsl te false kU8 e.Xd)])),(.tmp 14,.tv (.agg [dI r.Xt,dI r.Xn]))] 0 1),hR 9 rfl rfl (Wu (Xcb h.W3 true false (Vr e r) i h.Ye tp np p ‹_› (by omega) ‹_›) Tryz.func100 rfl (by decide) [] [3] (l:=[(.tmp 12,dv (Yk h.W3)),(.tmp 15,Y8 3 kU8 0 (Vr e r).length),(.tmp 16,vI i),(.tmp 18,vI h.Ye),(.tmp 19,slV tp np (Xa false) p)]) [(3,.live (Xf 5 kU8 (Vr e r)))] rfl 0 0 rfl rfl rfl rfl rfl rfl rfl rfl rfl ⟨.inl ⟨rfl,rfl⟩,⟨.inr (.inl ⟨rfl,pZv,rfl,rfl,by simp,5,(Vr e r).length,W7 kU8 (Vr e r),List.Mem.head _,pZl,fun i j=>by rw [Nat.zero_add]⟩),⟨.inl ⟨rfl,rfl⟩,⟨.inl ⟨rfl,rfl⟩,⟨.inl ⟨rfl,rfl⟩,trivial⟩⟩⟩⟩⟩ rfl pZ6 p2v (X3 rfl) trivial)] ?_
 refine T.ret ?_
 exact eRt 10 (.one (dI (I1 h.W3 (Vr e r) i h.Ye p))) [] rfl trivial
theorem Xkf (ta:Bool) (na:Bool) (a:List aE) (hp:a.length≤1000000):Holds Tryz.prog 134 ⟨[slV ta na (kE false) a],[],Y8 0 (kE false) 0 a.length,[.live (Xf 43 (kE false) a)]⟩:=by
 refine Holds.of Tryz.func134 rfl (N:=8) Tryz.ntmps134 rfl fun w0 B0 S0 U0=>?_
 show T _ (Y2 8 0 w0 S0 U0 B0) ⟨[slV ta na (kE false) a],[]⟩ _ _
 cases na
 ·refine Xd0 (k:=0) rfl (fun h0=>?_) ?_
  ·have h0:=List.eq_nil_of_length_eq_zero h0
   subst h0
   show T _ _ ⟨[dv (.slice none 0 0)],[]⟩ _ _
   refine sR [] (T.seq (sR [hR 1 rfl rfl (Yd (u1:=.slice none 0 0) (u2:=.slice none 0 0) (v:=.bool true) (X63 Tryz.underlying37) (X3 rfl) ⟨rfl,trivial⟩)] (cT (b:=true) rfl (sR [] (T.ret (rT ?_))))))
   refine eN ⟨[dv (.slice none 0 0),aa,dv (.slice none 0 0),aa,vB true],[]⟩ ?_
   refine X7 (s':=⟨[dv (.slice none 0 0),aa,Y8 0 (kE false) 0 0,aa,vB true],[.live (Xf 43 (kE false) ([]:List aE))]⟩) (fun _ _ hG=>U5 0 2 43 (kE false) rfl rfl hG) ?_
   exact eRt 2 (.one (.own 0 (kE false).sz 0 0)) [0] (congrArg (fun (q1:Nat)=>(Y8 0 (kE false) 0 q1:AV)) (by rfl)) (ix trivial)
  show T _ _ ⟨[slV ta true (kE false) a],[]⟩ _ _
  refine sR [] (T.seq (sR [hR 1 rfl rfl (X2k (s:=.d (dsl ta true (kE false) a)) Tryz.underlying37 (.inl rfl) (X3 rfl) ⟨rfl,trivial⟩)] (cF (b:=false) rfl (T.skip (nT ?_)))))
  refine sR [hR 0 rfl rfl (Yc 0 43 (kE false) (W4 false) ([]:List aE) [] (cs:=[]) Tryz.underlying37 Vi rfl F4 rfl rfl rfl pd W5 pZ8 (V4 pZ8) (X3 rfl) trivial),hR 2 rfl rfl (W2 0 1 43 32 (kE false) (W4 false) ([]:List aE) a a ([]:List aE).length (sy:=(.d (dsl ta true (kE false) a))) (rhs:=[]) F9 (by omega) (Jf ta true (kE false) a) (by simp) (by (simp [maxLen,-List.getD_eq_getElem?_getD]<;>omega)) (by (simp [maxLen,-List.getD_eq_getElem?_getD]<;>omega)) (X3 rfl) trivial)] ?_
  refine T.ret ?_
  exact eRt 2 (.one (.own 1 (kE false).sz 0 a.length)) [1] rfl (ix trivial)
 refine sR [] (T.seq (sR [hR 1 rfl rfl (X2k (s:=.d (dsl ta true (kE false) a)) Tryz.underlying37 (.inl rfl) (X3 rfl) ⟨rfl,trivial⟩)] (cF (b:=false) rfl (T.skip (nT ?_)))))
 refine sR [hR 0 rfl rfl (Yc 0 43 (kE false) (W4 false) ([]:List aE) [] (cs:=[]) Tryz.underlying37 Vi rfl F4 rfl rfl rfl pd W5 pZ8 (V4 pZ8) (X3 rfl) trivial),hR 2 rfl rfl (W2 0 1 43 32 (kE false) (W4 false) ([]:List aE) a a ([]:List aE).length (sy:=(.d (dsl ta true (kE false) a))) (rhs:=[]) F9 (by omega) (Jf ta true (kE false) a) (by simp) (by (simp [maxLen,-List.getD_eq_getElem?_getD]<;>omega)) (by (simp [maxLen,-List.getD_eq_getElem?_getD]<;>omega)) (X3 rfl) trivial)] ?_
 refine T.ret ?_
 exact eRt 2 (.one (.own 1 (kE false).sz 0 a.length)) [1] rfl (ix trivial)
theorem X79:Zero Tryz.prog 46 [.int .i64 0,.int .i64 0]:=⟨_,_,Ej,rfl,rfl⟩
theorem X7l:Elem Tryz.prog 63 46 2 16:=⟨Tryz.underlying63,_,_,Ej,rfl,rfl,rfl,rfl,by decide⟩
theorem Xke (ta:Bool) (na:Bool) (a:List Y6) (hp:a.length≤1000000):Holds Tryz.prog 133 ⟨[slV ta na (Xe false) a],[],Y8 0 (Xe false) 0 a.length,[.live (Xf 46 (Xe false) a)]⟩:=by
 refine Holds.of Tryz.func133 rfl (N:=8) Tryz.ntmps133 rfl fun w0 B0 S0 U0=>?_
 show T _ (Y2 8 0 w0 S0 U0 B0) ⟨[slV ta na (Xe false) a],[]⟩ _ _
 cases na
 ·refine Xd0 (k:=0) rfl (fun h0=>?_) ?_
  ·have h0:=List.eq_nil_of_length_eq_zero h0
   subst h0
   show T _ _ ⟨[dv (.slice none 0 0)],[]⟩ _ _
   refine sR [] (T.seq (sR [hR 1 rfl rfl (Yd (u1:=.slice none 0 0) (u2:=.slice none 0 0) (v:=.bool true) (X63 Tryz.underlying63) (X3 rfl) ⟨rfl,trivial⟩)] (cT (b:=true) rfl (sR [] (T.ret (rT ?_))))))
   refine eN ⟨[dv (.slice none 0 0),aa,dv (.slice none 0 0),aa,vB true],[]⟩ ?_
   refine X7 (s':=⟨[dv (.slice none 0 0),aa,Y8 0 (Xe false) 0 0,aa,vB true],[.live (Xf 46 (Xe false) ([]:List Y6))]⟩) (fun _ _ hG=>U5 0 2 46 (Xe false) rfl rfl hG) ?_
   exact eRt 2 (.one (.own 0 (Xe false).sz 0 0)) [0] (congrArg (fun (q1:Nat)=>(Y8 0 (Xe false) 0 q1:AV)) (by rfl)) (ix trivial)
  show T _ _ ⟨[slV ta true (Xe false) a],[]⟩ _ _
  refine sR [] (T.seq (sR [hR 1 rfl rfl (X2k (s:=.d (dsl ta true (Xe false) a)) Tryz.underlying63 (.inl rfl) (X3 rfl) ⟨rfl,trivial⟩)] (cF (b:=false) rfl (T.skip (nT ?_)))))
  refine sR [hR 0 rfl rfl (Yc 0 46 (Xe false) (Vz false) ([]:List Y6) [] (cs:=[]) Tryz.underlying63 Ej rfl X79 rfl rfl rfl pd W5 pZ8 (V4 pZ8) (X3 rfl) trivial),hR 2 rfl rfl (W2 0 1 46 16 (Xe false) (Vz false) ([]:List Y6) a a ([]:List Y6).length (sy:=(.d (dsl ta true (Xe false) a))) (rhs:=[]) X7l (by omega) (Jf ta true (Xe false) a) (by simp) (by (simp [maxLen,-List.getD_eq_getElem?_getD]<;>omega)) (by (simp [maxLen,-List.getD_eq_getElem?_getD]<;>omega)) (X3 rfl) trivial)] ?_
  refine T.ret ?_
  exact eRt 2 (.one (.own 1 (Xe false).sz 0 a.length)) [1] rfl (ix trivial)
 refine sR [] (T.seq (sR [hR 1 rfl rfl (X2k (s:=.d (dsl ta true (Xe false) a)) Tryz.underlying63 (.inl rfl) (X3 rfl) ⟨rfl,trivial⟩)] (cF (b:=false) rfl (T.skip (nT ?_)))))
 refine sR [hR 0 rfl rfl (Yc 0 46 (Xe false) (Vz false) ([]:List Y6) [] (cs:=[]) Tryz.underlying63 Ej rfl X79 rfl rfl rfl pd W5 pZ8 (V4 pZ8) (X3 rfl) trivial),hR 2 rfl rfl (W2 0 1 46 16 (Xe false) (Vz false) ([]:List Y6) a a ([]:List Y6).length (sy:=(.d (dsl ta true (Xe false) a))) (rhs:=[]) X7l (by omega) (Jf ta true (Xe false) a) (by simp) (by (simp [maxLen,-List.getD_eq_getElem?_getD]<;>omega)) (by (simp [maxLen,-List.getD_eq_getElem?_getD]<;>omega)) (X3 rfl) trivial)] ?_
 refine T.ret ?_
 exact eRt 2 (.one (.own 1 (Xe false).sz 0 a.length)) [1] rfl (ix trivial)
theorem zero_65:Zero Tryz.prog 65 [.int .i64 0,Yk [],.slice none 0 0,.slice none 0 0]:=⟨_,_,X5u,rfl,rfl⟩
section
variable (b:Xq) (k:Nat)
abbrev Z54:SV:=dI b.Xg
abbrev Z55:SV:=dS b.Y0
abbrev Z56:SV:=.d (dsl false false (kE false) b.Xb)
abbrev Z57:List SV:=[(Z54 b),(Z55 b),(Z56 b),.d (dsl false false (Xe false) b.Xj)]
abbrev Z58:AV:=vI ((b.Xb.length:Nat):Int)
abbrev Z59:List AV:=[aa,pv 0 0,pv 3 0,aa,aa,aa,aa,aa,aa,aa,aa,aa,aa,aa,(Z58 b),vI ((k:Nat):Int)]
abbrev Z5a:SV:=.own 2 (Xe false).sz 0 b.Xj.length
abbrev Z5b:HS:=.live (.box 65 [(Z54 b),(Z55 b),.own 1 (kE false).sz 0 b.Xb.length,(Z5a b)])
abbrev Z5c:HS:=.live (Xf 43 (kE false) b.Xb)
abbrev Z5d:HS:=.live (Xf 46 (Xe false) b.Xj)
abbrev Z5e:HS:=.live (.box 65 [dI 0,dS [],.d (.val (.slice none 0 0)),.d (.val (.slice none 0 0))])
abbrev Z5f:List HS:=[(Z5b b),(Z5c b),(Z5d b),Z5e]
abbrev Z5g:DV:=dsl false false kU8 (b.Xb.getD k zE).Xd
abbrev Z5i:List AV:=[aa,pv 0 0,pv 3 0,aa,aa,aa,aa,aa,aa,aa,aa,aa,aa,aa,(Z58 b),vI ((k:Nat):Int),vB (decide (((k:Nat):Int)<((b.Xb.length:Nat):Int)))]
abbrev Z5j:St:=⟨(Z5i b k),[.live (.box 65 [(Z54 b),(Z55 b),(Z56 b),(Z5a b)]),.dead,(Z5d b),.live (.box 65 [(Z54 b),(Z55 b),(Z56 b),(Z5a b)])]⟩
end
theorem X6t (b:Xq) (hf:Hl b):Holds Tryz.prog 90 ⟨[.tv (.agg [dI b.Xg,dS b.Y0,.d (dsl false false (kE false) b.Xb),.d (dsl false false (Xe false) b.Xj)])],[],.tv (.agg [dI b.Xg,dS b.Y0,.d (dsl false false (kE false) b.Xb),.d (dsl false false (Xe false) b.Xj)]),[]⟩:=by
 refine Holds.of Tryz.func90 rfl (N:=32) Tryz.ntmps90 rfl fun w0 B0 S0 U0=>?_
 show T _ (Y2 32 0 w0 S0 U0 B0) ⟨[.tv (.agg (Z57 b))],[]⟩ _ _
 have hf1:=hf.1.1
 have hf2:=hf.2.1
 have hf3:=hf.2.2
 refine sR [] (sR [hR 2 rfl rfl (rCa (Xke false false b.Xj (by omega)) Tryz.func133 [2] [(.tmp 5,slV false false (Xe false) b.Xj)] 0 1)] (sR [hR 2 rfl rfl (rCa (Xkf false false b.Xb (by omega)) Tryz.func134 [3] [(.tmp 9,slV false false (kE false) b.Xb)] 0 1)] (T.seq (sR [] (T.block ?_)))))
 refine T.loop (ι:=Nat) (fun (k:Nat)=>⟨(Z59 b k),(Z5f b)⟩) (fun (k:Nat)=>(k≤b.Xb.length)) (fun (k:Nat)=>b.Xb.length-k) (0) (Nat.zero_le _) (fun _ _ hG=>Wf [0,3,2,1] (bm 16 49158) (t1:=[aa,pv 0 0,pv 1 0,aa,aa,aa,aa,aa,aa,aa,aa,aa,aa,aa,(Z58 b),vI 0]) (h1:=[.live (.box 65 [(Z54 b),(Z55 b),.own 3 (kE false).sz 0 b.Xb.length,(Z5a b)]),(Z5c b),(Z5d b),Z5e]) rfl rfl hG) ?_
 rintro k hk
 show T _ _ ⟨(Z59 b k),(Z5f b)⟩ _ _
 replace hk:k≤b.Xb.length:=hk
 have hf1:=hf.1.1
 have hf2:=hf.2.1
 have hf3:=hf.2.2
 have hbk:(b.Xb.getD k zE).Xd.length≤500:=Iu (sz:=szE) hf.1 (by decide) k
 refine sR [] (T.seq ?_)
 by_cases hq1:((k:Nat):Int)<((b.Xb.length:Nat):Int)
 ·refine cT (dT hq1) (T.skip (nT (T.seq (T.block (sR [] ?_)))))
  refine xD [[],[0],[],[],[3],[],[3,4,5],[3,4,5,6],[3,4,5,6,7],[3,4,5,6,7,8],[0,1,2,3,4,5,6,7,8,9],[0,1,2,3,4,5,6,7,8,9,10],[0,1,2,3,4,5,6,7,8,9,10,11]] [hR 6 rfl rfl (Vh (k:=.i64) (l:=1) (sz:=(kE false).sz) (off:=0) (n:=b.Xb.length) (i:=((k:Nat):Int)) (m:=k) (o':=k*(kE false).sz+0) Tryz.underlying37 Vi rfl rfl (by omega) (by simp) (X3 rfl) trivial),hR 8 rfl rfl (F7 (l:=1) (off:=k*(kE false).sz+1) (i:=k) (j:=1) (T:=43) (sz:=(kE false).sz) (n:=b.Xb.length) (el:=W7 (kE false) b.Xb) (c:=(Z5g b k)) Xhl rfl (by omega) (by decide) rfl (X3 rfl) trivial),hR 9 rfl rfl (rCa (Fs false false (b.Xb.getD k zE).Xd (by omega)) Tryz.func51 [4] [(.tmp 26,slV false false kU8 (b.Xb.getD k zE).Xd)] 0 1),hR 10 rfl rfl (Vh (k:=.i64) (l:=1) (sz:=(kE false).sz) (off:=0) (n:=b.Xb.length) (i:=((k:Nat):Int)) (m:=k) (o':=k*(kE false).sz+0) Tryz.underlying37 Vi rfl rfl (by omega) (by simp) (X3 rfl) trivial),hR 12 rfl rfl (Uz 1 27 4 5 kU8 (b.Xb.getD k zE).Xd (av:=Y8 4 kU8 0 (b.Xb.getD k zE).Xd.length) (Fi 1 43 (kE false) b.Xb (b.Xb.getD k zE) k 1 1 [(Z5g b k)] (tv:=.one (.d ((Z5g b k)))) (off:=k*(kE false).sz+1) Xfe ⟨.inl rfl,trivial⟩ rfl rfl (by omega) (by decide) rfl (by intro j hj;replace hj:j<2:=hj;rcases j with _|_|j<;>rfl) trivial) rfl (.inr pZ0) X71 rfl rfl)] pZ8 pZ8 pZ8 pZ8 pZ8 pZ8 ?_
  refine nB (nT (xK [hR 0 rfl rfl (Yd (u1:=.int .i64 ((k:Nat):Int)) (u2:=.int .i64 1) (v:=.int .i64 ((k+1:Nat):Int)) (Wb pc) (X3 rfl) ⟨rfl,trivial⟩)] ?_))
  refine nL (k+1) (show (k+1)≤b.Xb.length from (by omega)) (show (b.Xb.length-(k+1):Nat)<b.Xb.length-k from (by omega)) (fun _ _ hG=>Yv [0,1,2,3] (bm 16 49158) (h2:=[(Z5b b),.live (Xf 43 (kE false) (b.Xb.set k (b.Xb.getD k zE))),(Z5d b),Z5e]) rfl (by have e1:(b.Xb:List aE)=(b.Xb.set k (b.Xb.getD k zE)):=(by (rw [set_same (by omega)];done));have hE:=congrArg (fun (q1:List aE)=>([(Z5b b),.live (Xf 43 (kE false) q1),(Z5d b),Z5e]:List HS)) e1;exact hE) hG)
 refine cF (dF hq1) (T.exit (xT (xT (xH (nT (sR [] (T.ret ?_)))))))
 refine eN ⟨(Z5i b k),[(Z5b b),(Z5c b),(Z5d b),(Z5b b)]⟩ ?_
 refine X7 (s':=(Z5j b k)) (fun _ _ hG=>Gs.freeze (s:=⟨(Z5i b k),[(Z5b b),(Z5c b),(Z5d b),(Z5b b)]⟩) 1 (el:=W7 (kE false) b.Xb) (sz:=(kE false).sz) (n:=b.Xb.length) rfl ⟨.inl rfl,(X3o trivial)⟩ ⟨pZ23,⟨(.inl ⟨rfl,rfl⟩),⟨pZ9,⟨pZ23,trivial⟩⟩⟩⟩ hG) ?_
 refine eN (Z5j b k) ?_
 refine X7 (s':=⟨(Z5i b k),[.live (.box 65 (Z57 b)),.dead,.dead,.live (.box 65 (Z57 b))]⟩) (fun _ _ hG=>Gs.freeze (s:=(Z5j b k)) 2 (el:=W7 (Xe false) b.Xj) (sz:=(Xe false).sz) (n:=b.Xj.length) rfl ⟨.inl rfl,(X3o trivial)⟩ ⟨pZ22,⟨pZ9,⟨(.inl ⟨rfl,rfl⟩),⟨pZ22,trivial⟩⟩⟩⟩ hG) ?_
 exact eX [.c 2 3 65 0 65 [(Z54 b),(Z55 b),(Z56 b),.d (dsl false false (Xe false) b.Xj)] (.agg (Z57 b))] ⟨⟨rfl,rfl,by kernel_rfl,by kernel_rfl,.inl ⟨4,H5,rfl,Nat.le_of_ble_eq_true rfl⟩⟩,trivial⟩ [] rfl trivial
abbrev Z5k:SV:=dS (ofB (6:UInt8) ([]:List (List UInt8)))
theorem Xgv:Holds Tryz.prog 36 ⟨[],[],pv 0 0,[.live (.box 149 [dI 0,dS (ofB 6 ([]:List (List UInt8))),dB true,.own 1 (Xk false).sz 0 ([]:List Yq).length]),.live (Xf 152 (Xk false) ([]:List Yq))]⟩:=by
 refine Holds.of Tryz.func36 rfl (N:=5) Tryz.ntmps36 rfl fun w0 B0 S0 U0=>?_
 show T _ (Y2 5 0 w0 S0 U0 B0) ⟨[],[]⟩ _ _
 refine sR [] (sR [hR 0 rfl rfl (rCn (X3x (6:UInt8) false false false ([]:List (List UInt8)) (by decide)) Tryz.func84 [] [(.const (.int .u8 6),dv (.int .u8 6)),(.const (.slice none 0 0),dv (.slice none 0 0))] 0 0 ⟨.inl ⟨rfl,rfl⟩,⟨.inr pZ5,trivial⟩⟩ ⟨rfl,⟨rfl,trivial⟩⟩)] (T.ret ?_))
 refine eN ⟨[pv 0 0],[.live (.box 149 [dI 0,Z5k,dB true,.d (.val (.slice none 0 0))])]⟩ ?_
 refine X7 (s':=⟨[pv 0 0],[.live (.box 149 [dI 0,Z5k,dB true,.own 1 (Xk false).sz 0 0]),.live (Xf 152 (Xk false) ([]:List Yq))]⟩) (fun _ _ hG=>J7 1 0 3 152 (Xk false) (Tb:=149) (cs:=[dI 0,Z5k,dB true,.d (.val (.slice none 0 0))]) rfl rfl rfl hG) ?_
 exact eRt 0 (.one (.ptr 0 0)) [0,1] rfl ⟨⟨rfl,(by have e1:((ofB (6:UInt8) ([]:List (List UInt8))):List UInt8)=(ofB 6 ([]:List (List UInt8))):=(by rfl);have e2:(0:Nat)=([]:List Yq).length:=(by rfl);have hE:=congr (congrArg (fun (q1:List UInt8) (q2:Nat)=>(.live (.box 149 [dI 0,dS q1,dB true,.own 1 (Xk false).sz 0 q2]):HS)) e1) e2;exact Eq.trans pZ8 hE)⟩,(ix trivial)⟩
theorem X35 (h:Int) (d:List UInt8) (l:List Yq) (hh:0≤h∧h≤1099511627776) (hl:l.length≤100):Holds Tryz.prog 88 ⟨[pv 0 0],[.box 149 [dI h,dS d,dB true,.own 1 (Xk false).sz 0 l.length],Xf 152 (Xk false) l],vI (h+((l.length:Nat):Int)),[.live (.box 149 [dI h,dS d,dB true,.own 1 (Xk false).sz 0 l.length]),.live (Xf 152 (Xk false) l)]⟩:=by
 refine Holds.of Tryz.func88 rfl (N:=16) Tryz.ntmps88 rfl fun w0 B0 S0 U0=>?_
 show T _ (Y2 16 2 w0 S0 U0 B0) ⟨[pv 0 0],[.live (.box 149 [dI h,dS d,dB true,.own 1 (Xk false).sz 0 l.length]),.live (Xf 152 (Xk false) l)]⟩ _ _
 refine sR [] (T.seq (sR [] (cF (b:=false) rfl (T.skip (nT ?_)))))
 refine sD [[],[0],[0,1],[0,1,2],[0,1,2,3],[],[5],[5,6],[5,6,7],[5,6,7,8],[0,1,2,3,4,5,6,7,8,9],[0,1,2,3,4,5,6,7,8,9,10]] [hR 10 rfl rfl (Yd (u1:=.int .i64 h) (u2:=.int .i64 ((l.length:Nat):Int)) (v:=.int .i64 (h+((l.length:Nat):Int))) (Wb pc) (X3 rfl) trivial)] (T.ret ?_)
 exact eRt 2 (.one (dI (h+((l.length:Nat):Int)))) [0,1] rfl (ix (ix trivial))
theorem X4l:Tryz.prog.info? 152=some Tryz.t152:=by kernel_rfl
theorem Xeg (h:Int) (d:List UInt8) (l:List Yq) (hh:0≤h∧h≤1099511627776) (hl:l.length≤100):Holds Tryz.prog 89 ⟨[pv 0 0],[.box 149 [dI h,dS d,dB true,.own 1 (Xk false).sz 0 l.length],Xf 152 (Xk false) l],dv (Yk (hdL d l)),[.live (.box 149 [dI h,dS d,dB true,.own 1 (Xk false).sz 0 l.length]),.live (Xf 152 (Xk false) l)]⟩:=by
 refine Holds.of Tryz.func89 rfl (N:=27) Tryz.ntmps89 rfl fun w0 B0 S0 U0=>?_
 show T _ (Y2 27 2 w0 S0 U0 B0) ⟨[pv 0 0],[.live (.box 149 [dI h,dS d,dB true,.own 1 (Xk false).sz 0 l.length]),.live (Xf 152 (Xk false) l)]⟩ _ _
 refine sR [] (T.seq (sR [] (cF (b:=false) rfl (T.skip (nT (T.seq (sR [] (sR [] ?_))))))))
 by_cases hq1:((l.length:Nat):Int)>0
 ·refine cT (dT hq1) (sR [hR 5 rfl rfl (Yd (u1:=.int .i64 ((l.length:Nat):Int)) (u2:=.int .i64 1) (v:=.int .i64 ((l.length-1:Nat):Int)) (Ug pc) (X3 rfl) ⟨rfl,trivial⟩),hR 6 rfl rfl (Vh (k:=.i64) (l:=1) (sz:=(Xk false).sz) (off:=0) (n:=l.length) (i:=((l.length-1:Nat):Int)) (m:=(l.length-1)) (o':=(l.length-1)*(Xk false).sz+0) Tryz.underlying147 X4l rfl rfl (by omega) (by simp) (X3 rfl) trivial),hR 8 rfl rfl (F7 (l:=1) (off:=(l.length-1)*(Xk false).sz+4) (i:=l.length-1) (j:=4) (T:=152) (sz:=(Xk false).sz) (n:=l.length) (el:=W7 (Xk false) l) (c:=.val (Yk (l.getD (l.length-1) Wl).X24)) X2e rfl (by omega) (by decide) rfl (X3 rfl) trivial)] (T.ret (rT ?_)))
  exact eRt 2 (.one (dS (l.getD (l.length-1) Wl).X24)) [0,1] (by have e1:((hdL d l):List UInt8)=(l.getD (l.length-1) Wl).X24:=(by (unfold hdL;rw [if_neg (by omega)]));have hE:=congrArg (fun (q1:List UInt8)=>(dv (Yk q1):AV)) e1;exact hE) (ix (ix trivial))
 refine cF (dF hq1) (T.skip (nT (sR [] (T.ret ?_))))
 exact eRt 2 (.one (dS d)) [0,1] (by have e1:((hdL d l):List UInt8)=d:=(by (unfold hdL;rw [if_pos (by omega)]));have hE:=congrArg (fun (q1:List UInt8)=>(dv (Yk q1):AV)) e1;exact hE) (ix (ix trivial))
theorem zero_152:Zero Tryz.prog 152 [.int .i64 0,Yk [],.slice none 0 0,.slice none 0 0,Yk []]:=⟨_,_,X4l,rfl,rfl⟩
theorem elem_147:Elem Tryz.prog 147 152 5 88:=⟨Tryz.underlying147,_,_,X4l,rfl,rfl,rfl,rfl,by decide⟩
section
variable (h:Int) (d:List UInt8) (l:List Yq) (b:Xq)
abbrev Z5l:SV:=.d (dsl false false (kE false) b.Xb)
abbrev Z5m:SV:=.d (dsl false false (Xe false) b.Xj)
abbrev Z5n:List SV:=[dI b.Xg,dS b.Y0,(Z5l b),(Z5m b)]
abbrev Z5o:HS:=.live (.box 149 [dI h,dS d,dB true,.own 1 (Xk false).sz 0 l.length])
abbrev Z5p:HObj:=Xf 152 (Xk false) l
abbrev Z5q:List AV:=[pv 0 0,.tv (.agg (Z5n b)),aa,pv 2 0,vI (Vd b),vI (Vd b),aa,aa,aa,aa,aa,aa,aa,aa,vB (!true),aa,aa,vB (decide ((Vd b)≠0))]
abbrev Z5r:List HS:=[(Z5o h d l),.live ((Z5p l)),.live (.box 65 (Z5n b))]
abbrev Z5s:List HS:=[.live (.box 149 [dI h,dS d,dB true,.own 3 (Xk false).sz 0 l.length]),.dead,.live (.box 65 (Z5n b)),.live ((Z5p l))]
abbrev Z5t:List AV:=[pv 0 0,.tv (.agg (Z5n b)),aa,pv 2 0,vI 100,vI (Vd b),aa,aa,aa,aa,aa,aa,aa,aa,vB (!true),aa,aa,vB (decide ((Vd b)≠0)),aa,aa,aa,vB (decide ((b.Xg-1)≠(h+((l.length:Nat):Int))))]
abbrev Z5u:List AV:=[pv 0 0,.tv (.agg (Z5n b)),aa,pv 2 0,vI 101,vI (Vd b),aa,aa,aa,aa,aa,aa,aa,aa,vB (!true),aa,aa,vB (decide ((Vd b)≠0)),aa,aa,aa,vB (decide ((b.Xg-1)≠(h+((l.length:Nat):Int)))),aa,aa,aa,aa,aa,aa,vB (decide (b.Y0≠(hdL d l)))]
end
theorem Xac (h:Int) (d:List UInt8) (l:List Yq) (b:Xq) (hh:0≤h∧h≤1099511627776) (hl:l.length≤100) (hf:Hl b):Holds Tryz.prog 39 ⟨[pv 0 0,.tv (.agg [dI b.Xg,dS b.Y0,.d (dsl false false (kE false) b.Xb),.d (dsl false false (Xe false) b.Xj)])],[.box 149 [dI h,dS d,dB true,.own 1 (Xk false).sz 0 l.length],Xf 152 (Xk false) l],vI (X4z h d l b),[.live (.box 149 [dI h,dS d,dB true,.own 2 (Xk false).sz 0 (X0v h d l b).length]),.dead,.live (Xf 152 (Xk false) (X0v h d l b))]⟩:=by
 refine Holds.of Tryz.func39 rfl (N:=49) Tryz.ntmps39 rfl fun w0 B0 S0 U0=>?_
 show T _ (Y2 49 2 w0 S0 U0 B0) ⟨[pv 0 0,.tv (.agg (Z5n b))],[(Z5o h d l),.live ((Z5p l))]⟩ _ _
 have hf1:=hf.1.1
 have hf2:=hf.2.1
 have hf3:=hf.2.2
 have hdf:=Xem hf
 have hg1:=hdf.1
 have hg2:=hdf.2.1
 refine sR [] (T.seq (sR (Xm hY0 [3,4,5,6,7] (hP0 8::[])) (cF (b:=(!true)) rfl (T.skip (nT (T.seq (sR [hR 1 rfl rfl (rCa (X6u false b (by omega) (by omega)) Tryz.func87 [] [(.tmp 15,.tv (.agg (Z5n b)))] 0 0)] (T.block (sR [] ?_)))))))))
 by_cases hq1:(Vd b)≠0
 ·refine cT (dT hq1) (sR [] (T.ret (rB (rT ?_))))
  refine eN ⟨(Z5q b),(Z5r h d l b)⟩ ?_
  refine X7 (s':=⟨(Z5q b),(Z5s h d l b)⟩) (fun _ _ hG=>Gs.move (s:=⟨(Z5q b),(Z5r h d l b)⟩) 1 3 (o:=(Z5p l)) rfl rfl rfl p58 ⟨(.inr pZ14),⟨(.inl ⟨rfl,rfl⟩),⟨(.inr p1e),⟨(.inr (.inl ⟨rfl,rfl⟩)),trivial⟩⟩⟩⟩ hG) ?_
  exact eRt 4 (.one (dI (Vd b))) [0,1,3] (cI (by (have hx:=X7q (h:=h) (d:=d) (l:=l) (b:=b) ‹_› ;exact hx.1))) ⟨⟨rfl,(by have e1:(l.length:Nat)=(X0v h d l b).length:=(by (have hx:=X7q (h:=h) (d:=d) (l:=l) (b:=b) ‹_› ;(rw [hx.2];done)));have hE:=congrArg (fun (q1:Nat)=>(.live (.box 149 [dI h,dS d,dB true,.own 3 (Xk false).sz 0 q1]):HS)) e1;exact Eq.trans pZ8 hE)⟩,⟨⟨rfl,(by have e1:(l:List Yq)=(X0v h d l b):=(by (have hx:=X7q (h:=h) (d:=d) (l:=l) (b:=b) ‹_› ;exact hx.2.symm));have hE:=congrArg (fun (q1:List Yq)=>(.live (Xf 152 (Xk false) q1):HS)) e1;exact Eq.trans pZ8 hE)⟩,trivial⟩⟩
 have hca:=Xiu (Classical.not_not.1 hq1)
 refine cF (dF hq1) ?_
 refine sD [[],[0],[0,1],[],[3],[0,1,2,3,4],[0,1,2,3,4,5]] [hR 2 rfl rfl (Yd (u1:=.int .i64 b.Xg) (u2:=.int .i64 1) (v:=.int .i64 (b.Xg-1)) (Ug pc) (X3 rfl) ⟨rfl,trivial⟩),hR 4 rfl rfl (rCa (X35 h d l ‹_› ‹_›) Tryz.func88 [0,1] [(.tmp 25,pv 0 0)] 2 2)] ?_
 by_cases hq2:(b.Xg-1)≠(h+((l.length:Nat):Int))
 ·refine cT (dT hq2) (sR [] (T.ret (rB (rT ?_))))
  refine eN ⟨(Z5t h l b),(Z5r h d l b)⟩ ?_
  refine X7 (s':=⟨(Z5t h l b),(Z5s h d l b)⟩) (fun _ _ hG=>Gs.move (s:=⟨(Z5t h l b),(Z5r h d l b)⟩) 1 3 (o:=(Z5p l)) rfl rfl rfl p3i ⟨(.inr pZ14),⟨(.inl ⟨rfl,rfl⟩),⟨(.inr p1e),⟨(.inr (.inl ⟨rfl,rfl⟩)),trivial⟩⟩⟩⟩ hG) ?_
  exact eRt 4 (.one (dI 100)) [0,1,3] (cI (by (have hx:=X7p (h:=h) (d:=d) (l:=l) (b:=b) ‹_› ‹_› ;exact hx.1))) ⟨⟨rfl,(by have e1:(l.length:Nat)=(X0v h d l b).length:=(by (have hx:=X7p (h:=h) (d:=d) (l:=l) (b:=b) ‹_› ‹_› ;(rw [hx.2];done)));have hE:=congrArg (fun (q1:Nat)=>(.live (.box 149 [dI h,dS d,dB true,.own 3 (Xk false).sz 0 q1]):HS)) e1;exact Eq.trans pZ8 hE)⟩,⟨⟨rfl,(by have e1:(l:List Yq)=(X0v h d l b):=(by (have hx:=X7p (h:=h) (d:=d) (l:=l) (b:=b) ‹_› ‹_› ;exact hx.2.symm));have hE:=congrArg (fun (q1:List Yq)=>(.live (Xf 152 (Xk false) q1):HS)) e1;exact Eq.trans pZ8 hE)⟩,trivial⟩⟩
 refine cF (dF hq2) ?_
 refine sD [[],[0],[],[2],[0,1,2,3],[0,1,2,3,4]] [hR 3 rfl rfl (rCa (Xeg h d l ‹_› ‹_›) Tryz.func89 [0,1] [(.tmp 31,pv 0 0)] 2 2)] ?_
 by_cases hq3:b.Y0≠(hdL d l)
 ·refine cT (dT hq3) (sR [] (T.ret (rB (rT ?_))))
  refine eN ⟨(Z5u h d l b),(Z5r h d l b)⟩ ?_
  refine X7 (s':=⟨(Z5u h d l b),(Z5s h d l b)⟩) (fun _ _ hG=>Gs.move (s:=⟨(Z5u h d l b),(Z5r h d l b)⟩) 1 3 (o:=(Z5p l)) rfl rfl rfl ⟨.inl rfl,(kk4 p2y)⟩ ⟨(.inr pZ14),⟨(.inl ⟨rfl,rfl⟩),⟨(.inr p1e),⟨(.inr (.inl ⟨rfl,rfl⟩)),trivial⟩⟩⟩⟩ hG) ?_
  exact eRt 4 (.one (dI 101)) [0,1,3] (cI (by (have hx:=X7o (h:=h) (d:=d) (l:=l) (b:=b) ‹_› ‹_› ‹_› ;exact hx.1))) ⟨⟨rfl,(by have e1:(l.length:Nat)=(X0v h d l b).length:=(by (have hx:=X7o (h:=h) (d:=d) (l:=l) (b:=b) ‹_› ‹_› ‹_› ;(rw [hx.2];done)));have hE:=congrArg (fun (q1:Nat)=>(.live (.box 149 [dI h,dS d,dB true,.own 3 (Xk false).sz 0 q1]):HS)) e1;exact Eq.trans pZ8 hE)⟩,⟨⟨rfl,(by have e1:(l:List Yq)=(X0v h d l b):=(by (have hx:=X7o (h:=h) (d:=d) (l:=l) (b:=b) ‹_› ‹_› ‹_› ;exact hx.2.symm));have hE:=congrArg (fun (q1:List Yq)=>(.live (Xf 152 (Xk false) q1):HS)) e1;exact Eq.trans pZ8 hE)⟩,trivial⟩⟩
 refine cF (dF hq3) (T.skip (nB (nT ?_)))
 refine sD [[],[],[1],[1,2],[1,2,3],[],[5],[],[5,6,7],[5,6,7,8],[5,6,7,8,9],[5,6,7,8,9,10],[1,2,3,4,5,6,7,8,9,10,11],[0,1,2,3,4,5,6,7,8,9,10,11,12],[0,1,2,3,4,5,6,7,8,9,10,11,12,13],[0,1,2,3,4,5,6,7,8,9,10,11,12,13,14]] [hR 6 rfl rfl (rCa (X6t b ‹_›) Tryz.func90 [] [(.tmp 39,.tv (.agg (Z5n b)))] 0 0),hR 8 rfl rfl (rCa (X0s false b ‹_›) Tryz.func53 [] [(.tmp 41,.tv (.agg (Z5n b)))] 0 0),hR 9 rfl rfl (rCa (X4y (Wp b) ‹_› ‹_›) Tryz.func91 [] [(.tmp 42,.tv (.agg [dI (Wp b).Xg,dS (Wp b).Y0,dI (Wp b).Ye,dS (Wp b).W3]))] 0 0),hR 11 rfl rfl (Yc 3 152 (Xk false) (Ev false) [(Yq.mk b (Fa (Wp b)))] [⟨0,.tmp 44,.agg [dI b.Xg,dS b.Y0,(Z5l b),(Z5m b),dS (Fa (Wp b))],0⟩] (cs:=[dI b.Xg,dS b.Y0,(Z5l b),(Z5m b),dS (Fa (Wp b))]) Tryz.underlying147 X4l rfl zero_152 rfl rfl rfl pd (Yr rfl rfl pd W5) pZ8 (V4 pZ8) (X3 rfl) trivial),hR 12 rfl rfl (W2 1 4 152 88 (Xk false) (Ev false) l [(Yq.mk b (Fa (Wp b)))] (l++[(Yq.mk b (Fa (Wp b)))]) l.length (sy:=(.own 3 (Xk false).sz 0 [(Yq.mk b (Fa (Wp b)))].length)) (rhs:=[(3,.live (Xf 152 (Xk false) [(Yq.mk b (Fa (Wp b)))]))]) elem_147 (by omega) (Wv 3 152 (Xk false) [(Yq.mk b (Fa (Wp b)))]) Jy (by (simp [maxLen,-List.getD_eq_getElem?_getD]<;>omega)) (by (simp [maxLen,-List.getD_eq_getElem?_getD]<;>omega)) (X3 rfl) trivial)] ?_
 refine sR [] (T.ret ?_)
 exact eRt 4 (.one (dI 0)) [0,1,4] (cI (by (have hx:=X9x (h:=h) (d:=d) (l:=l) (b:=b) ‹_› ‹_› ‹_› ;exact hx.1))) ⟨⟨rfl,(by have e1:((l++[(Yq.mk b (Fa (Wp b)))]).length:Nat)=(X0v h d l b).length:=(by (have hx:=X9x (h:=h) (d:=d) (l:=l) (b:=b) ‹_› ‹_› ‹_› ;(rw [hx.2];rfl)));have hE:=congrArg (fun (q1:Nat)=>(.live (.box 149 [dI h,dS d,dB true,.own 4 (Xk false).sz 0 q1]):HS)) e1;exact Eq.trans pZ8 hE)⟩,⟨⟨rfl,(by have e1:(l++[(Yq.mk b (Fa (Wp b)))]:List Yq)=(X0v h d l b):=(by (have hx:=X9x (h:=h) (d:=d) (l:=l) (b:=b) ‹_› ‹_› ‹_› ;exact hx.2.symm));have hE:=congrArg (fun (q1:List Yq)=>(.live (Xf 152 (Xk false) q1):HS)) e1;exact Eq.trans pZ8 hE)⟩,trivial⟩⟩
section
variable (h:Int) (d:List UInt8) (l:List Yq) (x:Int)
abbrev Z5v:HS:=.live (.box 149 [dI h,dS d,dB true,.own 1 (Xk false).sz 0 l.length])
abbrev Z5w:HS:=.live (Xf 152 (Xk false) l)
abbrev Z5x:List AV:=[pv 0 0,vI x,aa,aa,pv 2 0,vI 4,aa,aa,aa,aa,aa,aa,aa,aa,aa,aa,aa,aa,aa,aa,aa,aa,vB true]
abbrev Z5y:List HS:=[(Z5v h d l),(Z5w l),.live (.box 65 [dI 0,dS [],.d (.val (.slice none 0 0)),.d (.val (.slice none 0 0))])]
abbrev Z5z:SV:=.d (dsl false false (kE false) ([]:List aE))
abbrev Z60:SV:=.d (dsl false false (Xe false) ([]:List Y6))
abbrev Z61:List SV:=[dI 0,dS [],Z5z,Z60]
abbrev Z62:List AV:=[pv 0 0,vI x,aa,aa,pv 2 0,vI 4,aa,aa,aa,aa,aa,aa,aa,aa,aa,aa,aa,aa,aa,aa,aa,aa,vB (decide (x>(h+((l.length:Nat):Int))))]
abbrev Z63:SV:=dI (l.getD ((x-h)-1).toNat Wl).Uv.Xg
abbrev Z64:SV:=dS (l.getD ((x-h)-1).toNat Wl).Uv.Y0
abbrev Z65:SV:=.d (dsl false false (kE false) (l.getD ((x-h)-1).toNat Wl).Uv.Xb)
abbrev Z66:SV:=.d (dsl false false (Xe false) (l.getD ((x-h)-1).toNat Wl).Uv.Xj)
end
theorem Xcd (h:Int) (d:List UInt8) (l:List Yq) (x:Int) (hh:0≤h∧h≤1099511627776) (hl:l.length≤100) (hw:Xbd l):Holds Tryz.prog 52 ⟨[pv 0 0,vI x],[.box 149 [dI h,dS d,dB true,.own 1 (Xk false).sz 0 l.length],Xf 152 (Xk false) l],.tup [.agg [dI (Yz h l x).Xg,dS (Yz h l x).Y0,.d (dsl false false (kE false) (Yz h l x).Xb),.d (dsl false false (Xe false) (Yz h l x).Xj)],.one (dI (X0t h l.length x))],[.live (.box 149 [dI h,dS d,dB true,.own 1 (Xk false).sz 0 l.length]),.live (Xf 152 (Xk false) l)]⟩:=by
 refine Holds.of Tryz.func52 rfl (N:=40) Tryz.ntmps52 rfl fun w0 B0 S0 U0=>?_
 show T _ (Y2 40 2 w0 S0 U0 B0) ⟨[pv 0 0,vI x],[(Z5v h d l),(Z5w l)]⟩ _ _
 refine sR [] (T.seq ?_)
 by_cases hq1:x≤h
 ·refine sR (Xm hY0 [3,4,5,6,7,8,9] (hP0 10::(Xm (hN · false (dT hq1)) [12,13,14,15] (hP 16 (dT hq1)::[])))) (cT (b:=true) rfl (sR [] (T.ret (rT ?_))))
  refine eN ⟨(Z5x x),(Z5y h d l)⟩ ?_
  refine X7 (s':=⟨(Z5x x),[(Z5v h d l),(Z5w l),.live (.box 65 Z61)]⟩) (fun _ _ hG=>Yt (s:=⟨(Z5x x),(Z5y h d l)⟩) ⟨.inl rfl,p3i⟩ p2s hG) ?_
  exact eX [.c 4 2 65 0 65 [dI 0,dS [],Z5z,Z60] (.agg Z61),.t 5 (.one (dI 4))] ⟨⟨rfl,rfl,by kernel_rfl,by kernel_rfl,.inl ⟨4,H5,rfl,Nat.le_of_ble_eq_true rfl⟩⟩,⟨⟨rfl,by kernel_rfl⟩,trivial⟩⟩ [0,1] py (ix (ix trivial))
 refine sR (Xm hY0 [3,4,5,6,7,8,9] (hP0 10::(hY 12 (dF hq1)::(hY 13 (dF hq1)::(hS 14 (oY rfl rfl rfl rfl (X3 rfl) (dF hq1) (rCa (X35 h d l ‹_› ‹_›) Tryz.func88 [0,1] [(.tmp 19,pv 0 0)] 2 2))::(hY 15 (dF hq1)::(hP 16 (dF hq1)::[]))))))) ?_
 by_cases hq2:x>(h+((l.length:Nat):Int))
 ·refine cT (dT hq2) (sR [] (T.ret (rT ?_)))
  refine eN ⟨(Z62 h l x),(Z5y h d l)⟩ ?_
  refine X7 (s':=⟨(Z62 h l x),[(Z5v h d l),(Z5w l),.live (.box 65 Z61)]⟩) (fun _ _ hG=>Yt (s:=⟨(Z62 h l x),(Z5y h d l)⟩) ⟨.inl rfl,p3i⟩ p2s hG) ?_
  exact eX [.c 4 2 65 0 65 [dI 0,dS [],Z5z,Z60] (.agg Z61),.t 5 (.one (dI 4))] ⟨⟨rfl,rfl,by kernel_rfl,by kernel_rfl,.inl ⟨4,H5,rfl,Nat.le_of_ble_eq_true rfl⟩⟩,⟨⟨rfl,by kernel_rfl⟩,trivial⟩⟩ [0,1] py (ix (ix trivial))
 refine cF (dF hq2) (T.skip (nT ?_))
 refine sD [[],[0],[0,1],[0,1,2],[],[],[5],[5,6],[5,6,7],[5,6,7,8],[4,5,6,7,8,9],[4,5,6,7,8,9,10],[0,1,2,3,4,5,6,7,8,9,10,11],[0,1,2,3,4,5,6,7,8,9,10,11,12],[0,1,2,3,4,5,6,7,8,9,10,11,12,13],[0,1,2,3,4,5,6,7,8,9,10,11,12,13,14],[0,1,2,3,4,5,6,7,8,9,10,11,12,13,14,15],[0,1,2,3,4,5,6,7,8,9,10,11,12,13,14,15,16]] [hR 10 rfl rfl (Yd (u1:=.int .i64 x) (u2:=.int .i64 h) (v:=.int .i64 (x-h)) (Ug pc) (X3 rfl) trivial),hR 11 rfl rfl (Yd (u1:=.int .i64 (x-h)) (u2:=.int .i64 1) (v:=.int .i64 ((x-h)-1)) (Ug pc) (X3 rfl) ⟨rfl,trivial⟩),hR 12 rfl rfl (Vh (k:=.i64) (l:=1) (sz:=(Xk false).sz) (off:=0) (n:=l.length) (i:=((x-h)-1)) (m:=((x-h)-1).toNat) (o':=((x-h)-1).toNat*(Xk false).sz+0) Tryz.underlying147 X4l rfl (by omega) (by omega) (by simp) (X3 rfl) trivial),hR 14 rfl rfl (X1n (l:=1) (off:=((x-h)-1).toNat*(Xk false).sz+0) (i:=((x-h)-1).toNat) (j:=0) (T:=152) (sz:=(Xk false).sz) (n:=l.length) (el:=W7 (Xk false) l) (ds:=[(Z63 h l x),(Z64 h l x),(Z65 h l x),(Z66 h l x)]) H5 rfl (by omega) (by decide) rfl (X3 rfl) trivial),hR 15 rfl rfl (rCa (X6t (l.getD ((x-h)-1).toNat Wl).Uv (by exact Xbc ‹_› _)) Tryz.func90 [] [(.tmp 38,.tv (.agg [(Z63 h l x),(Z64 h l x),(Z65 h l x),(Z66 h l x)]))] 0 0)] ?_
 refine T.ret ?_
 exact eX [.c 4 2 65 0 65 [(Z63 h l x),(Z64 h l x),(Z65 h l x),(Z66 h l x)] (.agg [(Z63 h l x),(Z64 h l x),(Z65 h l x),(Z66 h l x)]),.t 5 (.one (dI 0))] ⟨⟨rfl,rfl,by kernel_rfl,by kernel_rfl,.inl ⟨4,H5,rfl,Nat.le_of_ble_eq_true rfl⟩⟩,⟨⟨rfl,by kernel_rfl⟩,trivial⟩⟩ [0,1] (by have e1:((Yz h l x).Xg:Int)=(l.getD ((x-h)-1).toNat Wl).Uv.Xg:=p2g;have e2:((Yz h l x).Y0:List UInt8)=(l.getD ((x-h)-1).toNat Wl).Uv.Y0:=p2g;have e3:((Yz h l x).Xb:List aE)=(l.getD ((x-h)-1).toNat Wl).Uv.Xb:=p2g;have e4:((Yz h l x).Xj:List Y6)=(l.getD ((x-h)-1).toNat Wl).Uv.Xj:=p2g;have e5:((X0t h l.length x):Int)=0:=(by (have hi:inL h l.length x:=⟨by omega,by omega⟩;(rw [X0t,if_pos hi])));have hE:=congr pn e5;exact hE) (ix (ix trivial))
abbrev Z67 (ta:Bool) (na:Bool) (a:List aE):AV:=slV ta na (kE false) a
abbrev Z68 (ta:Bool) (na:Bool) (a:List aE) (k:Nat):St:=⟨[(Z67 ta na a),aa,aa,Y8 0 (kE false) 0 (a.take k).length,vI ((k:Nat):Int)],[.live (Xf 43 (kE false) (a.take k))]⟩
abbrev Z69 (k:Nat):AV:=vI ((k+1:Nat):Int)
theorem Xg9 (ta:Bool) (na:Bool) (a:List aE) (hf:I0 szE 20 500 a):Holds Tryz.prog 115 ⟨[slV ta na (kE false) a],[],Y8 0 (kE false) 0 a.length,[.live (Xf 43 (kE false) a)]⟩:=by
 refine Holds.of Tryz.func115 rfl (N:=28) Tryz.ntmps115 rfl fun w0 B0 S0 U0=>?_
 show T _ (Y2 28 0 w0 S0 U0 B0) ⟨[(Z67 ta na a)],[]⟩ _ _
 refine sR [] (sR [] (T.seq (sR [] (T.block ?_))))
 refine tN ⟨[(Z67 ta na a),aa,dv (.slice none 0 0),dv (.slice none 0 0),vI 0],[]⟩ ?_
 refine Wx (s':=⟨[(Z67 ta na a),aa,dv (.slice none 0 0),Y8 0 (kE false) 0 0,vI 0],[.live (Xf 43 (kE false) ([]:List aE))]⟩) (fun _ _ hG=>U5 0 3 43 (kE false) rfl rfl hG) ?_
 refine T.loop (ι:=Nat) (fun (k:Nat)=>(Z68 ta na a k)) (fun (k:Nat)=>(k≤a.length)) (fun (k:Nat)=>a.length-k) (0) (Nat.zero_le _) (fun _ _ hG=>Yv [0] (bm 5 25) (t2:=[(Z67 ta na a),aa,aa,Y8 0 (kE false) 0 0,vI 0]) (h2:=[.live (Xf 43 (kE false) ([]:List aE))]) (congrArg (fun (q1:Nat)=>([(Z67 ta na a),aa,aa,Y8 0 (kE false) 0 q1,vI 0]:List AV)) (by rfl)) (congrArg (fun (q1:List aE)=>([.live (Xf 43 (kE false) q1)]:List HS)) (by rfl)) hG) ?_
 rintro k hk
 show T _ _ (Z68 ta na a k) _ _
 replace hk:k≤a.length:=hk
 have ha1:=hf.1
 have hbk:(a.getD k zE).Xd.length≤500:=Iu (sz:=szE) hf (by decide) k
 refine T.seq (sR [] ?_)
 by_cases hq1:((k:Nat):Int)<((a.length:Nat):Int)
 ·refine cT (dT hq1) (T.skip (nT (T.seq (T.block ?_))))
  refine xD [[],[],[],[1,2],[1,2,3],[1,2,3,4],[],[],[],[7,8],[7,8,9],[7,8,9,10],[6,7,8,9,10,11],[1,2,3,4,5,6,7,8,9,10,11,12],[1,2,3,4,5,6,7,8,9,10,11,12,13],[0,1,2,3,4,5,6,7,8,9,10,11,12,13,14],[0,1,2,3,4,5,6,7,8,9,10,11,12,13,14,15]] [hR 3 rfl rfl (We ta na (kE false) a k (k:=.i64) (i:=((k:Nat):Int)) Tryz.underlying37 Vi rfl rfl (by omega) (X3 rfl) trivial),hR 6 rfl rfl (Yc 1 5 kU8 Vu ([]:List UInt8) [] (cs:=[]) Tryz.underlying25 Ji rfl Im rfl rfl rfl pd W5 pZ8 (V4 pZ8) (X3 rfl) trivial),hR 9 rfl rfl (We ta na (kE false) a k (k:=.i64) (i:=((k:Nat):Int)) Tryz.underlying37 Vi rfl rfl (by omega) (X3 rfl) trivial),hR 12 rfl rfl (W2 1 2 5 1 kU8 Vu ([]:List UInt8) (a.getD k zE).Xd (a.getD k zE).Xd ([]:List UInt8).length (sy:=(dU (a.getD k zE).Xd)) (rhs:=[]) Jb (by omega) (Jf false false kU8 (a.getD k zE).Xd) (by simp) (by (simp [maxLen,-List.getD_eq_getElem?_getD]<;>omega)) (by (simp [maxLen,-List.getD_eq_getElem?_getD]<;>omega)) (X3 rfl) trivial),hR 14 rfl rfl (Uz 0 24 2 5 kU8 (a.getD k zE).Xd (av:=.tv (.agg [dI (a.getD k zE).X5,.own 2 kU8.sz 0 (a.getD k zE).Xd.length])) (Yc 3 43 (kE false) (W4 false) [(a.getD k zE)] [⟨0,.tmp 24,.agg [dI (a.getD k zE).X5,dU (a.getD k zE).Xd],0⟩] (cs:=[dI (a.getD k zE).X5,dU (a.getD k zE).Xd]) Tryz.underlying37 Vi rfl F4 rfl rfl rfl pd (Yr rfl rfl pd W5) pZ8 (V4 pZ8) (X3 rfl) trivial) rfl p52 X71 rfl rfl),hR 15 rfl rfl (W2 0 4 43 32 (kE false) (W4 false) (a.take k) [(a.getD k zE)] ((a.take k)++[(a.getD k zE)]) (a.take k).length (sy:=(.own 3 (kE false).sz 0 [(a.getD k zE)].length)) (rhs:=[(3,.live (Xf 43 (kE false) [(a.getD k zE)]))]) F9 (by omega) (Wv 3 43 (kE false) [(a.getD k zE)]) Jy (by (simp [maxLen,-List.getD_eq_getElem?_getD]<;>omega)) (by (simp [maxLen,-List.getD_eq_getElem?_getD]<;>omega)) (X3 rfl) trivial)] pZ8 pZ8 pZ8 pZ8 pZ8 pZ8 ?_
  refine nB (nT (xK [hR 1 rfl rfl (Yd (u1:=.int .i64 ((k:Nat):Int)) (u2:=.int .i64 1) (v:=.int .i64 ((k+1:Nat):Int)) (Wb pc) (X3 rfl) ⟨rfl,trivial⟩)] ?_))
  refine nL (k+1) (show (k+1)≤a.length from (by omega)) (show (a.length-(k+1):Nat)<a.length-k from (by omega)) (fun _ _ hG=>Wf [4] (bm 5 25) (t1:=[(Z67 ta na a),aa,aa,Y8 4 (kE false) 0 (a.take (k+1)).length,(Z69 k)]) (t2:=[(Z67 ta na a),aa,aa,Y8 4 (kE false) 0 ((a.take k)++[(a.getD k zE)]).length,(Z69 k)]) (h1:=[.live (Xf 43 (kE false) (a.take (k+1)))]) (h2:=[.live (Xf 43 (kE false) ((a.take k)++[(a.getD k zE)]))]) (by have e1:((a.take (k+1)).length:Nat)=((a.take k)++[(a.getD k zE)]).length:=p46;have hE:=congrArg (fun (q1:Nat)=>([(Z67 ta na a),aa,aa,Y8 4 (kE false) 0 q1,(Z69 k)]:List AV)) e1;exact hE) (by have e1:((a.take (k+1)):List aE)=(a.take k)++[(a.getD k zE)]:=p46;have hE:=congrArg (fun (q1:List aE)=>([.live (Xf 43 (kE false) q1)]:List HS)) e1;exact hE) hG)
 refine cF (dF hq1) (T.exit (xT (xT (xH (nT (sR [] (T.ret ?_)))))))
 exact eRt 2 (.one (.own 0 (kE false).sz 0 (a.take k).length)) [0] (by have e1:(a.length:Nat)=(a.take k).length:=p1w;have hE:=congrArg (fun (q1:Nat)=>(Y8 0 (kE false) 0 q1:AV)) e1;exact hE) ⟨⟨rfl,(by have e1:((a.take k):List aE)=a:=p1w;have hE:=congrArg (fun (q1:List aE)=>(.live (Xf 43 (kE false) q1):HS)) e1;exact Eq.trans pZ8 hE)⟩,trivial⟩
section
variable (b:Xq)
abbrev Z6a:SV:=.d (dsl false false (kE false) b.Xb)
abbrev Z6b:SV:=.d (dsl false false (Xe false) b.Xj)
abbrev Z6c:List SV:=[dI b.Xg,dS b.Y0,(Z6a b),(Z6b b)]
abbrev Z6d:HS:=.live (.box 65 [dI b.Xg,dS b.Y0,.own 2 (kE false).sz 0 b.Xb.length,.own 4 (Xe false).sz 0 b.Xj.length])
abbrev Z6e:St:=⟨[.tv (.agg (Z6c b)),pv 0 0,pv 1 0],[(Z6d b),(Z6d b),.live (Xf 43 (kE false) b.Xb),.dead,.live (Xf 46 (Xe false) b.Xj)]⟩
abbrev Z6f:HS:=.live (.box 65 [dI b.Xg,dS b.Y0,(Z6a b),.own 4 (Xe false).sz 0 b.Xj.length])
abbrev Z6g:St:=⟨[.tv (.agg (Z6c b)),pv 0 0,pv 1 0],[(Z6f b),(Z6f b),.dead,.dead,.live (Xf 46 (Xe false) b.Xj)]⟩
end
theorem X8g (b:Xq) (hf:Hl b):Holds Tryz.prog 58 ⟨[.tv (.agg [dI b.Xg,dS b.Y0,.d (dsl false false (kE false) b.Xb),.d (dsl false false (Xe false) b.Xj)])],[],.tv (.agg [dI b.Xg,dS b.Y0,.d (dsl false false (kE false) b.Xb),.d (dsl false false (Xe false) b.Xj)]),[]⟩:=by
 refine Holds.of Tryz.func58 rfl (N:=13) Tryz.ntmps58 rfl fun w0 B0 S0 U0=>?_
 show T _ (Y2 13 0 w0 S0 U0 B0) ⟨[.tv (.agg (Z6c b))],[]⟩ _ _
 have hf1:=hf.1.1
 have hf2:=hf.2.1
 have hf3:=hf.2.2
 refine sR [] (sR [hR 2 rfl rfl (rCa (Xg9 false false b.Xb (by exact hf.1)) Tryz.func115 [2] [(.tmp 4,slV false false (kE false) b.Xb)] 0 1)] ?_)
 refine sR [hR 0 rfl rfl (Yc 3 46 (Xe false) (Vz false) ([]:List Y6) [] (cs:=[]) Tryz.underlying63 Ej rfl X79 rfl rfl rfl pd W5 pZ8 (V4 pZ8) (X3 rfl) trivial),hR 3 rfl rfl (W2 3 4 46 16 (Xe false) (Vz false) ([]:List Y6) b.Xj b.Xj ([]:List Y6).length (sy:=((Z6b b))) (rhs:=[]) X7l (by omega) (Jf false false (Xe false) b.Xj) (by simp) (by (simp [maxLen,-List.getD_eq_getElem?_getD]<;>omega)) (by (simp [maxLen,-List.getD_eq_getElem?_getD]<;>omega)) (X3 rfl) trivial)] ?_
 refine sR [] (T.ret ?_)
 refine eN (Z6e b) ?_
 refine X7 (s':=(Z6g b)) (fun _ _ hG=>Gs.freeze (s:=(Z6e b)) 2 (el:=W7 (kE false) b.Xb) (sz:=(kE false).sz) (n:=b.Xb.length) rfl ⟨.inl rfl,(kk2 trivial)⟩ ⟨pZ23,⟨pZ23,⟨(.inl ⟨rfl,rfl⟩),⟨pZ9,⟨pZ9,trivial⟩⟩⟩⟩⟩ hG) ?_
 refine eN (Z6g b) ?_
 refine X7 (s':=⟨[.tv (.agg (Z6c b)),pv 0 0,pv 1 0],[.live (.box 65 (Z6c b)),.live (.box 65 (Z6c b)),.dead,.dead,.dead]⟩) (fun _ _ hG=>Gs.freeze (s:=(Z6g b)) 4 (el:=W7 (Xe false) b.Xj) (sz:=(Xe false).sz) (n:=b.Xj.length) rfl ⟨.inl rfl,(kk2 trivial)⟩ ⟨pZ22,⟨pZ22,⟨pZ9,⟨pZ9,⟨(.inl ⟨rfl,rfl⟩),trivial⟩⟩⟩⟩⟩ hG) ?_
 exact eX [.c 2 1 65 0 65 [dI b.Xg,dS b.Y0,(Z6a b),(Z6b b)] (.agg (Z6c b))] ⟨⟨rfl,rfl,by kernel_rfl,by kernel_rfl,.inl ⟨4,H5,rfl,Nat.le_of_ble_eq_true rfl⟩⟩,trivial⟩ [] rfl trivial
theorem Xdq:Holds Tryz.prog 85 ⟨[],[],dv (Yk (ofB 6 ([]:List (List UInt8)))),[]⟩:=by
 refine Holds.of Tryz.func85 rfl (N:=2) Tryz.ntmps85 rfl fun w0 B0 S0 U0=>?_
 show T _ (Y2 2 0 w0 S0 U0 B0) ⟨[],[]⟩ _ _
 refine sR [] (sR [hR 0 rfl rfl (rCn (X1h (6:UInt8) false false false ([]:List (List UInt8)) (by decide)) Tryz.func71 [] [(.const (.int .u8 6),dv (.int .u8 6)),(.const (.slice none 0 0),dv (.slice none 0 0))] 0 0 ⟨.inl ⟨rfl,rfl⟩,⟨.inr pZ5,trivial⟩⟩ ⟨rfl,⟨rfl,trivial⟩⟩)] (T.ret ?_))
 exact eRt 0 (.one (dS (ofB (6:UInt8) ([]:List (List UInt8))))) [] p2e trivial
abbrev Z6h:SV:=dS (ofB 6 ([]:List (List UInt8)))
theorem Xjj:Holds Tryz.prog 37 ⟨[],[],pv 0 0,[.live (.box 106 [dB true,dI 0,dS (ofB 6 ([]:List (List UInt8))),.own 1 (Xr false).sz 0 ([]:List Xq).length]),.live (Xf 65 (Xr false) ([]:List Xq))]⟩:=by
 refine Holds.of Tryz.func37 rfl (N:=4) Tryz.ntmps37 rfl fun w0 B0 S0 U0=>?_
 show T _ (Y2 4 0 w0 S0 U0 B0) ⟨[],[]⟩ _ _
 refine sR [] (sR [hR 0 rfl rfl (rCa (Xdq  ) Tryz.func85 [] [] 0 0)] (T.ret ?_))
 refine eN ⟨[pv 0 0],[.live (.box 106 [dB true,dI 0,Z6h,.d (.val (.slice none 0 0))])]⟩ ?_
 refine X7 (s':=⟨[pv 0 0],[.live (.box 106 [dB true,dI 0,Z6h,.own 1 (Xr false).sz 0 0]),.live (Xf 65 (Xr false) ([]:List Xq))]⟩) (fun _ _ hG=>J7 1 0 3 65 (Xr false) (Tb:=106) (cs:=[dB true,dI 0,Z6h,.d (.val (.slice none 0 0))]) rfl rfl rfl hG) ?_
 exact eRt 0 (.one (.ptr 0 0)) [0,1] rfl ⟨⟨rfl,(by have e1:(0:Nat)=([]:List Xq).length:=(by rfl);have hE:=congrArg (fun (q1:Nat)=>(.live (.box 106 [dB true,dI 0,Z6h,.own 1 (Xr false).sz 0 q1]):HS)) e1;exact Eq.trans pZ8 hE)⟩,(ix trivial)⟩
theorem F6 (h:Int) (d:List UInt8) (L:List Xq) (hh:0≤h∧h≤1099511627776) (hl:L.length≤100):Holds Tryz.prog 12 ⟨[pv 0 0],[.box 106 [dB true,dI h,dS d,.own 1 (Xr false).sz 0 L.length],Xf 65 (Xr false) L],vI (h+((L.length:Nat):Int)),[.live (.box 106 [dB true,dI h,dS d,.own 1 (Xr false).sz 0 L.length]),.live (Xf 65 (Xr false) L)]⟩:=by
 refine Holds.of Tryz.func12 rfl (N:=13) Tryz.ntmps12 rfl fun w0 B0 S0 U0=>?_
 show T _ (Y2 13 2 w0 S0 U0 B0) ⟨[pv 0 0],[.live (.box 106 [dB true,dI h,dS d,.own 1 (Xr false).sz 0 L.length]),.live (Xf 65 (Xr false) L)]⟩ _ _
 refine sR [] ?_
 refine sD [[],[0],[0,1],[0,1,2],[],[4],[4,5],[4,5,6],[4,5,6,7],[0,1,2,3,4,5,6,7,8],[0,1,2,3,4,5,6,7,8,9]] [hR 9 rfl rfl (Yd (u1:=.int .i64 h) (u2:=.int .i64 ((L.length:Nat):Int)) (v:=.int .i64 (h+((L.length:Nat):Int))) (Wb pc) (X3 rfl) trivial)] (T.ret ?_)
 exact eRt 2 (.one (dI (h+((L.length:Nat):Int)))) [0,1] rfl (ix (ix trivial))
abbrev Z6i (L:List Xq) (n:Nat):=(Wp (L.getD (n-1) W1))
theorem ref11_at (h:Int) (d:List UInt8) (L:List Xq) (n:Nat) (hh:0≤h∧h≤1099511627776) (hl:L.length≤100) (hw:X12 L) (hn:n≤L.length):Holds Tryz.prog 86 ⟨[pv 0 0,vI ((n:Nat):Int)],[.box 106 [dB true,dI h,dS d,.own 1 (Xr false).sz 0 L.length],Xf 65 (Xr false) L],dv (Yk (atB d L n)),[.live (.box 106 [dB true,dI h,dS d,.own 1 (Xr false).sz 0 L.length]),.live (Xf 65 (Xr false) L)]⟩:=by
 refine Holds.of Tryz.func86 rfl (N:=21) Tryz.ntmps86 rfl fun w0 B0 S0 U0=>?_
 show T _ (Y2 21 2 w0 S0 U0 B0) ⟨[pv 0 0,vI ((n:Nat):Int)],[.live (.box 106 [dB true,dI h,dS d,.own 1 (Xr false).sz 0 L.length]),.live (Xf 65 (Xr false) L)]⟩ _ _
 have hwn:=X5y hw (n-1)
 have hhn:=Xem hwn
 have hg1:=hhn.1
 have hg2:=hhn.2.1
 refine sR [] (T.seq (sR [] ?_))
 by_cases hq1:((n:Nat):Int)=0
 ·refine cT (dT hq1) (sR [] (T.ret (rT ?_)))
  exact eRt 4 (.one (dS d)) [0,1] (by have e1:((atB d L n):List UInt8)=d:=(by (unfold atB;rw [if_pos (by omega)]));have hE:=congrArg (fun (q1:List UInt8)=>(dv (Yk q1):AV)) e1;exact hE) (ix (ix trivial))
 refine cF (dF hq1) (T.skip (nT ?_))
 refine sR [hR 5 rfl rfl (Yd (u1:=.int .i64 ((n:Nat):Int)) (u2:=.int .i64 1) (v:=.int .i64 ((n-1:Nat):Int)) (Ug pc) (X3 rfl) ⟨rfl,trivial⟩),hR 6 rfl rfl (Vh (k:=.i64) (l:=1) (sz:=(Xr false).sz) (off:=0) (n:=L.length) (i:=((n-1:Nat):Int)) (m:=(n-1)) (o':=(n-1)*(Xr false).sz+0) Tryz.underlying104 X5u rfl rfl (by omega) (by simp) (X3 rfl) trivial),hR 7 rfl rfl (X1n (l:=1) (off:=(n-1)*(Xr false).sz+0) (i:=n-1) (j:=0) (T:=65) (sz:=(Xr false).sz) (n:=L.length) (el:=W7 (Xr false) L) (ds:=[dI (L.getD (n-1) W1).Xg,dS (L.getD (n-1) W1).Y0,.d (dsl false false (kE false) (L.getD (n-1) W1).Xb),.d (dsl false false (Xe false) (L.getD (n-1) W1).Xj)]) H5 rfl (by omega) (by decide) rfl (X3 rfl) trivial),hR 8 rfl rfl (rCa (X48 false (L.getD (n-1) W1) ‹_›) Tryz.func44 [] [(.tmp 18,.tv (.agg [dI (L.getD (n-1) W1).Xg,dS (L.getD (n-1) W1).Y0,.d (dsl false false (kE false) (L.getD (n-1) W1).Xb),.d (dsl false false (Xe false) (L.getD (n-1) W1).Xj)]))] 0 0),hR 9 rfl rfl (rCa (Xbx (Wp (L.getD (n-1) W1)) ‹_› ‹_›) Tryz.func48 [] [(.tmp 19,.tv (.agg [dI (Z6i L n).Xg,dS (Z6i L n).Y0,dI (Z6i L n).Ye,dS (Z6i L n).W3]))] 0 0)] ?_
 refine T.ret ?_
 exact eRt 4 (.one (dS (Fa (Z6i L n)))) [0,1] (by have e1:((atB d L n):List UInt8)=(Fa (Wp (L.getD (n-1) W1))):=(by (unfold atB;rw [if_neg (by omega)]));have hE:=congrArg (fun (q1:List UInt8)=>(dv (Yk q1):AV)) e1;exact hE) (ix (ix trivial))
theorem X3d (h:Int) (d:List UInt8) (L:List Xq) (hh:0≤h∧h≤1099511627776) (hl:L.length≤100) (hw:X12 L):Holds Tryz.prog 38 ⟨[pv 0 0],[.box 106 [dB true,dI h,dS d,.own 1 (Xr false).sz 0 L.length],Xf 65 (Xr false) L],dv (Yk (atB d L L.length)),[.live (.box 106 [dB true,dI h,dS d,.own 1 (Xr false).sz 0 L.length]),.live (Xf 65 (Xr false) L)]⟩:=by
 refine Holds.of Tryz.func38 rfl (N:=10) Tryz.ntmps38 rfl fun w0 B0 S0 U0=>?_
 show T _ (Y2 10 2 w0 S0 U0 B0) ⟨[pv 0 0],[.live (.box 106 [dB true,dI h,dS d,.own 1 (Xr false).sz 0 L.length]),.live (Xf 65 (Xr false) L)]⟩ _ _
 refine sR [] (sR [hR 6 rfl rfl (rCa (ref11_at h d L L.length ‹_› ‹_› ‹_› (by omega)) Tryz.func86 [0,1] [(.tmp 3,pv 0 0),(.tmp 8,vI ((L.length:Nat):Int))] 2 2)] (T.ret ?_))
 exact eRt 2 (.one (dS (atB d L L.length))) [0,1] rfl (ix (ix trivial))
theorem elem_104:Elem Tryz.prog 104 65 4 72:=⟨Tryz.underlying104,_,_,X5u,rfl,rfl,rfl,rfl,by decide⟩
section
variable (h:Int) (d:List UInt8) (L:List Xq) (b:Xq)
abbrev Z6j:List SV:=[dI b.Xg,dS b.Y0,.d (dsl false false (kE false) b.Xb),.d (dsl false false (Xe false) b.Xj)]
abbrev Z6k:HS:=.live (.box 106 [dB true,dI h,dS d,.own 1 (Xr false).sz 0 L.length])
abbrev Z6l:HObj:=Xf 65 (Xr false) L
abbrev Z6m:List AV:=[pv 0 0,.tv (.agg (Z6j b)),aa,pv 2 0,vI (Vd b),vI (Vd b),aa,aa,aa,aa,vB (!true),aa,aa,aa,vB (decide ((Vd b)≠0))]
abbrev Z6n:List HS:=[(Z6k h d L),.live ((Z6l L)),.live (.box 65 (Z6j b))]
abbrev Z6o:List HS:=[.live (.box 106 [dB true,dI h,dS d,.own 3 (Xr false).sz 0 L.length]),.dead,.live (.box 65 (Z6j b)),.live ((Z6l L))]
abbrev Z6p:List AV:=[pv 0 0,.tv (.agg (Z6j b)),aa,pv 2 0,vI 100,vI (Vd b),aa,aa,aa,aa,vB (!true),aa,aa,aa,vB (decide ((Vd b)≠0)),aa,aa,aa,aa,aa,aa,vB (decide (b.Xg≠((h+((L.length:Nat):Int))+1)))]
abbrev Z6q:List AV:=[pv 0 0,.tv (.agg (Z6j b)),aa,pv 2 0,vI 101,vI (Vd b),aa,aa,aa,aa,vB (!true),aa,aa,aa,vB (decide ((Vd b)≠0)),aa,aa,aa,aa,aa,aa,vB (decide (b.Xg≠((h+((L.length:Nat):Int))+1))),aa,aa,aa,aa,vB (decide (b.Y0≠(atB d L L.length)))]
end
theorem Xbw (h:Int) (d:List UInt8) (L:List Xq) (b:Xq) (hh:0≤h∧h≤1099511627776) (hl:L.length≤100) (hw:X12 L) (hf:Hl b):Holds Tryz.prog 40 ⟨[pv 0 0,.tv (.agg [dI b.Xg,dS b.Y0,.d (dsl false false (kE false) b.Xb),.d (dsl false false (Xe false) b.Xj)])],[.box 106 [dB true,dI h,dS d,.own 1 (Xr false).sz 0 L.length],Xf 65 (Xr false) L],vI (X32 h d L b),[.live (.box 106 [dB true,dI h,dS d,.own 2 (Xr false).sz 0 (H9 h d L b).length]),.dead,.live (Xf 65 (Xr false) (H9 h d L b))]⟩:=by
 refine Holds.of Tryz.func40 rfl (N:=38) Tryz.ntmps40 rfl fun w0 B0 S0 U0=>?_
 show T _ (Y2 38 2 w0 S0 U0 B0) ⟨[pv 0 0,.tv (.agg (Z6j b))],[(Z6k h d L),.live ((Z6l L))]⟩ _ _
 have hf1:=hf.1.1
 have hf2:=hf.2.1
 have hf3:=hf.2.2
 refine sR [] (T.seq (sR [] (cF (b:=(!true)) rfl (T.skip (nT (sR [hR 1 rfl rfl (rCa (X6m false b (by omega) (by omega)) Tryz.func92 [] [(.tmp 11,.tv (.agg (Z6j b)))] 0 0)] (T.seq (sR [] ?_))))))))
 by_cases hq1:(Vd b)≠0
 ·refine cT (dT hq1) (sR [] (T.ret (rT ?_)))
  refine eN ⟨(Z6m b),(Z6n h d L b)⟩ ?_
  refine X7 (s':=⟨(Z6m b),(Z6o h d L b)⟩) (fun _ _ hG=>Gs.move (s:=⟨(Z6m b),(Z6n h d L b)⟩) 1 3 (o:=(Z6l L)) rfl rfl rfl ⟨.inl rfl,(kk2 p3o)⟩ ⟨(.inr pZ14),⟨(.inl ⟨rfl,rfl⟩),⟨(.inr p1e),⟨(.inr (.inl ⟨rfl,rfl⟩)),trivial⟩⟩⟩⟩ hG) ?_
  exact eRt 4 (.one (dI (Vd b))) [0,1,3] (cI (by (have hx:=X8v (h:=h) (d:=d) (L:=L) (b:=b) ‹_› ;exact hx.1))) ⟨⟨rfl,(by have e1:(L.length:Nat)=(H9 h d L b).length:=(by (have hx:=X8v (h:=h) (d:=d) (L:=L) (b:=b) ‹_› ;(rw [hx.2];done)));have hE:=congrArg (fun (q1:Nat)=>(.live (.box 106 [dB true,dI h,dS d,.own 3 (Xr false).sz 0 q1]):HS)) e1;exact Eq.trans pZ8 hE)⟩,⟨⟨rfl,(by have e1:(L:List Xq)=(H9 h d L b):=(by (have hx:=X8v (h:=h) (d:=d) (L:=L) (b:=b) ‹_› ;exact hx.2.symm));have hE:=congrArg (fun (q1:List Xq)=>(.live (Xf 65 (Xr false) q1):HS)) e1;exact Eq.trans pZ8 hE)⟩,trivial⟩⟩
 have hca:=Xiu (Classical.not_not.1 hq1)
 refine cF (dF hq1) (T.skip (nT (T.seq ?_)))
 refine sD [[],[0],[],[2],[2,3],[0,1,2,3,4]] [hR 3 rfl rfl (rCa (F6 h d L ‹_› ‹_›) Tryz.func12 [0,1] [(.tmp 18,pv 0 0)] 2 2),hR 4 rfl rfl (Yd (u1:=.int .i64 (h+((L.length:Nat):Int))) (u2:=.int .i64 1) (v:=.int .i64 ((h+((L.length:Nat):Int))+1)) (Wb pc) (X3 rfl) ⟨rfl,trivial⟩)] ?_
 by_cases hq2:b.Xg≠((h+((L.length:Nat):Int))+1)
 ·refine cT (dT hq2) (sR [] (T.ret (rT ?_)))
  refine eN ⟨(Z6p h L b),(Z6n h d L b)⟩ ?_
  refine X7 (s':=⟨(Z6p h L b),(Z6o h d L b)⟩) (fun _ _ hG=>Gs.move (s:=⟨(Z6p h L b),(Z6n h d L b)⟩) 1 3 (o:=(Z6l L)) rfl rfl rfl p3i ⟨(.inr pZ14),⟨(.inl ⟨rfl,rfl⟩),⟨(.inr p1e),⟨(.inr (.inl ⟨rfl,rfl⟩)),trivial⟩⟩⟩⟩ hG) ?_
  exact eRt 4 (.one (dI 100)) [0,1,3] (cI (by (have hx:=X8u (h:=h) (d:=d) (L:=L) (b:=b) ‹_› ‹_› ;exact hx.1))) ⟨⟨rfl,(by have e1:(L.length:Nat)=(H9 h d L b).length:=(by (have hx:=X8u (h:=h) (d:=d) (L:=L) (b:=b) ‹_› ‹_› ;(rw [hx.2];done)));have hE:=congrArg (fun (q1:Nat)=>(.live (.box 106 [dB true,dI h,dS d,.own 3 (Xr false).sz 0 q1]):HS)) e1;exact Eq.trans pZ8 hE)⟩,⟨⟨rfl,(by have e1:(L:List Xq)=(H9 h d L b):=(by (have hx:=X8u (h:=h) (d:=d) (L:=L) (b:=b) ‹_› ‹_› ;exact hx.2.symm));have hE:=congrArg (fun (q1:List Xq)=>(.live (Xf 65 (Xr false) q1):HS)) e1;exact Eq.trans pZ8 hE)⟩,trivial⟩⟩
 refine cF (dF hq2) (T.skip (nT (T.seq ?_)))
 refine sD [[],[0],[],[2],[0,1,2,3]] [hR 3 rfl rfl (rCa (X3d h d L ‹_› ‹_› ‹_›) Tryz.func38 [0,1] [(.tmp 24,pv 0 0)] 2 2)] ?_
 by_cases hq3:b.Y0≠(atB d L L.length)
 ·refine cT (dT hq3) (sR [] (T.ret (rT ?_)))
  refine eN ⟨(Z6q h d L b),(Z6n h d L b)⟩ ?_
  refine X7 (s':=⟨(Z6q h d L b),(Z6o h d L b)⟩) (fun _ _ hG=>Gs.move (s:=⟨(Z6q h d L b),(Z6n h d L b)⟩) 1 3 (o:=(Z6l L)) rfl rfl rfl ⟨.inl rfl,(kk2 p2y)⟩ ⟨(.inr pZ14),⟨(.inl ⟨rfl,rfl⟩),⟨(.inr p1e),⟨(.inr (.inl ⟨rfl,rfl⟩)),trivial⟩⟩⟩⟩ hG) ?_
  exact eRt 4 (.one (dI 101)) [0,1,3] (cI (by (have hx:=X8t (h:=h) (d:=d) (L:=L) (b:=b) ‹_› ‹_› ‹_› ;exact hx.1))) ⟨⟨rfl,(by have e1:(L.length:Nat)=(H9 h d L b).length:=(by (have hx:=X8t (h:=h) (d:=d) (L:=L) (b:=b) ‹_› ‹_› ‹_› ;(rw [hx.2];done)));have hE:=congrArg (fun (q1:Nat)=>(.live (.box 106 [dB true,dI h,dS d,.own 3 (Xr false).sz 0 q1]):HS)) e1;exact Eq.trans pZ8 hE)⟩,⟨⟨rfl,(by have e1:(L:List Xq)=(H9 h d L b):=(by (have hx:=X8t (h:=h) (d:=d) (L:=L) (b:=b) ‹_› ‹_› ‹_› ;exact hx.2.symm));have hE:=congrArg (fun (q1:List Xq)=>(.live (Xf 65 (Xr false) q1):HS)) e1;exact Eq.trans pZ8 hE)⟩,trivial⟩⟩
 refine cF (dF hq3) (T.skip (nT ?_))
 refine sD [[],[],[1],[1,2],[1,2,3],[],[5],[5,6],[1,2,3,4,5,6,7],[0,1,2,3,4,5,6,7,8],[0,1,2,3,4,5,6,7,8,9],[0,1,2,3,4,5,6,7,8,9,10]] [hR 6 rfl rfl (rCa (X8g b ‹_›) Tryz.func58 [] [(.tmp 32,.tv (.agg (Z6j b)))] 0 0),hR 7 rfl rfl (Yc 3 65 (Xr false) (X1w false) [b] [⟨0,.tmp 33,.agg (Z6j b),0⟩] (cs:=[dI b.Xg,dS b.Y0,.d (dsl false false (kE false) b.Xb),.d (dsl false false (Xe false) b.Xj)]) Tryz.underlying104 X5u rfl zero_65 rfl rfl rfl pd (Yr rfl rfl pd W5) pZ8 (V4 pZ8) (X3 rfl) trivial),hR 8 rfl rfl (W2 1 4 65 72 (Xr false) (X1w false) L [b] (L++[b]) L.length (sy:=(.own 3 (Xr false).sz 0 [b].length)) (rhs:=[(3,.live (Xf 65 (Xr false) [b]))]) elem_104 (by omega) (Wv 3 65 (Xr false) [b]) Jy (by (simp [maxLen,-List.getD_eq_getElem?_getD]<;>omega)) (by (simp [maxLen,-List.getD_eq_getElem?_getD]<;>omega)) (X3 rfl) trivial)] ?_
 refine sR [] (T.ret ?_)
 exact eRt 4 (.one (dI 0)) [0,1,4] (cI (by (have hx:=X7g (h:=h) (d:=d) (L:=L) (b:=b) ‹_› ‹_› ‹_› ;exact hx.1))) ⟨⟨rfl,(by have e1:((L++[b]).length:Nat)=(H9 h d L b).length:=(by (have hx:=X7g (h:=h) (d:=d) (L:=L) (b:=b) ‹_› ‹_› ‹_› ;(rw [hx.2];done)));have hE:=congrArg (fun (q1:Nat)=>(.live (.box 106 [dB true,dI h,dS d,.own 4 (Xr false).sz 0 q1]):HS)) e1;exact Eq.trans pZ8 hE)⟩,⟨⟨rfl,(by have e1:(L++[b]:List Xq)=(H9 h d L b):=(by (have hx:=X7g (h:=h) (d:=d) (L:=L) (b:=b) ‹_› ‹_› ‹_› ;exact hx.2.symm));have hE:=congrArg (fun (q1:List Xq)=>(.live (Xf 65 (Xr false) q1):HS)) e1;exact Eq.trans pZ8 hE)⟩,trivial⟩⟩
section
variable (h:Int) (d:List UInt8) (L:List Xq) (x:Int)
abbrev Z6r:HS:=.live (.box 106 [dB true,dI h,dS d,.own 1 (Xr false).sz 0 L.length])
abbrev Z6s:List AV:=[pv 0 0,vI x,aa,aa,pv 2 0,vI 4,aa,aa,aa,aa,aa,aa,aa,aa,aa,aa,aa,vB true]
abbrev Z6t:List HS:=[(Z6r h d L),.live (Xf 65 (Xr false) L),.live (.box 65 [dI 0,dS [],.d (.val (.slice none 0 0)),.d (.val (.slice none 0 0))])]
abbrev Z6u:SV:=.d (dsl false false (kE false) ([]:List aE))
abbrev Z6v:SV:=.d (dsl false false (Xe false) ([]:List Y6))
abbrev Z6w:List SV:=[dI 0,dS [],Z6u,Z6v]
abbrev Z6x:List AV:=[pv 0 0,vI x,aa,aa,pv 2 0,vI 4,aa,aa,aa,aa,aa,aa,aa,aa,aa,aa,aa,vB (decide (x>(h+((L.length:Nat):Int))))]
abbrev Z6y:SV:=dI (L.getD ((x-h)-1).toNat W1).Xg
abbrev Z6z:SV:=.d (dsl false false (kE false) (L.getD ((x-h)-1).toNat W1).Xb)
abbrev Z70:SV:=.d (dsl false false (Xe false) (L.getD ((x-h)-1).toNat W1).Xj)
abbrev Z71:TV:=.agg [(Z6y h L x),dS (L.getD ((x-h)-1).toNat W1).Y0,(Z6z h L x),(Z70 h L x)]
end
theorem X6l (h:Int) (d:List UInt8) (L:List Xq) (x:Int) (hh:0≤h∧h≤1099511627776) (hl:L.length≤100) (hw:X12 L):Holds Tryz.prog 20 ⟨[pv 0 0,vI x],[.box 106 [dB true,dI h,dS d,.own 1 (Xr false).sz 0 L.length],Xf 65 (Xr false) L],.tup [.agg [dI (rblk h L x).Xg,dS (rblk h L x).Y0,.d (dsl false false (kE false) (rblk h L x).Xb),.d (dsl false false (Xe false) (rblk h L x).Xj)],.one (dI (X0t h L.length x))],[.live (.box 106 [dB true,dI h,dS d,.own 1 (Xr false).sz 0 L.length]),.live (Xf 65 (Xr false) L)]⟩:=by
 refine Holds.of Tryz.func20 rfl (N:=33) Tryz.ntmps20 rfl fun w0 B0 S0 U0=>?_
 show T _ (Y2 33 2 w0 S0 U0 B0) ⟨[pv 0 0,vI x],[(Z6r h d L),.live (Xf 65 (Xr false) L)]⟩ _ _
 refine sR [] (T.seq ?_)
 by_cases hq1:x≤h
 ·refine sR (Xm (hN · false (dT hq1)) [7,8,9,10] (hP 11 (dT hq1)::[])) (cT (b:=true) rfl (sR [] (T.ret (rT ?_))))
  refine eN ⟨(Z6s x),(Z6t h d L)⟩ ?_
  refine X7 (s':=⟨(Z6s x),[(Z6r h d L),.live (Xf 65 (Xr false) L),.live (.box 65 Z6w)]⟩) (fun _ _ hG=>Yt (s:=⟨(Z6s x),(Z6t h d L)⟩) p58 p2s hG) ?_
  exact eX [.c 4 2 65 0 65 [dI 0,dS [],Z6u,Z6v] (.agg Z6w),.t 5 (.one (dI 4))] ⟨⟨rfl,rfl,by kernel_rfl,by kernel_rfl,.inl ⟨4,H5,rfl,Nat.le_of_ble_eq_true rfl⟩⟩,⟨⟨rfl,by kernel_rfl⟩,trivial⟩⟩ [0,1] px (ix (ix trivial))
 refine sR [hY 7 (dF hq1),hY 8 (dF hq1),hS 9 (oY rfl rfl rfl rfl (X3 rfl) (dF hq1) (rCa (F6 h d L ‹_› ‹_›) Tryz.func12 [0,1] [(.tmp 14,pv 0 0)] 2 2)),hY 10 (dF hq1),hP 11 (dF hq1)] ?_
 by_cases hq2:x>(h+((L.length:Nat):Int))
 ·refine cT (dT hq2) (sR [] (T.ret (rT ?_)))
  refine eN ⟨(Z6x h L x),(Z6t h d L)⟩ ?_
  refine X7 (s':=⟨(Z6x h L x),[(Z6r h d L),.live (Xf 65 (Xr false) L),.live (.box 65 Z6w)]⟩) (fun _ _ hG=>Yt (s:=⟨(Z6x h L x),(Z6t h d L)⟩) p58 p2s hG) ?_
  exact eX [.c 4 2 65 0 65 [dI 0,dS [],Z6u,Z6v] (.agg Z6w),.t 5 (.one (dI 4))] ⟨⟨rfl,rfl,by kernel_rfl,by kernel_rfl,.inl ⟨4,H5,rfl,Nat.le_of_ble_eq_true rfl⟩⟩,⟨⟨rfl,by kernel_rfl⟩,trivial⟩⟩ [0,1] px (ix (ix trivial))
 refine cF (dF hq2) (T.skip (nT ?_))
 refine sD [[],[0],[0,1],[0,1,2],[],[],[5],[5,6],[5,6,7],[4,5,6,7,8],[4,5,6,7,8,9],[0,1,2,3,4,5,6,7,8,9,10],[0,1,2,3,4,5,6,7,8,9,10,11],[0,1,2,3,4,5,6,7,8,9,10,11,12],[0,1,2,3,4,5,6,7,8,9,10,11,12,13],[0,1,2,3,4,5,6,7,8,9,10,11,12,13,14]] [hR 9 rfl rfl (Yd (u1:=.int .i64 x) (u2:=.int .i64 h) (v:=.int .i64 (x-h)) (Ug pc) (X3 rfl) trivial),hR 10 rfl rfl (Yd (u1:=.int .i64 (x-h)) (u2:=.int .i64 1) (v:=.int .i64 ((x-h)-1)) (Ug pc) (X3 rfl) ⟨rfl,trivial⟩),hR 11 rfl rfl (Vh (k:=.i64) (l:=1) (sz:=(Xr false).sz) (off:=0) (n:=L.length) (i:=((x-h)-1)) (m:=((x-h)-1).toNat) (o':=((x-h)-1).toNat*(Xr false).sz+0) Tryz.underlying104 X5u rfl (by omega) (by omega) (by simp) (X3 rfl) trivial),hR 12 rfl rfl (X1n (l:=1) (off:=((x-h)-1).toNat*(Xr false).sz+0) (i:=((x-h)-1).toNat) (j:=0) (T:=65) (sz:=(Xr false).sz) (n:=L.length) (el:=W7 (Xr false) L) (ds:=[(Z6y h L x),dS (L.getD ((x-h)-1).toNat W1).Y0,(Z6z h L x),(Z70 h L x)]) H5 rfl (by omega) (by decide) rfl (X3 rfl) trivial),hR 13 rfl rfl (rCa (X8g (L.getD ((x-h)-1).toNat W1) (by exact X5y ‹_› _)) Tryz.func58 [] [(.tmp 31,.tv ((Z71 h L x)))] 0 0)] ?_
 refine T.ret ?_
 exact eX [.c 4 2 65 0 65 [(Z6y h L x),dS (L.getD ((x-h)-1).toNat W1).Y0,(Z6z h L x),(Z70 h L x)] ((Z71 h L x)),.t 5 (.one (dI 0))] ⟨⟨rfl,rfl,by kernel_rfl,by kernel_rfl,.inl ⟨4,H5,rfl,Nat.le_of_ble_eq_true rfl⟩⟩,⟨⟨rfl,by kernel_rfl⟩,trivial⟩⟩ [0,1] (by have e1:((rblk h L x).Xg:Int)=(L.getD ((x-h)-1).toNat W1).Xg:=p2h;have e2:((rblk h L x).Y0:List UInt8)=(L.getD ((x-h)-1).toNat W1).Y0:=p2h;have e3:((rblk h L x).Xb:List aE)=(L.getD ((x-h)-1).toNat W1).Xb:=p2h;have e4:((rblk h L x).Xj:List Y6)=(L.getD ((x-h)-1).toNat W1).Xj:=p2h;have e5:((X0t h L.length x):Int)=0:=(by (have hi:inL h L.length x:=⟨by omega,by omega⟩;(rw [X0t,if_pos hi])));have hE:=congr pn e5;exact hE) (ix (ix trivial))
theorem iat_242:Tryz.prog.info? 242=some Tryz.t242:=by kernel_rfl
theorem Jo:Wide Tryz.prog 242 (some 4):=⟨_,_,Tryz.underlying242,.inl ⟨_,rfl⟩,iat_242,rfl⟩
abbrev Z72:TV:=.one (dB true)
abbrev Z73:TV:=.agg [dI 11,dI 0,dI 1,dI 7]
theorem X6q (k:Int):Holds Tryz.prog 195 ⟨[vI k],[],.tup [.agg [dI (Yi k).Vy,dI (Yi k).Wt,dI (Yi k).V7,dI (Yi k).Vs],.one (dB (decide (okK k)))],[]⟩:=by
 refine Holds.of Tryz.func195 rfl (N:=54) Tryz.ntmps195 rfl fun w0 B0 S0 U0=>?_
 show T _ (Y2 54 0 w0 S0 U0 B0) ⟨[vI k],[]⟩ _ _
 refine sR [] (sR [] (T.seq (sR [] (T.block (T.seq (T.block (T.seq (T.block (T.seq (T.block (T.seq (T.block (T.seq (T.block (T.seq (T.block (T.seq (T.block (T.seq (T.block (T.seq (T.block (T.seq (T.block (T.seq (T.block (T.seq (T.seq (sR [] ?_)))))))))))))))))))))))))))))
 by_cases hq1:k=1
 ·refine cT (dT hq1) (T.exit (xT (xT (xH (nT (sR [] (T.exit (xM rfl (xT (xM rfl (xT (xM rfl (xT (xM rfl (xT (xM rfl (xT (xM rfl (xT (xM rfl (xT (xM rfl (xT (xM rfl (xT (xM rfl (xT (xH (nT (sR [] (T.ret ?_)))))))))))))))))))))))))))))))
  exact eX [.c 2 0 242 0 242 [dI 20,dI 0,dI 1,dI 7] (.agg [dI 20,dI 0,dI 1,dI 7]),.t 3 (Z72)] ⟨⟨rfl,rfl,by kernel_rfl,by kernel_rfl,.inl ⟨4,Jo,rfl,Nat.le_of_ble_eq_true rfl⟩⟩,⟨⟨rfl,by kernel_rfl⟩,trivial⟩⟩ [] (gc2 (show (Yi k)=⟨20,0,1,7⟩ from Ei) (show ((decide (okK k)):Bool)=true from Ei) (fun qq0 (q5:Bool)=>(.tup [.agg [dI (qq0.Vy),dI (qq0.Wt),dI (qq0.V7),dI (qq0.Vs)],.one (dB q5)]:AV))) trivial
 refine cF (dF hq1) (T.skip (nT (T.seq (sR [] ?_))))
 by_cases hq2:k=2
 ·refine cT (dT hq2) (T.exit (xT (xT (xM rfl (xT (xH (nT (sR [hR 2 rfl rfl (Yd (u1:=.int .i64 0) (u2:=.int .i64 64) (v:=.int .i64 64) (X6w p44) (X3 rfl) ⟨rfl,trivial⟩)] (xK [] (nB (nT (xK [hR 2 rfl rfl (Yd (u1:=.int .i64 64) (u2:=.int .i64 1) (v:=.int .i64 65) (X6w p44) (X3 rfl) ⟨rfl,trivial⟩)] (nB (nT (sR [hR 2 rfl rfl (Yd (u1:=.int .i64 65) (u2:=.int .i64 10) (v:=.int .i64 75) (X6w p44) (X3 rfl) ⟨rfl,trivial⟩)] (T.exit (xM rfl (xT (xM rfl (xT (xM rfl (xT (xM rfl (xT (xM rfl (xT (xM rfl (xT (xM rfl (xT (xH (nT (sR [] (T.ret ?_))))))))))))))))))))))))))))))))))
  exact eX [.c 2 0 242 0 242 [dI 75,dI 0,dI 1,dI 4] (.agg [dI 75,dI 0,dI 1,dI 4]),.t 3 (Z72)] ⟨⟨rfl,rfl,by kernel_rfl,by kernel_rfl,.inl ⟨4,Jo,rfl,Nat.le_of_ble_eq_true rfl⟩⟩,⟨⟨rfl,by kernel_rfl⟩,trivial⟩⟩ [] (gc2 (show (Yi k)=⟨75,0,1,4⟩ from Ei) (show ((decide (okK k)):Bool)=true from Ei) (fun qq0 (q5:Bool)=>(.tup [.agg [dI (qq0.Vy),dI (qq0.Wt),dI (qq0.V7),dI (qq0.Vs)],.one (dB q5)]:AV))) trivial
 refine cF (dF hq2) (T.skip (nT (T.seq (T.seq (sR [] ?_)))))
 by_cases hq3:k=3
 ·refine cT (dT hq3) (T.skip (nT (cT (dT hq3) (T.exit (xT (xT (xM rfl (xT (xM rfl (xT (xH (nT (xK [hR 2 rfl rfl (Yd (u1:=.int .i64 0) (u2:=.int .i64 1) (v:=.int .i64 1) (X6w p44) (X3 rfl) ⟨rfl,trivial⟩)] (nB (nT (sR [hR 2 rfl rfl (Yd (u1:=.int .i64 1) (u2:=.int .i64 10) (v:=.int .i64 11) (X6w p44) (X3 rfl) ⟨rfl,trivial⟩)] (T.exit (xM rfl (xT (xM rfl (xT (xM rfl (xT (xM rfl (xT (xM rfl (xT (xM rfl (xT (xM rfl (xT (xH (nT (sR [] (T.ret ?_)))))))))))))))))))))))))))))))))))
  exact eX [.c 2 0 242 0 242 [dI 11,dI 0,dI 1,dI 7] (Z73),.t 3 (Z72)] ⟨⟨rfl,rfl,by kernel_rfl,by kernel_rfl,.inl ⟨4,Jo,rfl,Nat.le_of_ble_eq_true rfl⟩⟩,⟨⟨rfl,by kernel_rfl⟩,trivial⟩⟩ [] p2k trivial
 refine cF (dF hq3) (xK [] (nT ?_))
 by_cases hq4:k=4
 ·refine cT (dT hq4) (T.exit (xT (xT (xM rfl (xT (xM rfl (xT (xH (nT (xK [hR 2 rfl rfl (Yd (u1:=.int .i64 0) (u2:=.int .i64 1) (v:=.int .i64 1) (X6w p44) (X3 rfl) ⟨rfl,trivial⟩)] (nB (nT (sR [hR 2 rfl rfl (Yd (u1:=.int .i64 1) (u2:=.int .i64 10) (v:=.int .i64 11) (X6w p44) (X3 rfl) ⟨rfl,trivial⟩)] (T.exit (xM rfl (xT (xM rfl (xT (xM rfl (xT (xM rfl (xT (xM rfl (xT (xM rfl (xT (xM rfl (xT (xH (nT (sR [] (T.ret ?_))))))))))))))))))))))))))))))))
  exact eX [.c 2 0 242 0 242 [dI 11,dI 0,dI 1,dI 7] (Z73),.t 3 (Z72)] ⟨⟨rfl,rfl,by kernel_rfl,by kernel_rfl,.inl ⟨4,Jo,rfl,Nat.le_of_ble_eq_true rfl⟩⟩,⟨⟨rfl,by kernel_rfl⟩,trivial⟩⟩ [] p2k trivial
 refine cF (dF hq4) (T.skip (nT (T.seq (sR [] ?_))))
 by_cases hq5:k=5
 ·refine cT (dT hq5) (T.exit (xT (xT (xM rfl (xT (xM rfl (xT (xM rfl (xT (xH (nT (sR [hR 2 rfl rfl (Yd (u1:=.int .i64 0) (u2:=.int .i64 10) (v:=.int .i64 10) (X6w p44) (X3 rfl) ⟨rfl,trivial⟩)] (T.exit (xM rfl (xT (xM rfl (xT (xM rfl (xT (xM rfl (xT (xM rfl (xT (xM rfl (xT (xM rfl (xT (xH (nT (sR [] (T.ret ?_)))))))))))))))))))))))))))))))
  exact eX [.c 2 0 242 0 242 [dI 10,dI 0,dI 1,dI 7] (.agg [dI 10,dI 0,dI 1,dI 7]),.t 3 (Z72)] ⟨⟨rfl,rfl,by kernel_rfl,by kernel_rfl,.inl ⟨4,Jo,rfl,Nat.le_of_ble_eq_true rfl⟩⟩,⟨⟨rfl,by kernel_rfl⟩,trivial⟩⟩ [] (gc2 (show (Yi k)=⟨10,0,1,7⟩ from Ei) (show ((decide (okK k)):Bool)=true from Ei) (fun qq0 (q5:Bool)=>(.tup [.agg [dI (qq0.Vy),dI (qq0.Wt),dI (qq0.V7),dI (qq0.Vs)],.one (dB q5)]:AV))) trivial
 refine cF (dF hq5) (T.skip (nT (T.seq (sR [] ?_))))
 by_cases hq6:k=6
 ·refine cT (dT hq6) (T.exit (xT (xT (xM rfl (xT (xM rfl (xT (xM rfl (xT (xM rfl (xT (xH (nT (sR [] (T.exit (xM rfl (xT (xM rfl (xT (xM rfl (xT (xM rfl (xT (xM rfl (xT (xM rfl (xT (xH (nT (sR [] (T.ret ?_)))))))))))))))))))))))))))))))
  exact eX [.c 2 0 242 0 242 [dI 323,dI 1,dI 0,dI 7] (.agg [dI 323,dI 1,dI 0,dI 7]),.t 3 (Z72)] ⟨⟨rfl,rfl,by kernel_rfl,by kernel_rfl,.inl ⟨4,Jo,rfl,Nat.le_of_ble_eq_true rfl⟩⟩,⟨⟨rfl,by kernel_rfl⟩,trivial⟩⟩ [] (gc2 (show (Yi k)=⟨323,1,0,7⟩ from Ei) (show ((decide (okK k)):Bool)=true from Ei) (fun qq0 (q5:Bool)=>(.tup [.agg [dI (qq0.Vy),dI (qq0.Wt),dI (qq0.V7),dI (qq0.Vs)],.one (dB q5)]:AV))) trivial
 refine cF (dF hq6) (T.skip (nT (T.seq (sR [] ?_))))
 by_cases hq7:k=7
 ·refine cT (dT hq7) (T.exit (xT (xT (xM rfl (xT (xM rfl (xT (xM rfl (xT (xM rfl (xT (xM rfl (xT (xH (nT (sR [] (T.exit (xM rfl (xT (xM rfl (xT (xM rfl (xT (xM rfl (xT (xM rfl (xT (xH (nT (sR [] (T.ret ?_)))))))))))))))))))))))))))))))
  exact eX [.c 2 0 242 0 242 [dI 193,dI 1,dI 1,dI 7] (.agg [dI 193,dI 1,dI 1,dI 7]),.t 3 (Z72)] ⟨⟨rfl,rfl,by kernel_rfl,by kernel_rfl,.inl ⟨4,Jo,rfl,Nat.le_of_ble_eq_true rfl⟩⟩,⟨⟨rfl,by kernel_rfl⟩,trivial⟩⟩ [] (gc2 (show (Yi k)=⟨193,1,1,7⟩ from Ei) (show ((decide (okK k)):Bool)=true from Ei) (fun qq0 (q5:Bool)=>(.tup [.agg [dI (qq0.Vy),dI (qq0.Wt),dI (qq0.V7),dI (qq0.Vs)],.one (dB q5)]:AV))) trivial
 refine cF (dF hq7) (T.skip (nT (T.seq (sR [] ?_))))
 by_cases hq8:k=8
 ·refine cT (dT hq8) (T.exit (xT (xT (xM rfl (xT (xM rfl (xT (xM rfl (xT (xM rfl (xT (xM rfl (xT (xM rfl (xT (xH (nT (sR [] (T.exit (xM rfl (xT (xM rfl (xT (xM rfl (xT (xM rfl (xT (xH (nT (sR [] (T.ret ?_)))))))))))))))))))))))))))))))
  exact eX [.c 2 0 242 0 242 [dI 37,dI 0,dI 1,dI 7] (.agg [dI 37,dI 0,dI 1,dI 7]),.t 3 (Z72)] ⟨⟨rfl,rfl,by kernel_rfl,by kernel_rfl,.inl ⟨4,Jo,rfl,Nat.le_of_ble_eq_true rfl⟩⟩,⟨⟨rfl,by kernel_rfl⟩,trivial⟩⟩ [] (gc2 (show (Yi k)=⟨37,0,1,7⟩ from Ei) (show ((decide (okK k)):Bool)=true from Ei) (fun qq0 (q5:Bool)=>(.tup [.agg [dI (qq0.Vy),dI (qq0.Wt),dI (qq0.V7),dI (qq0.Vs)],.one (dB q5)]:AV))) trivial
 refine cF (dF hq8) (T.skip (nT (T.seq (sR [] ?_))))
 by_cases hq9:k=9
 ·refine cT (dT hq9) (T.exit (xT (xT (xM rfl (xT (xM rfl (xT (xM rfl (xT (xM rfl (xT (xM rfl (xT (xM rfl (xT (xM rfl (xT (xH (nT (sR [] (T.exit (xM rfl (xT (xM rfl (xT (xM rfl (xT (xH (nT (sR [] (T.ret ?_)))))))))))))))))))))))))))))))
  exact eX [.c 2 0 242 0 242 [dI 2,dI 0,dI 0,dI 7] (.agg [dI 2,dI 0,dI 0,dI 7]),.t 3 (Z72)] ⟨⟨rfl,rfl,by kernel_rfl,by kernel_rfl,.inl ⟨4,Jo,rfl,Nat.le_of_ble_eq_true rfl⟩⟩,⟨⟨rfl,by kernel_rfl⟩,trivial⟩⟩ [] (gc2 (show (Yi k)=⟨2,0,0,7⟩ from Ei) (show ((decide (okK k)):Bool)=true from Ei) (fun qq0 (q5:Bool)=>(.tup [.agg [dI (qq0.Vy),dI (qq0.Wt),dI (qq0.V7),dI (qq0.Vs)],.one (dB q5)]:AV))) trivial
 refine cF (dF hq9) (T.skip (nT (T.seq (sR [] ?_))))
 by_cases hq10:k=10
 ·refine cT (dT hq10) (T.exit (xT (xT (xM rfl (xT (xM rfl (xT (xM rfl (xT (xM rfl (xT (xM rfl (xT (xM rfl (xT (xM rfl (xT (xM rfl (xT (xH (nT (sR [] (T.exit (xM rfl (xT (xM rfl (xT (xH (nT (sR [] (T.ret ?_)))))))))))))))))))))))))))))))
  exact eX [.c 2 0 242 0 242 [dI 256,dI 0,dI 1,dI 7] (.agg [dI 256,dI 0,dI 1,dI 7]),.t 3 (Z72)] ⟨⟨rfl,rfl,by kernel_rfl,by kernel_rfl,.inl ⟨4,Jo,rfl,Nat.le_of_ble_eq_true rfl⟩⟩,⟨⟨rfl,by kernel_rfl⟩,trivial⟩⟩ [] (gc2 (show (Yi k)=⟨256,0,1,7⟩ from Ei) (show ((decide (okK k)):Bool)=true from Ei) (fun qq0 (q5:Bool)=>(.tup [.agg [dI (qq0.Vy),dI (qq0.Wt),dI (qq0.V7),dI (qq0.Vs)],.one (dB q5)]:AV))) trivial
 refine cF (dF hq10) (T.skip (nT (sR [] ?_)))
 by_cases hq11:k=11
 ·refine cT (dT hq11) (T.exit (xT (xM rfl (xT (xM rfl (xT (xM rfl (xT (xM rfl (xT (xM rfl (xT (xM rfl (xT (xM rfl (xT (xM rfl (xT (xM rfl (xT (xH (nT (sR [] (T.exit (xM rfl (xT (xH (nT (sR [] (T.ret ?_))))))))))))))))))))))))))))))
  exact eX [.c 2 0 242 0 242 [dI 82,dI 0,dI 1,dI 7] (.agg [dI 82,dI 0,dI 1,dI 7]),.t 3 (Z72)] ⟨⟨rfl,rfl,by kernel_rfl,by kernel_rfl,.inl ⟨4,Jo,rfl,Nat.le_of_ble_eq_true rfl⟩⟩,⟨⟨rfl,by kernel_rfl⟩,trivial⟩⟩ [] (gc2 (show (Yi k)=⟨82,0,1,7⟩ from Ei) (show ((decide (okK k)):Bool)=true from Ei) (fun qq0 (q5:Bool)=>(.tup [.agg [dI (qq0.Vy),dI (qq0.Wt),dI (qq0.V7),dI (qq0.Vs)],.one (dB q5)]:AV))) trivial
 refine cF (dF hq11) (T.skip (nT (T.exit (xM rfl (xT (xM rfl (xT (xM rfl (xT (xM rfl (xT (xM rfl (xT (xM rfl (xT (xM rfl (xT (xM rfl (xT (xM rfl (xT (xM rfl (xT (xH (nT (T.seq (sR [] (T.ret (rT (rB (rT ?_)))))))))))))))))))))))))))))))
 exact eX [.c 2 0 242 0 242 [dI 0,dI 0,dI 1,dI 7] (.agg [dI 0,dI 0,dI 1,dI 7]),.t 3 (.one (dB false))] ⟨⟨rfl,rfl,by kernel_rfl,by kernel_rfl,.inl ⟨4,Jo,rfl,Nat.le_of_ble_eq_true rfl⟩⟩,⟨⟨rfl,by kernel_rfl⟩,trivial⟩⟩ [] (gc2 (show (Yi k)=⟨0,0,1,7⟩ from Ei) (by exact dF (by unfold okK;omega)) (fun qq0 (q5:Bool)=>(.tup [.agg [dI (qq0.Vy),dI (qq0.Wt),dI (qq0.V7),dI (qq0.Vs)],.one (dB q5)]:AV))) trivial
theorem Us (s:J5) (f:Int) (n:Int) (lo:Int) (hi:Int):Holds Tryz.prog 200 ⟨[.tv (.agg [dI s.Vy,dI s.Wt,dI s.V7,dI s.Vs]),vI f,vI n,vI lo,vI hi],[],vB (decide (inM s f n lo hi)),[]⟩:=by
 refine Holds.of Tryz.func200 rfl (N:=24) Tryz.ntmps200 rfl fun w0 B0 S0 U0=>?_
 show T _ (Y2 24 0 w0 S0 U0 B0) ⟨[.tv (.agg [dI s.Vy,dI s.Wt,dI s.V7,dI s.Vs]),vI f,vI n,vI lo,vI hi],[]⟩ _ _
 refine sR [] (T.seq (sR [hR 3 rfl rfl (Yd (u1:=.int .i64 s.Vy) (u2:=.int .i64 f) (v:=.int .i64 (I3 s.Vy f)) (Xct rfl) (X3 rfl) trivial)] ?_))
 by_cases hq1:(I3 s.Vy f)=0
 ·refine cT (dT hq1) (xK [] (nT ?_))
  by_cases hq2:0≤n
  ·refine sR (Xm (hY · (dT hq2)) [4,5,6] (hP 7 (dT hq2)::[])) (T.ret ?_)
   exact eRt 10 (.one (dB (decide (n≤0)))) [] (by have e1:((decide (inM s f n lo hi)):Bool)=(decide (n≤0)):=(by (simp [inM, *];done));have hE:=cB e1;exact hE) trivial
  refine sR (Xm (hN · true (dF hq2)) [4,5,6] (hP 7 (dF hq2)::[])) (T.ret ?_)
  exact eRt 10 (.one (dB false)) [] p43 trivial
 refine cF (dF hq1) (T.skip (nT ?_))
 by_cases hq3:lo≤n
 ·refine sR (Xm (hY · (dT hq3)) [4,5,6] (hP 7 (dT hq3)::[])) (T.ret ?_)
  exact eRt 10 (.one (dB (decide (n≤hi)))) [] (by have e1:((decide (inM s f n lo hi)):Bool)=(decide (n≤hi)):=(by (simp [inM, *];done));have hE:=cB e1;exact hE) trivial
 refine sR (Xm (hN · true (dF hq3)) [4,5,6] (hP 7 (dF hq3)::[])) (T.ret ?_)
 exact eRt 10 (.one (dB false)) [] p43 trivial
theorem Xgq (tc:Bool) (c:aC):Holds Tryz.prog 202 ⟨[.tv (.agg [dI c.I5.X5,.d (dsl tc false kU8 c.I5.Xd),.d (dsl tc false (kE tc) c.Xu)])],[],vB (decide (((c.Xu.length:Nat):Int)>7)),[]⟩:=by
 refine Holds.of Tryz.func202 rfl (N:=7) Tryz.ntmps202 rfl fun w0 B0 S0 U0=>?_
 show T _ (Y2 7 0 w0 S0 U0 B0) ⟨[.tv (.agg [dI c.I5.X5,.d (dsl tc false kU8 c.I5.Xd),.d (dsl tc false (kE tc) c.Xu)])],[]⟩ _ _
 refine sR [] (sR [] (T.ret ?_))
 exact eRt 2 (.one (dB (decide (((c.Xu.length:Nat):Int)>7)))) [] rfl trivial
theorem Fp:Tryz.prog.info? 86=some Tryz.t86:=by kernel_rfl
abbrev Z74:AV:=dv (.func (.func 202) #[] #[])
abbrev Z75 (l:List aC):AV:=vI ((l.length:Nat):Int)
theorem idx_Cert (tl:Bool) (nl:Bool) (sl_:Bool) (l:List aC) (hl:l.length≤9223372036854775807):Holds Tryz.prog 203 ⟨[slV tl nl (kC sl_) l,dv (.func (.func 202) #[] #[])],[],vI (idxV l),[]⟩:=by
 refine Holds.of Tryz.func203 rfl (N:=19) Tryz.ntmps203 rfl fun w0 B0 S0 U0=>?_
 show T _ (Y2 19 0 w0 S0 U0 B0) ⟨[slV tl nl (kC sl_) l,Z74],[]⟩ _ _
 refine sR [] (T.seq (sR [] (T.block ?_)))
 refine T.loop (ι:=Nat) (fun (k:Nat)=>⟨[slV tl nl (kC sl_) l,Z74,aa,aa,vI 0,aa,aa,(Z75 l),vI ((k:Nat):Int)],[]⟩) (fun (k:Nat)=>(k≤l.length)∧(∀ j,j<k→(l.getD j zC).Xu.length≤7)) (fun (k:Nat)=>l.length-k) (0) ⟨(Nat.zero_le _),(fun j hj=>absurd hj (Nat.not_lt_zero _))⟩ (fun _ _ hG=>Yv [] (bm 9 403) rfl rfl hG) ?_
 rintro k ⟨hk,hb⟩
 show T _ _ ⟨[slV tl nl (kC sl_) l,Z74,aa,aa,vI 0,aa,aa,(Z75 l),vI ((k:Nat):Int)],[]⟩ _ _
 replace hk:k≤l.length:=hk
 replace hb:∀ j,j<k→(l.getD j zC).Xu.length≤7:=hb
 refine sR [] (T.seq ?_)
 by_cases hq1:((k:Nat):Int)<((l.length:Nat):Int)
 ·refine cT (dT hq1) (T.skip (nT (T.seq (T.block (sR [] (sR [hR 3 rfl rfl (We tl nl (kC sl_) l k (k:=.i64) (i:=((k:Nat):Int)) Tryz.underlying76 Fp rfl rfl (by omega) (X3 rfl) trivial),hR 5 rfl rfl (X7h (fs:=#[]) (cs:=#[]) (Xgq sl_ (l.getD k zC) ) Tryz.func202 rfl (by decide) [] [] (l:=[(.tmp 15,.tv (.agg [dI (l.getD k zC).I5.X5,.d (dsl sl_ false kU8 (l.getD k zC).I5.Xd),.d (dsl sl_ false (kE sl_) (l.getD k zC).Xu)]))]) [] rfl 0 0 rfl rfl rfl rfl rfl rfl rfl rfl rfl rfl rfl ⟨⟨.inl ⟨rfl,rfl⟩,⟨.inl ⟨rfl,rfl⟩,⟨.inl ⟨rfl,rfl⟩,trivial⟩⟩⟩,trivial⟩ rfl p4r (.inl rfl) (X3 rfl) trivial)] ?_))))))
  by_cases hq2:(((l.getD k zC).Xu.length:Nat):Int)>7
  ·refine cT (dT hq2) (sR [] (T.ret (rB (rT (rT (rB (rT ?_)))))))
   exact eRt 4 (.one (dI ((k:Nat):Int))) [] (cI (by exact idx_at hb (by omega) (by omega))) trivial
  refine cF (dF hq2) (T.skip (nB (nT (xK [hR 0 rfl rfl (Yd (u1:=.int .i64 ((k:Nat):Int)) (u2:=.int .i64 1) (v:=.int .i64 ((k+1:Nat):Int)) (Wb pc) (X3 rfl) ⟨rfl,trivial⟩)] ?_))))
  refine nL (k+1) ⟨(show (k+1)≤l.length from (by omega)),(show ∀ j,j<(k+1)→(l.getD j zC).Xu.length≤7 from (Ut hb (by omega)))⟩ (show (l.length-(k+1):Nat)<l.length-k from (by omega)) (fun _ _ hG=>Yv [] (bm 9 403) rfl rfl hG)
 refine cF (dF hq1) (T.exit (xT (xT (xH (nT (sR [] (T.ret ?_)))))))
 exact eRt 4 (.one (dI (-1))) [] (cI (by exact idx_no hb (by omega))) trivial
theorem Hx (tl:Bool) (nl:Bool) (sl_:Bool) (l:List aC) (hl:l.length≤9223372036854775807):Holds Tryz.prog 201 ⟨[slV tl nl (kC sl_) l,dv (.func (.func 202) #[] #[])],[],vB (decide (¬X23 l)),[]⟩:=by
 refine Holds.of Tryz.func201 rfl (N:=9) Tryz.ntmps201 rfl fun w0 B0 S0 U0=>?_
 show T _ (Y2 9 0 w0 S0 U0 B0) ⟨[slV tl nl (kC sl_) l,dv (.func (.func 202) #[] #[])],[]⟩ _ _
 refine sR [] (sR [hR 2 rfl rfl (rCa (idx_Cert tl nl sl_ l ‹_›) Tryz.func203 [] [(.tmp 5,slV tl nl (kC sl_) l),(.tmp 6,dv (.func (.func 202) #[] #[]))] 0 0)] (T.ret ?_))
 exact eRt 4 (.one (dB (decide ((idxV l)≥0)))) [] (by have e1:((decide (¬X23 l)):Bool)=(decide ((idxV l)≥0)):=(by (rw [decide_eq_decide];exact (idx_few _).symm));have hE:=cB e1;exact hE) trivial
end Go.Proofs.YtnaopgohccacmaaGreat.Q
