import Derived.Test.YtnaopgohccacmaaGreatC19n11
namespace Go.Proofs.YtnaopgohccacmaaGreat.Q
open Go Go.RowKit
set_option linter.unusedVariables false
set_option linter.unusedSimpArgs false
set_option maxRecDepth 100000
set_option maxHeartbeats 4000000
theorem X8v (te:Bool) (e:aE) (r:Y6) (hb:e.Xf.length≤100000000):Holds Tryz.prog 103 ⟨[.tv (.agg [dI e.X4,.d (dsl te false kU8 e.Xf)]),.tv (.agg [dI r.Xw,dI r.Xn])],[],Y9 0 kU8 0 (V6 e r).length,[.live (Xe 5 kU8 (V6 e r))]⟩:=by
 refine Holds.of Tryz.func103 rfl (N:=19) Tryz.ntmps103 rfl fun w0 B0 S0 U0=>?_
 show T _ (Y2 19 0 w0 S0 U0 B0) ⟨[.tv (.agg [dI e.X4,.d (dsl te false kU8 e.Xf)]),.tv (.agg [dI r.Xw,dI r.Xn])],[]⟩ _ _
 have hi1:=Wq e.X4
 have hi2:=Wq r.Xw
 have hy:=Vg e.Xf
 refine sR [] ?_
 refine sD [[],[0],[0,1],[],[3],[0,1,2,3,4],[0,1,2,3,4,5]] [hR 2 rfl rfl (rCn (Ui false false ([]:List UInt8) e.X4 (by (simp [maxLen,-List.getD_eq_getElem?_getD]<;>omega))) Tryz.func63 [2] [(.const (.slice none 0 0),dv (.slice none 0 0)),(.tmp 7,vI e.X4)] 0 1 ⟨.inr pZ5,⟨.inl ⟨rfl,rfl⟩,trivial⟩⟩ ⟨rfl,trivial⟩),hR 5 rfl rfl (Ww (I9 true false (([]:List UInt8)++Yx e.X4) te false e.Xf (by (simp [maxLen,-List.getD_eq_getElem?_getD]<;>omega))) Tryz.func64 rfl (by decide) [3] [2] (l:=[(.tmp 8,Y9 2 kU8 0 (([]:List UInt8)++Yx e.X4).length),(.tmp 10,slV te false kU8 e.Xf)]) [(2,.live (Xe 5 kU8 (([]:List UInt8)++Yx e.X4)))] rfl 0 1 rfl rfl rfl rfl rfl rfl rfl rfl rfl ⟨.inr (.inl ⟨rfl,px,rfl,rfl,by simp,5,(([]:List UInt8)++Yx e.X4).length,W6 kU8 (([]:List UInt8)++Yx e.X4),List.Mem.head _,pm,fun i j=>by rw [Nat.zero_add]⟩),⟨.inl ⟨rfl,rfl⟩,trivial⟩⟩ rfl pZ6 pZl (X3 rfl) trivial)] ?_
 refine sD [[],[],[1],[0,1,2],[],[4],[0,1,2,3,4,5],[0,1,2,3,4,5,6]] [hR 3 rfl rfl (Ww (Ui true false (([]:List UInt8)++Yx e.X4++W3 e.Xf) r.Xw (by (simp [maxLen,-List.getD_eq_getElem?_getD]<;>omega))) Tryz.func63 rfl (by decide) [4] [3] (l:=[(.tmp 12,Y9 3 kU8 0 (([]:List UInt8)++Yx e.X4++W3 e.Xf).length),(.tmp 14,vI r.Xw)]) [(3,.live (Xe 5 kU8 (([]:List UInt8)++Yx e.X4++W3 e.Xf)))] rfl 0 1 rfl rfl rfl rfl rfl rfl rfl rfl rfl ⟨.inr (.inl ⟨rfl,px,rfl,rfl,by simp,5,(([]:List UInt8)++Yx e.X4++W3 e.Xf).length,W6 kU8 (([]:List UInt8)++Yx e.X4++W3 e.Xf),List.Mem.head _,pm,fun i j=>by rw [Nat.zero_add]⟩),⟨.inl ⟨rfl,rfl⟩,trivial⟩⟩ rfl pZ6 pZl (X3 rfl) trivial),hR 6 rfl rfl (Ww (Ui true false (([]:List UInt8)++Yx e.X4++W3 e.Xf++Yx r.Xw) r.Xn (by (simp [maxLen,-List.getD_eq_getElem?_getD]<;>omega))) Tryz.func63 rfl (by decide) [5] [4] (l:=[(.tmp 15,Y9 4 kU8 0 (([]:List UInt8)++Yx e.X4++W3 e.Xf++Yx r.Xw).length),(.tmp 17,vI r.Xn)]) [(4,.live (Xe 5 kU8 (([]:List UInt8)++Yx e.X4++W3 e.Xf++Yx r.Xw)))] rfl 0 1 rfl rfl rfl rfl rfl rfl rfl rfl rfl ⟨.inr (.inl ⟨rfl,px,rfl,rfl,by simp,5,(([]:List UInt8)++Yx e.X4++W3 e.Xf++Yx r.Xw).length,W6 kU8 (([]:List UInt8)++Yx e.X4++W3 e.Xf++Yx r.Xw),List.Mem.head _,pm,fun i j=>by rw [Nat.zero_add]⟩),⟨.inl ⟨rfl,rfl⟩,trivial⟩⟩ rfl pZ6 pZl (X3 rfl) trivial)] ?_
 refine T.ret ?_
 exact eRt 4 (.one (.own 5 kU8.sz 0 (([]:List UInt8)++Yx e.X4++W3 e.Xf++Yx r.Xw++Yx r.Xn).length)) [5] (congrArg (fun (q1:Nat)=>(Y9 5 kU8 0 q1:AV)) (by rfl)) ⟨⟨rfl,(by have e1:(([]:List UInt8)++Yx e.X4++W3 e.Xf++Yx r.Xw++Yx r.Xn:List UInt8)=V6 e r:=(by rfl);have hE:=congrArg (fun (q1:List UInt8)=>(.live (Xe 5 kU8 q1):HS)) e1;exact Eq.trans pZ7 hE)⟩,trivial⟩
theorem X73 (tb_:Bool) (b:Xq) (hq:b.X9.length≤9223372036854775807) (hr:b.Xl.length≤9223372036854775807):Holds Tryz.prog 87 ⟨[.tv (.agg [dI b.Xg,dS b.Y4,.d (dsl tb_ false (kE tb_) b.X9),.d (dsl tb_ false (Xd tb_) b.Xl)])],[],vI (Vf b),[]⟩:=by
 refine Holds.of Tryz.func87 rfl (N:=26) Tryz.ntmps87 rfl fun w0 B0 S0 U0=>?_
 show T _ (Y2 26 0 w0 S0 U0 B0) ⟨[.tv (.agg [dI b.Xg,dS b.Y4,.d (dsl tb_ false (kE tb_) b.X9),.d (dsl tb_ false (Xd tb_) b.Xl)])],[]⟩ _ _
 refine sR [] ?_
 refine T.seq ?_
 refine T.block ?_
 by_cases hq1:b.Xg<1
 ·refine sR (Xm (hN · false (dT hq1)) [4,5,6] (hP 7 (dT hq1)::[])) ?_
  refine cT (b:=true) rfl ?_
  refine sR [] ?_
  refine T.ret (rB (rT ?_))
  exact eRt 2 (.one (dI 100)) [] pZ26 trivial
 refine sR (Xm (hY · (dF hq1)) [4,5,6] (hP 7 (dF hq1)::[])) ?_
 by_cases hq2:b.Xg>1099511627776
 ·refine cT (dT hq2) ?_
  refine sR [] ?_
  refine T.ret (rB (rT ?_))
  exact eRt 2 (.one (dI 100)) [] pZ26 trivial
 refine cF (dF hq2) ?_
 by_cases hq3:((b.X9.length:Nat):Int)≠((b.Xl.length:Nat):Int)
 ·refine sR (Xm (hN · false (dT hq3)) [8,9,10,11] (hP 12 (dT hq3)::[])) ?_
  refine cT (b:=true) rfl ?_
  refine sR [] ?_
  refine T.ret (rB (rT ?_))
  exact eRt 2 (.one (dI 102)) [] p1t trivial
 refine sR (Xm (hY · (dF hq3)) [8,9,10,11] (hP 12 (dF hq3)::[])) ?_
 by_cases hq4:((b.Xl.length:Nat):Int)>4
 ·refine cT (dT hq4) ?_
  refine sR [] ?_
  refine T.ret (rB (rT ?_))
  exact eRt 2 (.one (dI 102)) [] p1t trivial
 refine cF (dF hq4) ?_
 refine T.skip ?_
 refine nB ?_
 refine nT ?_
 refine sR [] ?_
 refine T.ret ?_
 exact eRt 2 (.one (dI 0)) [] p41 trivial
theorem X6w (tb_:Bool) (b:Xq) (hq:b.X9.length≤9223372036854775807) (hr:b.Xl.length≤9223372036854775807):Holds Tryz.prog 92 ⟨[.tv (.agg [dI b.Xg,dS b.Y4,.d (dsl tb_ false (kE tb_) b.X9),.d (dsl tb_ false (Xd tb_) b.Xl)])],[],vI (Vf b),[]⟩:=by
 refine Holds.of Tryz.func92 rfl (N:=24) Tryz.ntmps92 rfl fun w0 B0 S0 U0=>?_
 show T _ (Y2 24 0 w0 S0 U0 B0) ⟨[.tv (.agg [dI b.Xg,dS b.Y4,.d (dsl tb_ false (kE tb_) b.X9),.d (dsl tb_ false (Xd tb_) b.Xl)])],[]⟩ _ _
 refine sR [] ?_
 refine T.seq ?_
 by_cases hq1:b.Xg<1
 ·refine sR (Xm (hN · false (dT hq1)) [4,5,6] (hP 7 (dT hq1)::[])) ?_
  refine cT (b:=true) rfl ?_
  refine sR [] ?_
  refine T.ret (rT ?_)
  exact eRt 2 (.one (dI 100)) [] pZ26 trivial
 refine sR (Xm (hY · (dF hq1)) [4,5,6] (hP 7 (dF hq1)::[])) ?_
 by_cases hq2:b.Xg>1099511627776
 ·refine cT (dT hq2) ?_
  refine sR [] ?_
  refine T.ret (rT ?_)
  exact eRt 2 (.one (dI 100)) [] pZ26 trivial
 refine cF (dF hq2) ?_
 refine T.skip (nT (T.seq ?_))
 by_cases hq3:((b.X9.length:Nat):Int)≠((b.Xl.length:Nat):Int)
 ·refine sR (Xm (hN · false (dT hq3)) [8,9,10,11] (hP 12 (dT hq3)::[])) ?_
  refine cT (b:=true) rfl ?_
  refine sR [] ?_
  refine T.ret (rT ?_)
  exact eRt 2 (.one (dI 102)) [] p1t trivial
 refine sR (Xm (hY · (dF hq3)) [8,9,10,11] (hP 12 (dF hq3)::[])) ?_
 by_cases hq4:((b.X9.length:Nat):Int)>4
 ·refine cT (dT hq4) ?_
  refine sR [] ?_
  refine T.ret (rT ?_)
  exact eRt 2 (.one (dI 102)) [] p1t trivial
 refine cF (dF hq4) ?_
 refine T.skip (nT ?_)
 refine sR [] ?_
 refine T.ret ?_
 exact eRt 2 (.one (dI 0)) [] p41 trivial
theorem Xf0:Elem Tryz.prog 136 25 1 24:=⟨Tryz.underlying136,_,_,U1,rfl,rfl,rfl,rfl,by decide⟩
theorem Em:Tryz.prog.info? 46=some Tryz.t46:=by kernel_rfl
section
variable (tb_:Bool) (b:Xq) (k:Nat)
abbrev Z4h:List SV:=[dI b.Xg,dS b.Y4,.d (dsl tb_ false (kE tb_) b.X9),.d (dsl tb_ false (Xd tb_) b.Xl)]
abbrev Z4i:AV:=vI (((Ya b).length:Nat):Int)
abbrev Z4j:HS:=.live (.box 65 (Z4h tb_ b))
abbrev Z4k:St:=⟨[aa,pv 0 0,aa,Y9 1 (kSl false kU8) 0 (Uj [] (Ya b) k).length,aa,aa,aa,aa,aa,aa,aa,aa,aa,aa,(Z4i b),vI ((k:Nat):Int)],[(Z4j tb_ b),.live (Xe 25 (kSl false kU8) (Uj [] (Ya b) k))]⟩
abbrev Z4l:AV:=Y9 1 (kSl false kU8) 0 (Uj [] (Ya b) 0).length
abbrev Z4n:=(V6 (b.X9.getD k zE) (b.Xl.getD k Ym))
abbrev Z4o:AV:=vI ((k+1:Nat):Int)
abbrev Z4p:List AV:=[aa,pv 0 0,aa,Y9 1 (kSl false kU8) 0 (Uj [] (Ya b) k).length,vI ((k:Nat):Int),aa,aa,aa,aa,aa,aa,aa,aa,aa,(Z4i b),(Z4o k),vB (decide (((k:Nat):Int)<(((Ya b).length:Nat):Int)))]
abbrev Z4q:HS:=.live (Xe 25 (kSl false kU8) (((Uj [] (Ya b) k).set k (Z4n b k)).take (Uj [] (Ya b) k).length))
end
theorem X59 (tb_:Bool) (b:Xq) (hf:fewW b):Holds Tryz.prog 109 ⟨[.tv (.agg [dI b.Xg,dS b.Y4,.d (dsl tb_ false (kE tb_) b.X9),.d (dsl tb_ false (Xd tb_) b.Xl)])],[],Y9 0 (kSl false kU8) 0 (Ya b).length,[.live (Xe 25 (kSl false kU8) (Ya b))]⟩:=by
 refine Holds.of Tryz.func109 rfl (N:=34) Tryz.ntmps109 rfl fun w0 B0 S0 U0=>?_
 show T _ (Y2 34 0 w0 S0 U0 B0) ⟨[.tv (.agg (Z4h tb_ b))],[]⟩ _ _
 have hf1:=hf.1.1
 have hf2:=hf.2.1
 have hf3:=hf.2.2
 have hll:=U6 b
 have hfl:=Eb hf
 refine sR [] ?_
 refine sR [hR 6 rfl rfl (r_minN (k:=.i64) (a:=b.X9.length) (b:=b.Xl.length) (X3 rfl) trivial),hR 7 rfl rfl (q_makeW 1 25 24 (kSl false kU8) (Uj [] (Ya b) 0) (min b.X9.length b.Xl.length) (min b.X9.length b.Xl.length) (p:=((min b.X9.length b.Xl.length:Nat):Int)) (q:=((min b.X9.length b.Xl.length:Nat):Int)) Xf0 E0 rfl rfl (by omega) (by omega) (by (unfold maxLen;omega)) (by intro j hj;replace hj:j<1:=hj;rcases j with _|j<;>first|exact .inl rfl|exact .inr ⟨rfl,rfl,rfl⟩|omega) (by (rw [fill_0,hll];rfl)) (X3 rfl) trivial)] ?_
 refine T.seq ?_
 refine sR [] ?_
 refine T.block ?_
 refine T.loop (ι:=Nat) (fun (k:Nat)=>(Z4k tb_ b k)) (fun (k:Nat)=>(k≤(Ya b).length)) (fun (k:Nat)=>(Ya b).length-k) (0) (Nat.zero_le _) (fun _ _ hG=>Yt [0,1] (bm 16 49162) (t2:=[aa,pv 0 0,aa,(Z4l b),aa,aa,aa,aa,aa,aa,aa,aa,aa,aa,vI (((Uj [] (Ya b) 0).length:Nat):Int),vI 0]) (by have e1:((((Ya b).length:Nat):Int):Int)=(((Uj [] (Ya b) 0).length:Nat):Int):=(by (simp only [X4z];done));have hE:=congrArg (fun (q1:Int)=>([aa,pv 0 0,aa,(Z4l b),aa,aa,aa,aa,aa,aa,aa,aa,aa,aa,vI q1,vI 0]:List AV)) e1;exact hE) rfl hG) ?_
 rintro k hk
 show T _ _ (Z4k tb_ b k) _ _
 replace hk:k≤(Ya b).length:=hk
 have hf1:=hf.1.1
 have hf2:=hf.2.1
 have hf3:=hf.2.2
 have hll:=U6 b
 have hfl:=Eb hf
 have hbk:(b.X9.getD k zE).Xf.length≤20000:=Ie (sz:=szE) hf.1 (by decide) k
 have hfk:=X4z ([]:List UInt8) (Ya b) k
 refine sR [] ?_
 refine T.seq ?_
 by_cases hq1:((k:Nat):Int)<(((Ya b).length:Nat):Int)
 ·refine cT (dT hq1) ?_
  refine T.skip (nT (T.seq ?_))
  refine T.block ?_
  refine sR [] ?_
  refine xD [[],[],[],[2],[],[2,3,4],[2,3,4,5],[],[7],[],[7,8,9],[7,8,9,10],[2,3,4,5,6,7,8,9,10,11],[0,1,2,3,4,5,6,7,8,9,10,11,12],[0,1,2,3,4,5,6,7,8,9,10,11,12,13]] [hR 5 rfl rfl (Wd tb_ false (kE tb_) b.X9 k (k:=.i64) (i:=((k:Nat):Int)) Tryz.underlying37 Vs rfl rfl (by omega) (X3 rfl) trivial),hR 10 rfl rfl (Wd tb_ false (Xd tb_) b.Xl k (k:=.i64) (i:=((k:Nat):Int)) Tryz.underlying63 Em rfl rfl (by omega) (X3 rfl) trivial),hR 12 rfl rfl (rCa (X9z tb_ (b.X9.getD k zE) (b.Xl.getD k Ym) (by omega)) Tryz.func101 [2] [(.tmp 24,.tv (.agg [dI (b.X9.getD k zE).X4,.d (dsl tb_ false kU8 (b.X9.getD k zE).Xf)])),(.tmp 29,.tv (.agg [dI (b.Xl.getD k Ym).Xw,dI (b.Xl.getD k Ym).Xn]))] 0 1),hR 13 rfl rfl (V9 (k:=.i64) (l:=1) (sz:=(kSl false kU8).sz) (off:=0) (n:=(Uj [] (Ya b) k).length) (i:=((k:Nat):Int)) (m:=k) (o':=k*(kSl false kU8).sz+0) Tryz.underlying136 U1 rfl rfl (by omega) (by simp) (X3 rfl) trivial),hR 14 rfl rfl (J0 1 30 2 5 kU8 (V6 (b.X9.getD k zE) (b.Xl.getD k Ym)) (av:=Y9 2 kU8 0 (Z4n b k).length) (Fj 1 25 (kSl false kU8) (Uj [] (Ya b) k) (V6 (b.X9.getD k zE) (b.Xl.getD k Ym)) k 0 1 [dsl false false kU8 (Z4n b k)] (tv:=.one (dU (Z4n b k))) (off:=k*(kSl false kU8).sz+0) Xfc ⟨.inl rfl,trivial⟩ rfl rfl (by omega) (by decide) rfl (by intro j hj;replace hj:j<1:=hj;rcases j with _|j<;>first|rfl|omega) trivial) rfl (.inr pZ0) p3c rfl rfl)] pZ7 pZ7 pZ7 pZ7 pZ7 pZ7 ?_
  refine nB ?_
  refine nT ?_
  refine xK [hR 0 rfl rfl (Ye (u1:=.int .i64 ((k:Nat):Int)) (u2:=.int .i64 1) (v:=.int .i64 ((k+1:Nat):Int)) (Wa pa) (X3 rfl) ⟨rfl,trivial⟩)] ?_
  refine eN ⟨(Z4p b k),[(Z4j tb_ b),.live (Xe 25 (kSl false kU8) ((Uj [] (Ya b) k).set k (Z4n b k))),.dead]⟩ ?_
  refine Xc (s':=⟨(Z4p b k),[(Z4j tb_ b),(Z4q b k),.dead]⟩) (fun _ _ hG=>Xng 1 25 (kSl false kU8) ((Uj [] (Ya b) k).set k (V6 (b.X9.getD k zE) (b.Xl.getD k Ym))) (((Uj [] (Ya b) k).set k (V6 (b.X9.getD k zE) (b.Xl.getD k Ym))).take (Uj [] (Ya b) k).length) (Uj [] (Ya b) k).length rfl rfl hG) ?_
  refine nL (k+1) (show (k+1)≤(Ya b).length from (by omega)) (show ((Ya b).length-(k+1):Nat)<(Ya b).length-k from (by omega)) (fun _ _ hG=>Yt [0,1] (bm 16 49162) (t2:=[aa,pv 0 0,aa,Y9 1 (kSl false kU8) 0 (Uj [] (Ya b) k).length,aa,aa,aa,aa,aa,aa,aa,aa,aa,aa,(Z4i b),(Z4o k)]) (h2:=[(Z4j tb_ b),(Z4q b k)]) (by have e1:((Uj [] (Ya b) (k+1)).length:Nat)=(Uj [] (Ya b) k).length:=(by (simp only [X4z,List.length_set]));have hE:=congrArg (fun (q1:Nat)=>([aa,pv 0 0,aa,Y9 1 (kSl false kU8) 0 q1,aa,aa,aa,aa,aa,aa,aa,aa,aa,aa,(Z4i b),(Z4o k)]:List AV)) e1;exact hE) (by have e1:((Uj [] (Ya b) (k+1)):List (List UInt8))=(((Uj [] (Ya b) k).set k (V6 (b.X9.getD k zE) (b.Xl.getD k Ym))).take (Uj [] (Ya b) k).length):=(by (rw [← Fp (by omega) (by omega),fill_set (by omega),List.take_of_length_le (by simp only [X4z];omega)]));have hE:=congrArg (fun (q1:List (List UInt8))=>([(Z4j tb_ b),.live (Xe 25 (kSl false kU8) q1)]:List HS)) e1;exact hE) hG)
 refine cF (dF hq1) ?_
 refine T.exit ?_
 refine xT ?_
 refine xT ?_
 refine xH ?_
 refine nT ?_
 refine sR [] ?_
 refine T.ret ?_
 exact eRt 2 (.one (.own 1 (kSl false kU8).sz 0 (Uj [] (Ya b) k).length)) [1] (by have e1:((Ya b).length:Nat)=(Uj [] (Ya b) k).length:=(by (rw [Xet (by omega)]));have hE:=congrArg (fun (q1:Nat)=>(Y9 1 (kSl false kU8) 0 q1:AV)) e1;exact hE) ⟨⟨rfl,(by have e1:((Uj [] (Ya b) k):List (List UInt8))=(Ya b):=(by (rw [Xet (by omega)]));have hE:=congrArg (fun (q1:List (List UInt8))=>(.live (Xe 25 (kSl false kU8) q1):HS)) e1;exact Eq.trans pZ7 hE)⟩,trivial⟩
section
variable (tb_:Bool) (b:Xq) (k:Nat)
abbrev Z4s:List SV:=[dI b.Xg,dS b.Y4,.d (dsl tb_ false (kE tb_) b.X9),.d (dsl tb_ false (Xd tb_) b.Xl)]
abbrev Z4t:HS:=.live (.box 65 (Z4s tb_ b))
abbrev Z4u:List AV:=[aa,pv 0 0,aa,Y9 1 (kSl false kU8) 0 ((Ya b).take k).length,vI ((k:Nat):Int)]
abbrev Z4w:=(V6 (b.X9.getD k zE) (b.Xl.getD k Ym))
abbrev Z4x:AV:=vI ((k+1:Nat):Int)
end
theorem X4j (tb_:Bool) (b:Xq) (hf:fewW b):Holds Tryz.prog 97 ⟨[.tv (.agg [dI b.Xg,dS b.Y4,.d (dsl tb_ false (kE tb_) b.X9),.d (dsl tb_ false (Xd tb_) b.Xl)])],[],Y9 0 (kSl false kU8) 0 (Ya b).length,[.live (Xe 25 (kSl false kU8) (Ya b))]⟩:=by
 refine Holds.of Tryz.func97 rfl (N:=34) Tryz.ntmps97 rfl fun w0 B0 S0 U0=>?_
 show T _ (Y2 34 0 w0 S0 U0 B0) ⟨[.tv (.agg (Z4s tb_ b))],[]⟩ _ _
 have hf1:=hf.1.1
 have hf2:=hf.2.1
 have hf3:=hf.2.2
 have hll:=U6 b
 have hfl:=Eb hf
 refine sR [] ?_
 refine sR [] ?_
 refine T.seq ?_
 refine sR [] ?_
 refine T.block ?_
 refine tN ⟨[.tv (.agg (Z4s tb_ b)),pv 0 0,dv (.slice none 0 0),dv (.slice none 0 0),vI 0],[(Z4t tb_ b)]⟩ ?_
 refine Wv (s':=⟨[.tv (.agg (Z4s tb_ b)),pv 0 0,dv (.slice none 0 0),Y9 1 (kSl false kU8) 0 0,vI 0],[(Z4t tb_ b),.live (Xe 25 (kSl false kU8) ([]:List (List UInt8)))]⟩) (fun _ _ hG=>Vy 1 3 25 (kSl false kU8) rfl rfl hG) ?_
 refine T.loop (ι:=Nat) (fun (k:Nat)=>⟨(Z4u b k),[(Z4t tb_ b),.live (Xe 25 (kSl false kU8) ((Ya b).take k))]⟩) (fun (k:Nat)=>(k≤(Ya b).length)) (fun (k:Nat)=>(Ya b).length-k) (0) (Nat.zero_le _) (fun _ _ hG=>Yt [0,1] (bm 5 26) (t2:=[aa,pv 0 0,aa,Y9 1 (kSl false kU8) 0 0,vI 0]) (h2:=[(Z4t tb_ b),.live (Xe 25 (kSl false kU8) ([]:List (List UInt8)))]) (congrArg (fun (q1:Nat)=>([aa,pv 0 0,aa,Y9 1 (kSl false kU8) 0 q1,vI 0]:List AV)) (by rfl)) (congrArg (fun (q1:List (List UInt8))=>([(Z4t tb_ b),.live (Xe 25 (kSl false kU8) q1)]:List HS)) (by rfl)) hG) ?_
 rintro k hk
 show T _ _ ⟨(Z4u b k),[(Z4t tb_ b),.live (Xe 25 (kSl false kU8) ((Ya b).take k))]⟩ _ _
 replace hk:k≤(Ya b).length:=hk
 have hf1:=hf.1.1
 have hf2:=hf.2.1
 have hf3:=hf.2.2
 have hll:=U6 b
 have hfl:=Eb hf
 have hbk:(b.X9.getD k zE).Xf.length≤20000:=Ie (sz:=szE) hf.1 (by decide) k
 refine T.seq ?_
 by_cases hq1:((k:Nat):Int)<((b.X9.length:Nat):Int)
 ·refine sR (Xm (hY · (dT hq1)) [6,7,8,9,10] (hP 11 (dT hq1)::[])) ?_
  by_cases hq2:((k:Nat):Int)<((b.Xl.length:Nat):Int)
  ·refine cT (dT hq2) ?_
   refine T.skip (nT (T.seq ?_))
   refine T.block ?_
   refine xD [[],[],[1],[],[1,2,3],[1,2,3,4],[],[6],[],[6,7,8],[6,7,8,9],[1,2,3,4,5,6,7,8,9,10],[1,2,3,4,5,6,7,8,9,10,11],[0,1,2,3,4,5,6,7,8,9,10,11,12],[0,1,2,3,4,5,6,7,8,9,10,11,12,13]] [hR 4 rfl rfl (Wd tb_ false (kE tb_) b.X9 k (k:=.i64) (i:=((k:Nat):Int)) Tryz.underlying37 Vs rfl rfl (by omega) (X3 rfl) trivial),hR 9 rfl rfl (Wd tb_ false (Xd tb_) b.Xl k (k:=.i64) (i:=((k:Nat):Int)) Tryz.underlying63 Em rfl rfl (by omega) (X3 rfl) trivial),hR 11 rfl rfl (rCa (X8v tb_ (b.X9.getD k zE) (b.Xl.getD k Ym) (by omega)) Tryz.func103 [2] [(.tmp 24,.tv (.agg [dI (b.X9.getD k zE).X4,.d (dsl tb_ false kU8 (b.X9.getD k zE).Xf)])),(.tmp 29,.tv (.agg [dI (b.Xl.getD k Ym).Xw,dI (b.Xl.getD k Ym).Xn]))] 0 1),hR 12 rfl rfl (J0 0 30 2 5 kU8 (V6 (b.X9.getD k zE) (b.Xl.getD k Ym)) (av:=Y9 2 kU8 0 (Z4w b k).length) (Yd 3 25 (kSl false kU8) (X22 false kU8) [V6 (b.X9.getD k zE) (b.Xl.getD k Ym)] [⟨0,.tmp 30,.one (dU (Z4w b k)),0⟩] (cs:=[dU (Z4w b k)]) Tryz.underlying136 U1 rfl E0 rfl rfl rfl pd (Yp rfl rfl pd W4) pZ7 (V1 pZ7) (X3 rfl) trivial) rfl (.inr pZ0) p3c rfl rfl),hR 13 rfl rfl (Yy 1 4 25 24 (kSl false kU8) (X22 false kU8) ((Ya b).take k) [V6 (b.X9.getD k zE) (b.Xl.getD k Ym)] (((Ya b).take k)++[V6 (b.X9.getD k zE) (b.Xl.getD k Ym)]) ((Ya b).take k).length (sy:=(.own 3 (kSl false kU8).sz 0 [V6 (b.X9.getD k zE) (b.Xl.getD k Ym)].length)) (rhs:=[(3,.live (Xe 25 (kSl false kU8) [V6 (b.X9.getD k zE) (b.Xl.getD k Ym)]))]) Xf0 (by omega) (Wu 3 25 (kSl false kU8) [V6 (b.X9.getD k zE) (b.Xl.getD k Ym)]) Jn (by (simp [maxLen,-List.getD_eq_getElem?_getD]<;>omega)) (by (simp [maxLen,-List.getD_eq_getElem?_getD]<;>omega)) (X3 rfl) trivial)] pZ7 pZ7 pZ7 pZ7 pZ7 pZ7 ?_
   refine nB ?_
   refine nT ?_
   refine xK [hR 1 rfl rfl (Ye (u1:=.int .i64 ((k:Nat):Int)) (u2:=.int .i64 1) (v:=.int .i64 ((k+1:Nat):Int)) (Wa pa) (X3 rfl) ⟨rfl,trivial⟩)] ?_
   refine nL (k+1) (show (k+1)≤(Ya b).length from (by omega)) (show ((Ya b).length-(k+1):Nat)<(Ya b).length-k from (by omega)) (fun _ _ hG=>Vb [0,4] (bm 5 26) (t1:=[aa,pv 0 0,aa,Y9 4 (kSl false kU8) 0 ((Ya b).take (k+1)).length,(Z4x k)]) (t2:=[aa,pv 0 0,aa,Y9 4 (kSl false kU8) 0 (((Ya b).take k)++[V6 (b.X9.getD k zE) (b.Xl.getD k Ym)]).length,(Z4x k)]) (h1:=[(Z4t tb_ b),.live (Xe 25 (kSl false kU8) ((Ya b).take (k+1)))]) (h2:=[(Z4t tb_ b),.live (Xe 25 (kSl false kU8) (((Ya b).take k)++[V6 (b.X9.getD k zE) (b.Xl.getD k Ym)]))]) (by have e1:(((Ya b).take (k+1)).length:Nat)=(((Ya b).take k)++[V6 (b.X9.getD k zE) (b.Xl.getD k Ym)]).length:=p5d;have hE:=congrArg (fun (q1:Nat)=>([aa,pv 0 0,aa,Y9 4 (kSl false kU8) 0 q1,(Z4x k)]:List AV)) e1;exact hE) (by have e1:(((Ya b).take (k+1)):List (List UInt8))=((Ya b).take k)++[V6 (b.X9.getD k zE) (b.Xl.getD k Ym)]:=p5d;have hE:=congrArg (fun (q1:List (List UInt8))=>([(Z4t tb_ b),.live (Xe 25 (kSl false kU8) q1)]:List HS)) e1;exact hE) hG)
  refine cF (dF hq2) ?_
  refine T.exit ?_
  refine xT ?_
  refine xT ?_
  refine xH ?_
  refine nT ?_
  refine sR [] ?_
  refine T.ret ?_
  exact eRt 2 (.one (.own 1 (kSl false kU8).sz 0 ((Ya b).take k).length)) [1] p3n ⟨⟨rfl,p3b⟩,trivial⟩
 refine sR (Xm (hN · true (dF hq1)) [6,7,8,9,10] (hP 11 (dF hq1)::[])) ?_
 refine cF (b:=false) rfl ?_
 refine T.exit ?_
 refine xT ?_
 refine xT ?_
 refine xH ?_
 refine nT ?_
 refine sR [] ?_
 refine T.ret ?_
 exact eRt 2 (.one (.own 1 (kSl false kU8).sz 0 ((Ya b).take k).length)) [1] p3n ⟨⟨rfl,p3b⟩,trivial⟩
theorem Ja:Tryz.prog.info? 69=some Tryz.t69:=by kernel_rfl
theorem X7i:Zero Tryz.prog 69 [.int .i64 0,Yh [],.int .i64 0,Yh []]:=⟨_,_,Ja,rfl,rfl⟩
theorem X65:Tryz.prog.info? 65=some Tryz.t65:=by kernel_rfl
theorem H3:Wide Tryz.prog 65 (some 4):=⟨_,_,Tryz.underlying65,.inl ⟨_,rfl⟩,X65,rfl⟩
theorem Xh7:Wide Tryz.prog 69 (some 4):=⟨_,_,Tryz.underlying69,.inl ⟨_,rfl⟩,Ja,rfl⟩
abbrev Z4y (tb_:Bool) (b:Xq):AV:=.tv (.agg [dI b.Xg,dS b.Y4,.d (dsl tb_ false (kE tb_) b.X9),.d (dsl tb_ false (Xd tb_) b.Xl)])
theorem X0z (tb_:Bool) (b:Xq) (hf:Hm b):Holds Tryz.prog 53 ⟨[.tv (.agg [dI b.Xg,dS b.Y4,.d (dsl tb_ false (kE tb_) b.X9),.d (dsl tb_ false (Xd tb_) b.Xl)])],[],.tv (.agg [dI (Ws b).Xg,dS (Ws b).Y4,dI (Ws b).Yg,dS (Ws b).W2]),[]⟩:=by
 refine Holds.of Tryz.func53 rfl (N:=15) Tryz.ntmps53 rfl fun w0 B0 S0 U0=>?_
 show T _ (Y2 15 0 w0 S0 U0 B0) ⟨[(Z4y tb_ b)],[]⟩ _ _
 have hf1:=hf.1.1
 have hf2:=hf.2.1
 have hf3:=hf.2.2
 have hll:=U6 b
 have hfl:=Jb hf
 have hrl:=Ug hfl
 refine sR [] ?_
 refine sR [hR 1 rfl rfl (rCa (X59 tb_ b p5g) Tryz.func109 [2] [(.tmp 4,(Z4y tb_ b))] 0 1)] ?_
 refine sD [[],[0],[],[2],[],[4],[],[6],[0,1,2,3,4,5,6,7],[0,1,2,3,4,5,6,7,8]] [hR 7 rfl rfl (Ww (X1u true false false (Ya b) ‹_›) Tryz.func110 rfl (by decide) [] [2] (l:=[(.tmp 12,Y9 2 (kSl false kU8) 0 (Ya b).length)]) [(2,.live (Xe 25 (kSl false kU8) (Ya b)))] rfl 0 0 rfl rfl rfl rfl rfl rfl rfl rfl rfl ⟨.inr (.inl ⟨rfl,px,rfl,rfl,by simp,25,(Ya b).length,W6 (kSl false kU8) (Ya b),List.Mem.head _,pm,fun i j=>by rw [Nat.zero_add]⟩),trivial⟩ rfl pZ6 p2t (X3 rfl) trivial)] ?_
 refine T.ret ?_
 exact eX [.c 2 1 69 0 69 [dI b.Xg,dS b.Y4,dI (((Ya b).length:Nat):Int),dS (W7 (Ya b))] (.agg [dI b.Xg,dS b.Y4,dI (((Ya b).length:Nat):Int),dS (W7 (Ya b))])] ⟨⟨rfl,rfl,by kernel_rfl,by kernel_rfl,.inl ⟨4,Xh7,rfl,Nat.le_of_ble_eq_true rfl⟩⟩,trivial⟩ [] (cg4 (fun (q1:Int) (q2:List UInt8) (q3:Int) (q4:List UInt8)=>(.tv (.agg [dI q1,dS q2,dI q3,dS q4]):AV)) (by rfl) (by rfl) (by rfl) (by rfl)) trivial
abbrev Z4z (tb_:Bool) (b:Xq):AV:=.tv (.agg [dI b.Xg,dS b.Y4,.d (dsl tb_ false (kE tb_) b.X9),.d (dsl tb_ false (Xd tb_) b.Xl)])
theorem X4k (tb_:Bool) (b:Xq) (hf:Hm b):Holds Tryz.prog 44 ⟨[.tv (.agg [dI b.Xg,dS b.Y4,.d (dsl tb_ false (kE tb_) b.X9),.d (dsl tb_ false (Xd tb_) b.Xl)])],[],.tv (.agg [dI (Ws b).Xg,dS (Ws b).Y4,dI (Ws b).Yg,dS (Ws b).W2]),[]⟩:=by
 refine Holds.of Tryz.func44 rfl (N:=15) Tryz.ntmps44 rfl fun w0 B0 S0 U0=>?_
 show T _ (Y2 15 0 w0 S0 U0 B0) ⟨[(Z4z tb_ b)],[]⟩ _ _
 have hf1:=hf.1.1
 have hf2:=hf.2.1
 have hf3:=hf.2.2
 have hll:=U6 b
 have hfl:=Jb hf
 have hrl:=Ug hfl
 refine sR [] ?_
 refine sR [hR 1 rfl rfl (rCa (X4j tb_ b p5g) Tryz.func97 [2] [(.tmp 4,(Z4z tb_ b))] 0 1)] ?_
 refine sD [[],[0],[],[2],[],[4],[],[6],[0,1,2,3,4,5,6,7],[0,1,2,3,4,5,6,7,8]] [hR 7 rfl rfl (Ww (X3o true false false (Ya b) ‹_›) Tryz.func98 rfl (by decide) [] [2] (l:=[(.tmp 12,Y9 2 (kSl false kU8) 0 (Ya b).length)]) [(2,.live (Xe 25 (kSl false kU8) (Ya b)))] rfl 0 0 rfl rfl rfl rfl rfl rfl rfl rfl rfl ⟨.inr (.inl ⟨rfl,px,rfl,rfl,by simp,25,(Ya b).length,W6 (kSl false kU8) (Ya b),List.Mem.head _,pm,fun i j=>by rw [Nat.zero_add]⟩),trivial⟩ rfl pZ6 p2t (X3 rfl) trivial)] ?_
 refine T.ret ?_
 exact eX [.c 2 1 69 0 69 [dI b.Xg,dS b.Y4,dI (((Ya b).length:Nat):Int),dS (W7 (Ya b))] (.agg [dI b.Xg,dS b.Y4,dI (((Ya b).length:Nat):Int),dS (W7 (Ya b))])] ⟨⟨rfl,rfl,by kernel_rfl,by kernel_rfl,.inl ⟨4,Xh7,rfl,Nat.le_of_ble_eq_true rfl⟩⟩,trivial⟩ [] (cg4 (fun (q1:Int) (q2:List UInt8) (q3:Int) (q4:List UInt8)=>(.tv (.agg [dI q1,dS q2,dI q3,dS q4]):AV)) (by rfl) (by rfl) (by rfl) (by rfl)) trivial
theorem X5a (h:Yf) (hp:h.Y4.length≤10000000) (hr:h.W2.length≤10000000):Holds Tryz.prog 91 ⟨[.tv (.agg [dI h.Xg,dS h.Y4,dI h.Yg,dS h.W2])],[],dv (Yh (Ii h)),[]⟩:=by
 refine Holds.of Tryz.func91 rfl (N:=19) Tryz.ntmps91 rfl fun w0 B0 S0 U0=>?_
 show T _ (Y2 19 0 w0 S0 U0 B0) ⟨[.tv (.agg [dI h.Xg,dS h.Y4,dI h.Yg,dS h.W2])],[]⟩ _ _
 have hz1:=sz4 (([]:List UInt8)++W9 [h.Xg]) h.Y4 (([]:List UInt8)++W9 [h.Yg]) h.W2
 have hz2:=sz4 (([]:List UInt8)++Yx h.Xg) h.Y4 (([]:List UInt8)++Yx h.Yg) h.W2
 have hi1n:(([]:List UInt8)++Yx h.Xg).length=8:=Wq _
 have hi2n:(([]:List UInt8)++Yx h.Yg).length=8:=Wq _
 have hi1:=Wq h.Xg
 have hi2:=Wq h.Yg
 have hi3:(W9 [h.Xg]).length=8:=Id [h.Xg]
 have hi3n:(([]:List UInt8)++W9 [h.Xg]).length=8:=Id [h.Xg]
 have hi4:(W9 [h.Yg]).length=8:=Id [h.Yg]
 have hi4n:(([]:List UInt8)++W9 [h.Yg]).length=8:=Id [h.Yg]
 refine sR [] ?_
 refine sD [[],[0],[0,1],[0,1,2],[],[4],[4,5],[],[7],[7,8],[0,1,2,3,7,8,9],[],[11],[11,12],[0,1,2,3,4,5,6,7,8,9,10,11,12,13],[0,1,2,3,4,5,6,7,8,9,10,11,12,13,14],[0,1,2,3,4,5,6,7,8,9,10,11,12,13,14,15]] [hR 2 rfl rfl (Yd 1 3 (Vi .i64) (X2t .i64) [h.Xg] [⟨0,.tmp 4,.one (dI h.Xg),0⟩] (cs:=[dI h.Xg]) Tryz.underlying24 X23 rfl X5i rfl rfl rfl pd (Yp rfl rfl pd W4) pZ7 (V1 pZ7) (X3 rfl) trivial),hR 3 rfl rfl (Ww (X0y false false ([]:List UInt8) true false [h.Xg] (by (simp [maxLen,-List.getD_eq_getElem?_getD]<;>omega)) (by (simp [maxLen,-List.getD_eq_getElem?_getD]<;>omega))) Tryz.func135 rfl (by decide) [2] [1] (l:=[(.const (.slice none 0 0),dv (.slice none 0 0)),(.tmp 5,Y9 1 (Vi .i64) 0 [h.Xg].length)]) [(1,.live (Xe 3 (Vi .i64) [h.Xg]))] rfl 0 1 rfl rfl rfl rfl rfl rfl rfl rfl rfl ⟨.inr pZ5,⟨.inr (.inl ⟨rfl,px,rfl,rfl,by simp,3,[h.Xg].length,W6 (Vi .i64) [h.Xg],List.Mem.head _,pm,fun i j=>by rw [Nat.zero_add]⟩),trivial⟩⟩ rfl pZ6 pZl (X3 rfl) ⟨rfl,trivial⟩),hR 6 rfl rfl (Jx (l:=h.Y4) Tryz.underlying60 Tryz.underlying25 Tryz.underlying5 (X3 rfl) trivial),hR 9 rfl rfl (Yd 3 3 (Vi .i64) (X2t .i64) [h.Yg] [⟨0,.tmp 11,.one (dI h.Yg),0⟩] (cs:=[dI h.Yg]) Tryz.underlying24 X23 rfl X5i rfl rfl rfl pd (Yp rfl rfl pd W4) pZ7 (V1 pZ7) (X3 rfl) trivial),hR 10 rfl rfl (Ww (X0y false false ([]:List UInt8) true false [h.Yg] (by (simp [maxLen,-List.getD_eq_getElem?_getD]<;>omega)) (by (simp [maxLen,-List.getD_eq_getElem?_getD]<;>omega))) Tryz.func135 rfl (by decide) [4] [3] (l:=[(.const (.slice none 0 0),dv (.slice none 0 0)),(.tmp 12,Y9 3 (Vi .i64) 0 [h.Yg].length)]) [(3,.live (Xe 3 (Vi .i64) [h.Yg]))] rfl 0 1 rfl rfl rfl rfl rfl rfl rfl rfl rfl ⟨.inr pZ5,⟨.inr (.inl ⟨rfl,px,rfl,rfl,by simp,3,[h.Yg].length,W6 (Vi .i64) [h.Yg],List.Mem.head _,pm,fun i j=>by rw [Nat.zero_add]⟩),trivial⟩⟩ rfl pZ6 pZl (X3 rfl) ⟨rfl,trivial⟩),hR 13 rfl rfl (Jx (l:=h.W2) Tryz.underlying60 Tryz.underlying25 Tryz.underlying5 (X3 rfl) trivial),hR 14 rfl rfl (J0 0 6 2 5 kU8 (([]:List UInt8)++W9 [h.Xg]) (av:=Y9 2 kU8 0 (([]:List UInt8)++W9 [h.Xg]).length) (J0 2 13 4 5 kU8 (([]:List UInt8)++W9 [h.Yg]) (av:=Y9 4 kU8 0 (([]:List UInt8)++W9 [h.Yg]).length) (Yd 5 25 (kSl false kU8) (X22 false kU8) [([]:List UInt8)++W9 [h.Xg],h.Y4,([]:List UInt8)++W9 [h.Yg],h.W2] [⟨0,.tmp 6,.one (dU (([]:List UInt8)++W9 [h.Xg])),0⟩,⟨1,.tmp 9,.one (.d (dsl false true kU8 h.Y4)),1⟩,⟨2,.tmp 13,.one (dU (([]:List UInt8)++W9 [h.Yg])),2⟩,⟨3,.tmp 16,.one (.d (dsl false true kU8 h.W2)),3⟩] (cs:=[dU (([]:List UInt8)++W9 [h.Xg]),.d (dsl false true kU8 h.Y4),dU (([]:List UInt8)++W9 [h.Yg]),.d (dsl false true kU8 h.W2)]) Tryz.underlying136 U1 rfl E0 rfl rfl rfl pd (Yp rfl rfl pd (Yp rfl rfl pd (Yp rfl rfl pd (Yp rfl rfl pd W4)))) pZ7 ⟨.inl rfl,⟨p2g,⟨.inl rfl,⟨p2g,trivial⟩⟩⟩⟩ (X3 rfl) trivial) rfl (.inr pZ0) p3c rfl rfl) rfl (.inr pZ0) p3c rfl rfl),hR 15 rfl rfl (Ww (X46 (5:UInt8) true false false [([]:List UInt8)++W9 [h.Xg],h.Y4,([]:List UInt8)++W9 [h.Yg],h.W2] (by omega)) Tryz.func84 rfl (by decide) [] [5] (l:=[(.const (.int .u8 5),dv (.int .u8 5)),(.tmp 17,Y9 5 (kSl false kU8) 0 [([]:List UInt8)++W9 [h.Xg],h.Y4,([]:List UInt8)++W9 [h.Yg],h.W2].length)]) [(5,.live (Xe 25 (kSl false kU8) [([]:List UInt8)++W9 [h.Xg],h.Y4,([]:List UInt8)++W9 [h.Yg],h.W2]))] rfl 0 0 rfl rfl rfl rfl rfl rfl rfl rfl rfl ⟨.inl ⟨rfl,rfl⟩,⟨.inr (.inl ⟨rfl,px,rfl,rfl,by simp,25,[([]:List UInt8)++W9 [h.Xg],h.Y4,([]:List UInt8)++W9 [h.Yg],h.W2].length,W6 (kSl false kU8) [([]:List UInt8)++W9 [h.Xg],h.Y4,([]:List UInt8)++W9 [h.Yg],h.W2],List.Mem.head _,pm,fun i j=>by rw [Nat.zero_add]⟩),trivial⟩⟩ rfl pZ6 p2t (X3 rfl) ⟨rfl,trivial⟩)] ?_
 refine T.ret ?_
 exact eRt 2 (.one (dS (ofB (5:UInt8) [([]:List UInt8)++W9 [h.Xg],h.Y4,([]:List UInt8)++W9 [h.Yg],h.W2]))) [] p2o trivial
theorem X4l (h:Yf) (hp:h.Y4.length≤10000000) (hr:h.W2.length≤10000000):Holds Tryz.prog 48 ⟨[.tv (.agg [dI h.Xg,dS h.Y4,dI h.Yg,dS h.W2])],[],dv (Yh (Ii h)),[]⟩:=by
 refine Holds.of Tryz.func48 rfl (N:=17) Tryz.ntmps48 rfl fun w0 B0 S0 U0=>?_
 show T _ (Y2 17 0 w0 S0 U0 B0) ⟨[.tv (.agg [dI h.Xg,dS h.Y4,dI h.Yg,dS h.W2])],[]⟩ _ _
 have hz1:=sz4 (([]:List UInt8)++W9 [h.Xg]) h.Y4 (([]:List UInt8)++W9 [h.Yg]) h.W2
 have hz2:=sz4 (([]:List UInt8)++Yx h.Xg) h.Y4 (([]:List UInt8)++Yx h.Yg) h.W2
 have hi1n:(([]:List UInt8)++Yx h.Xg).length=8:=Wq _
 have hi2n:(([]:List UInt8)++Yx h.Yg).length=8:=Wq _
 have hi1:=Wq h.Xg
 have hi2:=Wq h.Yg
 have hi3:(W9 [h.Xg]).length=8:=Id [h.Xg]
 have hi3n:(([]:List UInt8)++W9 [h.Xg]).length=8:=Id [h.Xg]
 have hi4:(W9 [h.Yg]).length=8:=Id [h.Yg]
 have hi4n:(([]:List UInt8)++W9 [h.Yg]).length=8:=Id [h.Yg]
 refine sR [] ?_
 refine sD [[],[0],[0,1],[],[3],[3,4],[],[6],[0,1,2,6,7],[],[9],[9,10],[0,1,2,3,4,5,6,7,8,9,10,11],[0,1,2,3,4,5,6,7,8,9,10,11,12],[0,1,2,3,4,5,6,7,8,9,10,11,12,13]] [hR 2 rfl rfl (rCn (Ui false false ([]:List UInt8) h.Xg (by (simp [maxLen,-List.getD_eq_getElem?_getD]<;>omega))) Tryz.func63 [1] [(.const (.slice none 0 0),dv (.slice none 0 0)),(.tmp 4,vI h.Xg)] 0 1 ⟨.inr pZ5,⟨.inl ⟨rfl,rfl⟩,trivial⟩⟩ ⟨rfl,trivial⟩),hR 5 rfl rfl (Jx (l:=h.Y4) Tryz.underlying60 Tryz.underlying25 Tryz.underlying5 (X3 rfl) trivial),hR 8 rfl rfl (rCn (Ui false false ([]:List UInt8) h.Yg (by (simp [maxLen,-List.getD_eq_getElem?_getD]<;>omega))) Tryz.func63 [2] [(.const (.slice none 0 0),dv (.slice none 0 0)),(.tmp 10,vI h.Yg)] 0 1 ⟨.inr pZ5,⟨.inl ⟨rfl,rfl⟩,trivial⟩⟩ ⟨rfl,trivial⟩),hR 11 rfl rfl (Jx (l:=h.W2) Tryz.underlying60 Tryz.underlying25 Tryz.underlying5 (X3 rfl) trivial),hR 12 rfl rfl (J0 0 5 1 5 kU8 (([]:List UInt8)++Yx h.Xg) (av:=Y9 1 kU8 0 (([]:List UInt8)++Yx h.Xg).length) (J0 2 11 2 5 kU8 (([]:List UInt8)++Yx h.Yg) (av:=Y9 2 kU8 0 (([]:List UInt8)++Yx h.Yg).length) (Yd 3 25 (kSl false kU8) (X22 false kU8) [([]:List UInt8)++Yx h.Xg,h.Y4,([]:List UInt8)++Yx h.Yg,h.W2] [⟨0,.tmp 5,.one (dU (([]:List UInt8)++Yx h.Xg)),0⟩,⟨1,.tmp 8,.one (.d (dsl false true kU8 h.Y4)),1⟩,⟨2,.tmp 11,.one (dU (([]:List UInt8)++Yx h.Yg)),2⟩,⟨3,.tmp 14,.one (.d (dsl false true kU8 h.W2)),3⟩] (cs:=[dU (([]:List UInt8)++Yx h.Xg),.d (dsl false true kU8 h.Y4),dU (([]:List UInt8)++Yx h.Yg),.d (dsl false true kU8 h.W2)]) Tryz.underlying136 U1 rfl E0 rfl rfl rfl pd (Yp rfl rfl pd (Yp rfl rfl pd (Yp rfl rfl pd (Yp rfl rfl pd W4)))) pZ7 ⟨.inl rfl,⟨p2g,⟨.inl rfl,⟨p2g,trivial⟩⟩⟩⟩ (X3 rfl) trivial) rfl (.inr pZ0) p3c rfl rfl) rfl (.inr pZ0) p3c rfl rfl),hR 13 rfl rfl (Ww (X1l (5:UInt8) true false false [([]:List UInt8)++Yx h.Xg,h.Y4,([]:List UInt8)++Yx h.Yg,h.W2] (by omega)) Tryz.func71 rfl (by decide) [] [3] (l:=[(.const (.int .u8 5),dv (.int .u8 5)),(.tmp 15,Y9 3 (kSl false kU8) 0 [([]:List UInt8)++Yx h.Xg,h.Y4,([]:List UInt8)++Yx h.Yg,h.W2].length)]) [(3,.live (Xe 25 (kSl false kU8) [([]:List UInt8)++Yx h.Xg,h.Y4,([]:List UInt8)++Yx h.Yg,h.W2]))] rfl 0 0 rfl rfl rfl rfl rfl rfl rfl rfl rfl ⟨.inl ⟨rfl,rfl⟩,⟨.inr (.inl ⟨rfl,px,rfl,rfl,by simp,25,[([]:List UInt8)++Yx h.Xg,h.Y4,([]:List UInt8)++Yx h.Yg,h.W2].length,W6 (kSl false kU8) [([]:List UInt8)++Yx h.Xg,h.Y4,([]:List UInt8)++Yx h.Yg,h.W2],List.Mem.head _,pm,fun i j=>by rw [Nat.zero_add]⟩),trivial⟩⟩ rfl pZ6 p2t (X3 rfl) ⟨rfl,trivial⟩)] ?_
 refine T.ret ?_
 exact eRt 2 (.one (dS (ofB (5:UInt8) [([]:List UInt8)++Yx h.Xg,h.Y4,([]:List UInt8)++Yx h.Yg,h.W2]))) [] p2o trivial
end Go.Proofs.YtnaopgohccacmaaGreat.Q
