import Derived.Test.YtnaopgohccacmaaGreatC19n10
namespace Go.Proofs.YtnaopgohccacmaaGreat.Q
open Go Go.RowKit
set_option linter.unusedVariables false
set_option linter.unusedSimpArgs false
set_option maxRecDepth 100000
set_option maxHeartbeats 4000000
theorem X2h:Wide Tryz.prog 60 none:=⟨_,Tryz.underlying60,(fun _ h=>by cases h),(fun _ _ h=>by cases h)⟩
section
variable (root:List UInt8) (tleaf:Bool) (nleaf:Bool) (leaf:List UInt8) (i:Int) (n:Int) (tp:Bool) (np:Bool) (p:List Y7) (k:Nat)
abbrev Z3w:AV:=slV tp np (Xb false) p
abbrev Z3x:AV:=Y9 0 Yc 0 (Yl i.toNat n.toNat).length
abbrev Z3y:AV:=vI ((p.length:Nat):Int)
abbrev Z3z:List HS:=[.live (Xe 4 Yc (Yl i.toNat n.toNat))]
abbrev Z40:St:=⟨[dv (Yh root),slV tleaf nleaf kU8 leaf,vI i,vI n,(Z3w tp np p),aa,aa,aa,aa,aa,aa,(Z3x i n),dv (Yh (climb (ofB 2 [leaf]) (p.take k))),aa,aa,aa,aa,aa,aa,aa,aa,aa,aa,aa,aa,aa,aa,aa,aa,aa,aa,aa,(Z3w tp np p),(Z3y p),vI ((k:Nat):Int)],(Z3z i n)⟩
abbrev Z42:AV:=vI ((k+1:Nat):Int)
end
theorem Xcg (root:List UInt8) (tleaf:Bool) (nleaf:Bool) (leaf:List UInt8) (i:Int) (n:Int) (tp:Bool) (np:Bool) (p:List Y7) (hp:Jp szS 70 30000 p) (hl:leaf.length≤600) (hn:n≤9223372036854775807):Holds Tryz.prog 100 ⟨[dv (Yh root),slV tleaf nleaf kU8 leaf,vI i,vI n,slV tp np (Xb false) p],[],vI (Jc root leaf i n p),[]⟩:=by
 refine Holds.of Tryz.func100 rfl (N:=62) Tryz.ntmps100 rfl fun w0 B0 S0 U0=>?_
 show T _ (Y2 62 0 w0 S0 U0 B0) ⟨[dv (Yh root),slV tleaf nleaf kU8 leaf,vI i,vI n,(Z3w tp np p)],[]⟩ _ _
 have hp70:=hp.1
 refine sR [] ?_
 refine T.seq ?_
 by_cases hq1:i<0
 ·refine sR (Xm (hN · false (dT hq1)) [3,4,5] (hP 6 (dT hq1)::[])) ?_
  refine cT (b:=true) rfl ?_
  refine sR [] ?_
  refine T.ret (rT ?_)
  exact eRt 10 (.one (dI 2)) [] p4p trivial
 refine sR (Xm (hY · (dF hq1)) [3,4,5] (hP 6 (dF hq1)::[])) ?_
 by_cases hq2:i≥n
 ·refine cT (dT hq2) ?_
  refine sR [] ?_
  refine T.ret (rT ?_)
  exact eRt 10 (.one (dI 2)) [] p4p trivial
 refine cF (dF hq2) ?_
 refine T.skip (nT ?_)
 refine sR [hR 2 rfl rfl (rCa (Xcf i n (by omega) ‹_›) Tryz.func141 [0] [(.tmp 22,vI i),(.tmp 23,vI n)] 0 1)] ?_
 refine T.seq ?_
 refine sR [] ?_
 by_cases hq3:(((Yl i.toNat n.toNat).length:Nat):Int)≠((p.length:Nat):Int)
 ·refine cT (dT hq3) ?_
  refine sR [] ?_
  refine T.ret (rT ?_)
  exact eRt 10 (.one (dI 90)) [] (cI (by exact Xib (by omega) (by omega))) trivial
 refine cF (dF hq3) ?_
 refine T.skip (nT ?_)
 refine sR [hR 1 rfl rfl (rCa (X5l (2:UInt8) tleaf nleaf leaf (by omega)) Tryz.func118 [] [(.const (.int .u8 2),dv (.int .u8 2)),(.tmp 30,slV tleaf nleaf kU8 leaf)] 0 0)] ?_
 refine T.seq ?_
 refine sR [] ?_
 refine T.block ?_
 refine T.loop (ι:=Nat) (fun (k:Nat)=>(Z40 root tleaf nleaf leaf i n tp np p k)) (fun (k:Nat)=>(k≤p.length)∧((Yl i.toNat n.toNat).length=p.length)∧(∀ t,t<k→(p.getD t Yi).Vt=(Yl i.toNat n.toNat).getD t false)) (fun (k:Nat)=>p.length-k) (0) ⟨(Nat.zero_le _),(by omega),(fun j hj=>absurd hj (Nat.not_lt_zero _))⟩ (fun _ _ hG=>Yt [0] (bm 35 30064777247) (t2:=[dv (Yh root),slV tleaf nleaf kU8 leaf,vI i,vI n,(Z3w tp np p),aa,aa,aa,aa,aa,aa,(Z3x i n),dv (Yh (ofB (2:UInt8) [leaf])),aa,aa,aa,aa,aa,aa,aa,aa,aa,aa,aa,aa,aa,aa,aa,aa,aa,aa,aa,(Z3w tp np p),(Z3y p),vI 0]) (congrArg (fun (q1:List UInt8)=>([dv (Yh root),slV tleaf nleaf kU8 leaf,vI i,vI n,(Z3w tp np p),aa,aa,aa,aa,aa,aa,(Z3x i n),dv (Yh q1),aa,aa,aa,aa,aa,aa,aa,aa,aa,aa,aa,aa,aa,aa,aa,aa,aa,aa,aa,(Z3w tp np p),(Z3y p),vI 0]:List AV)) (by rfl)) rfl hG) ?_
 rintro k ⟨hk,hsl,hb⟩
 show T _ _ (Z40 root tleaf nleaf leaf i n tp np p k) _ _
 replace hk:k≤p.length:=hk
 replace hsl:(Yl i.toNat n.toNat).length=p.length:=hsl
 replace hb:∀ t,t<k→(p.getD t Yi).Vt=(Yl i.toNat n.toNat).getD t false:=hb
 have hk70:(p.take k).length≤70:=by rw [List.length_take];have:=hp.1;omega
 have hcl:=Xbk (p:=p.take k) (m:=30000) (fun s hs=>hp.2 s (List.mem_of_mem_take hs)) (ofB 2 [leaf])
 have hlf:=X9i 2 leaf
 have hgd:((p.getD k Yi).X8).length≤30000:=Ie (sz:=szS) hp (by decide) k
 refine sR [] ?_
 refine T.seq ?_
 by_cases hq4:((k:Nat):Int)<((p.length:Nat):Int)
 ·refine cT (dT hq4) ?_
  refine T.skip (nT (T.seq ?_))
  refine T.block ?_
  refine sR [hR 1 rfl rfl (Wd tp np (Xb false) p k (k:=.i64) (i:=((k:Nat):Int)) Tryz.underlying47 J3 rfl rfl (by omega) (X3 rfl) trivial)] ?_
  refine T.block ?_
  refine sD [[],[0],[],[],[2,3],[2,3,4],[0,1,2,3,4,5],[0,1,2,3,4,5,6]] [hR 4 rfl rfl (V9 (k:=.i64) (l:=0) (sz:=Yc.sz) (off:=0) (n:=(Yl i.toNat n.toNat).length) (i:=((k:Nat):Int)) (m:=k) (o':=k*Yc.sz+0) Tryz.underlying192 Fs rfl rfl (by omega) (by simp) (X3 rfl) trivial),hR 5 rfl rfl (Ha (l:=0) (off:=k*Yc.sz+0) (i:=k) (j:=0) (T:=4) (sz:=Yc.sz) (n:=(Yl i.toNat n.toNat).length) (el:=W6 Yc (Yl i.toNat n.toNat)) (c:=.val (.bool ((Yl i.toNat n.toNat).getD k false))) X85 rfl (by omega) (by decide) rfl (X3 rfl) trivial)] ?_
  by_cases hq5:(p.getD k Yi).Vt≠((Yl i.toNat n.toNat).getD k false)
  ·refine cT (dT hq5) ?_
   refine sR [] ?_
   refine T.ret (rB (rB (rT (rT (rB (rT ?_))))))
   exact eRt 10 (.one (dI 90)) [] (cI (by exact chk_at (p:=p) (k:=k) (by omega) (by omega) ‹_›)) trivial
  refine cF (dF hq5) ?_
  refine sR [] ?_
  by_cases hq6:(p.getD k Yi).Vt=true
  ·refine cT hq6 ?_
   refine xK [hR 3 rfl rfl (rCa (X5k (3:UInt8) (p.getD k Yi).X8 (climb (ofB 2 [leaf]) (p.take k)) (by omega)) Tryz.func142 [] [(.const (.int .u8 3),dv (.int .u8 3)),(.tmp 55,dv (Yh (p.getD k Yi).X8)),(.tmp 56,dv (Yh (climb (ofB 2 [leaf]) (p.take k))))] 0 0)] ?_
   refine nB ?_
   refine nB ?_
   refine nT ?_
   refine xK [hR 0 rfl rfl (Ye (u1:=.int .i64 ((k:Nat):Int)) (u2:=.int .i64 1) (v:=.int .i64 ((k+1:Nat):Int)) (Wa pa) (X3 rfl) ⟨rfl,trivial⟩)] ?_
   refine nL (k+1) ⟨(show (k+1)≤p.length from (by omega)),(show (Yl i.toNat n.toNat).length=p.length from hsl),(show ∀ t,t<(k+1)→(p.getD t Yi).Vt=(Yl i.toNat n.toNat).getD t false from (U5 hb p1v))⟩ (show (p.length-(k+1):Nat)<p.length-k from (by omega)) (fun _ _ hG=>Yt [0] (bm 35 30064777247) (t2:=[dv (Yh root),slV tleaf nleaf kU8 leaf,vI i,vI n,(Z3w tp np p),aa,aa,aa,aa,aa,aa,(Z3x i n),dv (Yh (ofB (3:UInt8) [(p.getD k Yi).X8,(climb (ofB 2 [leaf]) (p.take k))])),aa,aa,aa,aa,aa,aa,aa,aa,aa,aa,aa,aa,aa,aa,aa,aa,aa,aa,aa,(Z3w tp np p),(Z3y p),(Z42 k)]) (by have e1:((climb (ofB 2 [leaf]) (p.take (k+1))):List UInt8)=(ofB (3:UInt8) [(p.getD k Yi).X8,(climb (ofB 2 [leaf]) (p.take k))]):=(by (have h8:(p.getD k Yi).Vt=(Yl i.toNat n.toNat).getD k false:=Classical.not_not.1 ‹_›;rw [X0x (p:=p) (k:=k) _ (by omega),Fw];(have h7:(p.getD k Yi).Vt=true:=‹_›;rw [if_pos h7])));have hE:=congrArg (fun (q1:List UInt8)=>([dv (Yh root),slV tleaf nleaf kU8 leaf,vI i,vI n,(Z3w tp np p),aa,aa,aa,aa,aa,aa,(Z3x i n),dv (Yh q1),aa,aa,aa,aa,aa,aa,aa,aa,aa,aa,aa,aa,aa,aa,aa,aa,aa,aa,aa,(Z3w tp np p),(Z3y p),(Z42 k)]:List AV)) e1;exact hE) rfl hG)
  replace hq6:=Bool.eq_false_iff.2 hq6
  refine cF hq6 ?_
  refine xK [hR 3 rfl rfl (rCa (X5k (3:UInt8) (climb (ofB 2 [leaf]) (p.take k)) (p.getD k Yi).X8 (by omega)) Tryz.func142 [] [(.const (.int .u8 3),dv (.int .u8 3)),(.tmp 39,dv (Yh (climb (ofB 2 [leaf]) (p.take k)))),(.tmp 41,dv (Yh (p.getD k Yi).X8))] 0 0)] ?_
  refine nB ?_
  refine nB ?_
  refine nT ?_
  refine xK [hR 0 rfl rfl (Ye (u1:=.int .i64 ((k:Nat):Int)) (u2:=.int .i64 1) (v:=.int .i64 ((k+1:Nat):Int)) (Wa pa) (X3 rfl) ⟨rfl,trivial⟩)] ?_
  refine nL (k+1) ⟨(show (k+1)≤p.length from (by omega)),(show (Yl i.toNat n.toNat).length=p.length from hsl),(show ∀ t,t<(k+1)→(p.getD t Yi).Vt=(Yl i.toNat n.toNat).getD t false from (U5 hb p1v))⟩ (show (p.length-(k+1):Nat)<p.length-k from (by omega)) (fun _ _ hG=>Yt [0] (bm 35 30064777247) (t2:=[dv (Yh root),slV tleaf nleaf kU8 leaf,vI i,vI n,(Z3w tp np p),aa,aa,aa,aa,aa,aa,(Z3x i n),dv (Yh (ofB (3:UInt8) [(climb (ofB 2 [leaf]) (p.take k)),(p.getD k Yi).X8])),aa,aa,aa,aa,aa,aa,aa,aa,aa,aa,aa,aa,aa,aa,aa,aa,aa,aa,aa,(Z3w tp np p),(Z3y p),(Z42 k)]) (by have e1:((climb (ofB 2 [leaf]) (p.take (k+1))):List UInt8)=(ofB (3:UInt8) [(climb (ofB 2 [leaf]) (p.take k)),(p.getD k Yi).X8]):=(by (have h8:(p.getD k Yi).Vt=(Yl i.toNat n.toNat).getD k false:=Classical.not_not.1 ‹_›;rw [X0x (p:=p) (k:=k) _ (by omega),Fw];(have h7:(p.getD k Yi).Vt=false:=‹_›;rw [if_neg (by rw [h7];decide)])));have hE:=congrArg (fun (q1:List UInt8)=>([dv (Yh root),slV tleaf nleaf kU8 leaf,vI i,vI n,(Z3w tp np p),aa,aa,aa,aa,aa,aa,(Z3x i n),dv (Yh q1),aa,aa,aa,aa,aa,aa,aa,aa,aa,aa,aa,aa,aa,aa,aa,aa,aa,aa,aa,(Z3w tp np p),(Z3y p),(Z42 k)]:List AV)) e1;exact hE) rfl hG)
 refine cF (dF hq4) ?_
 refine T.exit ?_
 refine xT ?_
 refine xT ?_
 refine xH ?_
 refine nT (T.seq ?_)
 refine sR [] ?_
 by_cases hq7:(climb (ofB 2 [leaf]) (p.take k))≠root
 ·refine cT (dT hq7) ?_
  refine sR [] ?_
  refine T.ret (rT ?_)
  exact eRt 10 (.one (dI 90)) [] p53 trivial
 refine cF (dF hq7) ?_
 refine T.skip (nT ?_)
 refine sR [] ?_
 refine T.ret ?_
 exact eRt 10 (.one (dI 0)) [] p55 trivial
section
variable (root:List UInt8) (tleaf:Bool) (nleaf:Bool) (leaf:List UInt8) (i:Int) (n:Int) (tp:Bool) (np:Bool) (p:List Y7) (k:Nat)
abbrev Z44:AV:=slV tp np (Xb false) p
abbrev Z45:AV:=vI ((i.toNat:Nat):Int)
abbrev Z46:AV:=vI ((n.toNat:Nat):Int)
abbrev Z47:List AV:=[dv (Yh root),slV tleaf nleaf kU8 leaf,(Z45 i),(Z46 n),(Z44 tp np p),aa,aa,aa,aa,aa,vI 0,aa,aa,aa,aa,aa,aa,aa,aa,aa,vB (decide (i≥n))]
abbrev Z48:AV:=Y9 0 Yc 0 (Yl i.toNat n.toNat).length
abbrev Z49:List HS:=[.live (Xe 4 Yc (Yl i.toNat n.toNat))]
abbrev Z4a:AV:=vI ((k+1:Nat):Int)
end
theorem Xdt (root:List UInt8) (tleaf:Bool) (nleaf:Bool) (leaf:List UInt8) (i:Int) (n:Int) (tp:Bool) (np:Bool) (p:List Y7) (hp:Jp szS 70 30000 p) (hl:leaf.length≤600) (hn:n≤9223372036854775807):Holds Tryz.prog 102 ⟨[dv (Yh root),slV tleaf nleaf kU8 leaf,vI i,vI n,slV tp np (Xb false) p],[],vI (Jc root leaf i n p),[]⟩:=by
 refine Holds.of Tryz.func102 rfl (N:=68) Tryz.ntmps102 rfl fun w0 B0 S0 U0=>?_
 show T _ (Y2 68 0 w0 S0 U0 B0) ⟨[dv (Yh root),slV tleaf nleaf kU8 leaf,vI i,vI n,(Z44 tp np p)],[]⟩ _ _
 have hp70:=hp.1
 refine sR [] ?_
 refine T.seq ?_
 by_cases hq1:i<0
 ·refine sR (Xm (hN · false (dT hq1)) [3,4,5] (hP 6 (dT hq1)::[])) ?_
  refine cT (b:=true) rfl ?_
  refine sR [] ?_
  refine T.ret (rT ?_)
  exact eRt 10 (.one (dI 2)) [] p4p trivial
 refine sR (Xm (hY · (dF hq1)) [3,4,5] (hP 6 (dF hq1)::[])) ?_
 by_cases hq2:i≥n
 ·refine cT (dT hq2) ?_
  refine sR [] ?_
  refine T.ret (rT ?_)
  exact eRt 10 (.one (dI 2)) [] p4p trivial
 refine cF (dF hq2) ?_
 refine T.skip (nT ?_)
 refine tN ⟨[dv (Yh root),slV tleaf nleaf kU8 leaf,vI i,vI n,(Z44 tp np p),aa,aa,aa,aa,aa,vI 0,aa,aa,aa,aa,aa,aa,aa,aa,aa,vB (decide (i≥n))],[]⟩ ?_
 refine Wv (s':=⟨(Z47 root tleaf nleaf leaf i n tp np p),[]⟩) (fun _ _ hG=>Yt [] (bm 21 1049631) (t2:=[dv (Yh root),slV tleaf nleaf kU8 leaf,vI i,vI n,(Z44 tp np p),aa,aa,aa,aa,aa,vI 0,aa,aa,aa,aa,aa,aa,aa,aa,aa,vB (decide (i≥n))]) (cg2 (fun (q1:Int) (q2:Int)=>([dv (Yh root),slV tleaf nleaf kU8 leaf,vI q1,vI q2,(Z44 tp np p),aa,aa,aa,aa,aa,vI 0,aa,aa,aa,aa,aa,aa,aa,aa,aa,vB (decide (i≥n))]:List AV)) (by omega) (by omega)) rfl hG) ?_
 refine sR [hR 2 rfl rfl (rCa (Xds i.toNat n.toNat (by omega) (by omega)) Tryz.func143 [0] [(.tmp 21,(Z45 i)),(.tmp 22,(Z46 n))] 0 1)] ?_
 refine T.seq ?_
 refine sR [] ?_
 by_cases hq3:(((Yl i.toNat n.toNat).length:Nat):Int)≠((p.length:Nat):Int)
 ·refine cT (dT hq3) ?_
  refine sR [] ?_
  refine T.ret (rT ?_)
  exact eRt 10 (.one (dI 90)) [] (cI (by exact Xib (by omega) (by omega))) trivial
 refine cF (dF hq3) ?_
 refine T.skip (nT ?_)
 refine sR [hR 1 rfl rfl (rCa (X3q (2:UInt8) tleaf nleaf leaf (by omega)) Tryz.func93 [] [(.const (.int .u8 2),dv (.int .u8 2)),(.tmp 29,slV tleaf nleaf kU8 leaf)] 0 0)] ?_
 refine T.seq ?_
 refine sR [] ?_
 refine T.block ?_
 refine T.loop (ι:=Nat) (fun (k:Nat)=>⟨[dv (Yh root),slV tleaf nleaf kU8 leaf,(Z45 i),(Z46 n),(Z44 tp np p),aa,aa,aa,aa,aa,aa,(Z48 i n),dv (Yh (climb (ofB 2 [leaf]) (p.take k))),vI ((k:Nat):Int)],(Z49 i n)⟩) (fun (k:Nat)=>(k≤p.length)∧((Yl i.toNat n.toNat).length=p.length)∧(∀ t,t<k→(p.getD t Yi).Vt=(Yl i.toNat n.toNat).getD t false)) (fun (k:Nat)=>p.length-k) (0) ⟨(Nat.zero_le _),(by omega),(fun j hj=>absurd hj (Nat.not_lt_zero _))⟩ (fun _ _ hG=>Yt [0] (bm 14 14367) (t2:=[dv (Yh root),slV tleaf nleaf kU8 leaf,(Z45 i),(Z46 n),(Z44 tp np p),aa,aa,aa,aa,aa,aa,(Z48 i n),dv (Yh (ofB (2:UInt8) [leaf])),vI 0]) (congrArg (fun (q1:List UInt8)=>([dv (Yh root),slV tleaf nleaf kU8 leaf,(Z45 i),(Z46 n),(Z44 tp np p),aa,aa,aa,aa,aa,aa,(Z48 i n),dv (Yh q1),vI 0]:List AV)) (by rfl)) rfl hG) ?_
 rintro k ⟨hk,hsl,hb⟩
 show T _ _ ⟨[dv (Yh root),slV tleaf nleaf kU8 leaf,(Z45 i),(Z46 n),(Z44 tp np p),aa,aa,aa,aa,aa,aa,(Z48 i n),dv (Yh (climb (ofB 2 [leaf]) (p.take k))),vI ((k:Nat):Int)],(Z49 i n)⟩ _ _
 replace hk:k≤p.length:=hk
 replace hsl:(Yl i.toNat n.toNat).length=p.length:=hsl
 replace hb:∀ t,t<k→(p.getD t Yi).Vt=(Yl i.toNat n.toNat).getD t false:=hb
 have hk70:(p.take k).length≤70:=by rw [List.length_take];have:=hp.1;omega
 have hcl:=Xbk (p:=p.take k) (m:=30000) (fun s hs=>hp.2 s (List.mem_of_mem_take hs)) (ofB 2 [leaf])
 have hlf:=X9i 2 leaf
 have hgd:((p.getD k Yi).X8).length≤30000:=Ie (sz:=szS) hp (by decide) k
 refine T.seq ?_
 refine sR [] ?_
 by_cases hq4:((k:Nat):Int)<((p.length:Nat):Int)
 ·refine cT (dT hq4) ?_
  refine T.skip (nT (T.seq ?_))
  refine T.block ?_
  refine T.seq ?_
  refine sD [[],[],[0,1],[0,1,2],[0,1,2,3],[],[],[5,6],[5,6,7],[0,1,2,3,4,5,6,7,8]] [hR 2 rfl rfl (Wd tp np (Xb false) p k (k:=.i64) (i:=((k:Nat):Int)) Tryz.underlying47 J3 rfl rfl (by omega) (X3 rfl) trivial),hR 7 rfl rfl (V9 (k:=.i64) (l:=0) (sz:=Yc.sz) (off:=0) (n:=(Yl i.toNat n.toNat).length) (i:=((k:Nat):Int)) (m:=k) (o':=k*Yc.sz+0) Tryz.underlying192 Fs rfl rfl (by omega) (by simp) (X3 rfl) trivial),hR 8 rfl rfl (Ha (l:=0) (off:=k*Yc.sz+0) (i:=k) (j:=0) (T:=4) (sz:=Yc.sz) (n:=(Yl i.toNat n.toNat).length) (el:=W6 Yc (Yl i.toNat n.toNat)) (c:=.val (.bool ((Yl i.toNat n.toNat).getD k false))) X85 rfl (by omega) (by decide) rfl (X3 rfl) trivial)] ?_
  by_cases hq5:(p.getD k Yi).Vt≠((Yl i.toNat n.toNat).getD k false)
  ·refine cT (dT hq5) ?_
   refine sR [] ?_
   refine T.ret (rT (rB (rT (rT (rB (rT ?_))))))
   exact eRt 10 (.one (dI 90)) [] (cI (by exact chk_at (p:=p) (k:=k) (by omega) (by omega) ‹_›)) trivial
  refine cF (dF hq5) ?_
  refine T.skip (nT ?_)
  refine sR [hR 2 rfl rfl (V9 (k:=.i64) (l:=0) (sz:=Yc.sz) (off:=0) (n:=(Yl i.toNat n.toNat).length) (i:=((k:Nat):Int)) (m:=k) (o':=k*Yc.sz+0) Tryz.underlying192 Fs rfl rfl (by omega) (by simp) (X3 rfl) trivial),hR 3 rfl rfl (Ha (l:=0) (off:=k*Yc.sz+0) (i:=k) (j:=0) (T:=4) (sz:=Yc.sz) (n:=(Yl i.toNat n.toNat).length) (el:=W6 Yc (Yl i.toNat n.toNat)) (c:=.val (.bool ((Yl i.toNat n.toNat).getD k false))) X85 rfl (by omega) (by decide) rfl (X3 rfl) trivial)] ?_
  by_cases hq6:((Yl i.toNat n.toNat).getD k false)=true
  ·refine cT hq6 ?_
   refine xR [hR 2 rfl rfl (Wd tp np (Xb false) p k (k:=.i64) (i:=((k:Nat):Int)) Tryz.underlying47 J3 rfl rfl (by omega) (X3 rfl) trivial),hR 6 rfl rfl (rCa (X3p (3:UInt8) (p.getD k Yi).X8 (climb (ofB 2 [leaf]) (p.take k)) (by omega)) Tryz.func139 [] [(.const (.int .u8 3),dv (.int .u8 3)),(.tmp 55,dv (Yh (p.getD k Yi).X8)),(.tmp 56,dv (Yh (climb (ofB 2 [leaf]) (p.take k))))] 0 0)] pZ7 pZ7 ?_
   refine nB ?_
   refine nT ?_
   refine xK [hR 1 rfl rfl (Ye (u1:=.int .i64 ((k:Nat):Int)) (u2:=.int .i64 1) (v:=.int .i64 ((k+1:Nat):Int)) (Wa pa) (X3 rfl) ⟨rfl,trivial⟩)] ?_
   refine nL (k+1) ⟨(show (k+1)≤p.length from (by omega)),(show (Yl i.toNat n.toNat).length=p.length from hsl),(show ∀ t,t<(k+1)→(p.getD t Yi).Vt=(Yl i.toNat n.toNat).getD t false from (U5 hb p1v))⟩ (show (p.length-(k+1):Nat)<p.length-k from (by omega)) (fun _ _ hG=>Yt [0] (bm 14 14367) (t2:=[dv (Yh root),slV tleaf nleaf kU8 leaf,(Z45 i),(Z46 n),(Z44 tp np p),aa,aa,aa,aa,aa,aa,(Z48 i n),dv (Yh (ofB (3:UInt8) [(p.getD k Yi).X8,(climb (ofB 2 [leaf]) (p.take k))])),(Z4a k)]) (by have e1:((climb (ofB 2 [leaf]) (p.take (k+1))):List UInt8)=(ofB (3:UInt8) [(p.getD k Yi).X8,(climb (ofB 2 [leaf]) (p.take k))]):=(by (have h8:(p.getD k Yi).Vt=(Yl i.toNat n.toNat).getD k false:=Classical.not_not.1 ‹_›;rw [X0x (p:=p) (k:=k) _ (by omega),Fw];(have h7:(p.getD k Yi).Vt=true:=(by exact h8.trans ‹_›);rw [if_pos h7])));have hE:=congrArg (fun (q1:List UInt8)=>([dv (Yh root),slV tleaf nleaf kU8 leaf,(Z45 i),(Z46 n),(Z44 tp np p),aa,aa,aa,aa,aa,aa,(Z48 i n),dv (Yh q1),(Z4a k)]:List AV)) e1;exact hE) rfl hG)
  replace hq6:=Bool.eq_false_iff.2 hq6
  refine cF hq6 ?_
  refine xR [hR 3 rfl rfl (Wd tp np (Xb false) p k (k:=.i64) (i:=((k:Nat):Int)) Tryz.underlying47 J3 rfl rfl (by omega) (X3 rfl) trivial),hR 6 rfl rfl (rCa (X3p (3:UInt8) (climb (ofB 2 [leaf]) (p.take k)) (p.getD k Yi).X8 (by omega)) Tryz.func139 [] [(.const (.int .u8 3),dv (.int .u8 3)),(.tmp 58,dv (Yh (climb (ofB 2 [leaf]) (p.take k)))),(.tmp 63,dv (Yh (p.getD k Yi).X8))] 0 0)] pZ7 pZ7 ?_
  refine nB ?_
  refine nT ?_
  refine xK [hR 1 rfl rfl (Ye (u1:=.int .i64 ((k:Nat):Int)) (u2:=.int .i64 1) (v:=.int .i64 ((k+1:Nat):Int)) (Wa pa) (X3 rfl) ⟨rfl,trivial⟩)] ?_
  refine nL (k+1) ⟨(show (k+1)≤p.length from (by omega)),(show (Yl i.toNat n.toNat).length=p.length from hsl),(show ∀ t,t<(k+1)→(p.getD t Yi).Vt=(Yl i.toNat n.toNat).getD t false from (U5 hb p1v))⟩ (show (p.length-(k+1):Nat)<p.length-k from (by omega)) (fun _ _ hG=>Yt [0] (bm 14 14367) (t2:=[dv (Yh root),slV tleaf nleaf kU8 leaf,(Z45 i),(Z46 n),(Z44 tp np p),aa,aa,aa,aa,aa,aa,(Z48 i n),dv (Yh (ofB (3:UInt8) [(climb (ofB 2 [leaf]) (p.take k)),(p.getD k Yi).X8])),(Z4a k)]) (by have e1:((climb (ofB 2 [leaf]) (p.take (k+1))):List UInt8)=(ofB (3:UInt8) [(climb (ofB 2 [leaf]) (p.take k)),(p.getD k Yi).X8]):=(by (have h8:(p.getD k Yi).Vt=(Yl i.toNat n.toNat).getD k false:=Classical.not_not.1 ‹_›;rw [X0x (p:=p) (k:=k) _ (by omega),Fw];(have h7:(p.getD k Yi).Vt=false:=(by exact h8.trans ‹_›);rw [if_neg (by rw [h7];decide)])));have hE:=congrArg (fun (q1:List UInt8)=>([dv (Yh root),slV tleaf nleaf kU8 leaf,(Z45 i),(Z46 n),(Z44 tp np p),aa,aa,aa,aa,aa,aa,(Z48 i n),dv (Yh q1),(Z4a k)]:List AV)) e1;exact hE) rfl hG)
 refine cF (dF hq4) ?_
 refine T.exit ?_
 refine xT ?_
 refine xT ?_
 refine xH ?_
 refine nT (T.seq ?_)
 refine sR [] ?_
 by_cases hq7:(climb (ofB 2 [leaf]) (p.take k))≠root
 ·refine cT (dT hq7) ?_
  refine sR [] ?_
  refine T.ret (rT ?_)
  exact eRt 10 (.one (dI 90)) [] p53 trivial
 refine cF (dF hq7) ?_
 refine T.skip (nT ?_)
 refine sR [] ?_
 refine T.ret ?_
 exact eRt 10 (.one (dI 0)) [] p55 trivial
section
variable (b:List UInt8) (tl:Bool) (nl:Bool) (l:List Int) (k:Nat)
abbrev Z4d:AV:=vI ((l.length:Nat):Int)
abbrev Z4e:St:=⟨[Y9 0 kU8 0 (b++W9 (l.take k)).length,slV tl nl (Vi .i64) l,aa,aa,aa,aa,aa,slV tl nl (Vi .i64) l,(Z4d l),vI ((k:Nat):Int)],[.live (Xe 5 kU8 (b++W9 (l.take k)))]⟩
abbrev Z4g:AV:=vI ((k+1:Nat):Int)
end
theorem X0y (tb:Bool) (nb:Bool) (b:List UInt8) (tl:Bool) (nl:Bool) (l:List Int) (hb:b.length≤140737488350000) (hl:1≤l.length∧l.length≤100):Holds Tryz.prog 135 ⟨[slV tb nb kU8 b,slV tl nl (Vi .i64) l],[],Y9 0 kU8 0 (b++W9 l).length,[.live (Xe 5 kU8 (b++W9 l))]⟩:=by
 refine Holds.of Tryz.func135 rfl (N:=18) Tryz.ntmps135 rfl fun w0 B0 S0 U0=>?_
 show T _ (Y2 18 0 w0 S0 U0 B0) ⟨[slV tb nb kU8 b,slV tl nl (Vi .i64) l],[]⟩ _ _
 refine sR [] ?_
 refine T.seq ?_
 refine sR [] ?_
 refine T.block ?_
 refine Xnf ?_
 refine Xik ?_
 refine sR [] ?_
 refine T.seq ?_
 by_cases hq1:0<((l.length:Nat):Int)
 rotate_left
 ·exact absurd (by omega) hq1
 refine cT (dT hq1) ?_
 refine T.skip (nT (T.seq ?_))
 refine T.block ?_
 refine sR [hR 0 rfl rfl (Wd tl nl (Vi .i64) l 0 (k:=.i64) (i:=0) Tryz.underlying24 X23 rfl rfl (by omega) (X3 rfl) trivial)] ?_
 refine xK [hR 2 rfl rfl (rCa (X6g tb nb b (l.getD 0 0) (by omega)) Tryz.func168 [0] [(.tmp 13,slV tb nb kU8 b),(.tmp 14,vI (l.getD 0 0))] 0 1)] ?_
 refine nB ?_
 refine nT ?_
 refine xK [hR 0 rfl rfl (Ye (u1:=.int .i64 0) (u2:=.int .i64 1) (v:=.int .i64 1) (Wa pa) (X3 rfl) ⟨rfl,trivial⟩)] ?_
 refine nP ?_
 refine TL.loop (ι:=Nat) (fun (k:Nat)=>(Z4e b tl nl l k)) (fun (k:Nat)=>(1≤k∧k≤l.length)) (fun (k:Nat)=>l.length-k) (1) (by omega) (fun _ _ hG=>Yt [0] (bm 10 899) (t2:=[Y9 0 kU8 0 (b++Yx (l.getD 0 0)).length,slV tl nl (Vi .i64) l,aa,aa,aa,aa,aa,slV tl nl (Vi .i64) l,(Z4d l),vI 1]) (h2:=[.live (Xe 5 kU8 (b++Yx (l.getD 0 0)))]) (by have e1:((b++W9 (l.take 1)).length:Nat)=(b++Yx (l.getD 0 0)).length:=(by (rw [Xei (by omega)]));have hE:=congrArg (fun (q1:Nat)=>([Y9 0 kU8 0 q1,slV tl nl (Vi .i64) l,aa,aa,aa,aa,aa,slV tl nl (Vi .i64) l,(Z4d l),vI 1]:List AV)) e1;exact hE) (by have e1:((b++W9 (l.take 1)):List UInt8)=b++Yx (l.getD 0 0):=(by (rw [Xei (by omega)]));have hE:=congrArg (fun (q1:List UInt8)=>([.live (Xe 5 kU8 q1)]:List HS)) e1;exact hE) hG) ?_
 rintro k hk
 show T _ _ (Z4e b tl nl l k) _ _
 replace hk:1≤k∧k≤l.length:=hk
 have hil:=Id (l.take k)
 have htk:(l.take k).length=k:=p1z
 refine sR [] ?_
 refine T.seq ?_
 by_cases hq2:((k:Nat):Int)<((l.length:Nat):Int)
 ·refine cT (dT hq2) ?_
  refine T.skip (nT (T.seq ?_))
  refine T.block ?_
  refine sR [hR 0 rfl rfl (Wd tl nl (Vi .i64) l k (k:=.i64) (i:=((k:Nat):Int)) Tryz.underlying24 X23 rfl rfl (by omega) (X3 rfl) trivial)] ?_
  refine xK [hR 2 rfl rfl (Ww (X6g true false (b++W9 (l.take k)) (l.getD k 0) (by (simp [maxLen,-List.getD_eq_getElem?_getD]<;>omega))) Tryz.func168 rfl (by decide) [1] [0] (l:=[(.tmp 13,Y9 0 kU8 0 (b++W9 (l.take k)).length),(.tmp 14,vI (l.getD k 0))]) [(0,.live (Xe 5 kU8 (b++W9 (l.take k))))] rfl 0 1 rfl rfl rfl rfl rfl rfl rfl rfl rfl ⟨.inr (.inl ⟨rfl,px,rfl,rfl,by simp,5,(b++W9 (l.take k)).length,W6 kU8 (b++W9 (l.take k)),List.Mem.head _,pm,fun i j=>by rw [Nat.zero_add]⟩),⟨.inl ⟨rfl,rfl⟩,trivial⟩⟩ rfl pZ6 pZl (X3 rfl) trivial)] ?_
  refine nB ?_
  refine nT ?_
  refine xK [hR 0 rfl rfl (Ye (u1:=.int .i64 ((k:Nat):Int)) (u2:=.int .i64 1) (v:=.int .i64 ((k+1:Nat):Int)) (Wa pa) (X3 rfl) ⟨rfl,trivial⟩)] ?_
  refine nL (k+1) (show 1≤(k+1)∧(k+1)≤l.length from (by omega)) (show (l.length-(k+1):Nat)<l.length-k from (by omega)) (fun _ _ hG=>Vb [1] (bm 10 899) (t1:=[Y9 1 kU8 0 (b++W9 (l.take (k+1))).length,slV tl nl (Vi .i64) l,aa,aa,aa,aa,aa,slV tl nl (Vi .i64) l,(Z4d l),(Z4g k)]) (t2:=[Y9 1 kU8 0 ((b++W9 (l.take k))++Yx (l.getD k 0)).length,slV tl nl (Vi .i64) l,aa,aa,aa,aa,aa,slV tl nl (Vi .i64) l,(Z4d l),(Z4g k)]) (h1:=[.live (Xe 5 kU8 (b++W9 (l.take (k+1))))]) (h2:=[.live (Xe 5 kU8 ((b++W9 (l.take k))++Yx (l.getD k 0)))]) (by have e1:((b++W9 (l.take (k+1))).length:Nat)=((b++W9 (l.take k))++Yx (l.getD k 0)).length:=(by (rw [X64 (by omega),List.append_assoc]));have hE:=congrArg (fun (q1:Nat)=>([Y9 1 kU8 0 q1,slV tl nl (Vi .i64) l,aa,aa,aa,aa,aa,slV tl nl (Vi .i64) l,(Z4d l),(Z4g k)]:List AV)) e1;exact hE) (by have e1:((b++W9 (l.take (k+1))):List UInt8)=(b++W9 (l.take k))++Yx (l.getD k 0):=(by (rw [X64 (by omega),List.append_assoc]));have hE:=congrArg (fun (q1:List UInt8)=>([.live (Xe 5 kU8 q1)]:List HS)) e1;exact hE) hG)
 refine cF (dF hq2) ?_
 refine T.exit ?_
 refine xT ?_
 refine xT ?_
 refine xH ?_
 refine nT ?_
 refine sR [] ?_
 refine T.ret ?_
 exact eRt 4 (.one (.own 0 kU8.sz 0 (b++W9 (l.take k)).length)) [0] (by have e1:((b++W9 l).length:Nat)=(b++W9 (l.take k)).length:=p5e;have hE:=congrArg (fun (q1:Nat)=>(Y9 0 kU8 0 q1:AV)) e1;exact hE) ⟨⟨rfl,(by have e1:((b++W9 (l.take k)):List UInt8)=b++W9 l:=p5e;have hE:=congrArg (fun (q1:List UInt8)=>(.live (Xe 5 kU8 q1):HS)) e1;exact Eq.trans pZ7 hE)⟩,trivial⟩
theorem X9z (te:Bool) (e:aE) (r:Y6) (hb:e.Xf.length≤100000000):Holds Tryz.prog 101 ⟨[.tv (.agg [dI e.X4,.d (dsl te false kU8 e.Xf)]),.tv (.agg [dI r.Xw,dI r.Xn])],[],Y9 0 kU8 0 (V6 e r).length,[.live (Xe 5 kU8 (V6 e r))]⟩:=by
 refine Holds.of Tryz.func101 rfl (N:=18) Tryz.ntmps101 rfl fun w0 B0 S0 U0=>?_
 show T _ (Y2 18 0 w0 S0 U0 B0) ⟨[.tv (.agg [dI e.X4,.d (dsl te false kU8 e.Xf)]),.tv (.agg [dI r.Xw,dI r.Xn])],[]⟩ _ _
 have hi1:=Wq e.X4
 have hi2:(W9 [e.X4]).length=8:=Id [e.X4]
 have hi2n:(([]:List UInt8)++W9 [e.X4]).length=8:=Id [e.X4]
 have hy:=Vg e.Xf
 refine sR [] ?_
 refine sD [[],[0],[0,1],[0,1,2],[],[4],[0,1,2,3,4,5],[],[7],[],[9],[7,8,9,10],[0,1,2,3,4,5,6,7,8,9,10,11],[0,1,2,3,4,5,6,7,8,9,10,11,12]] [hR 2 rfl rfl (Yd 2 3 (Vi .i64) (X2t .i64) [e.X4] [⟨0,.tmp 6,.one (dI e.X4),0⟩] (cs:=[dI e.X4]) Tryz.underlying24 X23 rfl X5i rfl rfl rfl pd (Yp rfl rfl pd W4) pZ7 (V1 pZ7) (X3 rfl) trivial),hR 3 rfl rfl (Ww (X0y false false ([]:List UInt8) true false [e.X4] (by (simp [maxLen,-List.getD_eq_getElem?_getD]<;>omega)) (by (simp [maxLen,-List.getD_eq_getElem?_getD]<;>omega))) Tryz.func135 rfl (by decide) [3] [2] (l:=[(.const (.slice none 0 0),dv (.slice none 0 0)),(.tmp 7,Y9 2 (Vi .i64) 0 [e.X4].length)]) [(2,.live (Xe 3 (Vi .i64) [e.X4]))] rfl 0 1 rfl rfl rfl rfl rfl rfl rfl rfl rfl ⟨.inr pZ5,⟨.inr (.inl ⟨rfl,px,rfl,rfl,by simp,3,[e.X4].length,W6 (Vi .i64) [e.X4],List.Mem.head _,pm,fun i j=>by rw [Nat.zero_add]⟩),trivial⟩⟩ rfl pZ6 pZl (X3 rfl) ⟨rfl,trivial⟩),hR 6 rfl rfl (Ww (X34 true false (([]:List UInt8)++W9 [e.X4]) te false e.Xf (by omega)) Tryz.func132 rfl (by decide) [4] [3] (l:=[(.tmp 8,Y9 3 kU8 0 (([]:List UInt8)++W9 [e.X4]).length),(.tmp 10,slV te false kU8 e.Xf)]) [(3,.live (Xe 5 kU8 (([]:List UInt8)++W9 [e.X4])))] rfl 0 1 rfl rfl rfl rfl rfl rfl rfl rfl rfl ⟨.inr (.inl ⟨rfl,px,rfl,rfl,by simp,5,(([]:List UInt8)++W9 [e.X4]).length,W6 kU8 (([]:List UInt8)++W9 [e.X4]),List.Mem.head _,pm,fun i j=>by rw [Nat.zero_add]⟩),⟨.inl ⟨rfl,rfl⟩,trivial⟩⟩ rfl pZ6 pZl (X3 rfl) trivial),hR 11 rfl rfl (Yd 5 3 (Vi .i64) (X2t .i64) [r.Xw,r.Xn] [⟨0,.tmp 13,.one (dI r.Xw),0⟩,⟨1,.tmp 15,.one (dI r.Xn),1⟩] (cs:=[dI r.Xw,dI r.Xn]) Tryz.underlying24 X23 rfl X5i rfl rfl rfl pd (Yp rfl rfl pd (Yp rfl rfl pd W4)) pZ7 (V1 pZ7) (X3 rfl) trivial),hR 12 rfl rfl (Ww (X0y true false (([]:List UInt8)++W9 [e.X4]++W3 e.Xf) true false [r.Xw,r.Xn] (by (simp [maxLen,-List.getD_eq_getElem?_getD]<;>omega)) (by (simp [maxLen,-List.getD_eq_getElem?_getD]<;>omega))) Tryz.func135 rfl (by decide) [6] [4,5] (l:=[(.tmp 11,Y9 4 kU8 0 (([]:List UInt8)++W9 [e.X4]++W3 e.Xf).length),(.tmp 16,Y9 5 (Vi .i64) 0 [r.Xw,r.Xn].length)]) [(4,.live (Xe 5 kU8 (([]:List UInt8)++W9 [e.X4]++W3 e.Xf))),(5,.live (Xe 3 (Vi .i64) [r.Xw,r.Xn]))] rfl 0 1 rfl rfl rfl rfl rfl rfl rfl rfl rfl ⟨.inr (.inl ⟨rfl,px,rfl,rfl,by simp,5,(([]:List UInt8)++W9 [e.X4]++W3 e.Xf).length,W6 kU8 (([]:List UInt8)++W9 [e.X4]++W3 e.Xf),List.Mem.head _,pm,fun i j=>by rw [Nat.zero_add]⟩),⟨.inr (.inl ⟨rfl,px,rfl,rfl,by simp,3,[r.Xw,r.Xn].length,W6 (Vi .i64) [r.Xw,r.Xn],List.Mem.tail _ (List.Mem.head _),pm,fun i j=>by rw [Nat.zero_add]⟩),trivial⟩⟩ rfl (by intro b hb;simp only [List.mem_cons,List.not_mem_nil,or_false] at hb;rcases hb with rfl|rfl;exact ⟨_,List.Mem.head _⟩;exact ⟨_,List.Mem.tail _ (List.Mem.head _)⟩) pZl (X3 rfl) trivial)] ?_
 refine T.ret ?_
 exact eRt 4 (.one (.own 6 kU8.sz 0 (([]:List UInt8)++W9 [e.X4]++W3 e.Xf++W9 [r.Xw,r.Xn]).length)) [6] (by have e1:((V6 e r).length:Nat)=(([]:List UInt8)++W9 [e.X4]++W3 e.Xf++W9 [r.Xw,r.Xn]).length:=(by (simp [V6,W9];done));have hE:=congrArg (fun (q1:Nat)=>(Y9 6 kU8 0 q1:AV)) e1;exact hE) ⟨⟨rfl,(by have e1:(([]:List UInt8)++W9 [e.X4]++W3 e.Xf++W9 [r.Xw,r.Xn]:List UInt8)=V6 e r:=(by (simp [V6,W9];done));have hE:=congrArg (fun (q1:List UInt8)=>(.live (Xe 5 kU8 q1):HS)) e1;exact Eq.trans pZ7 hE)⟩,trivial⟩
end Go.Proofs.YtnaopgohccacmaaGreat.Q
