import Derived.Test.YtnaopgohccacmaaGreatC19n13
namespace Go.Proofs.YtnaopgohccacmaaGreat.Q
open Go Go.RowKit
set_option linter.unusedVariables false
set_option linter.unusedSimpArgs false
set_option maxRecDepth 100000
set_option maxHeartbeats 4000000
section
variable (h:Int) (d:List UInt8) (l:List Yq) (x:Int)
abbrev Z5v:HS:=.live (.box 149 [dI h,dS d,dB true,.own 1 (Xk false).sz 0 l.length])
abbrev Z5w:HS:=.live (Xe 152 (Xk false) l)
abbrev Z5x:List AV:=[pv 0 0,vI x,aa,aa,pv 2 0,vI 4,aa,aa,aa,aa,aa,aa,aa,aa,aa,aa,aa,aa,aa,aa,aa,aa,vB true]
abbrev Z5y:List HS:=[(Z5v h d l),(Z5w l),.live (.box 65 [dI 0,dS [],.d (.val (.slice none 0 0)),.d (.val (.slice none 0 0))])]
abbrev Z5z:SV:=.d (dsl false false (kE false) ([]:List aE))
abbrev Z60:SV:=.d (dsl false false (Xd false) ([]:List Y6))
abbrev Z61:List SV:=[dI 0,dS [],Z5z,Z60]
abbrev Z62:List AV:=[pv 0 0,vI x,aa,aa,pv 2 0,vI 4,aa,aa,aa,aa,aa,aa,aa,aa,aa,aa,aa,aa,aa,aa,aa,aa,vB (decide (x>(h+((l.length:Nat):Int))))]
abbrev Z63:SV:=dI (l.getD ((x-h)-1).toNat Wk).Uw.Xg
abbrev Z64:SV:=dS (l.getD ((x-h)-1).toNat Wk).Uw.Y4
abbrev Z65:SV:=.d (dsl false false (kE false) (l.getD ((x-h)-1).toNat Wk).Uw.X9)
abbrev Z66:SV:=.d (dsl false false (Xd false) (l.getD ((x-h)-1).toNat Wk).Uw.Xl)
end
theorem Xci (h:Int) (d:List UInt8) (l:List Yq) (x:Int) (hh:0≤h∧h≤1099511627776) (hl:l.length≤100) (hw:Xbj l):Holds Tryz.prog 52 ⟨[pv 0 0,vI x],[.box 149 [dI h,dS d,dB true,.own 1 (Xk false).sz 0 l.length],Xe 152 (Xk false) l],.tup [.agg [dI (W0 h l x).Xg,dS (W0 h l x).Y4,.d (dsl false false (kE false) (W0 h l x).X9),.d (dsl false false (Xd false) (W0 h l x).Xl)],.one (dI (X10 h l.length x))],[.live (.box 149 [dI h,dS d,dB true,.own 1 (Xk false).sz 0 l.length]),.live (Xe 152 (Xk false) l)]⟩:=by
 refine Holds.of Tryz.func52 rfl (N:=40) Tryz.ntmps52 rfl fun w0 B0 S0 U0=>?_
 show T _ (Y2 40 2 w0 S0 U0 B0) ⟨[pv 0 0,vI x],[(Z5v h d l),(Z5w l)]⟩ _ _
 refine sR [] ?_
 refine T.seq ?_
 by_cases hq1:x≤h
 ·refine sR (Xm hY0 [3,4,5,6,7,8,9] (hP0 10::(Xm (hN · false (dT hq1)) [12,13,14,15] (hP 16 (dT hq1)::[])))) ?_
  refine cT (b:=true) rfl ?_
  refine sR [] ?_
  refine T.ret (rT ?_)
  refine eN ⟨(Z5x x),(Z5y h d l)⟩ ?_
  refine Xc (s':=⟨(Z5x x),[(Z5v h d l),(Z5w l),.live (.box 65 Z61)]⟩) (fun _ _ hG=>Ys (s:=⟨(Z5x x),(Z5y h d l)⟩) ⟨.inl rfl,p3q⟩ p35 hG) ?_
  exact eX [.c 4 2 65 0 65 [dI 0,dS [],Z5z,Z60] (.agg Z61),.t 5 (.one (dI 4))] ⟨⟨rfl,rfl,by kernel_rfl,by kernel_rfl,.inl ⟨4,H3,rfl,Nat.le_of_ble_eq_true rfl⟩⟩,⟨⟨rfl,by kernel_rfl⟩,trivial⟩⟩ [0,1] p1p (ix (ix trivial))
 refine sR (Xm hY0 [3,4,5,6,7,8,9] (hP0 10::(hY 12 (dF hq1)::(hY 13 (dF hq1)::(hS 14 (oY rfl rfl rfl rfl (X3 rfl) (dF hq1) (rCa (X3d h d l ‹_› ‹_›) Tryz.func88 [0,1] [(.tmp 19,pv 0 0)] 2 2))::(hY 15 (dF hq1)::(hP 16 (dF hq1)::[]))))))) ?_
 by_cases hq2:x>(h+((l.length:Nat):Int))
 ·refine cT (dT hq2) ?_
  refine sR [] ?_
  refine T.ret (rT ?_)
  refine eN ⟨(Z62 h l x),(Z5y h d l)⟩ ?_
  refine Xc (s':=⟨(Z62 h l x),[(Z5v h d l),(Z5w l),.live (.box 65 Z61)]⟩) (fun _ _ hG=>Ys (s:=⟨(Z62 h l x),(Z5y h d l)⟩) ⟨.inl rfl,p3q⟩ p35 hG) ?_
  exact eX [.c 4 2 65 0 65 [dI 0,dS [],Z5z,Z60] (.agg Z61),.t 5 (.one (dI 4))] ⟨⟨rfl,rfl,by kernel_rfl,by kernel_rfl,.inl ⟨4,H3,rfl,Nat.le_of_ble_eq_true rfl⟩⟩,⟨⟨rfl,by kernel_rfl⟩,trivial⟩⟩ [0,1] p1p (ix (ix trivial))
 refine cF (dF hq2) ?_
 refine T.skip (nT ?_)
 refine sD [[],[0],[0,1],[0,1,2],[],[],[5],[5,6],[5,6,7],[5,6,7,8],[4,5,6,7,8,9],[4,5,6,7,8,9,10],[0,1,2,3,4,5,6,7,8,9,10,11],[0,1,2,3,4,5,6,7,8,9,10,11,12],[0,1,2,3,4,5,6,7,8,9,10,11,12,13],[0,1,2,3,4,5,6,7,8,9,10,11,12,13,14],[0,1,2,3,4,5,6,7,8,9,10,11,12,13,14,15],[0,1,2,3,4,5,6,7,8,9,10,11,12,13,14,15,16]] [hR 10 rfl rfl (Ye (u1:=.int .i64 x) (u2:=.int .i64 h) (v:=.int .i64 (x-h)) (Ve pa) (X3 rfl) trivial),hR 11 rfl rfl (Ye (u1:=.int .i64 (x-h)) (u2:=.int .i64 1) (v:=.int .i64 ((x-h)-1)) (Ve pa) (X3 rfl) ⟨rfl,trivial⟩),hR 12 rfl rfl (V9 (k:=.i64) (l:=1) (sz:=(Xk false).sz) (off:=0) (n:=l.length) (i:=((x-h)-1)) (m:=((x-h)-1).toNat) (o':=((x-h)-1).toNat*(Xk false).sz+0) Tryz.underlying147 X4y rfl (by omega) (by omega) (by simp) (X3 rfl) trivial),hR 14 rfl rfl (X1q (l:=1) (off:=((x-h)-1).toNat*(Xk false).sz+0) (i:=((x-h)-1).toNat) (j:=0) (T:=152) (sz:=(Xk false).sz) (n:=l.length) (el:=W6 (Xk false) l) (ds:=[(Z63 h l x),(Z64 h l x),(Z65 h l x),(Z66 h l x)]) H3 rfl (by omega) (by decide) rfl (X3 rfl) trivial),hR 15 rfl rfl (rCa (X72 (l.getD ((x-h)-1).toNat Wk).Uw (by exact Xbi ‹_› _)) Tryz.func90 [] [(.tmp 38,.tv (.agg [(Z63 h l x),(Z64 h l x),(Z65 h l x),(Z66 h l x)]))] 0 0)] ?_
 refine T.ret ?_
 exact eX [.c 4 2 65 0 65 [(Z63 h l x),(Z64 h l x),(Z65 h l x),(Z66 h l x)] (.agg [(Z63 h l x),(Z64 h l x),(Z65 h l x),(Z66 h l x)]),.t 5 (.one (dI 0))] ⟨⟨rfl,rfl,by kernel_rfl,by kernel_rfl,.inl ⟨4,H3,rfl,Nat.le_of_ble_eq_true rfl⟩⟩,⟨⟨rfl,by kernel_rfl⟩,trivial⟩⟩ [0,1] (by have e1:((W0 h l x).Xg:Int)=(l.getD ((x-h)-1).toNat Wk).Uw.Xg:=p2q;have e2:((W0 h l x).Y4:List UInt8)=(l.getD ((x-h)-1).toNat Wk).Uw.Y4:=p2q;have e3:((W0 h l x).X9:List aE)=(l.getD ((x-h)-1).toNat Wk).Uw.X9:=p2q;have e4:((W0 h l x).Xl:List Y6)=(l.getD ((x-h)-1).toNat Wk).Uw.Xl:=p2q;have e5:((X10 h l.length x):Int)=0:=(by (have hi:inL h l.length x:=⟨by omega,by omega⟩;(rw [X10,if_pos hi])));have hE:=congr pt e5;exact hE) (ix (ix trivial))
abbrev Z67 (ta:Bool) (na:Bool) (a:List aE):AV:=slV ta na (kE false) a
abbrev Z68 (ta:Bool) (na:Bool) (a:List aE) (k:Nat):St:=⟨[(Z67 ta na a),aa,aa,Y9 0 (kE false) 0 (a.take k).length,vI ((k:Nat):Int)],[.live (Xe 43 (kE false) (a.take k))]⟩
abbrev Z69 (k:Nat):AV:=vI ((k+1:Nat):Int)
theorem Xg0 (ta:Bool) (na:Bool) (a:List aE) (hf:Jp szE 20 500 a):Holds Tryz.prog 115 ⟨[slV ta na (kE false) a],[],Y9 0 (kE false) 0 a.length,[.live (Xe 43 (kE false) a)]⟩:=by
 refine Holds.of Tryz.func115 rfl (N:=28) Tryz.ntmps115 rfl fun w0 B0 S0 U0=>?_
 show T _ (Y2 28 0 w0 S0 U0 B0) ⟨[(Z67 ta na a)],[]⟩ _ _
 refine sR [] ?_
 refine sR [] ?_
 refine T.seq ?_
 refine sR [] ?_
 refine T.block ?_
 refine tN ⟨[(Z67 ta na a),aa,dv (.slice none 0 0),dv (.slice none 0 0),vI 0],[]⟩ ?_
 refine Wv (s':=⟨[(Z67 ta na a),aa,dv (.slice none 0 0),Y9 0 (kE false) 0 0,vI 0],[.live (Xe 43 (kE false) ([]:List aE))]⟩) (fun _ _ hG=>Vy 0 3 43 (kE false) rfl rfl hG) ?_
 refine T.loop (ι:=Nat) (fun (k:Nat)=>(Z68 ta na a k)) (fun (k:Nat)=>(k≤a.length)) (fun (k:Nat)=>a.length-k) (0) (Nat.zero_le _) (fun _ _ hG=>Yt [0] (bm 5 25) (t2:=[(Z67 ta na a),aa,aa,Y9 0 (kE false) 0 0,vI 0]) (h2:=[.live (Xe 43 (kE false) ([]:List aE))]) (congrArg (fun (q1:Nat)=>([(Z67 ta na a),aa,aa,Y9 0 (kE false) 0 q1,vI 0]:List AV)) (by rfl)) (congrArg (fun (q1:List aE)=>([.live (Xe 43 (kE false) q1)]:List HS)) (by rfl)) hG) ?_
 rintro k hk
 show T _ _ (Z68 ta na a k) _ _
 replace hk:k≤a.length:=hk
 have ha1:=hf.1
 have hbk:(a.getD k zE).Xf.length≤500:=Ie (sz:=szE) hf (by decide) k
 refine T.seq ?_
 refine sR [] ?_
 by_cases hq1:((k:Nat):Int)<((a.length:Nat):Int)
 ·refine cT (dT hq1) ?_
  refine T.skip (nT (T.seq ?_))
  refine T.block ?_
  refine xD [[],[],[],[1,2],[1,2,3],[1,2,3,4],[],[],[],[7,8],[7,8,9],[7,8,9,10],[6,7,8,9,10,11],[1,2,3,4,5,6,7,8,9,10,11,12],[1,2,3,4,5,6,7,8,9,10,11,12,13],[0,1,2,3,4,5,6,7,8,9,10,11,12,13,14],[0,1,2,3,4,5,6,7,8,9,10,11,12,13,14,15]] [hR 3 rfl rfl (Wd ta na (kE false) a k (k:=.i64) (i:=((k:Nat):Int)) Tryz.underlying37 Vs rfl rfl (by omega) (X3 rfl) trivial),hR 6 rfl rfl (Yd 1 5 kU8 Vr ([]:List UInt8) [] (cs:=[]) Tryz.underlying25 Jl rfl Io rfl rfl rfl pd W4 pZ7 (V1 pZ7) (X3 rfl) trivial),hR 9 rfl rfl (Wd ta na (kE false) a k (k:=.i64) (i:=((k:Nat):Int)) Tryz.underlying37 Vs rfl rfl (by omega) (X3 rfl) trivial),hR 12 rfl rfl (Yy 1 2 5 1 kU8 Vr ([]:List UInt8) (a.getD k zE).Xf (a.getD k zE).Xf ([]:List UInt8).length (sy:=(dU (a.getD k zE).Xf)) (rhs:=[]) Jf (by omega) (Ji false false kU8 (a.getD k zE).Xf) (by simp) (by (simp [maxLen,-List.getD_eq_getElem?_getD]<;>omega)) (by (simp [maxLen,-List.getD_eq_getElem?_getD]<;>omega)) (X3 rfl) trivial),hR 14 rfl rfl (J0 0 24 2 5 kU8 (a.getD k zE).Xf (av:=.tv (.agg [dI (a.getD k zE).X4,.own 2 kU8.sz 0 (a.getD k zE).Xf.length])) (Yd 3 43 (kE false) (W5 false) [(a.getD k zE)] [⟨0,.tmp 24,.agg [dI (a.getD k zE).X4,dU (a.getD k zE).Xf],0⟩] (cs:=[dI (a.getD k zE).X4,dU (a.getD k zE).Xf]) Tryz.underlying37 Vs rfl F7 rfl rfl rfl pd (Yp rfl rfl pd W4) pZ7 (V1 pZ7) (X3 rfl) trivial) rfl p5c p3c rfl rfl),hR 15 rfl rfl (Yy 0 4 43 32 (kE false) (W5 false) (a.take k) [(a.getD k zE)] ((a.take k)++[(a.getD k zE)]) (a.take k).length (sy:=(.own 3 (kE false).sz 0 [(a.getD k zE)].length)) (rhs:=[(3,.live (Xe 43 (kE false) [(a.getD k zE)]))]) Fb (by omega) (Wu 3 43 (kE false) [(a.getD k zE)]) Jn (by (simp [maxLen,-List.getD_eq_getElem?_getD]<;>omega)) (by (simp [maxLen,-List.getD_eq_getElem?_getD]<;>omega)) (X3 rfl) trivial)] pZ7 pZ7 pZ7 pZ7 pZ7 pZ7 ?_
  refine nB ?_
  refine nT ?_
  refine xK [hR 1 rfl rfl (Ye (u1:=.int .i64 ((k:Nat):Int)) (u2:=.int .i64 1) (v:=.int .i64 ((k+1:Nat):Int)) (Wa pa) (X3 rfl) ⟨rfl,trivial⟩)] ?_
  refine nL (k+1) (show (k+1)≤a.length from (by omega)) (show (a.length-(k+1):Nat)<a.length-k from (by omega)) (fun _ _ hG=>Vb [4] (bm 5 25) (t1:=[(Z67 ta na a),aa,aa,Y9 4 (kE false) 0 (a.take (k+1)).length,(Z69 k)]) (t2:=[(Z67 ta na a),aa,aa,Y9 4 (kE false) 0 ((a.take k)++[(a.getD k zE)]).length,(Z69 k)]) (h1:=[.live (Xe 43 (kE false) (a.take (k+1)))]) (h2:=[.live (Xe 43 (kE false) ((a.take k)++[(a.getD k zE)]))]) (by have e1:((a.take (k+1)).length:Nat)=((a.take k)++[(a.getD k zE)]).length:=p4d;have hE:=congrArg (fun (q1:Nat)=>([(Z67 ta na a),aa,aa,Y9 4 (kE false) 0 q1,(Z69 k)]:List AV)) e1;exact hE) (by have e1:((a.take (k+1)):List aE)=(a.take k)++[(a.getD k zE)]:=p4d;have hE:=congrArg (fun (q1:List aE)=>([.live (Xe 43 (kE false) q1)]:List HS)) e1;exact hE) hG)
 refine cF (dF hq1) ?_
 refine T.exit ?_
 refine xT ?_
 refine xT ?_
 refine xH ?_
 refine nT ?_
 refine sR [] ?_
 refine T.ret ?_
 exact eRt 2 (.one (.own 0 (kE false).sz 0 (a.take k).length)) [0] (by have e1:(a.length:Nat)=(a.take k).length:=pZ25;have hE:=congrArg (fun (q1:Nat)=>(Y9 0 (kE false) 0 q1:AV)) e1;exact hE) ⟨⟨rfl,(by have e1:((a.take k):List aE)=a:=pZ25;have hE:=congrArg (fun (q1:List aE)=>(.live (Xe 43 (kE false) q1):HS)) e1;exact Eq.trans pZ7 hE)⟩,trivial⟩
section
variable (b:Xq)
abbrev Z6a:SV:=.d (dsl false false (kE false) b.X9)
abbrev Z6b:SV:=.d (dsl false false (Xd false) b.Xl)
abbrev Z6c:List SV:=[dI b.Xg,dS b.Y4,(Z6a b),(Z6b b)]
abbrev Z6d:HS:=.live (.box 65 [dI b.Xg,dS b.Y4,.own 2 (kE false).sz 0 b.X9.length,.own 4 (Xd false).sz 0 b.Xl.length])
abbrev Z6e:St:=⟨[.tv (.agg (Z6c b)),pv 0 0,pv 1 0],[(Z6d b),(Z6d b),.live (Xe 43 (kE false) b.X9),.dead,.live (Xe 46 (Xd false) b.Xl)]⟩
abbrev Z6f:HS:=.live (.box 65 [dI b.Xg,dS b.Y4,(Z6a b),.own 4 (Xd false).sz 0 b.Xl.length])
abbrev Z6g:St:=⟨[.tv (.agg (Z6c b)),pv 0 0,pv 1 0],[(Z6f b),(Z6f b),.dead,.dead,.live (Xe 46 (Xd false) b.Xl)]⟩
end
theorem X8t (b:Xq) (hf:Hm b):Holds Tryz.prog 58 ⟨[.tv (.agg [dI b.Xg,dS b.Y4,.d (dsl false false (kE false) b.X9),.d (dsl false false (Xd false) b.Xl)])],[],.tv (.agg [dI b.Xg,dS b.Y4,.d (dsl false false (kE false) b.X9),.d (dsl false false (Xd false) b.Xl)]),[]⟩:=by
 refine Holds.of Tryz.func58 rfl (N:=13) Tryz.ntmps58 rfl fun w0 B0 S0 U0=>?_
 show T _ (Y2 13 0 w0 S0 U0 B0) ⟨[.tv (.agg (Z6c b))],[]⟩ _ _
 have hf1:=hf.1.1
 have hf2:=hf.2.1
 have hf3:=hf.2.2
 refine sR [] ?_
 refine sR [hR 2 rfl rfl (rCa (Xg0 false false b.X9 (by exact hf.1)) Tryz.func115 [2] [(.tmp 4,slV false false (kE false) b.X9)] 0 1)] ?_
 refine sR [hR 0 rfl rfl (Yd 3 46 (Xd false) (Vz false) ([]:List Y6) [] (cs:=[]) Tryz.underlying63 Em rfl X7j rfl rfl rfl pd W4 pZ7 (V1 pZ7) (X3 rfl) trivial),hR 3 rfl rfl (Yy 3 4 46 16 (Xd false) (Vz false) ([]:List Y6) b.Xl b.Xl ([]:List Y6).length (sy:=((Z6b b))) (rhs:=[]) X7w (by omega) (Ji false false (Xd false) b.Xl) (by simp) (by (simp [maxLen,-List.getD_eq_getElem?_getD]<;>omega)) (by (simp [maxLen,-List.getD_eq_getElem?_getD]<;>omega)) (X3 rfl) trivial)] ?_
 refine sR [] ?_
 refine T.ret ?_
 refine eN (Z6e b) ?_
 refine Xc (s':=(Z6g b)) (fun _ _ hG=>Gs.freeze (s:=(Z6e b)) 2 (el:=W6 (kE false) b.X9) (sz:=(kE false).sz) (n:=b.X9.length) rfl ⟨.inl rfl,(kk2 trivial)⟩ ⟨p2c,⟨p2c,⟨(.inl ⟨rfl,rfl⟩),⟨pc,⟨pc,trivial⟩⟩⟩⟩⟩ hG) ?_
 refine eN (Z6g b) ?_
 refine Xc (s':=⟨[.tv (.agg (Z6c b)),pv 0 0,pv 1 0],[.live (.box 65 (Z6c b)),.live (.box 65 (Z6c b)),.dead,.dead,.dead]⟩) (fun _ _ hG=>Gs.freeze (s:=(Z6g b)) 4 (el:=W6 (Xd false) b.Xl) (sz:=(Xd false).sz) (n:=b.Xl.length) rfl ⟨.inl rfl,(kk2 trivial)⟩ ⟨p2b,⟨p2b,⟨pc,⟨pc,⟨(.inl ⟨rfl,rfl⟩),trivial⟩⟩⟩⟩⟩ hG) ?_
 exact eX [.c 2 1 65 0 65 [dI b.Xg,dS b.Y4,(Z6a b),(Z6b b)] (.agg (Z6c b))] ⟨⟨rfl,rfl,by kernel_rfl,by kernel_rfl,.inl ⟨4,H3,rfl,Nat.le_of_ble_eq_true rfl⟩⟩,trivial⟩ [] rfl trivial
theorem Xdq:Holds Tryz.prog 85 ⟨[],[],dv (Yh (ofB 6 ([]:List (List UInt8)))),[]⟩:=by
 refine Holds.of Tryz.func85 rfl (N:=2) Tryz.ntmps85 rfl fun w0 B0 S0 U0=>?_
 show T _ (Y2 2 0 w0 S0 U0 B0) ⟨[],[]⟩ _ _
 refine sR [] ?_
 refine sR [hR 0 rfl rfl (rCn (X1l (6:UInt8) false false false ([]:List (List UInt8)) (by decide)) Tryz.func71 [] [(.const (.int .u8 6),dv (.int .u8 6)),(.const (.slice none 0 0),dv (.slice none 0 0))] 0 0 ⟨.inl ⟨rfl,rfl⟩,⟨.inr pZ5,trivial⟩⟩ ⟨rfl,⟨rfl,trivial⟩⟩)] ?_
 refine T.ret ?_
 exact eRt 0 (.one (dS (ofB (6:UInt8) ([]:List (List UInt8))))) [] p2o trivial
abbrev Z6h:SV:=dS (ofB 6 ([]:List (List UInt8)))
theorem Xiz:Holds Tryz.prog 37 ⟨[],[],pv 0 0,[.live (.box 106 [dB true,dI 0,dS (ofB 6 ([]:List (List UInt8))),.own 1 (Xr false).sz 0 ([]:List Xq).length]),.live (Xe 65 (Xr false) ([]:List Xq))]⟩:=by
 refine Holds.of Tryz.func37 rfl (N:=4) Tryz.ntmps37 rfl fun w0 B0 S0 U0=>?_
 show T _ (Y2 4 0 w0 S0 U0 B0) ⟨[],[]⟩ _ _
 refine sR [] ?_
 refine sR [hR 0 rfl rfl (rCa (Xdq  ) Tryz.func85 [] [] 0 0)] ?_
 refine T.ret ?_
 refine eN ⟨[pv 0 0],[.live (.box 106 [dB true,dI 0,Z6h,.d (.val (.slice none 0 0))])]⟩ ?_
 refine Xc (s':=⟨[pv 0 0],[.live (.box 106 [dB true,dI 0,Z6h,.own 1 (Xr false).sz 0 0]),.live (Xe 65 (Xr false) ([]:List Xq))]⟩) (fun _ _ hG=>Jd 1 0 3 65 (Xr false) (Tb:=106) (cs:=[dB true,dI 0,Z6h,.d (.val (.slice none 0 0))]) rfl rfl rfl hG) ?_
 exact eRt 0 (.one (.ptr 0 0)) [0,1] rfl ⟨⟨rfl,(by have e1:(0:Nat)=([]:List Xq).length:=(by rfl);have hE:=congrArg (fun (q1:Nat)=>(.live (.box 106 [dB true,dI 0,Z6h,.own 1 (Xr false).sz 0 q1]):HS)) e1;exact Eq.trans pZ7 hE)⟩,(ix trivial)⟩
theorem H7 (h:Int) (d:List UInt8) (L:List Xq) (hh:0≤h∧h≤1099511627776) (hl:L.length≤100):Holds Tryz.prog 12 ⟨[pv 0 0],[.box 106 [dB true,dI h,dS d,.own 1 (Xr false).sz 0 L.length],Xe 65 (Xr false) L],vI (h+((L.length:Nat):Int)),[.live (.box 106 [dB true,dI h,dS d,.own 1 (Xr false).sz 0 L.length]),.live (Xe 65 (Xr false) L)]⟩:=by
 refine Holds.of Tryz.func12 rfl (N:=13) Tryz.ntmps12 rfl fun w0 B0 S0 U0=>?_
 show T _ (Y2 13 2 w0 S0 U0 B0) ⟨[pv 0 0],[.live (.box 106 [dB true,dI h,dS d,.own 1 (Xr false).sz 0 L.length]),.live (Xe 65 (Xr false) L)]⟩ _ _
 refine sR [] ?_
 refine sD [[],[0],[0,1],[0,1,2],[],[4],[4,5],[4,5,6],[4,5,6,7],[0,1,2,3,4,5,6,7,8],[0,1,2,3,4,5,6,7,8,9]] [hR 9 rfl rfl (Ye (u1:=.int .i64 h) (u2:=.int .i64 ((L.length:Nat):Int)) (v:=.int .i64 (h+((L.length:Nat):Int))) (Wa pa) (X3 rfl) trivial)] ?_
 refine T.ret ?_
 exact eRt 2 (.one (dI (h+((L.length:Nat):Int)))) [0,1] rfl (ix (ix trivial))
abbrev Z6i (L:List Xq) (n:Nat):=(Ws (L.getD (n-1) Yz))
theorem ref11_at (h:Int) (d:List UInt8) (L:List Xq) (n:Nat) (hh:0≤h∧h≤1099511627776) (hl:L.length≤100) (hw:X04 L) (hn:n≤L.length):Holds Tryz.prog 86 ⟨[pv 0 0,vI ((n:Nat):Int)],[.box 106 [dB true,dI h,dS d,.own 1 (Xr false).sz 0 L.length],Xe 65 (Xr false) L],dv (Yh (atB d L n)),[.live (.box 106 [dB true,dI h,dS d,.own 1 (Xr false).sz 0 L.length]),.live (Xe 65 (Xr false) L)]⟩:=by
 refine Holds.of Tryz.func86 rfl (N:=21) Tryz.ntmps86 rfl fun w0 B0 S0 U0=>?_
 show T _ (Y2 21 2 w0 S0 U0 B0) ⟨[pv 0 0,vI ((n:Nat):Int)],[.live (.box 106 [dB true,dI h,dS d,.own 1 (Xr false).sz 0 L.length]),.live (Xe 65 (Xr false) L)]⟩ _ _
 have hwn:=X68 hw (n-1)
 have hhn:=Xel hwn
 have hg1:=hhn.1
 have hg2:=hhn.2.1
 refine sR [] ?_
 refine T.seq ?_
 refine sR [] ?_
 by_cases hq1:((n:Nat):Int)=0
 ·refine cT (dT hq1) ?_
  refine sR [] ?_
  refine T.ret (rT ?_)
  exact eRt 4 (.one (dS d)) [0,1] (by have e1:((atB d L n):List UInt8)=d:=(by (unfold atB;rw [if_pos (by omega)]));have hE:=congrArg (fun (q1:List UInt8)=>(dv (Yh q1):AV)) e1;exact hE) (ix (ix trivial))
 refine cF (dF hq1) ?_
 refine T.skip (nT ?_)
 refine sR [hR 5 rfl rfl (Ye (u1:=.int .i64 ((n:Nat):Int)) (u2:=.int .i64 1) (v:=.int .i64 ((n-1:Nat):Int)) (Ve pa) (X3 rfl) ⟨rfl,trivial⟩),hR 6 rfl rfl (V9 (k:=.i64) (l:=1) (sz:=(Xr false).sz) (off:=0) (n:=L.length) (i:=((n-1:Nat):Int)) (m:=(n-1)) (o':=(n-1)*(Xr false).sz+0) Tryz.underlying104 X65 rfl rfl (by omega) (by simp) (X3 rfl) trivial),hR 7 rfl rfl (X1q (l:=1) (off:=(n-1)*(Xr false).sz+0) (i:=n-1) (j:=0) (T:=65) (sz:=(Xr false).sz) (n:=L.length) (el:=W6 (Xr false) L) (ds:=[dI (L.getD (n-1) Yz).Xg,dS (L.getD (n-1) Yz).Y4,.d (dsl false false (kE false) (L.getD (n-1) Yz).X9),.d (dsl false false (Xd false) (L.getD (n-1) Yz).Xl)]) H3 rfl (by omega) (by decide) rfl (X3 rfl) trivial),hR 8 rfl rfl (rCa (X4k false (L.getD (n-1) Yz) ‹_›) Tryz.func44 [] [(.tmp 18,.tv (.agg [dI (L.getD (n-1) Yz).Xg,dS (L.getD (n-1) Yz).Y4,.d (dsl false false (kE false) (L.getD (n-1) Yz).X9),.d (dsl false false (Xd false) (L.getD (n-1) Yz).Xl)]))] 0 0),hR 9 rfl rfl (rCa (X4l (Ws (L.getD (n-1) Yz)) ‹_› ‹_›) Tryz.func48 [] [(.tmp 19,.tv (.agg [dI (Z6i L n).Xg,dS (Z6i L n).Y4,dI (Z6i L n).Yg,dS (Z6i L n).W2]))] 0 0)] ?_
 refine T.ret ?_
 exact eRt 4 (.one (dS (Ii (Z6i L n)))) [0,1] (by have e1:((atB d L n):List UInt8)=(Ii (Ws (L.getD (n-1) Yz))):=(by (unfold atB;rw [if_neg (by omega)]));have hE:=congrArg (fun (q1:List UInt8)=>(dv (Yh q1):AV)) e1;exact hE) (ix (ix trivial))
theorem X3m (h:Int) (d:List UInt8) (L:List Xq) (hh:0≤h∧h≤1099511627776) (hl:L.length≤100) (hw:X04 L):Holds Tryz.prog 38 ⟨[pv 0 0],[.box 106 [dB true,dI h,dS d,.own 1 (Xr false).sz 0 L.length],Xe 65 (Xr false) L],dv (Yh (atB d L L.length)),[.live (.box 106 [dB true,dI h,dS d,.own 1 (Xr false).sz 0 L.length]),.live (Xe 65 (Xr false) L)]⟩:=by
 refine Holds.of Tryz.func38 rfl (N:=10) Tryz.ntmps38 rfl fun w0 B0 S0 U0=>?_
 show T _ (Y2 10 2 w0 S0 U0 B0) ⟨[pv 0 0],[.live (.box 106 [dB true,dI h,dS d,.own 1 (Xr false).sz 0 L.length]),.live (Xe 65 (Xr false) L)]⟩ _ _
 refine sR [] ?_
 refine sR [hR 6 rfl rfl (rCa (ref11_at h d L L.length ‹_› ‹_› ‹_› (by omega)) Tryz.func86 [0,1] [(.tmp 3,pv 0 0),(.tmp 8,vI ((L.length:Nat):Int))] 2 2)] ?_
 refine T.ret ?_
 exact eRt 2 (.one (dS (atB d L L.length))) [0,1] rfl (ix (ix trivial))
theorem elem_104:Elem Tryz.prog 104 65 4 72:=⟨Tryz.underlying104,_,_,X65,rfl,rfl,rfl,rfl,by decide⟩
section
variable (h:Int) (d:List UInt8) (L:List Xq) (b:Xq)
abbrev Z6j:List SV:=[dI b.Xg,dS b.Y4,.d (dsl false false (kE false) b.X9),.d (dsl false false (Xd false) b.Xl)]
abbrev Z6k:HS:=.live (.box 106 [dB true,dI h,dS d,.own 1 (Xr false).sz 0 L.length])
abbrev Z6l:HObj:=Xe 65 (Xr false) L
abbrev Z6m:List AV:=[pv 0 0,.tv (.agg (Z6j b)),aa,pv 2 0,vI (Vf b),vI (Vf b),aa,aa,aa,aa,vB (!true),aa,aa,aa,vB (decide ((Vf b)≠0))]
abbrev Z6n:List HS:=[(Z6k h d L),.live ((Z6l L)),.live (.box 65 (Z6j b))]
abbrev Z6o:List HS:=[.live (.box 106 [dB true,dI h,dS d,.own 3 (Xr false).sz 0 L.length]),.dead,.live (.box 65 (Z6j b)),.live ((Z6l L))]
abbrev Z6p:List AV:=[pv 0 0,.tv (.agg (Z6j b)),aa,pv 2 0,vI 100,vI (Vf b),aa,aa,aa,aa,vB (!true),aa,aa,aa,vB (decide ((Vf b)≠0)),aa,aa,aa,aa,aa,aa,vB (decide (b.Xg≠((h+((L.length:Nat):Int))+1)))]
abbrev Z6q:List AV:=[pv 0 0,.tv (.agg (Z6j b)),aa,pv 2 0,vI 101,vI (Vf b),aa,aa,aa,aa,vB (!true),aa,aa,aa,vB (decide ((Vf b)≠0)),aa,aa,aa,aa,aa,aa,vB (decide (b.Xg≠((h+((L.length:Nat):Int))+1))),aa,aa,aa,aa,vB (decide (b.Y4≠(atB d L L.length)))]
end
theorem Xc1 (h:Int) (d:List UInt8) (L:List Xq) (b:Xq) (hh:0≤h∧h≤1099511627776) (hl:L.length≤100) (hw:X04 L) (hf:Hm b):Holds Tryz.prog 40 ⟨[pv 0 0,.tv (.agg [dI b.Xg,dS b.Y4,.d (dsl false false (kE false) b.X9),.d (dsl false false (Xd false) b.Xl)])],[.box 106 [dB true,dI h,dS d,.own 1 (Xr false).sz 0 L.length],Xe 65 (Xr false) L],vI (X39 h d L b),[.live (.box 106 [dB true,dI h,dS d,.own 2 (Xr false).sz 0 (H9 h d L b).length]),.dead,.live (Xe 65 (Xr false) (H9 h d L b))]⟩:=by
 refine Holds.of Tryz.func40 rfl (N:=38) Tryz.ntmps40 rfl fun w0 B0 S0 U0=>?_
 show T _ (Y2 38 2 w0 S0 U0 B0) ⟨[pv 0 0,.tv (.agg (Z6j b))],[(Z6k h d L),.live ((Z6l L))]⟩ _ _
 have hf1:=hf.1.1
 have hf2:=hf.2.1
 have hf3:=hf.2.2
 refine sR [] ?_
 refine T.seq ?_
 refine sR [] ?_
 refine cF (b:=(!true)) rfl ?_
 refine T.skip (nT ?_)
 refine sR [hR 1 rfl rfl (rCa (X6w false b (by omega) (by omega)) Tryz.func92 [] [(.tmp 11,.tv (.agg (Z6j b)))] 0 0)] ?_
 refine T.seq ?_
 refine sR [] ?_
 by_cases hq1:(Vf b)≠0
 ·refine cT (dT hq1) ?_
  refine sR [] ?_
  refine T.ret (rT ?_)
  refine eN ⟨(Z6m b),(Z6n h d L b)⟩ ?_
  refine Xc (s':=⟨(Z6m b),(Z6o h d L b)⟩) (fun _ _ hG=>Gs.move (s:=⟨(Z6m b),(Z6n h d L b)⟩) 1 3 (o:=(Z6l L)) rfl rfl rfl ⟨.inl rfl,(kk2 p3w)⟩ ⟨(.inr pZ16),⟨(.inl ⟨rfl,rfl⟩),⟨(.inr p1l),⟨(.inr (.inl ⟨rfl,rfl⟩)),trivial⟩⟩⟩⟩ hG) ?_
  exact eRt 4 (.one (dI (Vf b))) [0,1,3] (cI (by (have hx:=X99 (h:=h) (d:=d) (L:=L) (b:=b) ‹_› ;exact hx.1))) ⟨⟨rfl,(by have e1:(L.length:Nat)=(H9 h d L b).length:=(by (have hx:=X99 (h:=h) (d:=d) (L:=L) (b:=b) ‹_› ;(rw [hx.2];done)));have hE:=congrArg (fun (q1:Nat)=>(.live (.box 106 [dB true,dI h,dS d,.own 3 (Xr false).sz 0 q1]):HS)) e1;exact Eq.trans pZ7 hE)⟩,⟨⟨rfl,(by have e1:(L:List Xq)=(H9 h d L b):=(by (have hx:=X99 (h:=h) (d:=d) (L:=L) (b:=b) ‹_› ;exact hx.2.symm));have hE:=congrArg (fun (q1:List Xq)=>(.live (Xe 65 (Xr false) q1):HS)) e1;exact Eq.trans pZ7 hE)⟩,trivial⟩⟩
 have hca:=Xic (Classical.not_not.1 hq1)
 refine cF (dF hq1) ?_
 refine T.skip (nT (T.seq ?_))
 refine sD [[],[0],[],[2],[2,3],[0,1,2,3,4]] [hR 3 rfl rfl (rCa (H7 h d L ‹_› ‹_›) Tryz.func12 [0,1] [(.tmp 18,pv 0 0)] 2 2),hR 4 rfl rfl (Ye (u1:=.int .i64 (h+((L.length:Nat):Int))) (u2:=.int .i64 1) (v:=.int .i64 ((h+((L.length:Nat):Int))+1)) (Wa pa) (X3 rfl) ⟨rfl,trivial⟩)] ?_
 by_cases hq2:b.Xg≠((h+((L.length:Nat):Int))+1)
 ·refine cT (dT hq2) ?_
  refine sR [] ?_
  refine T.ret (rT ?_)
  refine eN ⟨(Z6p h L b),(Z6n h d L b)⟩ ?_
  refine Xc (s':=⟨(Z6p h L b),(Z6o h d L b)⟩) (fun _ _ hG=>Gs.move (s:=⟨(Z6p h L b),(Z6n h d L b)⟩) 1 3 (o:=(Z6l L)) rfl rfl rfl p3q ⟨(.inr pZ16),⟨(.inl ⟨rfl,rfl⟩),⟨(.inr p1l),⟨(.inr (.inl ⟨rfl,rfl⟩)),trivial⟩⟩⟩⟩ hG) ?_
  exact eRt 4 (.one (dI 100)) [0,1,3] (cI (by (have hx:=X98 (h:=h) (d:=d) (L:=L) (b:=b) ‹_› ‹_› ;exact hx.1))) ⟨⟨rfl,(by have e1:(L.length:Nat)=(H9 h d L b).length:=(by (have hx:=X98 (h:=h) (d:=d) (L:=L) (b:=b) ‹_› ‹_› ;(rw [hx.2];done)));have hE:=congrArg (fun (q1:Nat)=>(.live (.box 106 [dB true,dI h,dS d,.own 3 (Xr false).sz 0 q1]):HS)) e1;exact Eq.trans pZ7 hE)⟩,⟨⟨rfl,(by have e1:(L:List Xq)=(H9 h d L b):=(by (have hx:=X98 (h:=h) (d:=d) (L:=L) (b:=b) ‹_› ‹_› ;exact hx.2.symm));have hE:=congrArg (fun (q1:List Xq)=>(.live (Xe 65 (Xr false) q1):HS)) e1;exact Eq.trans pZ7 hE)⟩,trivial⟩⟩
 refine cF (dF hq2) ?_
 refine T.skip (nT (T.seq ?_))
 refine sD [[],[0],[],[2],[0,1,2,3]] [hR 3 rfl rfl (rCa (X3m h d L ‹_› ‹_› ‹_›) Tryz.func38 [0,1] [(.tmp 24,pv 0 0)] 2 2)] ?_
 by_cases hq3:b.Y4≠(atB d L L.length)
 ·refine cT (dT hq3) ?_
  refine sR [] ?_
  refine T.ret (rT ?_)
  refine eN ⟨(Z6q h d L b),(Z6n h d L b)⟩ ?_
  refine Xc (s':=⟨(Z6q h d L b),(Z6o h d L b)⟩) (fun _ _ hG=>Gs.move (s:=⟨(Z6q h d L b),(Z6n h d L b)⟩) 1 3 (o:=(Z6l L)) rfl rfl rfl ⟨.inl rfl,(kk2 p2w)⟩ ⟨(.inr pZ16),⟨(.inl ⟨rfl,rfl⟩),⟨(.inr p1l),⟨(.inr (.inl ⟨rfl,rfl⟩)),trivial⟩⟩⟩⟩ hG) ?_
  exact eRt 4 (.one (dI 101)) [0,1,3] (cI (by (have hx:=X97 (h:=h) (d:=d) (L:=L) (b:=b) ‹_› ‹_› ‹_› ;exact hx.1))) ⟨⟨rfl,(by have e1:(L.length:Nat)=(H9 h d L b).length:=(by (have hx:=X97 (h:=h) (d:=d) (L:=L) (b:=b) ‹_› ‹_› ‹_› ;(rw [hx.2];done)));have hE:=congrArg (fun (q1:Nat)=>(.live (.box 106 [dB true,dI h,dS d,.own 3 (Xr false).sz 0 q1]):HS)) e1;exact Eq.trans pZ7 hE)⟩,⟨⟨rfl,(by have e1:(L:List Xq)=(H9 h d L b):=(by (have hx:=X97 (h:=h) (d:=d) (L:=L) (b:=b) ‹_› ‹_› ‹_› ;exact hx.2.symm));have hE:=congrArg (fun (q1:List Xq)=>(.live (Xe 65 (Xr false) q1):HS)) e1;exact Eq.trans pZ7 hE)⟩,trivial⟩⟩
 refine cF (dF hq3) ?_
 refine T.skip (nT ?_)
 refine sD [[],[],[1],[1,2],[1,2,3],[],[5],[5,6],[1,2,3,4,5,6,7],[0,1,2,3,4,5,6,7,8],[0,1,2,3,4,5,6,7,8,9],[0,1,2,3,4,5,6,7,8,9,10]] [hR 6 rfl rfl (rCa (X8t b ‹_›) Tryz.func58 [] [(.tmp 32,.tv (.agg (Z6j b)))] 0 0),hR 7 rfl rfl (Yd 3 65 (Xr false) (X21 false) [b] [⟨0,.tmp 33,.agg (Z6j b),0⟩] (cs:=[dI b.Xg,dS b.Y4,.d (dsl false false (kE false) b.X9),.d (dsl false false (Xd false) b.Xl)]) Tryz.underlying104 X65 rfl zero_65 rfl rfl rfl pd (Yp rfl rfl pd W4) pZ7 (V1 pZ7) (X3 rfl) trivial),hR 8 rfl rfl (Yy 1 4 65 72 (Xr false) (X21 false) L [b] (L++[b]) L.length (sy:=(.own 3 (Xr false).sz 0 [b].length)) (rhs:=[(3,.live (Xe 65 (Xr false) [b]))]) elem_104 (by omega) (Wu 3 65 (Xr false) [b]) Jn (by (simp [maxLen,-List.getD_eq_getElem?_getD]<;>omega)) (by (simp [maxLen,-List.getD_eq_getElem?_getD]<;>omega)) (X3 rfl) trivial)] ?_
 refine sR [] ?_
 refine T.ret ?_
 exact eRt 4 (.one (dI 0)) [0,1,4] (cI (by (have hx:=X7s (h:=h) (d:=d) (L:=L) (b:=b) ‹_› ‹_› ‹_› ;exact hx.1))) ⟨⟨rfl,(by have e1:((L++[b]).length:Nat)=(H9 h d L b).length:=(by (have hx:=X7s (h:=h) (d:=d) (L:=L) (b:=b) ‹_› ‹_› ‹_› ;(rw [hx.2];done)));have hE:=congrArg (fun (q1:Nat)=>(.live (.box 106 [dB true,dI h,dS d,.own 4 (Xr false).sz 0 q1]):HS)) e1;exact Eq.trans pZ7 hE)⟩,⟨⟨rfl,(by have e1:(L++[b]:List Xq)=(H9 h d L b):=(by (have hx:=X7s (h:=h) (d:=d) (L:=L) (b:=b) ‹_› ‹_› ‹_› ;exact hx.2.symm));have hE:=congrArg (fun (q1:List Xq)=>(.live (Xe 65 (Xr false) q1):HS)) e1;exact Eq.trans pZ7 hE)⟩,trivial⟩⟩
end Go.Proofs.YtnaopgohccacmaaGreat.Q
