import Derived.Test.YtnaopgohccacmaaGreatC19n14
namespace Go.Proofs.YtnaopgohccacmaaGreat.Q
open Go Go.RowKit
set_option linter.unusedVariables false
set_option linter.unusedSimpArgs false
set_option maxRecDepth 100000
set_option maxHeartbeats 4000000
section
variable (h:Int) (d:List UInt8) (L:List Xq) (x:Int)
abbrev Z6r:HS:=.live (.box 106 [dB true,dI h,dS d,.own 1 (Xr false).sz 0 L.length])
abbrev Z6s:List AV:=[pv 0 0,vI x,aa,aa,pv 2 0,vI 4,aa,aa,aa,aa,aa,aa,aa,aa,aa,aa,aa,vB true]
abbrev Z6t:List HS:=[(Z6r h d L),.live (Xe 65 (Xr false) L),.live (.box 65 [dI 0,dS [],.d (.val (.slice none 0 0)),.d (.val (.slice none 0 0))])]
abbrev Z6u:SV:=.d (dsl false false (kE false) ([]:List aE))
abbrev Z6v:SV:=.d (dsl false false (Xd false) ([]:List Y6))
abbrev Z6w:List SV:=[dI 0,dS [],Z6u,Z6v]
abbrev Z6x:List AV:=[pv 0 0,vI x,aa,aa,pv 2 0,vI 4,aa,aa,aa,aa,aa,aa,aa,aa,aa,aa,aa,vB (decide (x>(h+((L.length:Nat):Int))))]
abbrev Z6y:SV:=dI (L.getD ((x-h)-1).toNat Yz).Xg
abbrev Z6z:SV:=.d (dsl false false (kE false) (L.getD ((x-h)-1).toNat Yz).X9)
abbrev Z70:SV:=.d (dsl false false (Xd false) (L.getD ((x-h)-1).toNat Yz).Xl)
abbrev Z71:TV:=.agg [(Z6y h L x),dS (L.getD ((x-h)-1).toNat Yz).Y4,(Z6z h L x),(Z70 h L x)]
end
theorem X6v (h:Int) (d:List UInt8) (L:List Xq) (x:Int) (hh:0≤h∧h≤1099511627776) (hl:L.length≤100) (hw:X04 L):Holds Tryz.prog 20 ⟨[pv 0 0,vI x],[.box 106 [dB true,dI h,dS d,.own 1 (Xr false).sz 0 L.length],Xe 65 (Xr false) L],.tup [.agg [dI (rblk h L x).Xg,dS (rblk h L x).Y4,.d (dsl false false (kE false) (rblk h L x).X9),.d (dsl false false (Xd false) (rblk h L x).Xl)],.one (dI (X10 h L.length x))],[.live (.box 106 [dB true,dI h,dS d,.own 1 (Xr false).sz 0 L.length]),.live (Xe 65 (Xr false) L)]⟩:=by
 refine Holds.of Tryz.func20 rfl (N:=33) Tryz.ntmps20 rfl fun w0 B0 S0 U0=>?_
 show T _ (Y2 33 2 w0 S0 U0 B0) ⟨[pv 0 0,vI x],[(Z6r h d L),.live (Xe 65 (Xr false) L)]⟩ _ _
 refine sR [] ?_
 refine T.seq ?_
 by_cases hq1:x≤h
 ·refine sR (Xm (hN · false (dT hq1)) [7,8,9,10] (hP 11 (dT hq1)::[])) ?_
  refine cT (b:=true) rfl ?_
  refine sR [] ?_
  refine T.ret (rT ?_)
  refine eN ⟨(Z6s x),(Z6t h d L)⟩ ?_
  refine Xc (s':=⟨(Z6s x),[(Z6r h d L),.live (Xe 65 (Xr false) L),.live (.box 65 Z6w)]⟩) (fun _ _ hG=>Ys (s:=⟨(Z6s x),(Z6t h d L)⟩) p5i p35 hG) ?_
  exact eX [.c 4 2 65 0 65 [dI 0,dS [],Z6u,Z6v] (.agg Z6w),.t 5 (.one (dI 4))] ⟨⟨rfl,rfl,by kernel_rfl,by kernel_rfl,.inl ⟨4,H3,rfl,Nat.le_of_ble_eq_true rfl⟩⟩,⟨⟨rfl,by kernel_rfl⟩,trivial⟩⟩ [0,1] p1o (ix (ix trivial))
 refine sR [hY 7 (dF hq1),hY 8 (dF hq1),hS 9 (oY rfl rfl rfl rfl (X3 rfl) (dF hq1) (rCa (H7 h d L ‹_› ‹_›) Tryz.func12 [0,1] [(.tmp 14,pv 0 0)] 2 2)),hY 10 (dF hq1),hP 11 (dF hq1)] ?_
 by_cases hq2:x>(h+((L.length:Nat):Int))
 ·refine cT (dT hq2) ?_
  refine sR [] ?_
  refine T.ret (rT ?_)
  refine eN ⟨(Z6x h L x),(Z6t h d L)⟩ ?_
  refine Xc (s':=⟨(Z6x h L x),[(Z6r h d L),.live (Xe 65 (Xr false) L),.live (.box 65 Z6w)]⟩) (fun _ _ hG=>Ys (s:=⟨(Z6x h L x),(Z6t h d L)⟩) p5i p35 hG) ?_
  exact eX [.c 4 2 65 0 65 [dI 0,dS [],Z6u,Z6v] (.agg Z6w),.t 5 (.one (dI 4))] ⟨⟨rfl,rfl,by kernel_rfl,by kernel_rfl,.inl ⟨4,H3,rfl,Nat.le_of_ble_eq_true rfl⟩⟩,⟨⟨rfl,by kernel_rfl⟩,trivial⟩⟩ [0,1] p1o (ix (ix trivial))
 refine cF (dF hq2) ?_
 refine T.skip (nT ?_)
 refine sD [[],[0],[0,1],[0,1,2],[],[],[5],[5,6],[5,6,7],[4,5,6,7,8],[4,5,6,7,8,9],[0,1,2,3,4,5,6,7,8,9,10],[0,1,2,3,4,5,6,7,8,9,10,11],[0,1,2,3,4,5,6,7,8,9,10,11,12],[0,1,2,3,4,5,6,7,8,9,10,11,12,13],[0,1,2,3,4,5,6,7,8,9,10,11,12,13,14]] [hR 9 rfl rfl (Ye (u1:=.int .i64 x) (u2:=.int .i64 h) (v:=.int .i64 (x-h)) (Ve pa) (X3 rfl) trivial),hR 10 rfl rfl (Ye (u1:=.int .i64 (x-h)) (u2:=.int .i64 1) (v:=.int .i64 ((x-h)-1)) (Ve pa) (X3 rfl) ⟨rfl,trivial⟩),hR 11 rfl rfl (V9 (k:=.i64) (l:=1) (sz:=(Xr false).sz) (off:=0) (n:=L.length) (i:=((x-h)-1)) (m:=((x-h)-1).toNat) (o':=((x-h)-1).toNat*(Xr false).sz+0) Tryz.underlying104 X65 rfl (by omega) (by omega) (by simp) (X3 rfl) trivial),hR 12 rfl rfl (X1q (l:=1) (off:=((x-h)-1).toNat*(Xr false).sz+0) (i:=((x-h)-1).toNat) (j:=0) (T:=65) (sz:=(Xr false).sz) (n:=L.length) (el:=W6 (Xr false) L) (ds:=[(Z6y h L x),dS (L.getD ((x-h)-1).toNat Yz).Y4,(Z6z h L x),(Z70 h L x)]) H3 rfl (by omega) (by decide) rfl (X3 rfl) trivial),hR 13 rfl rfl (rCa (X8t (L.getD ((x-h)-1).toNat Yz) (by exact X68 ‹_› _)) Tryz.func58 [] [(.tmp 31,.tv ((Z71 h L x)))] 0 0)] ?_
 refine T.ret ?_
 exact eX [.c 4 2 65 0 65 [(Z6y h L x),dS (L.getD ((x-h)-1).toNat Yz).Y4,(Z6z h L x),(Z70 h L x)] ((Z71 h L x)),.t 5 (.one (dI 0))] ⟨⟨rfl,rfl,by kernel_rfl,by kernel_rfl,.inl ⟨4,H3,rfl,Nat.le_of_ble_eq_true rfl⟩⟩,⟨⟨rfl,by kernel_rfl⟩,trivial⟩⟩ [0,1] (by have e1:((rblk h L x).Xg:Int)=(L.getD ((x-h)-1).toNat Yz).Xg:=p2r;have e2:((rblk h L x).Y4:List UInt8)=(L.getD ((x-h)-1).toNat Yz).Y4:=p2r;have e3:((rblk h L x).X9:List aE)=(L.getD ((x-h)-1).toNat Yz).X9:=p2r;have e4:((rblk h L x).Xl:List Y6)=(L.getD ((x-h)-1).toNat Yz).Xl:=p2r;have e5:((X10 h L.length x):Int)=0:=(by (have hi:inL h L.length x:=⟨by omega,by omega⟩;(rw [X10,if_pos hi])));have hE:=congr pt e5;exact hE) (ix (ix trivial))
theorem iat_242:Tryz.prog.info? 242=some Tryz.t242:=by kernel_rfl
theorem Jr:Wide Tryz.prog 242 (some 4):=⟨_,_,Tryz.underlying242,.inl ⟨_,rfl⟩,iat_242,rfl⟩
abbrev Z72:TV:=.one (dB true)
abbrev Z73:TV:=.agg [dI 11,dI 0,dI 1,dI 7]
theorem X70 (k:Int):Holds Tryz.prog 195 ⟨[vI k],[],.tup [.agg [dI (Yk k).Vx,dI (Yk k).Wt,dI (Yk k).V7,dI (Yk k).Vp],.one (dB (decide (okK k)))],[]⟩:=by
 refine Holds.of Tryz.func195 rfl (N:=54) Tryz.ntmps195 rfl fun w0 B0 S0 U0=>?_
 show T _ (Y2 54 0 w0 S0 U0 B0) ⟨[vI k],[]⟩ _ _
 refine sR [] ?_
 refine sR [] ?_
 refine T.seq ?_
 refine sR [] ?_
 refine T.block ?_
 refine T.seq ?_
 refine T.block ?_
 refine T.seq ?_
 refine T.block ?_
 refine T.seq ?_
 refine T.block ?_
 refine T.seq ?_
 refine T.block ?_
 refine T.seq ?_
 refine T.block ?_
 refine T.seq ?_
 refine T.block ?_
 refine T.seq ?_
 refine T.block ?_
 refine T.seq ?_
 refine T.block ?_
 refine T.seq ?_
 refine T.block ?_
 refine T.seq ?_
 refine T.block ?_
 refine T.seq ?_
 refine T.block ?_
 refine T.seq (T.seq ?_)
 refine sR [] ?_
 by_cases hq1:k=1
 ·refine cT (dT hq1) ?_
  refine T.exit ?_
  refine xT ?_
  refine xT ?_
  refine xH ?_
  refine nT ?_
  refine sR [] ?_
  refine T.exit ?_
  refine xM rfl ?_
  refine xT ?_
  refine xM rfl ?_
  refine xT ?_
  refine xM rfl ?_
  refine xT ?_
  refine xM rfl ?_
  refine xT ?_
  refine xM rfl ?_
  refine xT ?_
  refine xM rfl ?_
  refine xT ?_
  refine xM rfl ?_
  refine xT ?_
  refine xM rfl ?_
  refine xT ?_
  refine xM rfl ?_
  refine xT ?_
  refine xM rfl ?_
  refine xT ?_
  refine xH ?_
  refine nT ?_
  refine sR [] ?_
  refine T.ret ?_
  exact eX [.c 2 0 242 0 242 [dI 20,dI 0,dI 1,dI 7] (.agg [dI 20,dI 0,dI 1,dI 7]),.t 3 (Z72)] ⟨⟨rfl,rfl,by kernel_rfl,by kernel_rfl,.inl ⟨4,Jr,rfl,Nat.le_of_ble_eq_true rfl⟩⟩,⟨⟨rfl,by kernel_rfl⟩,trivial⟩⟩ [] (gc2 (show (Yk k)=⟨20,0,1,7⟩ from El) (show ((decide (okK k)):Bool)=true from El) (fun qq0 (q5:Bool)=>(.tup [.agg [dI (qq0.Vx),dI (qq0.Wt),dI (qq0.V7),dI (qq0.Vp)],.one (dB q5)]:AV))) trivial
 refine cF (dF hq1) ?_
 refine T.skip (nT (T.seq ?_))
 refine sR [] ?_
 by_cases hq2:k=2
 ·refine cT (dT hq2) ?_
  refine T.exit ?_
  refine xT ?_
  refine xT ?_
  refine xM rfl ?_
  refine xT ?_
  refine xH ?_
  refine nT ?_
  refine sR [hR 2 rfl rfl (Ye (u1:=.int .i64 0) (u2:=.int .i64 64) (v:=.int .i64 64) (X74 p4b) (X3 rfl) ⟨rfl,trivial⟩)] ?_
  refine xK [] ?_
  refine nB ?_
  refine nT ?_
  refine xK [hR 2 rfl rfl (Ye (u1:=.int .i64 64) (u2:=.int .i64 1) (v:=.int .i64 65) (X74 p4b) (X3 rfl) ⟨rfl,trivial⟩)] ?_
  refine nB ?_
  refine nT ?_
  refine sR [hR 2 rfl rfl (Ye (u1:=.int .i64 65) (u2:=.int .i64 10) (v:=.int .i64 75) (X74 p4b) (X3 rfl) ⟨rfl,trivial⟩)] ?_
  refine T.exit ?_
  refine xM rfl ?_
  refine xT ?_
  refine xM rfl ?_
  refine xT ?_
  refine xM rfl ?_
  refine xT ?_
  refine xM rfl ?_
  refine xT ?_
  refine xM rfl ?_
  refine xT ?_
  refine xM rfl ?_
  refine xT ?_
  refine xM rfl ?_
  refine xT ?_
  refine xH ?_
  refine nT ?_
  refine sR [] ?_
  refine T.ret ?_
  exact eX [.c 2 0 242 0 242 [dI 75,dI 0,dI 1,dI 4] (.agg [dI 75,dI 0,dI 1,dI 4]),.t 3 (Z72)] ⟨⟨rfl,rfl,by kernel_rfl,by kernel_rfl,.inl ⟨4,Jr,rfl,Nat.le_of_ble_eq_true rfl⟩⟩,⟨⟨rfl,by kernel_rfl⟩,trivial⟩⟩ [] (gc2 (show (Yk k)=⟨75,0,1,4⟩ from El) (show ((decide (okK k)):Bool)=true from El) (fun qq0 (q5:Bool)=>(.tup [.agg [dI (qq0.Vx),dI (qq0.Wt),dI (qq0.V7),dI (qq0.Vp)],.one (dB q5)]:AV))) trivial
 refine cF (dF hq2) ?_
 refine T.skip (nT (T.seq (T.seq ?_)))
 refine sR [] ?_
 by_cases hq3:k=3
 ·refine cT (dT hq3) ?_
  refine T.skip (nT ?_)
  refine cT (dT hq3) ?_
  refine T.exit ?_
  refine xT ?_
  refine xT ?_
  refine xM rfl ?_
  refine xT ?_
  refine xM rfl ?_
  refine xT ?_
  refine xH ?_
  refine nT ?_
  refine xK [hR 2 rfl rfl (Ye (u1:=.int .i64 0) (u2:=.int .i64 1) (v:=.int .i64 1) (X74 p4b) (X3 rfl) ⟨rfl,trivial⟩)] ?_
  refine nB ?_
  refine nT ?_
  refine sR [hR 2 rfl rfl (Ye (u1:=.int .i64 1) (u2:=.int .i64 10) (v:=.int .i64 11) (X74 p4b) (X3 rfl) ⟨rfl,trivial⟩)] ?_
  refine T.exit ?_
  refine xM rfl ?_
  refine xT ?_
  refine xM rfl ?_
  refine xT ?_
  refine xM rfl ?_
  refine xT ?_
  refine xM rfl ?_
  refine xT ?_
  refine xM rfl ?_
  refine xT ?_
  refine xM rfl ?_
  refine xT ?_
  refine xM rfl ?_
  refine xT ?_
  refine xH ?_
  refine nT ?_
  refine sR [] ?_
  refine T.ret ?_
  exact eX [.c 2 0 242 0 242 [dI 11,dI 0,dI 1,dI 7] (Z73),.t 3 (Z72)] ⟨⟨rfl,rfl,by kernel_rfl,by kernel_rfl,.inl ⟨4,Jr,rfl,Nat.le_of_ble_eq_true rfl⟩⟩,⟨⟨rfl,by kernel_rfl⟩,trivial⟩⟩ [] p2v trivial
 refine cF (dF hq3) ?_
 refine xK [] ?_
 refine nT ?_
 by_cases hq4:k=4
 ·refine cT (dT hq4) ?_
  refine T.exit ?_
  refine xT ?_
  refine xT ?_
  refine xM rfl ?_
  refine xT ?_
  refine xM rfl ?_
  refine xT ?_
  refine xH ?_
  refine nT ?_
  refine xK [hR 2 rfl rfl (Ye (u1:=.int .i64 0) (u2:=.int .i64 1) (v:=.int .i64 1) (X74 p4b) (X3 rfl) ⟨rfl,trivial⟩)] ?_
  refine nB ?_
  refine nT ?_
  refine sR [hR 2 rfl rfl (Ye (u1:=.int .i64 1) (u2:=.int .i64 10) (v:=.int .i64 11) (X74 p4b) (X3 rfl) ⟨rfl,trivial⟩)] ?_
  refine T.exit ?_
  refine xM rfl ?_
  refine xT ?_
  refine xM rfl ?_
  refine xT ?_
  refine xM rfl ?_
  refine xT ?_
  refine xM rfl ?_
  refine xT ?_
  refine xM rfl ?_
  refine xT ?_
  refine xM rfl ?_
  refine xT ?_
  refine xM rfl ?_
  refine xT ?_
  refine xH ?_
  refine nT ?_
  refine sR [] ?_
  refine T.ret ?_
  exact eX [.c 2 0 242 0 242 [dI 11,dI 0,dI 1,dI 7] (Z73),.t 3 (Z72)] ⟨⟨rfl,rfl,by kernel_rfl,by kernel_rfl,.inl ⟨4,Jr,rfl,Nat.le_of_ble_eq_true rfl⟩⟩,⟨⟨rfl,by kernel_rfl⟩,trivial⟩⟩ [] p2v trivial
 refine cF (dF hq4) ?_
 refine T.skip (nT (T.seq ?_))
 refine sR [] ?_
 by_cases hq5:k=5
 ·refine cT (dT hq5) ?_
  refine T.exit ?_
  refine xT ?_
  refine xT ?_
  refine xM rfl ?_
  refine xT ?_
  refine xM rfl ?_
  refine xT ?_
  refine xM rfl ?_
  refine xT ?_
  refine xH ?_
  refine nT ?_
  refine sR [hR 2 rfl rfl (Ye (u1:=.int .i64 0) (u2:=.int .i64 10) (v:=.int .i64 10) (X74 p4b) (X3 rfl) ⟨rfl,trivial⟩)] ?_
  refine T.exit ?_
  refine xM rfl ?_
  refine xT ?_
  refine xM rfl ?_
  refine xT ?_
  refine xM rfl ?_
  refine xT ?_
  refine xM rfl ?_
  refine xT ?_
  refine xM rfl ?_
  refine xT ?_
  refine xM rfl ?_
  refine xT ?_
  refine xM rfl ?_
  refine xT ?_
  refine xH ?_
  refine nT ?_
  refine sR [] ?_
  refine T.ret ?_
  exact eX [.c 2 0 242 0 242 [dI 10,dI 0,dI 1,dI 7] (.agg [dI 10,dI 0,dI 1,dI 7]),.t 3 (Z72)] ⟨⟨rfl,rfl,by kernel_rfl,by kernel_rfl,.inl ⟨4,Jr,rfl,Nat.le_of_ble_eq_true rfl⟩⟩,⟨⟨rfl,by kernel_rfl⟩,trivial⟩⟩ [] (gc2 (show (Yk k)=⟨10,0,1,7⟩ from El) (show ((decide (okK k)):Bool)=true from El) (fun qq0 (q5:Bool)=>(.tup [.agg [dI (qq0.Vx),dI (qq0.Wt),dI (qq0.V7),dI (qq0.Vp)],.one (dB q5)]:AV))) trivial
 refine cF (dF hq5) ?_
 refine T.skip (nT (T.seq ?_))
 refine sR [] ?_
 by_cases hq6:k=6
 ·refine cT (dT hq6) ?_
  refine T.exit ?_
  refine xT ?_
  refine xT ?_
  refine xM rfl ?_
  refine xT ?_
  refine xM rfl ?_
  refine xT ?_
  refine xM rfl ?_
  refine xT ?_
  refine xM rfl ?_
  refine xT ?_
  refine xH ?_
  refine nT ?_
  refine sR [] ?_
  refine T.exit ?_
  refine xM rfl ?_
  refine xT ?_
  refine xM rfl ?_
  refine xT ?_
  refine xM rfl ?_
  refine xT ?_
  refine xM rfl ?_
  refine xT ?_
  refine xM rfl ?_
  refine xT ?_
  refine xM rfl ?_
  refine xT ?_
  refine xH ?_
  refine nT ?_
  refine sR [] ?_
  refine T.ret ?_
  exact eX [.c 2 0 242 0 242 [dI 323,dI 1,dI 0,dI 7] (.agg [dI 323,dI 1,dI 0,dI 7]),.t 3 (Z72)] ⟨⟨rfl,rfl,by kernel_rfl,by kernel_rfl,.inl ⟨4,Jr,rfl,Nat.le_of_ble_eq_true rfl⟩⟩,⟨⟨rfl,by kernel_rfl⟩,trivial⟩⟩ [] (gc2 (show (Yk k)=⟨323,1,0,7⟩ from El) (show ((decide (okK k)):Bool)=true from El) (fun qq0 (q5:Bool)=>(.tup [.agg [dI (qq0.Vx),dI (qq0.Wt),dI (qq0.V7),dI (qq0.Vp)],.one (dB q5)]:AV))) trivial
 refine cF (dF hq6) ?_
 refine T.skip (nT (T.seq ?_))
 refine sR [] ?_
 by_cases hq7:k=7
 ·refine cT (dT hq7) ?_
  refine T.exit ?_
  refine xT ?_
  refine xT ?_
  refine xM rfl ?_
  refine xT ?_
  refine xM rfl ?_
  refine xT ?_
  refine xM rfl ?_
  refine xT ?_
  refine xM rfl ?_
  refine xT ?_
  refine xM rfl ?_
  refine xT ?_
  refine xH ?_
  refine nT ?_
  refine sR [] ?_
  refine T.exit ?_
  refine xM rfl ?_
  refine xT ?_
  refine xM rfl ?_
  refine xT ?_
  refine xM rfl ?_
  refine xT ?_
  refine xM rfl ?_
  refine xT ?_
  refine xM rfl ?_
  refine xT ?_
  refine xH ?_
  refine nT ?_
  refine sR [] ?_
  refine T.ret ?_
  exact eX [.c 2 0 242 0 242 [dI 193,dI 1,dI 1,dI 7] (.agg [dI 193,dI 1,dI 1,dI 7]),.t 3 (Z72)] ⟨⟨rfl,rfl,by kernel_rfl,by kernel_rfl,.inl ⟨4,Jr,rfl,Nat.le_of_ble_eq_true rfl⟩⟩,⟨⟨rfl,by kernel_rfl⟩,trivial⟩⟩ [] (gc2 (show (Yk k)=⟨193,1,1,7⟩ from El) (show ((decide (okK k)):Bool)=true from El) (fun qq0 (q5:Bool)=>(.tup [.agg [dI (qq0.Vx),dI (qq0.Wt),dI (qq0.V7),dI (qq0.Vp)],.one (dB q5)]:AV))) trivial
 refine cF (dF hq7) ?_
 refine T.skip (nT (T.seq ?_))
 refine sR [] ?_
 by_cases hq8:k=8
 ·refine cT (dT hq8) ?_
  refine T.exit ?_
  refine xT ?_
  refine xT ?_
  refine xM rfl ?_
  refine xT ?_
  refine xM rfl ?_
  refine xT ?_
  refine xM rfl ?_
  refine xT ?_
  refine xM rfl ?_
  refine xT ?_
  refine xM rfl ?_
  refine xT ?_
  refine xM rfl ?_
  refine xT ?_
  refine xH ?_
  refine nT ?_
  refine sR [] ?_
  refine T.exit ?_
  refine xM rfl ?_
  refine xT ?_
  refine xM rfl ?_
  refine xT ?_
  refine xM rfl ?_
  refine xT ?_
  refine xM rfl ?_
  refine xT ?_
  refine xH ?_
  refine nT ?_
  refine sR [] ?_
  refine T.ret ?_
  exact eX [.c 2 0 242 0 242 [dI 37,dI 0,dI 1,dI 7] (.agg [dI 37,dI 0,dI 1,dI 7]),.t 3 (Z72)] ⟨⟨rfl,rfl,by kernel_rfl,by kernel_rfl,.inl ⟨4,Jr,rfl,Nat.le_of_ble_eq_true rfl⟩⟩,⟨⟨rfl,by kernel_rfl⟩,trivial⟩⟩ [] (gc2 (show (Yk k)=⟨37,0,1,7⟩ from El) (show ((decide (okK k)):Bool)=true from El) (fun qq0 (q5:Bool)=>(.tup [.agg [dI (qq0.Vx),dI (qq0.Wt),dI (qq0.V7),dI (qq0.Vp)],.one (dB q5)]:AV))) trivial
 refine cF (dF hq8) ?_
 refine T.skip (nT (T.seq ?_))
 refine sR [] ?_
 by_cases hq9:k=9
 ·refine cT (dT hq9) ?_
  refine T.exit ?_
  refine xT ?_
  refine xT ?_
  refine xM rfl ?_
  refine xT ?_
  refine xM rfl ?_
  refine xT ?_
  refine xM rfl ?_
  refine xT ?_
  refine xM rfl ?_
  refine xT ?_
  refine xM rfl ?_
  refine xT ?_
  refine xM rfl ?_
  refine xT ?_
  refine xM rfl ?_
  refine xT ?_
  refine xH ?_
  refine nT ?_
  refine sR [] ?_
  refine T.exit ?_
  refine xM rfl ?_
  refine xT ?_
  refine xM rfl ?_
  refine xT ?_
  refine xM rfl ?_
  refine xT ?_
  refine xH ?_
  refine nT ?_
  refine sR [] ?_
  refine T.ret ?_
  exact eX [.c 2 0 242 0 242 [dI 2,dI 0,dI 0,dI 7] (.agg [dI 2,dI 0,dI 0,dI 7]),.t 3 (Z72)] ⟨⟨rfl,rfl,by kernel_rfl,by kernel_rfl,.inl ⟨4,Jr,rfl,Nat.le_of_ble_eq_true rfl⟩⟩,⟨⟨rfl,by kernel_rfl⟩,trivial⟩⟩ [] (gc2 (show (Yk k)=⟨2,0,0,7⟩ from El) (show ((decide (okK k)):Bool)=true from El) (fun qq0 (q5:Bool)=>(.tup [.agg [dI (qq0.Vx),dI (qq0.Wt),dI (qq0.V7),dI (qq0.Vp)],.one (dB q5)]:AV))) trivial
 refine cF (dF hq9) ?_
 refine T.skip (nT (T.seq ?_))
 refine sR [] ?_
 by_cases hq10:k=10
 ·refine cT (dT hq10) ?_
  refine T.exit ?_
  refine xT ?_
  refine xT ?_
  refine xM rfl ?_
  refine xT ?_
  refine xM rfl ?_
  refine xT ?_
  refine xM rfl ?_
  refine xT ?_
  refine xM rfl ?_
  refine xT ?_
  refine xM rfl ?_
  refine xT ?_
  refine xM rfl ?_
  refine xT ?_
  refine xM rfl ?_
  refine xT ?_
  refine xM rfl ?_
  refine xT ?_
  refine xH ?_
  refine nT ?_
  refine sR [] ?_
  refine T.exit ?_
  refine xM rfl ?_
  refine xT ?_
  refine xM rfl ?_
  refine xT ?_
  refine xH ?_
  refine nT ?_
  refine sR [] ?_
  refine T.ret ?_
  exact eX [.c 2 0 242 0 242 [dI 256,dI 0,dI 1,dI 7] (.agg [dI 256,dI 0,dI 1,dI 7]),.t 3 (Z72)] ⟨⟨rfl,rfl,by kernel_rfl,by kernel_rfl,.inl ⟨4,Jr,rfl,Nat.le_of_ble_eq_true rfl⟩⟩,⟨⟨rfl,by kernel_rfl⟩,trivial⟩⟩ [] (gc2 (show (Yk k)=⟨256,0,1,7⟩ from El) (show ((decide (okK k)):Bool)=true from El) (fun qq0 (q5:Bool)=>(.tup [.agg [dI (qq0.Vx),dI (qq0.Wt),dI (qq0.V7),dI (qq0.Vp)],.one (dB q5)]:AV))) trivial
 refine cF (dF hq10) ?_
 refine T.skip (nT ?_)
 refine sR [] ?_
 by_cases hq11:k=11
 ·refine cT (dT hq11) ?_
  refine T.exit ?_
  refine xT ?_
  refine xM rfl ?_
  refine xT ?_
  refine xM rfl ?_
  refine xT ?_
  refine xM rfl ?_
  refine xT ?_
  refine xM rfl ?_
  refine xT ?_
  refine xM rfl ?_
  refine xT ?_
  refine xM rfl ?_
  refine xT ?_
  refine xM rfl ?_
  refine xT ?_
  refine xM rfl ?_
  refine xT ?_
  refine xM rfl ?_
  refine xT ?_
  refine xH ?_
  refine nT ?_
  refine sR [] ?_
  refine T.exit ?_
  refine xM rfl ?_
  refine xT ?_
  refine xH ?_
  refine nT ?_
  refine sR [] ?_
  refine T.ret ?_
  exact eX [.c 2 0 242 0 242 [dI 82,dI 0,dI 1,dI 7] (.agg [dI 82,dI 0,dI 1,dI 7]),.t 3 (Z72)] ⟨⟨rfl,rfl,by kernel_rfl,by kernel_rfl,.inl ⟨4,Jr,rfl,Nat.le_of_ble_eq_true rfl⟩⟩,⟨⟨rfl,by kernel_rfl⟩,trivial⟩⟩ [] (gc2 (show (Yk k)=⟨82,0,1,7⟩ from El) (show ((decide (okK k)):Bool)=true from El) (fun qq0 (q5:Bool)=>(.tup [.agg [dI (qq0.Vx),dI (qq0.Wt),dI (qq0.V7),dI (qq0.Vp)],.one (dB q5)]:AV))) trivial
 refine cF (dF hq11) ?_
 refine T.skip (nT ?_)
 refine T.exit ?_
 refine xM rfl ?_
 refine xT ?_
 refine xM rfl ?_
 refine xT ?_
 refine xM rfl ?_
 refine xT ?_
 refine xM rfl ?_
 refine xT ?_
 refine xM rfl ?_
 refine xT ?_
 refine xM rfl ?_
 refine xT ?_
 refine xM rfl ?_
 refine xT ?_
 refine xM rfl ?_
 refine xT ?_
 refine xM rfl ?_
 refine xT ?_
 refine xM rfl ?_
 refine xT ?_
 refine xH ?_
 refine nT (T.seq ?_)
 refine sR [] ?_
 refine T.ret (rT (rB (rT ?_)))
 exact eX [.c 2 0 242 0 242 [dI 0,dI 0,dI 1,dI 7] (.agg [dI 0,dI 0,dI 1,dI 7]),.t 3 (.one (dB false))] ⟨⟨rfl,rfl,by kernel_rfl,by kernel_rfl,.inl ⟨4,Jr,rfl,Nat.le_of_ble_eq_true rfl⟩⟩,⟨⟨rfl,by kernel_rfl⟩,trivial⟩⟩ [] (gc2 (show (Yk k)=⟨0,0,1,7⟩ from El) (by exact dF (by unfold okK;omega)) (fun qq0 (q5:Bool)=>(.tup [.agg [dI (qq0.Vx),dI (qq0.Wt),dI (qq0.V7),dI (qq0.Vp)],.one (dB q5)]:AV))) trivial
theorem Ut (s:J8) (f:Int) (n:Int) (lo:Int) (hi:Int):Holds Tryz.prog 200 ⟨[.tv (.agg [dI s.Vx,dI s.Wt,dI s.V7,dI s.Vp]),vI f,vI n,vI lo,vI hi],[],vB (decide (inM s f n lo hi)),[]⟩:=by
 refine Holds.of Tryz.func200 rfl (N:=24) Tryz.ntmps200 rfl fun w0 B0 S0 U0=>?_
 show T _ (Y2 24 0 w0 S0 U0 B0) ⟨[.tv (.agg [dI s.Vx,dI s.Wt,dI s.V7,dI s.Vp]),vI f,vI n,vI lo,vI hi],[]⟩ _ _
 refine sR [] ?_
 refine T.seq ?_
 refine sR [hR 3 rfl rfl (Ye (u1:=.int .i64 s.Vx) (u2:=.int .i64 f) (v:=.int .i64 (I0 s.Vx f)) (Xcy rfl) (X3 rfl) trivial)] ?_
 by_cases hq1:(I0 s.Vx f)=0
 ·refine cT (dT hq1) ?_
  refine xK [] ?_
  refine nT ?_
  by_cases hq2:0≤n
  ·refine sR (Xm (hY · (dT hq2)) [4,5,6] (hP 7 (dT hq2)::[])) ?_
   refine T.ret ?_
   exact eRt 10 (.one (dB (decide (n≤0)))) [] (by have e1:((decide (inM s f n lo hi)):Bool)=(decide (n≤0)):=(by (simp [inM, *];done));have hE:=cB e1;exact hE) trivial
  refine sR (Xm (hN · true (dF hq2)) [4,5,6] (hP 7 (dF hq2)::[])) ?_
  refine T.ret ?_
  exact eRt 10 (.one (dB false)) [] p4a trivial
 refine cF (dF hq1) ?_
 refine T.skip (nT ?_)
 by_cases hq3:lo≤n
 ·refine sR (Xm (hY · (dT hq3)) [4,5,6] (hP 7 (dT hq3)::[])) ?_
  refine T.ret ?_
  exact eRt 10 (.one (dB (decide (n≤hi)))) [] (by have e1:((decide (inM s f n lo hi)):Bool)=(decide (n≤hi)):=(by (simp [inM, *];done));have hE:=cB e1;exact hE) trivial
 refine sR (Xm (hN · true (dF hq3)) [4,5,6] (hP 7 (dF hq3)::[])) ?_
 refine T.ret ?_
 exact eRt 10 (.one (dB false)) [] p4a trivial
theorem Xgh (tc:Bool) (c:aC):Holds Tryz.prog 202 ⟨[.tv (.agg [dI c.I1.X4,.d (dsl tc false kU8 c.I1.Xf),.d (dsl tc false (kE tc) c.Xv)])],[],vB (decide (((c.Xv.length:Nat):Int)>7)),[]⟩:=by
 refine Holds.of Tryz.func202 rfl (N:=7) Tryz.ntmps202 rfl fun w0 B0 S0 U0=>?_
 show T _ (Y2 7 0 w0 S0 U0 B0) ⟨[.tv (.agg [dI c.I1.X4,.d (dsl tc false kU8 c.I1.Xf),.d (dsl tc false (kE tc) c.Xv)])],[]⟩ _ _
 refine sR [] ?_
 refine sR [] ?_
 refine T.ret ?_
 exact eRt 2 (.one (dB (decide (((c.Xv.length:Nat):Int)>7)))) [] rfl trivial
theorem Fr:Tryz.prog.info? 86=some Tryz.t86:=by kernel_rfl
abbrev Z74:AV:=dv (.func (.func 202) #[] #[])
abbrev Z75 (l:List aC):AV:=vI ((l.length:Nat):Int)
theorem idx_Cert (tl:Bool) (nl:Bool) (sl_:Bool) (l:List aC) (hl:l.length≤9223372036854775807):Holds Tryz.prog 203 ⟨[slV tl nl (kC sl_) l,dv (.func (.func 202) #[] #[])],[],vI (idxV l),[]⟩:=by
 refine Holds.of Tryz.func203 rfl (N:=19) Tryz.ntmps203 rfl fun w0 B0 S0 U0=>?_
 show T _ (Y2 19 0 w0 S0 U0 B0) ⟨[slV tl nl (kC sl_) l,Z74],[]⟩ _ _
 refine sR [] ?_
 refine T.seq ?_
 refine sR [] ?_
 refine T.block ?_
 refine T.loop (ι:=Nat) (fun (k:Nat)=>⟨[slV tl nl (kC sl_) l,Z74,aa,aa,vI 0,aa,aa,(Z75 l),vI ((k:Nat):Int)],[]⟩) (fun (k:Nat)=>(k≤l.length)∧(∀ j,j<k→(l.getD j zC).Xv.length≤7)) (fun (k:Nat)=>l.length-k) (0) ⟨(Nat.zero_le _),(fun j hj=>absurd hj (Nat.not_lt_zero _))⟩ (fun _ _ hG=>Yt [] (bm 9 403) rfl rfl hG) ?_
 rintro k ⟨hk,hb⟩
 show T _ _ ⟨[slV tl nl (kC sl_) l,Z74,aa,aa,vI 0,aa,aa,(Z75 l),vI ((k:Nat):Int)],[]⟩ _ _
 replace hk:k≤l.length:=hk
 replace hb:∀ j,j<k→(l.getD j zC).Xv.length≤7:=hb
 refine sR [] ?_
 refine T.seq ?_
 by_cases hq1:((k:Nat):Int)<((l.length:Nat):Int)
 ·refine cT (dT hq1) ?_
  refine T.skip (nT (T.seq ?_))
  refine T.block ?_
  refine sR [] ?_
  refine sR [hR 3 rfl rfl (Wd tl nl (kC sl_) l k (k:=.i64) (i:=((k:Nat):Int)) Tryz.underlying76 Fr rfl rfl (by omega) (X3 rfl) trivial),hR 5 rfl rfl (X7t (fs:=#[]) (cs:=#[]) (Xgh sl_ (l.getD k zC) ) Tryz.func202 rfl (by decide) [] [] (l:=[(.tmp 15,.tv (.agg [dI (l.getD k zC).I1.X4,.d (dsl sl_ false kU8 (l.getD k zC).I1.Xf),.d (dsl sl_ false (kE sl_) (l.getD k zC).Xv)]))]) [] rfl 0 0 rfl rfl rfl rfl rfl rfl rfl rfl rfl rfl rfl ⟨⟨.inl ⟨rfl,rfl⟩,⟨.inl ⟨rfl,rfl⟩,⟨.inl ⟨rfl,rfl⟩,trivial⟩⟩⟩,trivial⟩ rfl p4z (.inl rfl) (X3 rfl) trivial)] ?_
  by_cases hq2:(((l.getD k zC).Xv.length:Nat):Int)>7
  ·refine cT (dT hq2) ?_
   refine sR [] ?_
   refine T.ret (rB (rT (rT (rB (rT ?_)))))
   exact eRt 4 (.one (dI ((k:Nat):Int))) [] (cI (by exact idx_at hb (by omega) (by omega))) trivial
  refine cF (dF hq2) ?_
  refine T.skip ?_
  refine nB ?_
  refine nT ?_
  refine xK [hR 0 rfl rfl (Ye (u1:=.int .i64 ((k:Nat):Int)) (u2:=.int .i64 1) (v:=.int .i64 ((k+1:Nat):Int)) (Wa pa) (X3 rfl) ⟨rfl,trivial⟩)] ?_
  refine nL (k+1) ⟨(show (k+1)≤l.length from (by omega)),(show ∀ j,j<(k+1)→(l.getD j zC).Xv.length≤7 from (U5 hb (by omega)))⟩ (show (l.length-(k+1):Nat)<l.length-k from (by omega)) (fun _ _ hG=>Yt [] (bm 9 403) rfl rfl hG)
 refine cF (dF hq1) ?_
 refine T.exit ?_
 refine xT ?_
 refine xT ?_
 refine xH ?_
 refine nT ?_
 refine sR [] ?_
 refine T.ret ?_
 exact eRt 4 (.one (dI (-1))) [] (cI (by exact idx_no hb (by omega))) trivial
theorem F0 (tl:Bool) (nl:Bool) (sl_:Bool) (l:List aC) (hl:l.length≤9223372036854775807):Holds Tryz.prog 201 ⟨[slV tl nl (kC sl_) l,dv (.func (.func 202) #[] #[])],[],vB (decide (¬X28 l)),[]⟩:=by
 refine Holds.of Tryz.func201 rfl (N:=9) Tryz.ntmps201 rfl fun w0 B0 S0 U0=>?_
 show T _ (Y2 9 0 w0 S0 U0 B0) ⟨[slV tl nl (kC sl_) l,dv (.func (.func 202) #[] #[])],[]⟩ _ _
 refine sR [] ?_
 refine sR [hR 2 rfl rfl (rCa (idx_Cert tl nl sl_ l ‹_›) Tryz.func203 [] [(.tmp 5,slV tl nl (kC sl_) l),(.tmp 6,dv (.func (.func 202) #[] #[]))] 0 0)] ?_
 refine T.ret ?_
 exact eRt 4 (.one (dB (decide ((idxV l)≥0)))) [] (by have e1:((decide (¬X28 l)):Bool)=(decide ((idxV l)≥0)):=(by (rw [decide_eq_decide];exact (idx_few _).symm));have hE:=cB e1;exact hE) trivial
end Go.Proofs.YtnaopgohccacmaaGreat.Q
