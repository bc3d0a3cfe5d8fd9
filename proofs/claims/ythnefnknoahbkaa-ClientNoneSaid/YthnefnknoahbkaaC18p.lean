import Derived.Test.YthnefnknoahbkaaK18
namespace Go.Proofs.Ythnefnknoahbkaa.Q
open Go Go.RowKit
set_option linter.unusedVariables false
theorem pZ0 {p:Prop} (h:p:=by have hE:=congrArg (fun (qq0:RdM)=>([.live (.box 87 [(Z7u B),dI (((Ww B qq0.rest:Nat):Int)),dI (qq0.e)]),.live (.box 42 [dI (qq0.m.X3),dI (qq0.m.Xt),dI (qq0.m.Xy),dI (qq0.m.Xb),dI (qq0.m.Xv),dS (qq0.m.Xc),dU (qq0.m.Xk),dI (qq0.m.X1.Xs),dI (qq0.m.X1.Xo),.d (dsl false false (kE false) (qq0.m.Xf)),.d (dsl false false (kE false) (qq0.m.Xr)),Z7r]),(Z7y h),Z7z]:List HS)) hst;(try dsimp only at hE);exact hE):p:=h
theorem pZ1 {p:Prop} (h:p:=by exact .inr ⟨by decide,by decide,(.inl rfl)⟩):p:=h
theorem pZ2 {p:Prop} (h:p:=by have hE:=congrArg (fun (qq0:RdM)=>([Z5r,Z64,.live (.box 144 [dU (qq0.rest),dI (qq0.e)]),.live (.box 42 [dI (qq0.m.X3),dI (qq0.m.Xt),dI (qq0.m.Xy),dI (qq0.m.Xb),dI (qq0.m.Xv),dS (qq0.m.Xc),dU (qq0.m.Xk),dI (qq0.m.X1.Xs),dI (qq0.m.X1.Xo),.d (dsl false false (kE false) (qq0.m.Xf)),.d (dsl false false (kE false) (qq0.m.Xr)),.d (dsl false false (kC false) (qq0.m.X7))]),(Z60 b)]:List HS)) hst;(try dsimp only at hE);exact hE):p:=h
theorem pZ3 {p:Prop} (h:p:=by intro b hb;simp only [List.mem_cons,List.not_mem_nil,or_false] at hb;rcases hb with rfl;exact ⟨_,List.Mem.head _⟩):p:=h
theorem pZ4 {p:Prop} (h:p:=by kernel_rfl):p:=h
theorem pZ5 {p:Prop} (h:p:=by rw [IntKind.wrap_i64];omega):p:=h
theorem pZ6 {p:Prop} (h:p:=by exact .inr ⟨rfl,rfl,rfl,(fun h=>by cases h),rfl,rfl,Nat.le_of_eq (Nat.zero_add _),fun i j _=>by rw [Nat.zero_add]⟩):p:=h
theorem pZ7 {p:Prop} (h:p:=by repeat first|assumption|exact List.suffix_refl _|apply sufR|apply sufY|apply sufE|apply sufF|apply sufG|apply sufL|apply sufC|apply sufM):p:=h
theorem pZ8 {p:Prop} (h:p:=by have hE:=cg2 (fun (qq0:aM) (qq1:Int)=>(.tup [.agg [dI (qq0.X3),dI (qq0.Xt),dI (qq0.Xy),dI (qq0.Xb),dI (qq0.Xv),dS (qq0.Xc),dU (qq0.Xk),dI (qq0.X1.Xs),dI (qq0.X1.Xo),.d (dsl false false (kE false) (qq0.Xf)),.d (dsl false false (kE false) (qq0.Xr)),.d (dsl false false (kC false) (qq0.X7))],.one (dI (qq1))]:AV)) (show Y6 b=_ from hd9.1) hd9.2;(try dsimp only at hE);exact hE):p:=h
theorem pZ9 {p:Prop} (h:p:=by exact .inr ⟨rfl,rfl,rfl⟩):p:=h
theorem pa {p:Prop} (h:p:=by exact cI (by exact if_neg (fun h9=>by obtain ⟨q1,q2,q3,q4,q5,q6,q7,q8,q9,q10⟩:=(Wg m).1 h9;exact absurd q10 ‹_›))):p:=h
theorem pb {p:Prop} (h:p:=by exact gc2 (show Y6 b=_ from hd9.1) (by exact hd9.2) (fun qq0 (q13:Int)=>(.tup [.agg [dI (qq0.X3),dI (qq0.Xt),dI (qq0.Xy),dI (qq0.Xb),dI (qq0.Xv),dS (qq0.Xc),dU (qq0.Xk),dI (qq0.X1.Xs),dI (qq0.X1.Xo),.d (dsl false false (kE false) (qq0.Xf)),.d (dsl false false (kE false) (qq0.Xr)),.d (dsl false false (kC false) (qq0.X7))],.one (dI q13)]:AV))):p:=h
theorem pc {p:Prop} (h:p:=by exact .inr ⟨by decide,.inl rfl⟩):p:=h
theorem pd {p:Prop} (h:p:=by exact .inr ⟨trivial,(And.intro (Xd8 Xct) trivial)⟩):p:=h
theorem pe {p:Prop} (h:p:=by exact Nat.le_of_eq (Nat.zero_add _)):p:=h
theorem pf {p:Prop} (h:p:=by exact Nat.le_of_ble_eq_true rfl):p:=h
theorem pg {p:Prop} (h:p:=by exact cI (by exact if_neg (fun h9=>by obtain ⟨q1,q2,q3,q4,q5,q6,q7,q8,q9,q10⟩:=(Wg m).1 h9;exact q9 ⟨(by exact nbB ‹_›),by assumption⟩))):p:=h
theorem ph {p:Prop} (h:p:=by exact congrArg (fun (q1:Int)=>([slV tb nb kU8 b,aa,pv 0 0,aa,pv 1 0,pv 3 0,pv 4 0,(Z5w b),vI q1]:List AV)) (by rfl)):p:=h
theorem pi {p:Prop} (h:p:=by (rw [msg_no18 ‹_›];done)):p:=h
theorem pj {p:Prop} (h:p:=by exact Nat.le_trans (by omega) (by decide:64≤_)):p:=h
theorem pk {p:Prop} (h:p:=by exact .inr ⟨by decide,by decide,(.inr ⟨rfl,⟨.inl rfl,(kk2 ⟨(.inr rfl),trivial⟩)⟩⟩)⟩):p:=h
theorem pZl {p:Prop} (h:p:=by (rw [msg_318 ‹_›];done)):p:=h
theorem pm {p:Prop} (h:p:=by exact congrArg (fun (q1:Bool)=>([aa,aa,pv 11 0,pv 12 0,vB false,aa,aa,aa,aa,aa,aa,aa,aa,aa,aa,aa,aa,aa,aa,aa,aa,aa,aa,aa,aa,aa,aa,aa,aa,aa,aa,aa,aa,aa,aa,aa,aa,aa,aa,aa,aa,aa,aa,aa,aa,aa,aa,aa,aa,aa,vB q1]:List AV)) (by exact decide_eq_decide.2 (by unfold U4;omega))):p:=h
theorem pn {p:Prop} (h:p:=by (simp [Ix,W2,Wz,X39,zE, *];done)):p:=h
theorem po {p:Prop} (h:p:=by (rw [hst];done)):p:=h
theorem pp {p:Prop} (h:p:=by exact .inr ⟨by decide,by decide,(.inr ⟨rfl,(kk2 (kk4 ⟨(.inr rfl),⟨.inl rfl,trivial⟩⟩))⟩)⟩):p:=h
theorem pq {p:Prop} (h:p:=by exact congr (congrArg (fun (q1:Int) (q2:List UInt8) (q3:Int)=>(.tup [.agg [dI q1,dU q2],.one (dI q3)]:AV)) e1) e2):p:=h
theorem pZr {p:Prop} (h:p:=by exact congrArg (fun (q1:List UInt8) (q2:Int)=>(.live (.box 144 [dU q1,dI q2]):HS)) e1):p:=h
theorem pZs {p:Prop} (h:p:=by have e1:(((Vp (mput told e.X4 (Y6 e.X9).X1) bn (seen++[bn.getD j 0]) (Y6 e.X9).X1:Nat):Int):Int)=(((Vp (mput told e.X4 (Y6 e.X9).X1) bn seen (Y6 e.X9).X1)+1:Nat):Int):=(by (rw [hcs];done));have hE:=congrArg (fun (q1:Int)=>([pv 2 0,aa,aa,pv 6 0,pv 7 0,aa,vI q1,aa,aa,aa,aa,aa,aa,aa,aa,aa,aa,aa,aa,aa,aa,aa,aa,aa,aa,aa,aa,aa,aa,aa,aa,aa,aa,aa,aa,aa,aa,aa,aa,aa,aa,aa,aa,aa,aa,aa,aa,aa,aa,aa,aa,aa,aa,aa,aa,aa,aa,aa,aa,aa,aa,aa,aa,aa,aa,aa,aa,aa,aa,aa,aa,aa,aa,aa,aa,aa,aa,aa,aa,aa,pv 8 0]:List AV)) e1;exact hE):p:=h
theorem pt {p:Prop} (h:p:=by have e1:(((Vp (mput told e.X4 (Y6 e.X9).X1) bn (seen++[bn.getD j 0]) (Y6 e.X9).X1:Nat):Int):Int)=((Vp (mput told e.X4 (Y6 e.X9).X1) bn seen (Y6 e.X9).X1:Nat):Int):=(by (rw [hcs];done));have hE:=congrArg (fun (q1:Int)=>([pv 2 0,aa,aa,pv 6 0,pv 7 0,aa,vI q1,aa,aa,aa,aa,aa,aa,aa,aa,aa,aa,aa,aa,aa,aa,aa,aa,aa,aa,aa,aa,aa,aa,aa,aa,aa,aa,aa,aa,aa,aa,aa,aa,aa,aa,aa,aa,aa,aa,aa,aa,aa,aa,aa,aa,aa,aa,aa,aa,aa,aa,aa,aa,aa,aa,aa,aa,aa,aa,aa,aa,aa,aa,aa,aa,aa,aa,aa,aa,aa,aa,aa,aa,aa,pv 8 0]:List AV)) e1;exact hE):p:=h
theorem pu {p:Prop} (h:p:=by (simp [Y4,okK, *];done)):p:=h
theorem pZv {p:Prop} (h:p:=by exact congr (congr (congr (congr (congr (congr (congr (congr (congr (congr (congrArg (fun (q1:Int) (q2:Int) (q3:Int) (q4:Int) (q5:Int) (q6:List UInt8) (q7:List UInt8) (q8:Int) (q9:Int) (q10:List aE) (q11:List aE) (q12:List aC)=>([(Zi9 f u),(Zia rows),(Zic st done),(Zid told),(Zie done),(Zif f u L),(Zig L),(Zih st ws done E),(Zii ws),(Zie done),(Zij E),Zil,(Zim y),.live (.box 42 [dI q1,dI q2,dI q3,dI q4,dI q5,dS q6,dU q7,dI q8,dI q9,.d (dsl false false (kE false) q10),.d (dsl false false (kE false) q11),.d (dsl false false (kC false) q12)])]:List HS)) e1) e2) e3) e4) e5) e6) e7) e8) e9) e10) e11):p:=h
theorem pw {p:Prop} (h:p:=by exact congr (congr (congr (congr (congr (congr (congr (congr (congr (congr (congrArg (fun (q1:Int) (q2:Int) (q3:Int) (q4:Int) (q5:Int) (q6:List UInt8) (q7:List UInt8) (q8:Int) (q9:Int) (q10:List aE) (q11:List aE) (q12:List aC)=>([(Zgy f u),(Zgz rows),(Zh2 st done),(Zh3 told),(Zh4 done),(Zh5 f u L),(Zh7 L),(Zhb st ws done E),(Zhd ws),(Zh4 done),(Zhe E),Zhi,(Zhj y),.live (.box 42 [dI q1,dI q2,dI q3,dI q4,dI q5,dS q6,dU q7,dI q8,dI q9,.d (dsl false false (kE false) q10),.d (dsl false false (kE false) q11),.d (dsl false false (kC false) q12)])]:List HS)) e1) e2) e3) e4) e5) e6) e7) e8) e9) e10) e11):p:=h
theorem px {p:Prop} (h:p:=by exact congr (congr (congr (congr (congr (congr (congr (congr (congr (congr (congrArg (fun (q1:Int) (q2:Int) (q3:Int) (q4:Int) (q5:Int) (q6:List UInt8) (q7:List UInt8) (q8:Int) (q9:Int) (q10:List aE) (q11:List aE) (q12:List aC)=>([(Zft f u),(Zfu rows),(Zfw st done),(Zfx told),(Zfy done),(Zfz f u L),(Zg1 L),(Zg2 st ws done RE),(Zg3 ws),(Zfy done),Zg7,(Zg8 y),.live (.box 42 [dI q1,dI q2,dI q3,dI q4,dI q5,dS q6,dU q7,dI q8,dI q9,.d (dsl false false (kE false) q10),.d (dsl false false (kE false) q11),.d (dsl false false (kC false) q12)])]:List HS)) e1) e2) e3) e4) e5) e6) e7) e8) e9) e10) e11):p:=h
theorem py {p:Prop} (h:p:=by (simp [Xh,okK, *];done)):p:=h
theorem pz {p:Prop} (h:p:=by have e1:(told:List (Int×Xd))=(Id (Wy f u rows) f id st told e):=(by exact (Xes hx).symm);have hE:=congrArg (fun (q1:List (Int×Xd))=>(.live (mpK (W0 .i64) (Xi false) q1):HS)) e1;exact Eq.trans pZ4 hE):p:=h
theorem pZ10 {p:Prop} (h:p:=by have e1:(ws:List X6)=(Uo (Wr f u L) f id st ws e):=(by exact (X34 hx).symm);have hE:=congrArg (fun (q1:List X6)=>(.live (Xe 116 (X0 false) q1):HS)) e1;exact Eq.trans pZ4 hE):p:=h
theorem pZ11 {p:Prop} (h:p:=by have e1:(rows:List (Xw×Bool))=(Yt (Yj f u L y st)):=(by (rw [hrl,Fh hnr];done));have hE:=congrArg (fun (q1:List (Xw×Bool))=>(.live (mpK Xa Y5 q1):HS)) e1;exact Eq.trans pZ4 hE):p:=h
theorem X3b {p:Prop} (h:p:=by exact .inr ⟨rfl,(kk2 (kk4 ⟨pZ9,(kk2 ⟨pZ9,⟨pZ9,⟨pZ9,trivial⟩⟩⟩)⟩))⟩):p:=h
theorem pZ13 {p:Prop} (h:p:=by have e1:(ws.length:Nat)=(Uo (Wr f u L) f id st ws e).length:=(by (rw [X34 hx];done));have hE:=congrArg (fun (q1:Nat)=>(.live (.box 70 [.ptr 0 0,(Zdq id),(Zdr st),dB true,(Zds E),(Zdt E),.own 7 (X0 false).sz 0 q1,(Zdu done)]):HS)) e1;exact Eq.trans pZ4 hE):p:=h
theorem pZ14 {p:Prop} (h:p:=by have e1:(L:List aE)=(Yj f u L y st):=(by (rw [Fh hnr];done));have hE:=congrArg (fun (q1:List aE)=>(.live (Xe 48 (kE false) q1):HS)) e1;exact Eq.trans pZ4 hE):p:=h
theorem Um {p:Prop} (h:p:=by exact fun h=>by cases h):p:=h
theorem pZ16 {p:Prop} (h:p:=by exact cI (by exact if_neg (fun h9=>by exact absurd h9.2.2.2.2.2.2.2.2.2.2.2.2.2 ‹_›))):p:=h
theorem pZ17 {p:Prop} (h:p:=by have e1:(((Vp (mput told e.X4 (Y6 e.X9).X1) bn [] (Y6 e.X9).X1:Nat):Int):Int)=0:=(by (rw [cntS_0];rfl));have hE:=congrArg (fun (q1:Int)=>([pv 2 0,aa,aa,pv 6 0,pv 7 0,aa,vI q1,aa,aa,aa,aa,aa,aa,aa,aa,aa,aa,aa,aa,aa,aa,aa,aa,aa,aa,aa,aa,aa,aa,aa,aa,aa,aa,aa,aa,aa,aa,aa,aa,aa,aa,aa,aa,aa,aa,aa,aa,aa,aa,aa,aa,aa,aa,aa,aa,aa,aa,aa,aa,aa,aa,aa,aa,aa,aa,aa,aa,aa,aa,aa,aa,aa,aa,aa,aa,aa,aa,aa,aa,aa,pv 8 0]:List AV)) e1;exact hE):p:=h
theorem pZ18 {p:Prop} (h:p:=by exact congrArg (fun (q1:Nat) (q2:Int)=>([aa,pv 0 0,aa,pv 1 0,aa,Y3 3 kU8 0 q1,vI q2]:List AV)) e1):p:=h
theorem pZ19 {p:Prop} (h:p:=by have e1:((Yt (Wh f u L y st)):List (Xw×Bool))=(Yt (Yj f u L y st)):=(by (rw [X0m hrc];done));have hE:=congrArg (fun (q1:List (Xw×Bool))=>(.live (mpK Xa Y5 q1):HS)) e1;exact Eq.trans pZ4 hE):p:=h
theorem p1a {p:Prop} (h:p:=by have e1:(told:List (Int×Xd))=(V0 f u L st told y):=(by exact (Xc3 hnr).symm);have hE:=congrArg (fun (q1:List (Int×Xd))=>(.live (mpK (W0 .i64) (Xi false) q1):HS)) e1;exact Eq.trans pZ4 hE):p:=h
theorem p1b {p:Prop} (h:p:=by exact .inr ⟨(And.intro (X3q (nn:=false) X17) (And.intro trivial trivial)),(And.intro (And.intro trivial (And.intro trivial (And.intro trivial trivial))) (And.intro (X9l Xb8) (And.intro (And.intro trivial (And.intro trivial (And.intro trivial (And.intro trivial (And.intro trivial (And.intro trivial trivial)))))) (And.intro (X9l E7) (And.intro (Xd8 Iv) (And.intro (And.intro trivial (And.intro (X3q (nn:=false) Xct) trivial)) trivial))))))⟩):p:=h
theorem p1c {p:Prop} (h:p:=by have e1:(ws:List X6)=(Wu f u L st ws y):=(by exact (X1g hnr).symm);have hE:=congrArg (fun (q1:List X6)=>(.live (Xe 116 (X0 false) q1):HS)) e1;exact Eq.trans pZ4 hE):p:=h
theorem p1d {p:Prop} (h:p:=by exact cI (by exact if_neg (fun h9=>by obtain ⟨q1,q2,q3,q4,q5,q6,q7,q8,q9,q10⟩:=(Wg m).1 h9;exact q8 ⟨(by exact nbB ‹_›),by assumption⟩))):p:=h
theorem p1e {p:Prop} (h:p:=by (simp [Ix,W2,Ik,zE, *];done)):p:=h
theorem p1f {p:Prop} (h:p:=by (simp [Yr,Vl,U8,primaryA,X4k, *];done)):p:=h
theorem p1g {p:Prop} (h:p:=by exact congrArg (fun (q1:List X6)=>([(Zeq f u L),(Zer L),(Zew id st E ws done),(Zex ws),(Zey done),(Zez e),(Zf2 e),.live (Xe 116 (X0 false) q1)]:List HS)) (by exact ho9)):p:=h
theorem p1h {p:Prop} (h:p:=by exact congrArg (fun (q1:List X6)=>([(Zdo f u L),(Zdp L),(Zdv id st E ws done),(Zdx ws),(Zdy done),(Ze0 e),(Ze5 e),.live (Xe 116 (X0 false) q1)]:List HS)) (by exact ho9)):p:=h
theorem p1i {p:Prop} (h:p:=by have e1:((Wh f u L y st):List aE)=(Yj f u L y st):=(by (rw [X0m hrc];done));have hE:=congrArg (fun (q1:List aE)=>(.live (Xe 48 (kE false) q1):HS)) e1;exact Eq.trans pZ4 hE):p:=h
theorem p1j {p:Prop} (h:p:=by have e1:((((rfA B a e 4 (Yb most ((B.drop a).take 4)))+(rdC (B.drop a) e most):Nat):Int):Int)=((X4h B a e most:Nat):Int):=(by omega);have e2:((rdE (B.drop a) e 4 (Yb most ((B.drop a).take 4))):Int)=(J4 (B.drop a) e most):=(by omega);have hE:=congr (congrArg (fun (q1:Int) (q2:Int)=>(.live (.box 87 [(Z1h B),dI q1,dI q2]):HS)) e1) e2;exact Eq.trans pZ4 hE):p:=h
theorem p1k {p:Prop} (h:p:=by exact congr (congrArg (fun (q1:List (Xw×Bool)) (q2:Nat) (q3:List aE)=>([(Zi9 f u),.live (mpK Xa Y5 q1),(Zic st done),(Zid told),(Zie done),.live (.box 106 [dB true,dI f,dI u,.own 15 (kE false).sz 0 q2]),.dead,(Zih st ws done E),(Zii ws),(Zie done),(Zij E),Zil,(Zim y),(Ziq st y),(Ziz st y),.live (Xe 48 (kE false) q3)]:List HS)) e1) e2):p:=h
theorem p1l {p:Prop} (h:p:=by exact congr (congrArg (fun (q1:List (Xw×Bool)) (q2:Nat) (q3:List aE)=>([(Zgy f u),.live (mpK Xa Y5 q1),(Zh2 st done),(Zh3 told),(Zh4 done),.live (.box 106 [dB true,dI f,dI u,.own 15 (kE false).sz 0 q2]),.dead,(Zhb st ws done E),(Zhd ws),(Zh4 done),(Zhe E),Zhi,(Zhj y),(Zht st y),(Zi2 st y),.live (Xe 48 (kE false) q3)]:List HS)) e1) e2):p:=h
theorem p1m {p:Prop} (h:p:=by have e1:(((rfA B a e 4 (Yb most ((B.drop a).take 4)):Nat):Int):Int)=((X4h B a e most:Nat):Int):=(by omega);have e2:((rdE (B.drop a) e 4 (Yb most ((B.drop a).take 4))):Int)=(J4 (B.drop a) e most):=(by omega);have hE:=congr (congrArg (fun (q1:Int) (q2:Int)=>(.live (.box 87 [(Z1h B),dI q1,dI q2]):HS)) e1) e2;exact Eq.trans pZ4 hE):p:=h
theorem p1n {p:Prop} (h:p:=by exact trivial):p:=h
theorem p1o {p:Prop} (h:p:=by exact congr (congrArg (fun (q1:List (Xw×Bool)) (q2:Nat) (q3:List aE)=>([(Zft f u),.live (mpK Xa Y5 q1),(Zfw st done),(Zfx told),(Zfy done),.live (.box 106 [dB true,dI f,dI u,.own 14 (kE false).sz 0 q2]),.dead,(Zg2 st ws done RE),(Zg3 ws),(Zfy done),Zg7,(Zg8 y),(Zgh st y),(Zgq st y),.live (Xe 48 (kE false) q3)]:List HS)) e1) e2):p:=h
theorem p1p {p:Prop} (h:p:=by rw [List.take_length]):p:=h
theorem p1q {p:Prop} (h:p:=by have e1:(((Fc (mput told e.X4 (Y6 e.X9).X1) (Y6 e.X9).X1:Nat):Int):Int)=((Vp (mput told e.X4 (Y6 e.X9).X1) bn seen (Y6 e.X9).X1:Nat):Int):=(by (rw [cntS_all hbn2 hall]));have hE:=congrArg (fun (q1:Int)=>([pv 2 0,aa,aa,pv 6 0,pv 7 0,aa,vI q1]:List AV)) e1;exact hE):p:=h
theorem p1r {p:Prop} (h:p:=by exact gc2 (show (Xh k)=⟨true,true,false,true,false,false,false,false,false⟩ from py) (show ((decide (okK k)):Bool)=true from py) (fun qq0 (q10:Bool)=>(.tup [.agg [dB (qq0.Xt),dB (qq0.Xy),dB (qq0.Xb),dB (qq0.Xc),dB (qq0.Xk),dB (qq0.X1),dB (qq0.Xf),dB (qq0.Xr),dB (qq0.X7)],.one (dB q10)]:AV))):p:=h
theorem p1s {p:Prop} (h:p:=by exact congrArg (fun (q1:List Nat)=>([(Zcb f u),(Zcc rows),(Zcd id st done),(Zcn told e bn clk),(Zce done),(Zcf E),(Zci te e),(Zcj e),.live (.it 3 clk q1)]:List HS)) (by rfl)):p:=h
theorem p1t {p:Prop} (h:p:=by exact congrArg (fun (q1:List Nat)=>([(Zbs f u),(Zbt rows),(Zbu id st done),(Zc3 told e bn clk),(Zbv done),(Zbw E),(Zby te e),(Zbz e),.live (.it 3 clk q1)]:List HS)) (by rfl)):p:=h
theorem p1u {p:Prop} (h:p:=by (simp only [List.length_append,List.length_singleton,maxLen];omega)):p:=h
theorem p1v {p:Prop} (h:p:=by exact cI (by exact if_neg (fun h9=>by (rcases h9.2.2.2.2.2.2.2.2.2.2.2.2.1 with h8|h8<;>exact absurd h8 ‹_›)))):p:=h
theorem p1w {p:Prop} (h:p:=by exact congrArg (fun (q1:Bool)=>([aa,aa,pv 10 0,pv 11 0,vB false,aa,aa,aa,aa,aa,aa,aa,aa,aa,aa,aa,aa,aa,aa,aa,aa,aa,aa,aa,aa,aa,aa,aa,aa,aa,aa,aa,aa,aa,aa,aa,aa,aa,aa,aa,aa,aa,aa,aa,aa,aa,aa,aa,aa,aa,vB q1]:List AV)) (by exact decide_eq_decide.2 (by unfold U4;omega))):p:=h
theorem p1x {p:Prop} (h:p:=by (rw [Jp hji hbt];rfl)):p:=h
theorem p1y {p:Prop} (h:p:=by have e1:(l:List aE)=(Wz f u l s b):=pn;have hE:=congrArg (fun (q1:List aE)=>(.live (Xe 48 (kE false) q1):HS)) e1;exact Eq.trans pZ4 hE):p:=h
theorem p1z {p:Prop} (h:p:=by exact Nat.le_trans (Xf8 _ _ _ _ _) (by omega)):p:=h
theorem pZ20 {p:Prop} (h:p:=by have e1:(ws.length:Nat)=(Uo (Wr f u L) f id st ws e).length:=(by (rw [X34 hx];done));have hE:=congrArg (fun (q1:Nat)=>(.live (.box 70 [.ptr 0 0,(Zdq id),(Zdr st),dB true,(Zds E),(Zdt E),.own 6 (X0 false).sz 0 q1,(Zdu done)]):HS)) e1;exact Eq.trans pZ4 hE):p:=h
theorem pZ21 {p:Prop} (h:p:=by exact Classical.not_not.1 ‹_›):p:=h
theorem pZ22 {p:Prop} (h:p:=by have e1:(ws.length:Nat)=(Wu f u L st ws y).length:=(by (rw [X1g hnr];done));have hE:=congrArg (fun (q1:Nat)=>(.live (.box 70 [.ptr 5 0,Zh0,(Zh1 st),dB true,(Zh8 E),(Zh9 E),.own 14 (X0 false).sz 0 q1,(Zha done)]):HS)) e1;exact Eq.trans pZ4 hE):p:=h
theorem pZ23 {p:Prop} (h:p:=by exact .inr ⟨by decide,.inr ⟨rfl,⟨.inl rfl,⟨pZ6,trivial⟩⟩⟩⟩):p:=h
theorem pZ24 {p:Prop} (h:p:=by have e1:(((rdC (B.drop a) e most:Nat):Int):Int)=0:=(by (simp only [rdC];(rw [if_neg hr.1];rfl)));have hE:=cI e1;exact hE):p:=h
theorem pZ25 {p:Prop} (h:p:=by have e1:((done++[(Xj.mk 1000 st (Jt (aE.mk y.X4 (Yh (Y1 y st)))))]):List Xj)=(done++[(Ua st y)]):=(by rfl);have hE:=congrArg (fun (q1:List Xj)=>(.live (Xe 78 (X5 false) q1):HS)) e1;exact Eq.trans pZ4 hE):p:=h
theorem pZ26 {p:Prop} (h:p:=by exact congrArg (fun (q1:Int) (q2:Int)=>(.live (.box 87 [(Z1e B),dI q1,dI q2]):HS)) e1):p:=h
theorem pZ27 {p:Prop} (h:p:=by have e1:(done++[(Xj.mk id st (Y6 e.X9).X1)]:List Xj)=(done++[(Xj.mk id st (Jt e))]):=(by rfl);have hE:=congrArg (fun (q1:List Xj)=>(.live (Xe 78 (X5 false) q1):HS)) e1;exact Eq.trans pZ4 hE):p:=h
theorem pZ28 {p:Prop} (h:p:=by exact congrArg (fun (q1:Int) (q2:Int)=>(.live (.box 87 [dU B,dI q1,dI q2]):HS)) e1):p:=h
theorem pZ29 {p:Prop} (h:p:=by have e1:((Wh f u L y st).length:Nat)=(Yj f u L y st).length:=(by (rw [X0m hrc];done));have hE:=congrArg (fun (q1:Nat)=>(.live (.box 106 [dB true,dI f,dI u,.own 15 (kE false).sz 0 q1]):HS)) e1;exact Eq.trans pZ4 hE):p:=h
theorem p2a {p:Prop} (h:p:=by exact congrArg (fun (q1:Int) (q2:Int)=>(.tup [.one (dI q1),.one (dI q2)]:AV)) e1):p:=h
theorem p2b {p:Prop} (h:p:=by exact .inr ⟨rfl,⟨.inl rfl,⟨pZ9,trivial⟩⟩⟩):p:=h
theorem p2c {p:Prop} (h:p:=by have e1:((b++Ul l (k+1)):List UInt8)=(b++Ul l k)++Vk (l.getD k zE):=(by (rw [X6k (by omega),← List.append_assoc]));have hE:=congrArg (fun (q1:List UInt8)=>([.live (Xe 5 kU8 q1)]:List HS)) e1;exact hE):p:=h
theorem p2d {p:Prop} (h:p:=by exact congrArg (fun (q1:List UInt8)=>([.live (Xe 5 kU8 q1)]:List HS)) (by rfl)):p:=h
theorem p2e {p:Prop} (h:p:=by exact congrArg (fun (q1:Nat)=>(Y3 0 kU8 0 q1:AV)) (by rfl)):p:=h
theorem p2f {p:Prop} (h:p:=by have e1:(b++W3 ((x.length:Nat):Int)++x:List UInt8)=b++Wd x:=(by (simp only [Wd,List.append_assoc]));have hE:=congrArg (fun (q1:List UInt8)=>(.live (Xe 5 kU8 q1):HS)) e1;exact Eq.trans pZ4 hE):p:=h
theorem p2g {p:Prop} (h:p:=by have e1:(L.length:Nat)=(Yj f u L y st).length:=(by (rw [Fh hnr];done));have hE:=congrArg (fun (q1:Nat)=>(.live (.box 106 [dB true,dI f,dI u,.own 13 (kE false).sz 0 q1]):HS)) e1;exact Eq.trans pZ4 hE):p:=h
theorem p2h {p:Prop} (h:p:=by have e1:(L.length:Nat)=(Yj f u L y st).length:=(by (rw [Fh hnr];done));have hE:=congrArg (fun (q1:Nat)=>(.live (.box 106 [dB true,dI f,dI u,.own 12 (kE false).sz 0 q1]):HS)) e1;exact Eq.trans pZ4 hE):p:=h
theorem p2i {p:Prop} (h:p:=by (rw [Xah (by exact nbB ‹_›)];done)):p:=h
theorem p2j {p:Prop} (h:p:=by exact gc2 (show (Y4 k)=⟨11,0,1,7⟩ from pu) (show ((decide (okK k)):Bool)=true from pu) (fun qq0 (q5:Bool)=>(.tup [.agg [dI (qq0.V3),dI (qq0.Wa),dI (qq0.Wq),dI (qq0.V6)],.one (dB q5)]:AV))):p:=h
theorem p2k {p:Prop} (h:p:=by have e1:(b++Ym e.X4++Wd e.X9:List UInt8)=b++Vk e:=(by (rw [Vk,← List.append_assoc]));have hE:=congrArg (fun (q1:List UInt8)=>(.live (Xe 5 kU8 q1):HS)) e1;exact Eq.trans pZ4 hE):p:=h
theorem p2l {p:Prop} (h:p:=by rw [q];rfl):p:=h
theorem p2m {p:Prop} (h:p:=by exact .inr ‹_›):p:=h
theorem p2n {p:Prop} (h:p:=by exact .inl ‹_›):p:=h
theorem p2o {p:Prop} (h:p:=by have e1:((b++Wd x).length:Nat)=(b++W3 ((x.length:Nat):Int)++x).length:=(by (simp only [Wd,List.append_assoc]));have hE:=congrArg (fun (q1:Nat)=>(Y3 1 kU8 0 q1:AV)) e1;exact hE):p:=h
theorem p2p {p:Prop} (h:p:=by have e1:((b++Vk e).length:Nat)=(b++Ym e.X4++Wd e.X9).length:=(by (rw [Vk,← List.append_assoc]));have hE:=congrArg (fun (q1:Nat)=>(Y3 2 kU8 0 q1:AV)) e1;exact hE):p:=h
theorem p2q {p:Prop} (h:p:=by (simp [Ez,Ea, *];done)):p:=h
theorem p2r {p:Prop} (h:p:=by (rw [Jp hji hbt];(simp only [Vw,List.append_assoc];done))):p:=h
theorem p2s {p:Prop} (h:p:=by have e1:(rows:List (Xw×Bool))=(Ik f u rows s b):=p1e;have hE:=congrArg (fun (q1:List (Xw×Bool))=>(.live (mpK Xa Y5 q1):HS)) e1;exact Eq.trans pZ4 hE):p:=h
theorem p2t {p:Prop} (h:p:=by have e1:(l.length:Nat)=(Wz f u l s b).length:=pn;have hE:=congrArg (fun (q1:Nat)=>(.live (.box 106 [dB true,dI f,dI u,.own 3 (kE false).sz 0 q1]):HS)) e1;exact Eq.trans pZ4 hE):p:=h
theorem p2u {p:Prop} (h:p:=by exact X6o (X6o trivial)):p:=h
theorem p2v {p:Prop} (h:p:=by have e1:(([]:List UInt8):List UInt8)=(rdY (B.drop a) e most):=(by exact hy.1.symm);have hE:=congrArg (fun (q1:List UInt8)=>(.live (Xe 5 kU8 q1):HS)) e1;exact Eq.trans pZ4 hE):p:=h
theorem p2w {p:Prop} (h:p:=by (rw [crt_succ (by omega)];simp only [List.append_assoc];done)):p:=h
theorem p2x {p:Prop} (h:p:=by have e1:((b++Ul l k):List UInt8)=b++W5 l:=(by (rw [Xe0 (by omega)]));have hE:=congrArg (fun (q1:List UInt8)=>(.live (Xe 5 kU8 q1):HS)) e1;exact Eq.trans pZ4 hE):p:=h
theorem p2y {p:Prop} (h:p:=by have e1:(([]:List UInt8):List UInt8)=(rdY rest e most):=(by (rw [hy.1];done));have hE:=congrArg (fun (q1:List UInt8)=>(.live (Xe 5 kU8 q1):HS)) e1;exact Eq.trans pZ4 hE):p:=h
theorem p2z {p:Prop} (h:p:=by exact kk4 (kk8 trivial)):p:=h
theorem pZ30 {p:Prop} (h:p:=by have e1:((W2 f u s b).X4:Int)=s:=pn;have e2:((W2 f u s b).X9:List UInt8)=b:=pn;have e3:((Ix f u s b):Int)=0:=pn;have hE:=congr pq e3;exact hE):p:=h
theorem pZ31 {p:Prop} (h:p:=by have e1:(b++(Yw (Ho n) 4):List UInt8)=b++W3 n:=(by rfl);have hE:=congrArg (fun (q1:List UInt8)=>(.live (Xe 5 kU8 q1):HS)) e1;exact Eq.trans pZ4 hE):p:=h
theorem p32 {p:Prop} (h:p:=by have e1:(b++(Yw (u64 n) 8):List UInt8)=b++Ym n:=(by rfl);have hE:=congrArg (fun (q1:List UInt8)=>(.live (Xe 5 kU8 q1):HS)) e1;exact Eq.trans pZ4 hE):p:=h
theorem p33 {p:Prop} (h:p:=by have e1:((b++W5 l).length:Nat)=(b++Ul l k).length:=(by (rw [Xe0 (by omega)]));have hE:=congrArg (fun (q1:Nat)=>(Y3 0 kU8 0 q1:AV)) e1;exact hE):p:=h
theorem p34 {p:Prop} (h:p:=by have e1:((decide (a=b)):Bool)=false:=(by exact dF (fun e=>by have h9:a.length≠b.length:=(by omega);exact h9 (by rw [e])));have hE:=cB e1;exact hE):p:=h
theorem p35 {p:Prop} (h:p:=by (simp [U8,X4k, *];done)):p:=h
theorem p36 {p:Prop} (h:p:=by exact cI (by exact if_neg (fun h9=>by obtain ⟨q1,q2,q3,q4,q5,q6,q7,q8,q9,q10⟩:=(Wg m).1 h9;exact q7 ⟨(by exact nbB ‹_›),by assumption⟩))):p:=h
theorem p37 {p:Prop} (h:p:=by have e1:((rdY (B.drop a) e most).length:Nat)=0:=(by (rw [hy.1];rfl));have hE:=congrArg (fun (q1:Nat)=>(Y3 1 kU8 0 q1:AV)) e1;exact hE):p:=h
theorem p38 {p:Prop} (h:p:=by (rw [Xde ‹_›];done)):p:=h
theorem p39 {p:Prop} (h:p:=by exact congrArg (fun (q1:Nat) (q2:Int)=>([pv 2 0,aa,aa,pv 5 0,pv 6 0,aa,Y3 9 (X0 false) 0 q1,vI q2,(Zfb k)]:List AV)) e1):p:=h
theorem p3a {p:Prop} (h:p:=by exact congrArg (fun (q1:Nat) (q2:Int)=>([pv 2 0,aa,aa,pv 5 0,pv 6 0,aa,Y3 9 (X0 false) 0 q1,vI q2,(Zei k)]:List AV)) e1):p:=h
theorem p3b {p:Prop} (h:p:=by exact X6p (X6o trivial)):p:=h
theorem p3c {p:Prop} (h:p:=by exact congrArg (fun (q1:List UInt8)=>(slV false false kU8 q1:AV)) (by exact (if_neg (fun h9=>by have h8:=chk0.2 h9;contradiction)))):p:=h
theorem p3d {p:Prop} (h:p:=by exact kk2 (kk4 trivial)):p:=h
theorem p3e {p:Prop} (h:p:=by exact congrArg (fun (q1:List Y7)=>(.tup [.one (.d (dsl false false (Y0 false) q1)),.one (dI 0)]:AV)) (by rfl)):p:=h
theorem p3f {p:Prop} (h:p:=by (rw [hrl,Xag,Xah (by exact nbB ‹_›)];done)):p:=h
theorem p3g {p:Prop} (h:p:=by have e1:(rdI (B.drop a) e:Int)=0:=(by (simp only [rdI];(rw [if_neg hr.1];done)));have hE:=cI e1;exact hE):p:=h
theorem p3h {p:Prop} (h:p:=by exact Nat.le_trans (Nat.pow_le_pow_right (by decide) h) (by decide)):p:=h
theorem p3i {p:Prop} (h:p:=by have e1:((decide (a=b)):Bool)=false:=(by exact dF (fun e=>h9 (by rw [e])));have hE:=cB e1;exact hE):p:=h
theorem p3j {p:Prop} (h:p:=by have e1:((decide (inM s f n lo hi)):Bool)=false:=(by (simp [inM, *];done));have hE:=cB e1;exact hE):p:=h
theorem p3k {p:Prop} (h:p:=by decide +kernel):p:=h
theorem p3l {p:Prop} (h:p:=by exact cI (by exact if_neg (fun h9=>by (rcases h9.2.2.2.2.2.2.2.2.2.2.2.1 with h8|h8<;>exact absurd h8 ‹_›)))):p:=h
theorem p3m {p:Prop} (h:p:=by (rw [crt_0,List.append_nil];done)):p:=h
theorem p3n {p:Prop} (h:p:=by have e1:((decide (Vl f s)):Bool)=(decide (s<(3*f+1))):=p1f;have hE:=cB e1;exact hE):p:=h
theorem p3o {p:Prop} (h:p:=by have e1:((decide (Yr u s)):Bool)=(decide ((s-1000)<u)):=p1f;have hE:=cB e1;exact hE):p:=h
theorem p3p {p:Prop} (h:p:=by exact congrArg (fun (q1:Nat) (q2:Int)=>([aa,pv 0 0,aa,pv 1 0,aa,Y3 4 kU8 0 q1,vI q2]:List AV)) e1):p:=h
theorem p3q {p:Prop} (h:p:=by exact congrArg (fun (q1:Nat) (q2:Int)=>([aa,pv 0 0,aa,pv 1 0,aa,Y3 2 kU8 0 q1,vI q2]:List AV)) e1):p:=h
theorem p3r {p:Prop} (h:p:=by have e1:((decide (U8 f u s)):Bool)=(decide (Yr u s)):=p35;have hE:=cB e1;exact hE):p:=h
theorem p3s {p:Prop} (h:p:=by (rw [Vx,show rdC rest e 15=k by omega];done)):p:=h
theorem p3t {p:Prop} (h:p:=by exact congrArg (fun (q1:Int) (q2:Bool)=>(.tup [.one (.d (.val (.int .u64 q1))),.one (dB q2)]:AV)) e1):p:=h
theorem p3u {p:Prop} (h:p:=by exact cB (by exact (dT (Eq.refl _)).symm)):p:=h
theorem p3v {p:Prop} (h:p:=by (rw [Hq,show rdC rest e 8=k by omega];done)):p:=h
theorem p3w {p:Prop} (h:p:=by (rw [Vx,show rdC r e 15=k by omega];done)):p:=h
theorem p3x {p:Prop} (h:p:=by (rw [Xf0 he (by omega)])):p:=h
theorem p3y {p:Prop} (h:p:=by (rw [Jp hji hbt];(simp only [Vw,Jl,List.append_assoc];rw [Xeb (by omega)]))):p:=h
theorem p3z {p:Prop} (h:p:=by (rw [IntKind.wrap_u64];omega)):p:=h
theorem p40 {p:Prop} (h:p:=by exact congrArg (fun (q1:List Y7)=>(slV false false (Y0 false) q1:AV)) (by rfl)):p:=h
theorem p41 {p:Prop} (h:p:=by (rw [ho9];done)):p:=h
theorem p42 {p:Prop} (h:p:=by (rw [hke];done)):p:=h
theorem p43 {p:Prop} (h:p:=by (rw [hc9];done)):p:=h
theorem p44 {p:Prop} (h:p:=by exact .inr ⟨by decide,.inr ⟨rfl,(kk2 (kk4 ⟨pZ6,⟨.inl rfl,(kk4 trivial)⟩⟩))⟩⟩):p:=h
theorem p45 {p:Prop} (h:p:=by have e1:((decide (Vl f s)):Bool)=false:=p1f;have hE:=cB e1;exact hE):p:=h
theorem p46 {p:Prop} (h:p:=by have e1:((decide (U8 f u s)):Bool)=true:=p35;have hE:=cB e1;exact hE):p:=h
theorem p47 {p:Prop} (h:p:=by have e1:((decide (Yr u s)):Bool)=false:=p1f;have hE:=cB e1;exact hE):p:=h
theorem p48 {p:Prop} (h:p:=by exact kk2 ⟨pZ9,⟨.inl rfl,(kk8 trivial)⟩⟩):p:=h
theorem p49 {p:Prop} (h:p:=by exact congrArg (fun (q1:Int) (q2:List UInt8)=>(.live (.box 48 [dI q1,dU q2]):HS)) e1):p:=h
theorem p4a {p:Prop} (h:p:=by exact kk8 (X6o trivial)):p:=h
theorem p4b {p:Prop} (h:p:=by (rw [hst];simp only [Jl,List.append_assoc];rw [Xeb (by omega)];done)):p:=h
theorem p4c {p:Prop} (h:p:=by (rw [rfA_no hr.1])):p:=h
theorem p4d {p:Prop} (h:p:=by exact congrArg (fun (q1:List UInt8)=>(slV false false kU8 q1:AV)) (by rfl)):p:=h
theorem p4e {p:Prop} (h:p:=by (rw [hrl,Xde ‹_›];done)):p:=h
theorem p4f {p:Prop} (h:p:=by exact hr.2.symm):p:=h
end Go.Proofs.Ythnefnknoahbkaa.Q
