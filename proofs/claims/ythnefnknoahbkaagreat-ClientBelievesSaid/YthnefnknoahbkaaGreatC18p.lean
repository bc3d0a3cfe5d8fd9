import Derived.Test.YthnefnknoahbkaaGreatK18
namespace Go.Proofs.YthnefnknoahbkaaGreat.Q
open Go Go.RowKit
set_option linter.unusedVariables false
theorem pZ0 {p:Prop} (h:p:=by have hE:=congrArg (fun (qq0:RdM)=>([.live (.box 83 [(Z8k B),dI (((Wr B qq0.rest:Nat):Int)),dI (qq0.e)]),.live (.box 42 [dI (qq0.m.X2),dI (qq0.m.Xr),dI (qq0.m.Xy),dI (qq0.m.Xa),dI (qq0.m.Xw),dS (qq0.m.Xb),dU (qq0.m.Xi),dI (qq0.m.X1.Xt),dI (qq0.m.X1.Xn),.d (dsl false false (kE false) (qq0.m.Xe)),.d (dsl false false (kE false) (qq0.m.Xp)),Z8h]),(Z8o h),Z8p]:List HS)) hst;(try dsimp only at hE);exact hE):p:=h
theorem pZ1 {p:Prop} (h:p:=by exact .inr ⟨by decide,by decide,(.inl rfl)⟩):p:=h
theorem pZ2 {p:Prop} (h:p:=by kernel_rfl):p:=h
theorem pZ3 {p:Prop} (h:p:=by have hE:=congrArg (fun (qq0:RdM)=>([Z6h,Z6u,.live (.box 162 [dU (qq0.rest),dI (qq0.e)]),.live (.box 42 [dI (qq0.m.X2),dI (qq0.m.Xr),dI (qq0.m.Xy),dI (qq0.m.Xa),dI (qq0.m.Xw),dS (qq0.m.Xb),dU (qq0.m.Xi),dI (qq0.m.X1.Xt),dI (qq0.m.X1.Xn),.d (dsl false false (kE false) (qq0.m.Xe)),.d (dsl false false (kE false) (qq0.m.Xp)),.d (dsl false false (kC false) (qq0.m.X5))]),(Z6q b)]:List HS)) hst;(try dsimp only at hE);exact hE):p:=h
theorem pZ4 {p:Prop} (h:p:=by intro b hb;simp only [List.mem_cons,List.not_mem_nil,or_false] at hb;rcases hb with rfl;exact ⟨_,List.Mem.head _⟩):p:=h
theorem pZ5 {p:Prop} (h:p:=by rw [IntKind.wrap_i64];omega):p:=h
theorem pZ6 {p:Prop} (h:p:=by exact .inr ⟨rfl,rfl,rfl,(fun h=>by cases h),rfl,rfl,Nat.le_of_eq (Nat.zero_add _),fun i j _=>by rw [Nat.zero_add]⟩):p:=h
theorem pZ7 {p:Prop} (h:p:=by repeat first|assumption|exact List.suffix_refl _|apply sufR|apply sufY|apply sufE|apply sufF|apply sufG|apply sufL|apply sufC|apply sufM):p:=h
theorem pZ8 {p:Prop} (h:p:=by have hE:=cg2 (fun (qq0:aM) (qq1:Int)=>(.tup [.agg [dI (qq0.X2),dI (qq0.Xr),dI (qq0.Xy),dI (qq0.Xa),dI (qq0.Xw),dS (qq0.Xb),dU (qq0.Xi),dI (qq0.X1.Xt),dI (qq0.X1.Xn),.d (dsl false false (kE false) (qq0.Xe)),.d (dsl false false (kE false) (qq0.Xp)),.d (dsl false false (kC false) (qq0.X5))],.one (dI (qq1))]:AV)) (show Y2 b=_ from hd9.1) hd9.2;(try dsimp only at hE);exact hE):p:=h
theorem pZ9 {p:Prop} (h:p:=by first|rfl|(rw [hwy];done)|(rw [hwn];done)|(rw [hwy])|(rw [hwn])|(rw [hwy];rfl)):p:=h
theorem pa {p:Prop} (h:p:=by exact .inr ⟨rfl,(kk2 (kk4 ⟨(.inr ⟨rfl,rfl,rfl⟩),(kk2 ⟨(.inr ⟨rfl,rfl,rfl⟩),⟨(.inr ⟨rfl,rfl,rfl⟩),⟨(.inr ⟨rfl,rfl,rfl⟩),trivial⟩⟩⟩)⟩))⟩):p:=h
theorem pb {p:Prop} (h:p:=by exact cI (by exact if_neg (fun h9=>by obtain ⟨q1,q2,q3,q4,q5,q6,q7,q8,q9,q10⟩:=(Wg m).1 h9;exact absurd q10 ‹_›))):p:=h
theorem pc {p:Prop} (h:p:=by exact gc2 (show Y2 b=_ from hd9.1) (by exact hd9.2) (fun qq0 (q13:Int)=>(.tup [.agg [dI (qq0.X2),dI (qq0.Xr),dI (qq0.Xy),dI (qq0.Xa),dI (qq0.Xw),dS (qq0.Xb),dU (qq0.Xi),dI (qq0.X1.Xt),dI (qq0.X1.Xn),.d (dsl false false (kE false) (qq0.Xe)),.d (dsl false false (kE false) (qq0.Xp)),.d (dsl false false (kC false) (qq0.X5))],.one (dI q13)]:AV))):p:=h
theorem pd {p:Prop} (h:p:=by exact .inr ⟨by decide,.inl rfl⟩):p:=h
theorem pe {p:Prop} (h:p:=by exact .inr ⟨trivial,(And.intro (Xd1 Xci) trivial)⟩):p:=h
theorem pf {p:Prop} (h:p:=by exact Nat.le_of_ble_eq_true rfl):p:=h
theorem pg {p:Prop} (h:p:=by exact Nat.le_of_eq (Nat.zero_add _)):p:=h
theorem ph {p:Prop} (h:p:=by exact cI (by exact if_neg (fun h9=>by obtain ⟨q1,q2,q3,q4,q5,q6,q7,q8,q9,q10⟩:=(Wg m).1 h9;exact q9 ⟨(by exact nbB ‹_›),by assumption⟩))):p:=h
theorem pi {p:Prop} (h:p:=by exact congrArg (fun (q1:Int)=>([slV tb nb kU8 b,aa,pv 0 0,aa,pv 1 0,pv 3 0,pv 4 0,(Z6m b),vI q1]:List AV)) (by rfl)):p:=h
theorem pj {p:Prop} (h:p:=by (rw [msg_no18 ‹_›];done)):p:=h
theorem pk {p:Prop} (h:p:=by exact Nat.le_trans (by omega) (by decide:64≤_)):p:=h
theorem pZl {p:Prop} (h:p:=by exact .inr ⟨by decide,by decide,(.inr ⟨rfl,⟨.inl rfl,(kk2 ⟨(.inr rfl),trivial⟩)⟩⟩)⟩):p:=h
theorem pm {p:Prop} (h:p:=by (rw [msg_318 ‹_›];done)):p:=h
theorem pn {p:Prop} (h:p:=by exact congrArg (fun (q1:Bool)=>([aa,aa,pv 11 0,pv 12 0,vB false,aa,aa,aa,aa,aa,aa,aa,aa,aa,aa,aa,aa,aa,aa,aa,aa,aa,aa,aa,aa,aa,aa,aa,aa,aa,aa,aa,aa,aa,aa,aa,aa,aa,aa,aa,aa,aa,aa,aa,aa,aa,aa,aa,aa,aa,vB q1]:List AV)) (by exact decide_eq_decide.2 (by unfold Vy;omega))):p:=h
theorem po {p:Prop} (h:p:=by (simp [Hb,W1,Wx,X37,zE, *];done)):p:=h
theorem pp {p:Prop} (h:p:=by (rw [hst];done)):p:=h
theorem pq {p:Prop} (h:p:=by exact .inr ⟨by decide,by decide,(.inr ⟨rfl,(kk2 (kk4 ⟨(.inr rfl),⟨.inl rfl,trivial⟩⟩))⟩)⟩):p:=h
theorem pr {p:Prop} (h:p:=by exact congr (congrArg (fun (q1:Int) (q2:List UInt8) (q3:Int)=>(.tup [.agg [dI q1,dU q2],.one (dI q3)]:AV)) e1) e2):p:=h
theorem pZs {p:Prop} (h:p:=by exact congrArg (fun (q1:List UInt8) (q2:Int)=>(.live (.box 162 [dU q1,dI q2]):HS)) e1):p:=h
theorem pt {p:Prop} (h:p:=by have e1:(((Vo (mput told e.f_Signer (Y2 e.X7).X1) bn (seen++[bn.getD j 0]) (Y2 e.X7).X1:Nat):Int):Int)=(((Vo (mput told e.f_Signer (Y2 e.X7).X1) bn seen (Y2 e.X7).X1)+1:Nat):Int):=(by (rw [hcs];done));have hE:=congrArg (fun (q1:Int)=>([pv 2 0,aa,aa,pv 6 0,pv 7 0,aa,vI q1,aa,aa,aa,aa,aa,aa,aa,aa,aa,aa,aa,aa,aa,aa,aa,aa,aa,aa,aa,aa,aa,aa,aa,aa,aa,aa,aa,aa,aa,aa,aa,aa,aa,aa,aa,aa,aa,aa,aa,aa,aa,aa,aa,aa,aa,aa,aa,aa,aa,aa,aa,aa,aa,aa,aa,aa,aa,aa,aa,aa,aa,aa,aa,aa,aa,aa,aa,aa,aa,aa,aa,aa,aa,pv 8 0]:List AV)) e1;exact hE):p:=h
theorem pu {p:Prop} (h:p:=by have e1:(((Vo (mput told e.f_Signer (Y2 e.X7).X1) bn (seen++[bn.getD j 0]) (Y2 e.X7).X1:Nat):Int):Int)=((Vo (mput told e.f_Signer (Y2 e.X7).X1) bn seen (Y2 e.X7).X1:Nat):Int):=(by (rw [hcs];done));have hE:=congrArg (fun (q1:Int)=>([pv 2 0,aa,aa,pv 6 0,pv 7 0,aa,vI q1,aa,aa,aa,aa,aa,aa,aa,aa,aa,aa,aa,aa,aa,aa,aa,aa,aa,aa,aa,aa,aa,aa,aa,aa,aa,aa,aa,aa,aa,aa,aa,aa,aa,aa,aa,aa,aa,aa,aa,aa,aa,aa,aa,aa,aa,aa,aa,aa,aa,aa,aa,aa,aa,aa,aa,aa,aa,aa,aa,aa,aa,aa,aa,aa,aa,aa,aa,aa,aa,aa,aa,aa,aa,pv 8 0]:List AV)) e1;exact hE):p:=h
theorem pZv {p:Prop} (h:p:=by (simp [Y3,okK, *];done)):p:=h
theorem pw {p:Prop} (h:p:=by exact congr (congr (congr (congr (congr (congr (congr (congr (congr (congr (congrArg (fun (q1:Int) (q2:Int) (q3:Int) (q4:Int) (q5:Int) (q6:List UInt8) (q7:List UInt8) (q8:Int) (q9:Int) (q10:List aE) (q11:List aE) (q12:List aC)=>([(Ziy f u),(Ziz rows),(Zj1 st done),(Zj2 told),(Zj3 done),(Zj4 f u L),(Zj5 L),(Zj6 st ws done E),(Zj7 ws),(Zj3 done),(Zj8 E),Zja,(Zjb y),.live (.box 42 [dI q1,dI q2,dI q3,dI q4,dI q5,dS q6,dU q7,dI q8,dI q9,.d (dsl false false (kE false) q10),.d (dsl false false (kE false) q11),.d (dsl false false (kC false) q12)])]:List HS)) e1) e2) e3) e4) e5) e6) e7) e8) e9) e10) e11):p:=h
theorem px {p:Prop} (h:p:=by exact congr (congr (congr (congr (congr (congr (congr (congr (congr (congr (congrArg (fun (q1:Int) (q2:Int) (q3:Int) (q4:Int) (q5:Int) (q6:List UInt8) (q7:List UInt8) (q8:Int) (q9:Int) (q10:List aE) (q11:List aE) (q12:List aC)=>([(Zhn f u),(Zho rows),(Zhr st done),(Zhs told),(Zht done),(Zhu f u L),(Zhw L),(Zi0 st ws done E),(Zi2 ws),(Zht done),(Zi3 E),Zi7,(Zi8 y),.live (.box 42 [dI q1,dI q2,dI q3,dI q4,dI q5,dS q6,dU q7,dI q8,dI q9,.d (dsl false false (kE false) q10),.d (dsl false false (kE false) q11),.d (dsl false false (kC false) q12)])]:List HS)) e1) e2) e3) e4) e5) e6) e7) e8) e9) e10) e11):p:=h
theorem py {p:Prop} (h:p:=by exact trivial):p:=h
theorem pz {p:Prop} (h:p:=by exact congr (congr (congr (congr (congr (congr (congr (congr (congr (congr (congrArg (fun (q1:Int) (q2:Int) (q3:Int) (q4:Int) (q5:Int) (q6:List UInt8) (q7:List UInt8) (q8:Int) (q9:Int) (q10:List aE) (q11:List aE) (q12:List aC)=>([(Zgi f u),(Zgj rows),(Zgl st done),(Zgm told),(Zgn done),(Zgo f u L),(Zgq L),(Zgr st ws done RE),(Zgs ws),(Zgn done),Zgw,(Zgx y),.live (.box 42 [dI q1,dI q2,dI q3,dI q4,dI q5,dS q6,dU q7,dI q8,dI q9,.d (dsl false false (kE false) q10),.d (dsl false false (kE false) q11),.d (dsl false false (kC false) q12)])]:List HS)) e1) e2) e3) e4) e5) e6) e7) e8) e9) e10) e11):p:=h
theorem F6 {p:Prop} (h:p:=by (simp [Xg,okK, *];done)):p:=h
theorem pZ11 {p:Prop} (h:p:=by have e1:(told:List (Int×Xd))=(Jy (V5 f u rows) f id st told e):=(by exact (Xep hx).symm);have hE:=congrArg (fun (q1:List (Int×Xd))=>(.live (mpK (W8 .i64) (Xj false) q1):HS)) e1;exact Eq.trans pZ2 hE):p:=h
theorem pZ12 {p:Prop} (h:p:=by have e1:((Yy L (d.getD i Xq) (j+1)):List Int)=(Yy L (d.getD i Xq) j):=pZ9;have hE:=congrArg (fun (q1:List Int)=>([(Zld x),(Zls L),(Zmy s d),(Zmz t),(Zlv d),(Zlw x L),(Zlx L),(Zn2 s d w E),(Zn3 w),(Zlv d),(Zn4 E),Zlk,.live (Xc 3 (Y8 .i64) q1)]:List HS)) e1;exact hE):p:=h
theorem pZ13 {p:Prop} (h:p:=by have e1:(ws:List X6)=(Um (Wf f u L) f id st ws e):=(by exact (X31 hx).symm);have hE:=congrArg (fun (q1:List X6)=>(.live (Xc 117 (X0 false) q1):HS)) e1;exact Eq.trans pZ2 hE):p:=h
theorem pZ14 {p:Prop} (h:p:=by have e1:(rows:List (Xv×Bool))=(Wq (Yz f u L y st)):=(by (rw [hrl,Fd hnr];done));have hE:=congrArg (fun (q1:List (Xv×Bool))=>(.live (mpK X9 Y6 q1):HS)) e1;exact Eq.trans pZ2 hE):p:=h
theorem pZ15 {p:Prop} (h:p:=by have e1:((Yy L (d.getD i Xq) (j+1)):List Int)=(Yy L (d.getD i Xq) j):=pZ9;have hE:=congrArg (fun (q1:List Int)=>([(Zld x),(Zls L),(Zlu s d),Zlg,(Zlv d),(Zlw x L),(Zlx L),(Zlz s R d),Zlj,(Zlv d),Zlk,.live (Xc 3 (Y8 .i64) q1)]:List HS)) e1;exact hE):p:=h
theorem pZ16 {p:Prop} (h:p:=by have e1:((Yy L (d.getD i Xq) (j+1)).length:Nat)=(Yy L (d.getD i Xq) j).length:=pZ9;have hE:=congrArg (fun (q1:Nat)=>([aa,aa,aa,aa,aa,pv 11 0,aa,(Zmb d),(Zmc i),Xx 12 (Y8 .i64) 0 q1,(Zmo j)]:List AV)) e1;exact hE):p:=h
theorem pZ17 {p:Prop} (h:p:=by have e1:((Yy L (d.getD i Xq) (j+1)).length:Nat)=(Yy L (d.getD i Xq) j).length:=pZ9;have hE:=congrArg (fun (q1:Nat)=>([aa,aa,aa,aa,aa,pv 10 0,aa,(Zmb d),(Zmc i),Xx 11 (Y8 .i64) 0 q1,(Zmo j)]:List AV)) e1;exact hE):p:=h
theorem pZ18 {p:Prop} (h:p:=by have e1:(ws.length:Nat)=(Um (Wf f u L) f id st ws e).length:=(by (rw [X31 hx];done));have hE:=congrArg (fun (q1:Nat)=>(.live (.box 71 [.ptr 0 0,(Zeg id),(Zeh st),dB true,(Zei E),(Zej E),.own 7 (X0 false).sz 0 q1,(Zek done)]):HS)) e1;exact Eq.trans pZ2 hE):p:=h
theorem pZ19 {p:Prop} (h:p:=by have e1:(L:List aE)=(Yz f u L y st):=(by (rw [Fd hnr];done));have hE:=congrArg (fun (q1:List aE)=>(.live (Xc 53 (kE false) q1):HS)) e1;exact Eq.trans pZ2 hE):p:=h
theorem p1a {p:Prop} (h:p:=by exact .inr ⟨rfl,rfl,rfl⟩):p:=h
theorem p1b {p:Prop} (h:p:=by exact fun h=>by cases h):p:=h
theorem p1c {p:Prop} (h:p:=by exact cI (by exact if_neg (fun h9=>by exact absurd h9.2.2.2.2.2.2.2.2.2.2.2.2.2 ‹_›))):p:=h
theorem p1d {p:Prop} (h:p:=by have e1:(((Vo (mput told e.f_Signer (Y2 e.X7).X1) bn [] (Y2 e.X7).X1:Nat):Int):Int)=0:=(by (rw [cntS_0];rfl));have hE:=congrArg (fun (q1:Int)=>([pv 2 0,aa,aa,pv 6 0,pv 7 0,aa,vI q1,aa,aa,aa,aa,aa,aa,aa,aa,aa,aa,aa,aa,aa,aa,aa,aa,aa,aa,aa,aa,aa,aa,aa,aa,aa,aa,aa,aa,aa,aa,aa,aa,aa,aa,aa,aa,aa,aa,aa,aa,aa,aa,aa,aa,aa,aa,aa,aa,aa,aa,aa,aa,aa,aa,aa,aa,aa,aa,aa,aa,aa,aa,aa,aa,aa,aa,aa,aa,aa,aa,aa,aa,aa,pv 8 0]:List AV)) e1;exact hE):p:=h
theorem p1e {p:Prop} (h:p:=by exact congrArg (fun (q1:Nat) (q2:Int)=>([aa,pv 0 0,aa,pv 1 0,aa,Xx 3 kU8 0 q1,vI q2]:List AV)) e1):p:=h
theorem p1f {p:Prop} (h:p:=by have e1:((Wq (W0 f u L y st)):List (Xv×Bool))=(Wq (Yz f u L y st)):=(by (rw [Fc hrc];done));have hE:=congrArg (fun (q1:List (Xv×Bool))=>(.live (mpK X9 Y6 q1):HS)) e1;exact Eq.trans pZ2 hE):p:=h
theorem p1g {p:Prop} (h:p:=by have e1:(told:List (Int×Xd))=(Vi f u L st told y):=(by exact (Xbq hnr).symm);have hE:=congrArg (fun (q1:List (Int×Xd))=>(.live (mpK (W8 .i64) (Xj false) q1):HS)) e1;exact Eq.trans pZ2 hE):p:=h
theorem p1h {p:Prop} (h:p:=by exact .inr ⟨(And.intro (X3j (nn:=false) X18) (And.intro trivial trivial)),(And.intro (And.intro trivial (And.intro trivial (And.intro trivial trivial))) (And.intro (X3f X2l) (And.intro (And.intro trivial (And.intro trivial (And.intro trivial (And.intro trivial (And.intro trivial (And.intro trivial trivial)))))) (And.intro (X3f E6) (And.intro (Xd1 Ix) (And.intro (And.intro trivial (And.intro (X3j (nn:=false) Xci) trivial)) trivial))))))⟩):p:=h
theorem p1i {p:Prop} (h:p:=by have e1:(ws:List X6)=(Ve f u L st ws y):=(by exact (X1f hnr).symm);have hE:=congrArg (fun (q1:List X6)=>(.live (Xc 117 (X0 false) q1):HS)) e1;exact Eq.trans pZ2 hE):p:=h
theorem p1j {p:Prop} (h:p:=by exact cI (by exact if_neg (fun h9=>by obtain ⟨q1,q2,q3,q4,q5,q6,q7,q8,q9,q10⟩:=(Wg m).1 h9;exact q8 ⟨(by exact nbB ‹_›),by assumption⟩))):p:=h
theorem p1k {p:Prop} (h:p:=by (simp [Hb,W1,Ij,zE, *];done)):p:=h
theorem p1l {p:Prop} (h:p:=by (simp [Wb,Yg,U7,primaryA,orgA, *];done)):p:=h
theorem p1m {p:Prop} (h:p:=by exact congrArg (fun (q1:List X6)=>([(Zfg f u L),(Zfh L),(Zfm id st E ws done),(Zfn ws),(Zfo done),(Zfp e),(Zfs e),.live (Xc 117 (X0 false) q1)]:List HS)) (by exact ho9)):p:=h
theorem p1n {p:Prop} (h:p:=by exact congrArg (fun (q1:List X6)=>([(Zee f u L),(Zef L),(Zel id st E ws done),(Zen ws),(Zeo done),(Zeq e),(Zev e),.live (Xc 117 (X0 false) q1)]:List HS)) (by exact ho9)):p:=h
theorem p1o {p:Prop} (h:p:=by rw [List.take_length]):p:=h
theorem p1p {p:Prop} (h:p:=by have e1:((W0 f u L y st):List aE)=(Yz f u L y st):=(by (rw [Fc hrc];done));have hE:=congrArg (fun (q1:List aE)=>(.live (Xc 53 (kE false) q1):HS)) e1;exact Eq.trans pZ2 hE):p:=h
theorem p1q {p:Prop} (h:p:=by have e1:((((rfA B a e 4 (Yc most ((B.drop a).take 4)))+(rdC (B.drop a) e most):Nat):Int):Int)=((X4i B a e most:Nat):Int):=(by omega);have e2:((rdE (B.drop a) e 4 (Yc most ((B.drop a).take 4))):Int)=(Jb (B.drop a) e most):=(by omega);have hE:=congr (congrArg (fun (q1:Int) (q2:Int)=>(.live (.box 83 [(Z27 B),dI q1,dI q2]):HS)) e1) e2;exact Eq.trans pZ2 hE):p:=h
theorem p1r {p:Prop} (h:p:=by exact congr (congrArg (fun (q1:List (Xv×Bool)) (q2:Nat) (q3:List aE)=>([(Ziy f u),.live (mpK X9 Y6 q1),(Zj1 st done),(Zj2 told),(Zj3 done),.live (.box 49 [dB true,dI f,dI u,.own 15 (kE false).sz 0 q2]),.dead,(Zj6 st ws done E),(Zj7 ws),(Zj3 done),(Zj8 E),Zja,(Zjb y),(Zjf st y),(Zjo st y),.live (Xc 53 (kE false) q3)]:List HS)) e1) e2):p:=h
theorem p1s {p:Prop} (h:p:=by exact congr (congrArg (fun (q1:List (Xv×Bool)) (q2:Nat) (q3:List aE)=>([(Zhn f u),.live (mpK X9 Y6 q1),(Zhr st done),(Zhs told),(Zht done),.live (.box 49 [dB true,dI f,dI u,.own 15 (kE false).sz 0 q2]),.dead,(Zi0 st ws done E),(Zi2 ws),(Zht done),(Zi3 E),Zi7,(Zi8 y),(Zii st y),(Zir st y),.live (Xc 53 (kE false) q3)]:List HS)) e1) e2):p:=h
theorem p1t {p:Prop} (h:p:=by have e1:(((rfA B a e 4 (Yc most ((B.drop a).take 4)):Nat):Int):Int)=((X4i B a e most:Nat):Int):=(by omega);have e2:((rdE (B.drop a) e 4 (Yc most ((B.drop a).take 4))):Int)=(Jb (B.drop a) e most):=(by omega);have hE:=congr (congrArg (fun (q1:Int) (q2:Int)=>(.live (.box 83 [(Z27 B),dI q1,dI q2]):HS)) e1) e2;exact Eq.trans pZ2 hE):p:=h
theorem p1u {p:Prop} (h:p:=by exact congr (congrArg (fun (q1:List (Xv×Bool)) (q2:Nat) (q3:List aE)=>([(Zgi f u),.live (mpK X9 Y6 q1),(Zgl st done),(Zgm told),(Zgn done),.live (.box 49 [dB true,dI f,dI u,.own 14 (kE false).sz 0 q2]),.dead,(Zgr st ws done RE),(Zgs ws),(Zgn done),Zgw,(Zgx y),(Zh6 st y),(Zhf st y),.live (Xc 53 (kE false) q3)]:List HS)) e1) e2):p:=h
theorem p1v {p:Prop} (h:p:=by exact gc2 (show (Xg k)=⟨true,true,false,true,false,false,false,false,false⟩ from F6) (show ((decide (okK k)):Bool)=true from F6) (fun qq0 (q10:Bool)=>(.tup [.agg [dB (qq0.Xr),dB (qq0.Xy),dB (qq0.Xa),dB (qq0.Xb),dB (qq0.Xi),dB (qq0.X1),dB (qq0.Xe),dB (qq0.Xp),dB (qq0.X5)],.one (dB q10)]:AV))):p:=h
theorem p1w {p:Prop} (h:p:=by have e1:(((Hk (mput told e.f_Signer (Y2 e.X7).X1) (Y2 e.X7).X1:Nat):Int):Int)=((Vo (mput told e.f_Signer (Y2 e.X7).X1) bn seen (Y2 e.X7).X1:Nat):Int):=(by (rw [cntS_all hbn2 hall]));have hE:=congrArg (fun (q1:Int)=>([pv 2 0,aa,aa,pv 6 0,pv 7 0,aa,vI q1]:List AV)) e1;exact hE):p:=h
theorem p1x {p:Prop} (h:p:=by exact congrArg (fun (q1:List Nat)=>([(Zd1 f u),(Zd2 rows),(Zd3 id st done),(Zdd told e bn clk),(Zd4 done),(Zd5 E),(Zd8 te e),(Zd9 e),.live (.it 3 clk q1)]:List HS)) (by rfl)):p:=h
theorem p1y {p:Prop} (h:p:=by exact congrArg (fun (q1:List Nat)=>([(Zci f u),(Zcj rows),(Zck id st done),(Zct told e bn clk),(Zcl done),(Zcm E),(Zco te e),(Zcp e),.live (.it 3 clk q1)]:List HS)) (by rfl)):p:=h
theorem p1z {p:Prop} (h:p:=by (simp only [List.length_append,List.length_singleton,maxLen];omega)):p:=h
theorem pZ20 {p:Prop} (h:p:=by exact cI (by exact if_neg (fun h9=>by (rcases h9.2.2.2.2.2.2.2.2.2.2.2.2.1 with h8|h8<;>exact absurd h8 ‹_›)))):p:=h
theorem F5 {p:Prop} (h:p:=by exact congrArg some pZ2):p:=h
theorem pZ22 {p:Prop} (h:p:=by exact congrArg (fun (q1:Bool)=>([aa,aa,pv 10 0,pv 11 0,vB false,aa,aa,aa,aa,aa,aa,aa,aa,aa,aa,aa,aa,aa,aa,aa,aa,aa,aa,aa,aa,aa,aa,aa,aa,aa,aa,aa,aa,aa,aa,aa,aa,aa,aa,aa,aa,aa,aa,aa,aa,aa,aa,aa,aa,aa,vB q1]:List AV)) (by exact decide_eq_decide.2 (by unfold Vy;omega))):p:=h
theorem X4k {p:Prop} (h:p:=by (rw [Jk hji hbt];rfl)):p:=h
theorem pZ24 {p:Prop} (h:p:=by have e1:(l:List aE)=(Wx f u l s b):=po;have hE:=congrArg (fun (q1:List aE)=>(.live (Xc 53 (kE false) q1):HS)) e1;exact Eq.trans pZ2 hE):p:=h
theorem pZ25 {p:Prop} (h:p:=by have e1:(ws.length:Nat)=(Um (Wf f u L) f id st ws e).length:=(by (rw [X31 hx];done));have hE:=congrArg (fun (q1:Nat)=>(.live (.box 71 [.ptr 0 0,(Zeg id),(Zeh st),dB true,(Zei E),(Zej E),.own 6 (X0 false).sz 0 q1,(Zek done)]):HS)) e1;exact Eq.trans pZ2 hE):p:=h
theorem pZ26 {p:Prop} (h:p:=by have e1:(ws.length:Nat)=(Ve f u L st ws y).length:=(by (rw [X1f hnr];done));have hE:=congrArg (fun (q1:Nat)=>(.live (.box 71 [.ptr 5 0,Zhp,(Zhq st),dB true,(Zhx E),(Zhy E),.own 14 (X0 false).sz 0 q1,(Zhz done)]):HS)) e1;exact Eq.trans pZ2 hE):p:=h
theorem pZ27 {p:Prop} (h:p:=by exact .inr ⟨by decide,.inr ⟨rfl,⟨.inl rfl,⟨pZ6,trivial⟩⟩⟩⟩):p:=h
theorem pZ28 {p:Prop} (h:p:=by have e1:(((rdC (B.drop a) e most:Nat):Int):Int)=0:=(by (simp only [rdC];(rw [if_neg hr.1];rfl)));have hE:=cI e1;exact hE):p:=h
theorem pZ29 {p:Prop} (h:p:=by exact Classical.not_not.1 ‹_›):p:=h
theorem p2a {p:Prop} (h:p:=by have e1:((done++[(Xo.mk 1000 st (Uw (aE.mk y.f_Signer (Yj (Xz y st)))))]):List Xo)=(done++[(Ua st y)]):=(by rfl);have hE:=congrArg (fun (q1:List Xo)=>(.live (Xc 55 (X3 false) q1):HS)) e1;exact Eq.trans pZ2 hE):p:=h
theorem p2b {p:Prop} (h:p:=by exact congrArg (fun (q1:Int) (q2:Int)=>(.live (.box 83 [(Z24 B),dI q1,dI q2]):HS)) e1):p:=h
theorem p2c {p:Prop} (h:p:=by have e1:(done++[(Xo.mk id st (Y2 e.X7).X1)]:List Xo)=(done++[(Xo.mk id st (Uw e))]):=(by rfl);have hE:=congrArg (fun (q1:List Xo)=>(.live (Xc 55 (X3 false) q1):HS)) e1;exact Eq.trans pZ2 hE):p:=h
theorem p2d {p:Prop} (h:p:=by exact congrArg (fun (q1:Int) (q2:Int)=>(.live (.box 83 [dU B,dI q1,dI q2]):HS)) e1):p:=h
theorem p2e {p:Prop} (h:p:=by first|omega|(rw [List.length_append];simp only [List.length_singleton];omega)):p:=h
theorem p2f {p:Prop} (h:p:=by have e1:((W0 f u L y st).length:Nat)=(Yz f u L y st).length:=(by (rw [Fc hrc];done));have hE:=congrArg (fun (q1:Nat)=>(.live (.box 49 [dB true,dI f,dI u,.own 15 (kE false).sz 0 q1]):HS)) e1;exact Eq.trans pZ2 hE):p:=h
theorem p2g {p:Prop} (h:p:=by exact congrArg (fun (q1:Int) (q2:Int)=>(.tup [.one (dI q1),.one (dI q2)]:AV)) e1):p:=h
theorem p2h {p:Prop} (h:p:=by have e1:((b++Uk l (k+1)):List UInt8)=(b++Uk l k)++Vv (l.getD k zE):=(by (rw [X6g (by omega),← List.append_assoc]));have hE:=congrArg (fun (q1:List UInt8)=>([.live (Xc 5 kU8 q1)]:List HS)) e1;exact hE):p:=h
theorem p2i {p:Prop} (h:p:=by exact congrArg (fun (q1:List UInt8)=>([.live (Xc 5 kU8 q1)]:List HS)) (by rfl)):p:=h
theorem p2j {p:Prop} (h:p:=by exact congrArg (fun (q1:Nat)=>(Xx 0 kU8 0 q1:AV)) (by rfl)):p:=h
theorem p2k {p:Prop} (h:p:=by have e1:(b++Wh ((x.length:Nat):Int)++x:List UInt8)=b++Wl x:=(by (simp only [Wl,List.append_assoc]));have hE:=congrArg (fun (q1:List UInt8)=>(.live (Xc 5 kU8 q1):HS)) e1;exact Eq.trans pZ2 hE):p:=h
theorem p2l {p:Prop} (h:p:=by have e1:(L.length:Nat)=(Yz f u L y st).length:=(by (rw [Fd hnr];done));have hE:=congrArg (fun (q1:Nat)=>(.live (.box 49 [dB true,dI f,dI u,.own 13 (kE false).sz 0 q1]):HS)) e1;exact Eq.trans pZ2 hE):p:=h
theorem p2m {p:Prop} (h:p:=by have e1:(L.length:Nat)=(Yz f u L y st).length:=(by (rw [Fd hnr];done));have hE:=congrArg (fun (q1:Nat)=>(.live (.box 49 [dB true,dI f,dI u,.own 12 (kE false).sz 0 q1]):HS)) e1;exact Eq.trans pZ2 hE):p:=h
theorem p2n {p:Prop} (h:p:=by exact gc2 (show (Y3 k)=⟨11,0,1,7⟩ from pZv) (show ((decide (okK k)):Bool)=true from pZv) (fun qq0 (q5:Bool)=>(.tup [.agg [dI (qq0.V4),dI (qq0.W4),dI (qq0.Wm),dI (qq0.V7)],.one (dB q5)]:AV))):p:=h
theorem p2o {p:Prop} (h:p:=by (rw [Xa2 (by exact nbB ‹_›)];done)):p:=h
theorem p2p {p:Prop} (h:p:=by have e1:(b++Ym e.f_Signer++Wl e.X7:List UInt8)=b++Vv e:=(by (rw [Vv,← List.append_assoc]));have hE:=congrArg (fun (q1:List UInt8)=>(.live (Xc 5 kU8 q1):HS)) e1;exact Eq.trans pZ2 hE):p:=h
theorem p2q {p:Prop} (h:p:=by rw [q];rfl):p:=h
theorem p2r {p:Prop} (h:p:=by exact .inr ‹_›):p:=h
theorem p2s {p:Prop} (h:p:=by exact .inl ‹_›):p:=h
theorem p2t {p:Prop} (h:p:=by have e1:((b++Wl x).length:Nat)=(b++Wh ((x.length:Nat):Int)++x).length:=(by (simp only [Wl,List.append_assoc]));have hE:=congrArg (fun (q1:Nat)=>(Xx 1 kU8 0 q1:AV)) e1;exact hE):p:=h
theorem p2u {p:Prop} (h:p:=by have e1:((b++Vv e).length:Nat)=(b++Ym e.f_Signer++Wl e.X7).length:=(by (rw [Vv,← List.append_assoc]));have hE:=congrArg (fun (q1:Nat)=>(Xx 2 kU8 0 q1:AV)) e1;exact hE):p:=h
theorem p2v {p:Prop} (h:p:=by (simp [X1q,X10, *];done)):p:=h
theorem p2w {p:Prop} (h:p:=by (rw [Jk hji hbt];(simp only [Jg,List.append_assoc];done))):p:=h
theorem p2x {p:Prop} (h:p:=by have e1:(rows:List (Xv×Bool))=(Ij f u rows s b):=p1k;have hE:=congrArg (fun (q1:List (Xv×Bool))=>(.live (mpK X9 Y6 q1):HS)) e1;exact Eq.trans pZ2 hE):p:=h
theorem p2y {p:Prop} (h:p:=by have e1:(l.length:Nat)=(Wx f u l s b).length:=po;have hE:=congrArg (fun (q1:Nat)=>(.live (.box 49 [dB true,dI f,dI u,.own 3 (kE false).sz 0 q1]):HS)) e1;exact Eq.trans pZ2 hE):p:=h
theorem p2z {p:Prop} (h:p:=by exact X6i (X6i trivial)):p:=h
theorem pZ30 {p:Prop} (h:p:=by have e1:(([]:List UInt8):List UInt8)=(rdY (B.drop a) e most):=(by exact hy.1.symm);have hE:=congrArg (fun (q1:List UInt8)=>(.live (Xc 5 kU8 q1):HS)) e1;exact Eq.trans pZ2 hE):p:=h
theorem pZ31 {p:Prop} (h:p:=by exact .inr ⟨rfl,⟨.inl rfl,⟨p1a,trivial⟩⟩⟩):p:=h
theorem p32 {p:Prop} (h:p:=by (rw [crt_succ (by omega)];simp only [List.append_assoc];done)):p:=h
theorem p33 {p:Prop} (h:p:=by have e1:((b++Uk l k):List UInt8)=b++Wc l:=(by (rw [Xdu (by omega)]));have hE:=congrArg (fun (q1:List UInt8)=>(.live (Xc 5 kU8 q1):HS)) e1;exact Eq.trans pZ2 hE):p:=h
theorem p34 {p:Prop} (h:p:=by have e1:(([]:List UInt8):List UInt8)=(rdY rest e most):=(by (rw [hy.1];done));have hE:=congrArg (fun (q1:List UInt8)=>(.live (Xc 5 kU8 q1):HS)) e1;exact Eq.trans pZ2 hE):p:=h
theorem p35 {p:Prop} (h:p:=by have e1:((W1 f u s b).f_Signer:Int)=s:=po;have e2:((W1 f u s b).X7:List UInt8)=b:=po;have e3:((Hb f u s b):Int)=0:=po;have hE:=congr pr e3;exact hE):p:=h
theorem p36 {p:Prop} (h:p:=by have e1:(b++(W7 (X2s n) 4):List UInt8)=b++Wh n:=(by rfl);have hE:=congrArg (fun (q1:List UInt8)=>(.live (Xc 5 kU8 q1):HS)) e1;exact Eq.trans pZ2 hE):p:=h
theorem p37 {p:Prop} (h:p:=by have e1:(b++(W7 (u64 n) 8):List UInt8)=b++Ym n:=(by rfl);have hE:=congrArg (fun (q1:List UInt8)=>(.live (Xc 5 kU8 q1):HS)) e1;exact Eq.trans pZ2 hE):p:=h
theorem p38 {p:Prop} (h:p:=by have e1:((b++Wc l).length:Nat)=(b++Uk l k).length:=(by (rw [Xdu (by omega)]));have hE:=congrArg (fun (q1:Nat)=>(Xx 0 kU8 0 q1:AV)) e1;exact hE):p:=h
theorem p39 {p:Prop} (h:p:=by exact kk4 (kk8 trivial)):p:=h
theorem p3a {p:Prop} (h:p:=by have e1:(xs:List Int)=(X06 xs):=(by exact hsh.symm);have hE:=congrArg (fun (q1:List Int)=>(.live (Xc 3 (Y8 .i64) q1):HS)) e1;exact Eq.trans pZ2 hE):p:=h
theorem p3b {p:Prop} (h:p:=by (simp [U7,orgA, *];done)):p:=h
theorem p3c {p:Prop} (h:p:=by exact cI (by exact if_neg (fun h9=>by obtain ⟨q1,q2,q3,q4,q5,q6,q7,q8,q9,q10⟩:=(Wg m).1 h9;exact q7 ⟨(by exact nbB ‹_›),by assumption⟩))):p:=h
theorem p3d {p:Prop} (h:p:=by have e1:((rdY (B.drop a) e most).length:Nat)=0:=(by (rw [hy.1];rfl));have hE:=congrArg (fun (q1:Nat)=>(Xx 1 kU8 0 q1:AV)) e1;exact hE):p:=h
theorem p3e {p:Prop} (h:p:=by have e1:((X06 xs).length:Nat)=xs.length:=(by (rw [hsh]));have hE:=congrArg (fun (q1:Nat)=>(Xx 0 (Y8 .i64) 0 q1:AV)) e1;exact hE):p:=h
theorem p3f {p:Prop} (h:p:=by first|rfl|(rw [hje];done)|(rw [hje];rfl)):p:=h
theorem p3g {p:Prop} (h:p:=by (rw [Xd9 ‹_›];done)):p:=h
theorem p3h {p:Prop} (h:p:=by exact congrArg (fun (q1:Nat) (q2:Int)=>([pv 2 0,aa,aa,pv 5 0,pv 6 0,aa,Xx 9 (X0 false) 0 q1,vI q2,(Zg1 k)]:List AV)) e1):p:=h
theorem p3i {p:Prop} (h:p:=by exact congrArg (fun (q1:Nat) (q2:Int)=>([pv 2 0,aa,aa,pv 5 0,pv 6 0,aa,Xx 9 (X0 false) 0 q1,vI q2,(Zf8 k)]:List AV)) e1):p:=h
theorem p3j {p:Prop} (h:p:=by exact X6j (X6i trivial)):p:=h
theorem p3k {p:Prop} (h:p:=by exact .inr ⟨trivial,(And.intro (And.intro trivial (And.intro trivial (And.intro trivial trivial))) (And.intro (X3f X2l) trivial))⟩):p:=h
theorem p3l {p:Prop} (h:p:=by exact congrArg (fun (q1:List UInt8)=>(slV false false kU8 q1:AV)) (by exact (if_neg (fun h9=>by have h8:=chk0.2 h9;contradiction)))):p:=h
theorem p3m {p:Prop} (h:p:=by exact kk2 (kk4 trivial)):p:=h
theorem p3n {p:Prop} (h:p:=by exact congrArg (fun (q1:List Ya)=>(.tup [.one (.d (dsl false false (Y1 false) q1)),.one (dI 0)]:AV)) (by rfl)):p:=h
theorem p3o {p:Prop} (h:p:=by (rw [hrl,Xa1,Xa2 (by exact nbB ‹_›)];done)):p:=h
theorem p3p {p:Prop} (h:p:=by have e1:(rdI (B.drop a) e:Int)=0:=(by (simp only [rdI];(rw [if_neg hr.1];done)));have hE:=cI e1;exact hE):p:=h
theorem p3q {p:Prop} (h:p:=by exact Nat.le_trans (Nat.pow_le_pow_right (by decide) h) (by decide)):p:=h
theorem p3r {p:Prop} (h:p:=by have e1:((decide (a=b)):Bool)=false:=(by exact dF (fun e=>h9 (by rw [e])));have hE:=cB e1;exact hE):p:=h
theorem p3s {p:Prop} (h:p:=by have e1:((decide (inM s f n lo hi)):Bool)=false:=(by (simp [inM, *];done));have hE:=cB e1;exact hE):p:=h
theorem p3t {p:Prop} (h:p:=by decide +kernel):p:=h
theorem p3u {p:Prop} (h:p:=by exact cI (by exact if_neg (fun h9=>by (rcases h9.2.2.2.2.2.2.2.2.2.2.2.1 with h8|h8<;>exact absurd h8 ‹_›)))):p:=h
theorem p3v {p:Prop} (h:p:=by (rw [crt_0,List.append_nil];done)):p:=h
theorem p3w {p:Prop} (h:p:=by exact fun b hb=>by cases hb):p:=h
theorem p3x {p:Prop} (h:p:=by have e1:((decide (Yg f s)):Bool)=(decide (s<(3*f+1))):=p1l;have hE:=cB e1;exact hE):p:=h
theorem p3y {p:Prop} (h:p:=by rw [← hsame k];exact e):p:=h
theorem p3z {p:Prop} (h:p:=by have e1:((decide (Wb u s)):Bool)=(decide ((s-1000)<u)):=p1l;have hE:=cB e1;exact hE):p:=h
theorem p40 {p:Prop} (h:p:=by exact congrArg (fun (q1:Nat) (q2:Int)=>([aa,pv 0 0,aa,pv 1 0,aa,Xx 4 kU8 0 q1,vI q2]:List AV)) e1):p:=h
theorem p41 {p:Prop} (h:p:=by exact congrArg (fun (q1:Nat) (q2:Int)=>([aa,pv 0 0,aa,pv 1 0,aa,Xx 2 kU8 0 q1,vI q2]:List AV)) e1):p:=h
theorem p42 {p:Prop} (h:p:=by have e1:((decide (U7 f u s)):Bool)=(decide (Wb u s)):=p3b;have hE:=cB e1;exact hE):p:=h
theorem p43 {p:Prop} (h:p:=by (rw [U3,show rdC rest e 15=k by omega];done)):p:=h
theorem p44 {p:Prop} (h:p:=by exact congrArg (fun (q1:Int) (q2:Bool)=>(.tup [.one (.d (.val (.int .u64 q1))),.one (dB q2)]:AV)) e1):p:=h
theorem p45 {p:Prop} (h:p:=by (rw [Fg,show rdC rest e 8=k by omega];done)):p:=h
theorem p46 {p:Prop} (h:p:=by (rw [U3,show rdC r e 15=k by omega];done)):p:=h
theorem p47 {p:Prop} (h:p:=by (rw [Xez he (by omega)])):p:=h
theorem p48 {p:Prop} (h:p:=by (rw [Jk hji hbt];(simp only [Jg,H3,List.append_assoc];rw [Xe7 (by omega)]))):p:=h
theorem p49 {p:Prop} (h:p:=by (rw [IntKind.wrap_u64];omega)):p:=h
theorem p4a {p:Prop} (h:p:=by exact congrArg (fun (q1:List Ya)=>(slV false false (Y1 false) q1:AV)) (by rfl)):p:=h
theorem p4b {p:Prop} (h:p:=by simp;omega):p:=h
theorem p4c {p:Prop} (h:p:=by rw [List.length_take];omega):p:=h
theorem p4d {p:Prop} (h:p:=by (rw [ho9];done)):p:=h
theorem p4e {p:Prop} (h:p:=by (rw [hke];done)):p:=h
theorem p4f {p:Prop} (h:p:=by (rw [hc9];done)):p:=h
theorem p4g {p:Prop} (h:p:=by exact .inr ⟨by decide,.inr ⟨rfl,(kk2 (kk4 ⟨pZ6,⟨.inl rfl,(kk4 trivial)⟩⟩))⟩⟩):p:=h
theorem p4h {p:Prop} (h:p:=by have e1:((decide (Yg f s)):Bool)=false:=p1l;have hE:=cB e1;exact hE):p:=h
theorem p4i {p:Prop} (h:p:=by exact Nat.le_trans (Xf8 _ _ _ _ _) (by omega)):p:=h
theorem p4j {p:Prop} (h:p:=by have e1:((decide (U7 f u s)):Bool)=true:=p3b;have hE:=cB e1;exact hE):p:=h
theorem p4k {p:Prop} (h:p:=by have e1:((decide (Wb u s)):Bool)=false:=p1l;have hE:=cB e1;exact hE):p:=h
theorem p4l {p:Prop} (h:p:=by exact congrArg (fun (q1:Int) (q2:List UInt8)=>(.live (.box 53 [dI q1,dU q2]):HS)) e1):p:=h
theorem p4m {p:Prop} (h:p:=by exact kk8 (X6i trivial)):p:=h
theorem p4n {p:Prop} (h:p:=by (rw [hst];simp only [H3,List.append_assoc];rw [Xe7 (by omega)];done)):p:=h
theorem p4o {p:Prop} (h:p:=by (rw [rfA_no hr.1])):p:=h
theorem p4p {p:Prop} (h:p:=by first|assumption|rfl):p:=h
theorem p4q {p:Prop} (h:p:=by exact congrArg (fun (q1:List UInt8)=>(slV false false kU8 q1:AV)) (by rfl)):p:=h
theorem p4r {p:Prop} (h:p:=by (rw [hrl,Xd9 ‹_›];done)):p:=h
theorem p4s {p:Prop} (h:p:=by exact hr.2.symm):p:=h
end Go.Proofs.YthnefnknoahbkaaGreat.Q
