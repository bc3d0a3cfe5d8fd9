import Derived.Test.YtnaopgohccacmaaGreatK19
namespace Go.Proofs.YtnaopgohccacmaaGreat.Q
open Go Go.RowKit
set_option linter.unusedVariables false
theorem pZ0 {p:Prop} (h:p:=by exact gc2 (hx9.1) (by exact hx9.2) (fun qq0 (q13:Int)=>(.tup [.agg [dI (qq0.X1),dI (qq0.Xb),dI (qq0.Xg),dI (qq0.Xe),dI (qq0.Y3),dS (qq0.X6),dU (qq0.Xc),dI (qq0.X0.Xu),dI (qq0.X0.Xl),.d (dsl false false (kE false) (qq0.Xa)),.d (dsl false false (kE false) (qq0.Xw)),.d (dsl false false (kC false) (qq0.X5))],.one (dI q13)]:AV))):p:=h
theorem pZ1 {p:Prop} (h:p:=by exact .inr ⟨rfl,(kk2 (kk4 ⟨(.inr ⟨rfl,rfl,rfl⟩),(kk2 ⟨(.inr ⟨rfl,rfl,rfl⟩),⟨(.inr ⟨rfl,rfl,rfl⟩),⟨(.inr ⟨rfl,rfl,rfl⟩),trivial⟩⟩⟩)⟩))⟩):p:=h
theorem pZ2 {p:Prop} (h:p:=by exact .inr ⟨rfl,rfl,rfl,(fun h=>by cases h),rfl,rfl,Nat.le_of_eq (Nat.zero_add _),fun i j _=>by rw [Nat.zero_add]⟩):p:=h
theorem pZ3 {p:Prop} (h:p:=by have hE:=congrArg (fun (qq0:RdM)=>([.live (.box 156 [(Zdl B),dI (((Vb B qq0.rest:Nat):Int)),dI (qq0.e)]),.live (.box 78 [dI (qq0.m.X1),dI (qq0.m.Xb),dI (qq0.m.Xg),dI (qq0.m.Xe),dI (qq0.m.Y3),dS (qq0.m.X6),dU (qq0.m.Xc),dI (qq0.m.X0.Xu),dI (qq0.m.X0.Xl),.d (dsl false false (kE false) (qq0.m.Xa)),.d (dsl false false (kE false) (qq0.m.Xw)),Zdi]),(Zdp h),Zdq]:List HS)) hst;(try dsimp only at hE);exact hE):p:=h
theorem pZ4 {p:Prop} (h:p:=by exact congr (congr (congr (congr (congr (congr (congr (congr (congrArg (fun (q1:Int) (q2:List aE) (q3:List UInt8) (q4:List Yh) (q5:Int) (q6:Int) (q7:List UInt8) (q8:Int) (q9:Int) (q10:List Yn)=>([.live (.box 49 [dI q1,.d (dsl false false (kE false) q2),dU q3,.d (dsl false false (Xm false) q4),dI q5,dI q6,dU q7,dI q8,dI q9,.d (dsl false false (Xz false) q10)]),Zue]:List HS)) e1) e2) e3) e4) e5) e6) e7) e8) e9):p:=h
theorem pZ5 {p:Prop} (h:p:=by exact .inr ⟨by decide,.inl rfl⟩):p:=h
theorem pZ6 {p:Prop} (h:p:=by intro b hb;simp only [List.mem_cons,List.not_mem_nil,or_false] at hb;rcases hb with rfl;exact ⟨_,List.Mem.head _⟩):p:=h
theorem pZ7 {p:Prop} (h:p:=by have hE:=congrArg (fun (qq0:RdM)=>([Zbi,Zbv,.live (.box 195 [dU (qq0.rest),dI (qq0.e)]),.live (.box 78 [dI (qq0.m.X1),dI (qq0.m.Xb),dI (qq0.m.Xg),dI (qq0.m.Xe),dI (qq0.m.Y3),dS (qq0.m.X6),dU (qq0.m.Xc),dI (qq0.m.X0.Xu),dI (qq0.m.X0.Xl),.d (dsl false false (kE false) (qq0.m.Xa)),.d (dsl false false (kE false) (qq0.m.Xw)),.d (dsl false false (kC false) (qq0.m.X5))]),(Zbr b)]:List HS)) hst;(try dsimp only at hE);exact hE):p:=h
theorem pZ8 {p:Prop} (h:p:=by kernel_rfl):p:=h
theorem pZ9 {p:Prop} (h:p:=by have e1:((vtV (Xd f u rows) f e k).X1:Int)=(opV (Xd f u rows) e k).X1:=(by (rw [hx9.1,hv9];done));have e2:((vtV (Xd f u rows) f e k).Xb:Int)=(opV (Xd f u rows) e k).Xb:=(by (rw [hx9.1,hv9];done));have e3:((vtV (Xd f u rows) f e k).Xg:Int)=(opV (Xd f u rows) e k).Xg:=(by (rw [hx9.1,hv9];done));have e4:((vtV (Xd f u rows) f e k).Xe:Int)=(opV (Xd f u rows) e k).Xe:=(by (rw [hx9.1,hv9];done));have e5:((vtV (Xd f u rows) f e k).Y3:Int)=(opV (Xd f u rows) e k).Y3:=(by (rw [hx9.1,hv9];done));have e6:((vtV (Xd f u rows) f e k).X6:List UInt8)=(opV (Xd f u rows) e k).X6:=(by (rw [hx9.1,hv9];done));have e7:((vtV (Xd f u rows) f e k).Xc:List UInt8)=(opV (Xd f u rows) e k).Xc:=(by (rw [hx9.1,hv9];done));have e8:((vtV (Xd f u rows) f e k).X0.Xu:Int)=(opV (Xd f u rows) e k).X0.Xu:=(by (rw [hx9.1,hv9];done));have e9:((vtV (Xd f u rows) f e k).X0.Xl:Int)=(opV (Xd f u rows) e k).X0.Xl:=(by (rw [hx9.1,hv9];done));have e10:((vtV (Xd f u rows) f e k).Xa:List aE)=(opV (Xd f u rows) e k).Xa:=(by (rw [hx9.1,hv9];done));have e11:((vtV (Xd f u rows) f e k).Xw:List aE)=(opV (Xd f u rows) e k).Xw:=(by (rw [hx9.1,hv9];done));have e12:((vtV (Xd f u rows) f e k).X5:List aC)=(opV (Xd f u rows) e k).X5:=(by (rw [hx9.1,hv9];done));have e13:((vtE (Xd f u rows) f e k):Int)=0:=(by exact hx9.2);have hE:=congr (congr (congr (congr (congr (congr (congr (congr (congr (congr (congr (congr (congrArg (fun (q1:Int) (q2:Int) (q3:Int) (q4:Int) (q5:Int) (q6:List UInt8) (q7:List UInt8) (q8:Int) (q9:Int) (q10:List aE) (q11:List aE) (q12:List aC) (q13:Int)=>(.tup [.agg [dI q1,dI q2,dI q3,dI q4,dI q5,dS q6,dU q7,dI q8,dI q9,.d (dsl false false (kE false) q10),.d (dsl false false (kE false) q11),.d (dsl false false (kC false) q12)],.one (dI q13)]:AV)) e1) e2) e3) e4) e5) e6) e7) e8) e9) e10) e11) e12) e13;exact hE):p:=h
theorem pa {p:Prop} (h:p:=by have e1:((vtV (X9 f u l) f e k).X1:Int)=(orV (X9 f u l) e).X1:=(by (rw [hx9.1,hv9];done));have e2:((vtV (X9 f u l) f e k).Xb:Int)=(orV (X9 f u l) e).Xb:=(by (rw [hx9.1,hv9];done));have e3:((vtV (X9 f u l) f e k).Xg:Int)=(orV (X9 f u l) e).Xg:=(by (rw [hx9.1,hv9];done));have e4:((vtV (X9 f u l) f e k).Xe:Int)=(orV (X9 f u l) e).Xe:=(by (rw [hx9.1,hv9];done));have e5:((vtV (X9 f u l) f e k).Y3:Int)=(orV (X9 f u l) e).Y3:=(by (rw [hx9.1,hv9];done));have e6:((vtV (X9 f u l) f e k).X6:List UInt8)=(orV (X9 f u l) e).X6:=(by (rw [hx9.1,hv9];done));have e7:((vtV (X9 f u l) f e k).Xc:List UInt8)=(orV (X9 f u l) e).Xc:=(by (rw [hx9.1,hv9];done));have e8:((vtV (X9 f u l) f e k).X0.Xu:Int)=(orV (X9 f u l) e).X0.Xu:=(by (rw [hx9.1,hv9];done));have e9:((vtV (X9 f u l) f e k).X0.Xl:Int)=(orV (X9 f u l) e).X0.Xl:=(by (rw [hx9.1,hv9];done));have e10:((vtV (X9 f u l) f e k).Xa:List aE)=(orV (X9 f u l) e).Xa:=(by (rw [hx9.1,hv9];done));have e11:((vtV (X9 f u l) f e k).Xw:List aE)=(orV (X9 f u l) e).Xw:=(by (rw [hx9.1,hv9];done));have e12:((vtV (X9 f u l) f e k).X5:List aC)=(orV (X9 f u l) e).X5:=(by (rw [hx9.1,hv9];done));have e13:((vtE (X9 f u l) f e k):Int)=0:=(by exact hx9.2);have hE:=congr (congr (congr (congr (congr (congr (congr (congr (congr (congr (congr (congr (congrArg (fun (q1:Int) (q2:Int) (q3:Int) (q4:Int) (q5:Int) (q6:List UInt8) (q7:List UInt8) (q8:Int) (q9:Int) (q10:List aE) (q11:List aE) (q12:List aC) (q13:Int)=>(.tup [.agg [dI q1,dI q2,dI q3,dI q4,dI q5,dS q6,dU q7,dI q8,dI q9,.d (dsl false false (kE false) q10),.d (dsl false false (kE false) q11),.d (dsl false false (kC false) q12)],.one (dI q13)]:AV)) e1) e2) e3) e4) e5) e6) e7) e8) e9) e10) e11) e12) e13;exact hE):p:=h
theorem pb {p:Prop} (h:p:=by rw [IntKind.wrap_i64];omega):p:=h
theorem pc {p:Prop} (h:p:=by exact gc2 (hx9.1) (by exact hx9.2) (fun qq0 (q11:Int)=>(.tup [.agg [dI (qq0.Xg),.d (dsl false false (kE false) (qq0.Xo)),dU (qq0.Xc),.d (dsl false false (Xm false) (qq0.X4)),dI (qq0.Ji),dI (qq0.Y1.X2),dU (qq0.Y1.X7),dI (qq0.X0.Xu),dI (qq0.X0.Xl),.d (dsl false false (Xz false) (qq0.W4))],.one (dI q11)]:AV))):p:=h
theorem pd {p:Prop} (h:p:=by exact Nat.le_of_ble_eq_true rfl):p:=h
theorem pe {p:Prop} (h:p:=by (rw [hx9];done)):p:=h
theorem pf {p:Prop} (h:p:=by repeat first|assumption|exact List.suffix_refl _|apply sufR|apply sufY|apply sufE|apply sufF|apply sufG|apply sufL|apply sufC|apply sufM):p:=h
theorem pg {p:Prop} (h:p:=by have hE:=cg2 (fun (qq0:aM) (qq1:Int)=>(.tup [.agg [dI (qq0.X1),dI (qq0.Xb),dI (qq0.Xg),dI (qq0.Xe),dI (qq0.Y3),dS (qq0.X6),dU (qq0.Xc),dI (qq0.X0.Xu),dI (qq0.X0.Xl),.d (dsl false false (kE false) (qq0.Xa)),.d (dsl false false (kE false) (qq0.Xw)),.d (dsl false false (kC false) (qq0.X5))],.one (dI (qq1))]:AV)) (show Wb b=_ from hd9.1) hd9.2;(try dsimp only at hE);exact hE):p:=h
theorem ph {p:Prop} (h:p:=by exact cI (by exact if_neg (fun h9=>by obtain ⟨q1,q2,q3,q4,q5,q6,q7,q8,q9,q10⟩:=(V1 m).1 h9;exact absurd q10 ‹_›))):p:=h
theorem pi {p:Prop} (h:p:=by exact gc2 (show Wb b=_ from hd9.1) (by exact hd9.2) (fun qq0 (q13:Int)=>(.tup [.agg [dI (qq0.X1),dI (qq0.Xb),dI (qq0.Xg),dI (qq0.Xe),dI (qq0.Y3),dS (qq0.X6),dU (qq0.Xc),dI (qq0.X0.Xu),dI (qq0.X0.Xl),.d (dsl false false (kE false) (qq0.Xa)),.d (dsl false false (kE false) (qq0.Xw)),.d (dsl false false (kC false) (qq0.X5))],.one (dI q13)]:AV))):p:=h
theorem pj {p:Prop} (h:p:=by exact .inr ⟨trivial,(And.intro (arr_nt kU8_nt) trivial)⟩):p:=h
theorem pk {p:Prop} (h:p:=by exact Nat.le_of_eq (Nat.zero_add _)):p:=h
theorem pZl {p:Prop} (h:p:=by exact .inr ⟨rfl,⟨.inl rfl,⟨(.inr ⟨rfl,rfl,rfl⟩),⟨(.inr ⟨rfl,rfl,rfl⟩),⟨(.inr ⟨rfl,rfl,rfl⟩),(kk2 ⟨(.inr ⟨rfl,rfl,rfl⟩),(kk2 ⟨(.inr ⟨rfl,rfl,rfl⟩),trivial⟩)⟩)⟩⟩⟩⟩⟩):p:=h
theorem pm {p:Prop} (h:p:=by have e1:((Yz h l x).Xq:Int)=0:=(by (have hi:¬inL h l.length x:=(fun q=>by have q1:=q.1;have q2:=q.2;omega);(rw [Yz,if_neg hi];rfl)));have e2:((Yz h l x).Y9:List UInt8)=[]:=(by (have hi:¬inL h l.length x:=(fun q=>by have q1:=q.1;have q2:=q.2;omega);(rw [Yz,if_neg hi];rfl)));have e3:((Yz h l x).Xh:List aE)=([]:List aE):=(by (have hi:¬inL h l.length x:=(fun q=>by have q1:=q.1;have q2:=q.2;omega);(rw [Yz,if_neg hi];rfl)));have e4:((Yz h l x).Xt:List Y4)=([]:List Y4):=(by (have hi:¬inL h l.length x:=(fun q=>by have q1:=q.1;have q2:=q.2;omega);(rw [Yz,if_neg hi];rfl)));have e5:((Xa3 h l.length x):Int)=4:=(by (have hi:¬inL h l.length x:=(fun q=>by have q1:=q.1;have q2:=q.2;omega);(rw [Xa3,if_neg hi])));have hE:=congr (congr (congr (congr (congrArg (fun (q1:Int) (q2:List UInt8) (q3:List aE) (q4:List Y4) (q5:Int)=>(.tup [.agg [dI q1,dS q2,.d (dsl false false (kE false) q3),.d (dsl false false (Xk false) q4)],.one (dI q5)]:AV)) e1) e2) e3) e4) e5;exact hE):p:=h
theorem pn {p:Prop} (h:p:=by exact cI (by exact if_neg (fun h9=>by obtain ⟨q1,q2,q3,q4,q5,q6,q7,q8,q9,q10⟩:=(V1 m).1 h9;exact q9 ⟨(by exact nbB ‹_›),by assumption⟩))):p:=h
theorem po {p:Prop} (h:p:=by exact congrArg (fun (q1:Int)=>([slV tb nb kU8 b,aa,pv 0 0,aa,pv 1 0,pv 3 0,pv 4 0,(Zbn b),vI q1]:List AV)) (by rfl)):p:=h
theorem pp {p:Prop} (h:p:=by have e1:((Yw c t).Xg:Int)=c.Xg:=pe;have e2:((Yw c t).Xo:List aE)=c.Xo:=pe;have e3:((Yw c t).Xc:List UInt8)=c.Xc:=pe;have e4:((Yw c t).X4:List Yh)=c.X4:=pe;have e5:((Yw c t).Ji:Int)=c.Ji:=pe;have e6:((Yw c t).Y1.X2:Int)=c.Y1.X2:=pe;have e7:((Yw c t).Y1.X7:List UInt8)=c.Y1.X7:=pe;have e8:((Yw c t).X0.Xu:Int)=c.X0.Xu:=pe;have e9:((Yw c t).X0.Xl:Int)=c.X0.Xl:=pe;have e10:((Yw c t).W4:List Yn)=c.W4:=pe;have hE:=congr pZ4 e10;exact hE):p:=h
theorem pq {p:Prop} (h:p:=by exact .inr ⟨rfl,rfl,rfl⟩):p:=h
theorem pr {p:Prop} (h:p:=by exact .inr ⟨by decide,.inr ⟨rfl,⟨.inl rfl,(kk2 ⟨pZ2,(kk2 (kk4 trivial))⟩)⟩⟩⟩):p:=h
theorem pZs {p:Prop} (h:p:=by exact fun h=>by cases h):p:=h
theorem pt {p:Prop} (h:p:=by exact Nat.le_trans (by omega) (by decide:64≤_)):p:=h
theorem pu {p:Prop} (h:p:=by (simp [Ey,Hk,Vg,putL,zE, *];done)):p:=h
theorem pZv {p:Prop} (h:p:=by exact kk2 ⟨pZ1,⟨.inl rfl,trivial⟩⟩):p:=h
theorem pw {p:Prop} (h:p:=by first|rfl|exact Xg7 (by omega)|exact (Xg7 (by omega)).symm|exact Xc3 (by omega)|exact (Xc3 (by omega)).symm|exact X8n h2l|exact (X8n h2l).symm):p:=h
theorem px {p:Prop} (h:p:=by (rw [hst];done)):p:=h
theorem py {p:Prop} (h:p:=by exact gc2 (hx9.1) (by exact hx9.2) (fun qq0 (q4:Int)=>(.tup [.agg [dI (qq0.Xe),dI (qq0.Y3),dU (qq0.f_Op)],.one (dI q4)]:AV))):p:=h
theorem pz {p:Prop} (h:p:=by (simp only [List.length_append,List.length_singleton,maxLen];omega)):p:=h
theorem I7 {p:Prop} (h:p:=by rw [List.take_length]):p:=h
theorem pZ11 {p:Prop} (h:p:=by exact .inr ⟨by decide,by decide,(.inr ⟨rfl,⟨.inl rfl,(kk2 ⟨(.inr rfl),trivial⟩)⟩⟩)⟩):p:=h
theorem H7 {p:Prop} (h:p:=by (rw [hx9.1,hv9];done)):p:=h
theorem pZ13 {p:Prop} (h:p:=by exact congr (congrArg (fun (q1:Int) (q2:List UInt8) (q3:Int)=>(.tup [.agg [dI q1,dU q2],.one (dI q3)]:AV)) e1) e2):p:=h
theorem pZ14 {p:Prop} (h:p:=by (simp [I8,Wm,Um,W1,orgA, *];done)):p:=h
theorem pZ15 {p:Prop} (h:p:=by exact congrArg (fun (q1:List UInt8) (q2:Int)=>(.live (.box 195 [dU q1,dI q2]):HS)) e1):p:=h
theorem Es {p:Prop} (h:p:=by (simp [Yj,okK, *];done)):p:=h
theorem Er {p:Prop} (h:p:=by (simp [Xp,okK, *];done)):p:=h
theorem pZ18 {p:Prop} (h:p:=by exact cI (by exact if_neg (fun h9=>by exact absurd h9.2.2.2.2.2.2.2.2.2.2.2.2.2 ‹_›))):p:=h
theorem pZ19 {p:Prop} (h:p:=by exact congr (congr (congr (congr (congr (congr (congr (congr (congr (congr (congr (congrArg (fun (q1:Int) (q2:Int) (q3:Int) (q4:Int) (q5:Int) (q6:List UInt8) (q7:List UInt8) (q8:Int) (q9:Int) (q10:List aE) (q11:List aE) (q12:List aC) (q13:Int)=>(.tup [.agg [dI q1,dI q2,dI q3,dI q4,dI q5,dS q6,dU q7,dI q8,dI q9,.d (dsl false false (kE false) q10),.d (dsl false false (kE false) q11),.d (dsl false false (kC false) q12)],.one (dI q13)]:AV)) e1) e2) e3) e4) e5) e6) e7) e8) e9) e10) e11) e12):p:=h
theorem p1a {p:Prop} (h:p:=by exact congrArg (fun (q1:List Yn) (q2:Int)=>(.tup [.one (.d (dsl false false (Xz false) q1)),.one (dI q2)]:AV)) e1):p:=h
theorem p1b {p:Prop} (h:p:=by exact congr (congr (congr (congr (congrArg (fun (q1:Nat) (q2:Int) (q3:List UInt8) (q4:List aE) (q5:List Y4) (q6:List Yh)=>([(Zoc d l),(Zod l),Zoi,.live (Xf 5 kU8 b),.live (.box 49 [(Zoy seq),(Zp6 x),(Zoz b),.own 10 (Xm false).sz 0 q1,dI i,dI 0,Zoh,dI 0,dI 0,Zoh]),(Zp8 x),.live (.box 65 [dI q2,dS q3,.d (dsl false false (kE false) q4),.d (dsl false false (Xk false) q5)]),.live (Xf 69 (Xm false) q6)]:List HS)) e1) e2) e3) e4) e5):p:=h
theorem p1c {p:Prop} (h:p:=by exact cI (by exact if_neg (fun h9=>by obtain ⟨q1,q2,q3,q4,q5,q6,q7,q8,q9,q10⟩:=(V1 m).1 h9;exact q8 ⟨(by exact nbB ‹_›),by assumption⟩))):p:=h
theorem p1d {p:Prop} (h:p:=by (simp [Ey,Hk,X4e,zE, *];done)):p:=h
theorem p1e {p:Prop} (h:p:=by first|assumption|exact Xkp ‹_› (by decide)|exact H5 ‹_› _|exact If ‹_› _|exact fewG_set ‹_› ‹_› | decide):p:=h
theorem p1f {p:Prop} (h:p:=by exact cI (by exact hz9)):p:=h
theorem p1g {p:Prop} (h:p:=by exact .inr ⟨by decide,by decide,(.inl rfl)⟩):p:=h
theorem p1h {p:Prop} (h:p:=by exact Classical.not_not.1 ‹_›):p:=h
theorem p1i {p:Prop} (h:p:=by (rw [List.take_of_length_le (by omega)])):p:=h
theorem p1j {p:Prop} (h:p:=by have e1:(d:List UInt8)=(if fst=true then m.X6 else d):=(by (simp [X20, *];done));have hE:=congrArg (fun (q1:List UInt8)=>(.live (.box 60 [dS q1]):HS)) e1;exact Eq.trans pZ8 hE):p:=h
theorem p1k {p:Prop} (h:p:=by have e1:((((rfA B a e 4 (Yu most ((B.drop a).take 4)))+(rdC (B.drop a) e most):Nat):Int):Int)=((X7a B a e most:Nat):Int):=(by omega);have e2:((rdE (B.drop a) e 4 (Yu most ((B.drop a).take 4))):Int)=(Vo (B.drop a) e most):=(by omega);have hE:=congr (congrArg (fun (q1:Int) (q2:Int)=>(.live (.box 156 [(Z27 B),dI q1,dI q2]):HS)) e1) e2;exact Eq.trans pZ8 hE):p:=h
theorem p1l {p:Prop} (h:p:=by have e1:((Vx b):Int)=102:=(by (unfold Vx;(rw [if_neg (by omega)];rw [if_pos (by omega)])));have hE:=cI e1;exact hE):p:=h
theorem p1m {p:Prop} (h:p:=by exact kk2 ⟨(.inr ⟨rfl,(kk2 ⟨pq,trivial⟩)⟩),⟨.inl rfl,trivial⟩⟩):p:=h
theorem p1n {p:Prop} (h:p:=by have e1:((X1i x k):List UInt8)=(X9s (Xd f u rows) f x):=(by exact hda.1);have hE:=congrArg (fun (q1:List UInt8)=>(.live (.box 60 [dS q1]):HS)) e1;exact Eq.trans pZ8 hE):p:=h
theorem p1o {p:Prop} (h:p:=by exact congrArg (fun (q1:List UInt8)=>(dv (Ys q1):AV)) (by rfl)):p:=h
theorem p1p {p:Prop} (h:p:=by have e1:(((rfA B a e 4 (Yu most ((B.drop a).take 4)):Nat):Int):Int)=((X7a B a e most:Nat):Int):=(by omega);have e2:((rdE (B.drop a) e 4 (Yu most ((B.drop a).take 4))):Int)=(Vo (B.drop a) e most):=(by omega);have hE:=congr (congrArg (fun (q1:Int) (q2:Int)=>(.live (.box 156 [(Z27 B),dI q1,dI q2]):HS)) e1) e2;exact Eq.trans pZ8 hE):p:=h
theorem p1q {p:Prop} (h:p:=by exact gc2 (show (Xp k)=⟨true,true,false,true,false,false,false,false,false⟩ from Er) (show ((decide (okK k)):Bool)=true from Er) (fun qq0 (q10:Bool)=>(.tup [.agg [dB (qq0.Xb),dB (qq0.Xg),dB (qq0.Xe),dB (qq0.X6),dB (qq0.Xc),dB (qq0.X0),dB (qq0.Xa),dB (qq0.Xw),dB (qq0.X5)],.one (dB q10)]:AV))):p:=h
theorem p1r {p:Prop} (h:p:=by rw [List.length_take];omega):p:=h
theorem p1s {p:Prop} (h:p:=by exact trivial):p:=h
theorem p1t {p:Prop} (h:p:=by have e1:((X1h k):Bool)=(fstF (Xd f u rows) f x):=(by exact hda.2);have hE:=congrArg (fun (q1:Bool)=>(.live (.box 4 [dB q1]):HS)) e1;exact Eq.trans pZ8 hE):p:=h
theorem p1u {p:Prop} (h:p:=by exact congrArg (fun (q1:Int)=>([pv 0 0,vI seq,aa,aa,vI h,vI i,aa,aa,aa,aa,aa,aa,pv 2 0,aa,aa,aa,aa,aa,pv 4 0,aa,aa,pv 6 0,vI q1]:List AV)) (by omega)):p:=h
theorem p1v {p:Prop} (h:p:=by exact cI (by exact if_neg (fun h9=>by (rcases h9.2.2.2.2.2.2.2.2.2.2.2.2.1 with h8|h8<;>exact absurd h8 ‹_›)))):p:=h
theorem p1w {p:Prop} (h:p:=by exact X41 (X41 trivial)):p:=h
theorem p1x {p:Prop} (h:p:=by have e1:((Vx b):Int)=100:=(by (unfold Vx;rw [if_pos (by omega)]));have hE:=cI e1;exact hE):p:=h
theorem p1y {p:Prop} (h:p:=by have e1:(fst:Bool)=false:=(by (simp [X20, *];done));have hE:=congrArg (fun (q1:Bool)=>(.live (.box 4 [dB q1]):HS)) e1;exact Eq.trans pZ8 hE):p:=h
theorem p1z {p:Prop} (h:p:=by have e1:(l:List aE)=(Vg f u l s b):=pu;have hE:=congrArg (fun (q1:List aE)=>(.live (Xf 43 (kE false) q1):HS)) e1;exact Eq.trans pZ8 hE):p:=h
theorem pZ20 {p:Prop} (h:p:=by exact congrArg (fun (q1:List UInt8)=>([.live (Xf 5 kU8 q1)]:List HS)) (by rfl)):p:=h
theorem pZ21 {p:Prop} (h:p:=by have e1:((X03 l i):List Yn)=([]:List Yn):=(by (have ho:¬okI l i:=(by simp only [okI];omega);(rw [X03,if_neg ho])));have e2:((X4t l i):Int)=2:=(by (have ho:¬okI l i:=(by simp only [okI];omega);(rw [X4t,if_neg ho])));have hE:=congr p1a e2;exact hE):p:=h
theorem pZ22 {p:Prop} (h:p:=by exact .inr ⟨by decide,.inr ⟨rfl,⟨.inl rfl,(kk2 ⟨pZ2,trivial⟩)⟩⟩⟩):p:=h
theorem pZ23 {p:Prop} (h:p:=by exact .inr ⟨by decide,.inr ⟨rfl,(kk2 ⟨pZ2,⟨.inl rfl,trivial⟩⟩)⟩⟩):p:=h
theorem pZ24 {p:Prop} (h:p:=by exact .inr ⟨rfl,pZs,rfl,rfl,rfl⟩):p:=h
theorem pZ25 {p:Prop} (h:p:=by have e1:((if (X1h k)=true then (vtV (Xd f u rows) f (x.getD k zE) 5).X6 else (X1i x k)):List UInt8)=(X9s (Xd f u rows) f x):=(by exact hdn.1.trans hdn.2.1.symm);have hE:=congrArg (fun (q1:List UInt8)=>(.live (.box 60 [dS q1]):HS)) e1;exact Eq.trans pZ8 hE):p:=h
theorem pZ26 {p:Prop} (h:p:=by have e1:(((rdC (B.drop a) e most:Nat):Int):Int)=0:=(by (simp only [rdC];(rw [if_neg hr.1];rfl)));have hE:=cI e1;exact hE):p:=h
theorem pZ27 {p:Prop} (h:p:=by rw [len8_len];exact UInt8.toNat_lt _):p:=h
theorem pZ28 {p:Prop} (h:p:=by rw [List.length_drop];omega):p:=h
theorem pZ29 {p:Prop} (h:p:=by exact congrArg (fun (q1:Int) (q2:Int)=>(.live (.box 156 [(Z24 B),dI q1,dI q2]):HS)) e1):p:=h
theorem p2a {p:Prop} (h:p:=by exact .inr ⟨trivial,trivial⟩):p:=h
theorem p2b {p:Prop} (h:p:=by exact congrArg (fun (q1:Int) (q2:Int)=>(.live (.box 156 [dU B,dI q1,dI q2]):HS)) e1):p:=h
theorem p2c {p:Prop} (h:p:=by exact congrArg (fun (q1:Int) (q2:Int)=>(.tup [.one (dI q1),.one (dI q2)]:AV)) e1):p:=h
theorem p2d {p:Prop} (h:p:=by (have hi:inL h l.length x:=⟨by omega,by omega⟩;(rw [Yz,if_pos hi]))):p:=h
theorem p2e {p:Prop} (h:p:=by exact congrArg (fun (q1:Int) (q2:List UInt8)=>([(Zxn x),(Zyt x q k k2),(Zyu x q k k2),(Zyv x q k k2),Zxs,Zxe,Zxt,Zxg,Zxu,(Zwx x),(Zwy q),(Zwz y),(Zyp q k),(Zyx x q k k2),(Zyy q k k2),.live (.box 43 [dI q1,dU q2])]:List HS)) e1):p:=h
theorem p2f {p:Prop} (h:p:=by exact congrArg (fun (q1:Nat)=>(Y7 0 kU8 0 q1:AV)) (by rfl)):p:=h
theorem p2g {p:Prop} (h:p:=by intro h;cases h):p:=h
theorem p2h {p:Prop} (h:p:=by have e1:(b++U6 ((x.length:Nat):Int)++x:List UInt8)=b++W2 x:=(by (simp only [W2,List.append_assoc]));have hE:=congrArg (fun (q1:List UInt8)=>(.live (Xf 5 kU8 q1):HS)) e1;exact Eq.trans pZ8 hE):p:=h
theorem p2i {p:Prop} (h:p:=by exact gc2 (show (Yj k)=⟨11,0,1,7⟩ from Es) (show ((decide (okK k)):Bool)=true from Es) (fun qq0 (q5:Bool)=>(.tup [.agg [dI (qq0.Vw),dI (qq0.Ww),dI (qq0.Va),dI (qq0.Vq)],.one (dB q5)]:AV))):p:=h
theorem p2j {p:Prop} (h:p:=by have e1:(b++Yv e.X2++W2 e.X7:List UInt8)=b++Wd e:=(by (rw [Wd,← List.append_assoc]));have hE:=congrArg (fun (q1:List UInt8)=>(.live (Xf 5 kU8 q1):HS)) e1;exact Eq.trans pZ8 hE):p:=h
theorem p2k {p:Prop} (h:p:=by exact kk8 (X05 trivial)):p:=h
theorem p2l {p:Prop} (h:p:=by exact .inr ‹_›):p:=h
theorem p2m {p:Prop} (h:p:=by exact .inl ‹_›):p:=h
theorem p2n {p:Prop} (h:p:=by exact (if_neg hno)):p:=h
theorem p2o {p:Prop} (h:p:=by first|omega|(simp only [List.length_take,List.length_drop];omega)):p:=h
theorem p2p {p:Prop} (h:p:=by have e1:((b++W2 x).length:Nat)=(b++U6 ((x.length:Nat):Int)++x).length:=(by (simp only [W2,List.append_assoc]));have hE:=congrArg (fun (q1:Nat)=>(Y7 1 kU8 0 q1:AV)) e1;exact hE):p:=h
theorem p2q {p:Prop} (h:p:=by (rw [len8 (by omega)];omega)):p:=h
theorem p2r {p:Prop} (h:p:=by have e1:(m.X6:List UInt8)=(if fst=true then m.X6 else d):=(by (simp [X20, *];done));have hE:=congrArg (fun (q1:List UInt8)=>(.live (.box 60 [dS q1]):HS)) e1;exact Eq.trans pZ8 hE):p:=h
theorem p2s {p:Prop} (h:p:=by exact .inr ⟨by decide,.inr ⟨rfl,⟨.inl rfl,⟨pZ2,trivial⟩⟩⟩⟩):p:=h
theorem p2t {p:Prop} (h:p:=by have e1:((Wo l):List UInt8)=(ofB (3:UInt8) [(Wo (l.take (half l.length))),(Wo (l.drop (half l.length)))]):=pw;have hE:=congrArg (fun (q1:List UInt8)=>(dv (Ys q1):AV)) e1;exact hE):p:=h
theorem p2u {p:Prop} (h:p:=by have e1:((b++Wd e).length:Nat)=(b++Yv e.X2++W2 e.X7).length:=(by (rw [Wd,← List.append_assoc]));have hE:=congrArg (fun (q1:Nat)=>(Y7 2 kU8 0 q1:AV)) e1;exact hE):p:=h
theorem p2v {p:Prop} (h:p:=by (simp [X43,X38, *];done)):p:=h
theorem p2w {p:Prop} (h:p:=by (rw [aw_pr9.1];done)):p:=h
theorem p2x {p:Prop} (h:p:=by have e1:(rows:List (Yb×Bool))=(X4e f u rows s b):=p1d;have hE:=congrArg (fun (q1:List (Yb×Bool))=>(.live (mpK Xi Y8 q1):HS)) e1;exact Eq.trans pZ8 hE):p:=h
theorem p2y {p:Prop} (h:p:=by exact kk8 (X41 trivial)):p:=h
theorem p2z {p:Prop} (h:p:=by have e1:(l.length:Nat)=(Vg f u l s b).length:=pu;have hE:=congrArg (fun (q1:Nat)=>(.live (.box 135 [dB true,dI f,dI u,.own 3 (kE false).sz 0 q1]):HS)) e1;exact Eq.trans pZ8 hE):p:=h
theorem X7c {p:Prop} (h:p:=by exact X05 (X41 trivial)):p:=h
theorem pZ31 {p:Prop} (h:p:=by have e1:(((Yd b).take k):List (List UInt8))=(Yd b):=p1i;have hE:=congrArg (fun (q1:List (List UInt8))=>(.live (Xf 25 (kSl false kU8) q1):HS)) e1;exact Eq.trans pZ8 hE):p:=h
theorem p32 {p:Prop} (h:p:=by have e1:(([]:List UInt8):List UInt8)=(rdY (B.drop a) e most):=(by exact hy.1.symm);have hE:=congrArg (fun (q1:List UInt8)=>(.live (Xf 5 kU8 q1):HS)) e1;exact Eq.trans pZ8 hE):p:=h
theorem p33 {p:Prop} (h:p:=by have e1:((Hk f u s b).X2:Int)=s:=pu;have e2:((Hk f u s b).X7:List UInt8)=b:=pu;have e3:((Ey f u s b):Int)=0:=pu;have hE:=congr pZ13 e3;exact hE):p:=h
theorem p34 {p:Prop} (h:p:=by have e1:(([]:List UInt8):List UInt8)=(rdY rest e most):=(by (rw [hy.1];done));have hE:=congrArg (fun (q1:List UInt8)=>(.live (Xf 5 kU8 q1):HS)) e1;exact Eq.trans pZ8 hE):p:=h
theorem p35 {p:Prop} (h:p:=by exact .inr ⟨rfl,⟨.inl rfl,⟨pq,trivial⟩⟩⟩):p:=h
theorem p36 {p:Prop} (h:p:=by have e1:(false:Bool)=(fstF (Xd f u rows) f x):=(by exact hdn.2.2.1.symm);have hE:=congrArg (fun (q1:Bool)=>(.live (.box 4 [dB q1]):HS)) e1;exact Eq.trans pZ8 hE):p:=h
theorem p37 {p:Prop} (h:p:=by have e1:(b++(Wv (X58 n) 4):List UInt8)=b++U6 n:=(by rfl);have hE:=congrArg (fun (q1:List UInt8)=>(.live (Xf 5 kU8 q1):HS)) e1;exact Eq.trans pZ8 hE):p:=h
theorem p38 {p:Prop} (h:p:=by have e1:(b++(Wv (u64 n) 8):List UInt8)=b++Yv n:=(by rfl);have hE:=congrArg (fun (q1:List UInt8)=>(.live (Xf 5 kU8 q1):HS)) e1;exact Eq.trans pZ8 hE):p:=h
theorem p39 {p:Prop} (h:p:=by exact .inr ⟨by decide,.inr ⟨rfl,(kk2 ⟨pZ2,⟨.inl rfl,(kk2 (kk4 trivial))⟩⟩)⟩⟩):p:=h
theorem p3a {p:Prop} (h:p:=by exact fun b hb=>by cases hb):p:=h
theorem p3b {p:Prop} (h:p:=by have e1:((Wo l):List UInt8)=(ofB (4:UInt8) ([]:List (List UInt8))):=pw;have hE:=congrArg (fun (q1:List UInt8)=>(dv (Ys q1):AV)) e1;exact hE):p:=h
theorem p3c {p:Prop} (h:p:=by have e1:((Yd b).length:Nat)=((Yd b).take k).length:=p1i;have hE:=congrArg (fun (q1:Nat)=>(Y7 1 (kSl false kU8) 0 q1:AV)) e1;exact hE):p:=h
theorem p3d {p:Prop} (h:p:=by exact kk2 ⟨pZ1,(kk2 trivial)⟩):p:=h
theorem p3e {p:Prop} (h:p:=by exact cI (by exact if_neg (fun h9=>by obtain ⟨q1,q2,q3,q4,q5,q6,q7,q8,q9,q10⟩:=(V1 m).1 h9;exact q7 ⟨(by exact nbB ‹_›),by assumption⟩))):p:=h
theorem p3f {p:Prop} (h:p:=by exact kk4 (kk8 trivial)):p:=h
theorem p3g {p:Prop} (h:p:=by have e1:((Wo l):List UInt8)=(ofB (2:UInt8) [(l.getD 0 [])]):=pw;have hE:=congrArg (fun (q1:List UInt8)=>(dv (Ys q1):AV)) e1;exact hE):p:=h
theorem p3h {p:Prop} (h:p:=by have e1:((rdY (B.drop a) e most).length:Nat)=0:=(by (rw [hy.1];rfl));have hE:=congrArg (fun (q1:Nat)=>(Y7 1 kU8 0 q1:AV)) e1;exact hE):p:=h
theorem p3i {p:Prop} (h:p:=by exact congr (congr (congrArg (fun (q1:Int) (q2:Int) (q3:List UInt8) (q4:Int)=>(.tup [.agg [dI q1,dI q2,dU q3],.one (dI q4)]:AV)) e1) e2) e3):p:=h
theorem p3j {p:Prop} (h:p:=by rw [hz9];exact (by decide)):p:=h
theorem p3k {p:Prop} (h:p:=by have e1:((decide (Um f u s)):Bool)=(decide (I8 u s)):=(by (simp [Um,orgA, *];done));have hE:=cB e1;exact hE):p:=h
theorem p3l {p:Prop} (h:p:=by exact kk2 (kk4 (X05 trivial))):p:=h
theorem p3m {p:Prop} (h:p:=by have e1:((X20 seq (if fst=true then m.X6 else d) m):Int)=131:=(by (simp [X20, *];done));have hE:=cI e1;exact hE):p:=h
theorem p3n {p:Prop} (h:p:=by have e1:((X20 seq (if fst=true then m.X6 else d) m):Int)=0:=(by (simp [X20, *];done));have hE:=cI e1;exact hE):p:=h
theorem p3o {p:Prop} (h:p:=by have e1:((Vx b):Int)=0:=(by (unfold Vx;(rw [if_neg (by omega)];rw [if_neg (by omega)])));have hE:=cI e1;exact hE):p:=h
theorem p3p {p:Prop} (h:p:=by have h9:=UInt8.toNat_lt (Yr.getD (UInt8.ofNat (((x / 2 ^ 32) / 2 ^ 16) / 2 ^ 8)).toNat 0);rw [IntKind.wrap_i64];omega):p:=h
theorem p3q {p:Prop} (h:p:=by (rw [IntKind.wrap_u64];omega)):p:=h
theorem p3r {p:Prop} (h:p:=by have e1:(rdI (B.drop a) e:Int)=0:=(by (simp only [rdI];(rw [if_neg hr.1];done)));have hE:=cI e1;exact hE):p:=h
theorem p3s {p:Prop} (h:p:=by have e1:((decide (Um f u s)):Bool)=true:=(by (simp [Um,orgA, *];done));have hE:=cB e1;exact hE):p:=h
theorem p3t {p:Prop} (h:p:=by (simp [X1f, *];done)):p:=h
theorem p3u {p:Prop} (h:p:=by exact Nat.le_trans (Nat.pow_le_pow_right (by decide) h) (by decide)):p:=h
theorem p3v {p:Prop} (h:p:=by have h9:=UInt8.toNat_lt (Yr.getD (UInt8.ofNat ((x / 2 ^ 32) / 2 ^ 16)).toNat 0);rw [IntKind.wrap_i64];omega):p:=h
theorem p3w {p:Prop} (h:p:=by have h9:=UInt8.toNat_lt (Yr.getD (UInt8.ofNat ((x / 2 ^ 32) / 2 ^ 8)).toNat 0);rw [IntKind.wrap_i64];omega):p:=h
theorem p3x {p:Prop} (h:p:=by have h9:=UInt8.toNat_lt (Yr.getD (UInt8.ofNat ((x / 2 ^ 16) / 2 ^ 8)).toNat 0);rw [IntKind.wrap_i64];omega):p:=h
theorem p3y {p:Prop} (h:p:=by exact hx9.1):p:=h
theorem p3z {p:Prop} (h:p:=by have e1:((decide (inM s f n lo hi)):Bool)=false:=(by (simp [inM, *];done));have hE:=cB e1;exact hE):p:=h
theorem p40 {p:Prop} (h:p:=by decide +kernel):p:=h
theorem p41 {p:Prop} (h:p:=by exact cI (by exact if_neg (fun h9=>by (rcases h9.2.2.2.2.2.2.2.2.2.2.2.1 with h8|h8<;>exact absurd h8 ‹_›)))):p:=h
theorem p42 {p:Prop} (h:p:=by (rw [Ic (z:=zE) (by omega)])):p:=h
theorem p43 {p:Prop} (h:p:=by have e1:((decide (Wm f s)):Bool)=(decide (s<(3*f+1))):=pZ14;have hE:=cB e1;exact hE):p:=h
theorem p44 {p:Prop} (h:p:=by have e1:((decide (I8 u s)):Bool)=(decide ((s-1000)<u)):=pZ14;have hE:=cB e1;exact hE):p:=h
theorem p45 {p:Prop} (h:p:=by have h9:=UInt8.toNat_lt (Yr.getD (UInt8.ofNat (x / 2 ^ 32)).toNat 0);rw [IntKind.wrap_i64];omega):p:=h
theorem p46 {p:Prop} (h:p:=by have h9:=UInt8.toNat_lt (Yr.getD (UInt8.ofNat (x / 2 ^ 16)).toNat 0);rw [IntKind.wrap_i64];omega):p:=h
theorem p47 {p:Prop} (h:p:=by have h9:=UInt8.toNat_lt (Yr.getD (UInt8.ofNat (x / 2 ^ 8)).toNat 0);rw [IntKind.wrap_i64];omega):p:=h
theorem p48 {p:Prop} (h:p:=by rw [q];rfl):p:=h
theorem p49 {p:Prop} (h:p:=by (rw [Up,show rdC rest e 15=k by omega];done)):p:=h
theorem p4a {p:Prop} (h:p:=by exact kk4 (X41 trivial)):p:=h
theorem p4b {p:Prop} (h:p:=by exact kk2 (X41 trivial)):p:=h
theorem p4c {p:Prop} (h:p:=by exact congrArg (fun (q1:Int) (q2:Bool)=>(.tup [.one (.d (.val (.int .u64 q1))),.one (dB q2)]:AV)) e1):p:=h
theorem p4d {p:Prop} (h:p:=by (rw [X09,show rdC rest e 8=k by omega];done)):p:=h
theorem p4e {p:Prop} (h:p:=by (rw [chk_end (root:=root) (leaf:=leaf) (k:=k) (by omega) hsl (by omega) hb];simp [*];done)):p:=h
theorem p4f {p:Prop} (h:p:=by exact X05 (X41 p1w)):p:=h
theorem p4g {p:Prop} (h:p:=by simp only [List.length_append,List.length_singleton,List.length_take,List.length_drop];omega):p:=h
theorem p4h {p:Prop} (h:p:=by (rw [Up,show rdC r e 15=k by omega];done)):p:=h
theorem p4i {p:Prop} (h:p:=by have h9:=UInt8.toNat_lt (Yr.getD (UInt8.ofNat x).toNat 0);rw [IntKind.wrap_i64];omega):p:=h
theorem p4j {p:Prop} (h:p:=by (rw [Xjt he (by omega)])):p:=h
theorem p4k {p:Prop} (h:p:=by exact .inr ⟨rfl,(kk2 ⟨pq,⟨pq,trivial⟩⟩)⟩):p:=h
theorem p4l {p:Prop} (h:p:=by have e1:((X1f p kind c.Yf.X2 m s):Int)=0:=p3t;have hE:=cI e1;exact hE):p:=h
theorem p4m {p:Prop} (h:p:=by exact hx9.2.1):p:=h
theorem p4n {p:Prop} (h:p:=by have e1:((decide (Wm f s)):Bool)=false:=pZ14;have hE:=cB e1;exact hE):p:=h
theorem p4o {p:Prop} (h:p:=by exact .inr ⟨by decide,.inr ⟨rfl,(kk2 (kk4 ⟨pZ2,⟨.inl rfl,(kk4 trivial)⟩⟩))⟩⟩):p:=h
theorem p4p {p:Prop} (h:p:=by exact kk4 ⟨pq,⟨.inl rfl,(kk2 (kk4 p2k))⟩⟩):p:=h
theorem p4q {p:Prop} (h:p:=by have e1:((W1 f s):Int)=s % (3*f+1):=pZ14;have hE:=cI e1;exact hE):p:=h
theorem p4r {p:Prop} (h:p:=by have e1:((decide (I8 u s)):Bool)=false:=pZ14;have hE:=cB e1;exact hE):p:=h
theorem p4s {p:Prop} (h:p:=by exact kk2 ⟨pZl,trivial⟩):p:=h
theorem p4t {p:Prop} (h:p:=by (rw [hfr])):p:=h
theorem p4u {p:Prop} (h:p:=by (rw [fill_end (by omega)])):p:=h
theorem p4v {p:Prop} (h:p:=by (rw [hst];simp only [Hs,List.append_assoc];rw [crt_end (by omega)];done)):p:=h
theorem p4w {p:Prop} (h:p:=by (rw [frs_pos (by omega)])):p:=h
theorem p4x {p:Prop} (h:p:=by exact kk2 (kk4 trivial)):p:=h
theorem p4y {p:Prop} (h:p:=by (rw [rfA_no hr.1])):p:=h
theorem p4z {p:Prop} (h:p:=by exact hx9.2):p:=h
theorem p50 {p:Prop} (h:p:=by exact .inr ⟨by decide,.inr ⟨rfl,⟨.inl rfl,⟨pZ2,(kk8 trivial)⟩⟩⟩⟩):p:=h
theorem p51 {p:Prop} (h:p:=by exact .inr ⟨by decide,.inr ⟨rfl,⟨.inl rfl,(kk4 ⟨pZ2,trivial⟩)⟩⟩⟩):p:=h
theorem p52 {p:Prop} (h:p:=by exact .inr ⟨.inl rfl,⟨pZ2,trivial⟩⟩):p:=h
theorem p53 {p:Prop} (h:p:=by exact hx9.2.2):p:=h
theorem p54 {p:Prop} (h:p:=by (rw [← Fx (by omega) (by omega),Ic (z:=[]) (by omega)])):p:=h
theorem p55 {p:Prop} (h:p:=by have e1:((W1 f s):Int)=0:=pZ14;have hE:=cI e1;exact hE):p:=h
theorem p56 {p:Prop} (h:p:=by (have hke:l.take k=l:=List.take_of_length_le (by omega);rw [hke])):p:=h
theorem p57 {p:Prop} (h:p:=by exact congrArg (fun (q1:List UInt8)=>(slV false false kU8 q1:AV)) (by rfl)):p:=h
theorem p58 {p:Prop} (h:p:=by rw [h];exact hx):p:=h
theorem p59 {p:Prop} (h:p:=by exact hr.2.symm):p:=h
end Go.Proofs.YtnaopgohccacmaaGreat.Q
