import Derived.Test.YtnaopgohccacmaaGreatK19
namespace Go.Proofs.YtnaopgohccacmaaGreat.Q
open Go Go.RowKit
set_option linter.unusedVariables false
theorem pZ0 {p:Prop} (h:p:=by exact .inr ⟨rfl,rfl,rfl,(fun h=>by cases h),rfl,rfl,Nat.le_of_eq (Nat.zero_add _),fun i j _=>by rw [Nat.zero_add]⟩):p:=h
theorem pZ1 {p:Prop} (h:p:=by exact congr (congr (congr (congr (congr (congr (congr (congr (congrArg (fun (q1:Int) (q2:List aE) (q3:List UInt8) (q4:List Y6) (q5:Int) (q6:Int) (q7:List UInt8) (q8:Int) (q9:Int) (q10:List Y1)=>([.live (.box 49 [dI q1,.d (dsl false false (kE false) q2),dU q3,.d (dsl false false (X6 false) q4),dI q5,dI q6,dU q7,dI q8,dI q9,.d (dsl false false (X8 false) q10)]),Zue]:List HS)) e1) e2) e3) e4) e5) e6) e7) e8) e9):p:=h
theorem pZ2 {p:Prop} (h:p:=by exact gc2 (hx9.1) (by exact hx9.2) (fun qq0 (q11:Int)=>(.tup [.agg [dI (qq0.Xu),.d (dsl false false (kE false) (qq0.Xi)),dU (qq0.Xd),.d (dsl false false (X6 false) (qq0.X1)),dI (qq0.Vt),dI (qq0.Xm.f_Signer),dU (qq0.Xm.Xh),dI (qq0.X3.Y0),dI (qq0.X3.Xq),.d (dsl false false (X8 false) (qq0.Yr))],.one (dI q11)]:AV))):p:=h
theorem pZ3 {p:Prop} (h:p:=by intro b hb;simp only [List.mem_cons,List.not_mem_nil,or_false] at hb;rcases hb with rfl;exact ⟨_,List.Mem.head _⟩):p:=h
theorem pZ4 {p:Prop} (h:p:=by kernel_rfl):p:=h
theorem pZ5 {p:Prop} (h:p:=by have hE:=congrArg (fun (qq0:RdM)=>([Zbi,Zbv,.live (.box 195 [dU (qq0.rest),dI (qq0.e)]),.live (.box 78 [dI (qq0.m.X0),dI (qq0.m.Y9),dI (qq0.m.Xu),dI (qq0.m.Xr),dI (qq0.m.W0),dS (qq0.m.Xe),dU (qq0.m.Xd),dI (qq0.m.X3.Y0),dI (qq0.m.X3.Xq),.d (dsl false false (kE false) (qq0.m.Xt)),.d (dsl false false (kE false) (qq0.m.Y8)),.d (dsl false false (kC false) (qq0.m.X5))]),(Zbr b)]:List HS)) hst;(try dsimp only at hE);exact hE):p:=h
theorem pZ6 {p:Prop} (h:p:=by have e1:((vtV (Xz f u rows) f e k).X0:Int)=(opV (Xz f u rows) e k).X0:=(by (rw [hx9.1,hv9];done));have e2:((vtV (Xz f u rows) f e k).Y9:Int)=(opV (Xz f u rows) e k).Y9:=(by (rw [hx9.1,hv9];done));have e3:((vtV (Xz f u rows) f e k).Xu:Int)=(opV (Xz f u rows) e k).Xu:=(by (rw [hx9.1,hv9];done));have e4:((vtV (Xz f u rows) f e k).Xr:Int)=(opV (Xz f u rows) e k).Xr:=(by (rw [hx9.1,hv9];done));have e5:((vtV (Xz f u rows) f e k).W0:Int)=(opV (Xz f u rows) e k).W0:=(by (rw [hx9.1,hv9];done));have e6:((vtV (Xz f u rows) f e k).Xe:List UInt8)=(opV (Xz f u rows) e k).Xe:=(by (rw [hx9.1,hv9];done));have e7:((vtV (Xz f u rows) f e k).Xd:List UInt8)=(opV (Xz f u rows) e k).Xd:=(by (rw [hx9.1,hv9];done));have e8:((vtV (Xz f u rows) f e k).X3.Y0:Int)=(opV (Xz f u rows) e k).X3.Y0:=(by (rw [hx9.1,hv9];done));have e9:((vtV (Xz f u rows) f e k).X3.Xq:Int)=(opV (Xz f u rows) e k).X3.Xq:=(by (rw [hx9.1,hv9];done));have e10:((vtV (Xz f u rows) f e k).Xt:List aE)=(opV (Xz f u rows) e k).Xt:=(by (rw [hx9.1,hv9];done));have e11:((vtV (Xz f u rows) f e k).Y8:List aE)=(opV (Xz f u rows) e k).Y8:=(by (rw [hx9.1,hv9];done));have e12:((vtV (Xz f u rows) f e k).X5:List aC)=(opV (Xz f u rows) e k).X5:=(by (rw [hx9.1,hv9];done));have e13:((vtE (Xz f u rows) f e k):Int)=0:=(by exact hx9.2);have hE:=congr (congr (congr (congr (congr (congr (congr (congr (congr (congr (congr (congr (congrArg (fun (q1:Int) (q2:Int) (q3:Int) (q4:Int) (q5:Int) (q6:List UInt8) (q7:List UInt8) (q8:Int) (q9:Int) (q10:List aE) (q11:List aE) (q12:List aC) (q13:Int)=>(.tup [.agg [dI q1,dI q2,dI q3,dI q4,dI q5,dS q6,dU q7,dI q8,dI q9,.d (dsl false false (kE false) q10),.d (dsl false false (kE false) q11),.d (dsl false false (kC false) q12)],.one (dI q13)]:AV)) e1) e2) e3) e4) e5) e6) e7) e8) e9) e10) e11) e12) e13;exact hE):p:=h
theorem pZ7 {p:Prop} (h:p:=by exact .inr ⟨by decide,.inl rfl⟩):p:=h
theorem pZ8 {p:Prop} (h:p:=by exact .inr ⟨rfl,rfl,rfl⟩):p:=h
theorem pZ9 {p:Prop} (h:p:=by rw [IntKind.wrap_i64];omega):p:=h
theorem pa {p:Prop} (h:p:=by exact gc2 (hx9.1) (by exact hx9.2) (fun qq0 (q13:Int)=>(.tup [.agg [dI (qq0.X0),dI (qq0.Y9),dI (qq0.Xu),dI (qq0.Xr),dI (qq0.W0),dS (qq0.Xe),dU (qq0.Xd),dI (qq0.X3.Y0),dI (qq0.X3.Xq),.d (dsl false false (kE false) (qq0.Xt)),.d (dsl false false (kE false) (qq0.Y8)),.d (dsl false false (kC false) (qq0.X5))],.one (dI q13)]:AV))):p:=h
theorem pb {p:Prop} (h:p:=by exact Nat.le_of_ble_eq_true rfl):p:=h
theorem pc {p:Prop} (h:p:=by (rw [hx9];done)):p:=h
theorem pd {p:Prop} (h:p:=by have hE:=cg2 (fun (qq0:aM) (qq1:Int)=>(.tup [.agg [dI (qq0.X0),dI (qq0.Y9),dI (qq0.Xu),dI (qq0.Xr),dI (qq0.W0),dS (qq0.Xe),dU (qq0.Xd),dI (qq0.X3.Y0),dI (qq0.X3.Xq),.d (dsl false false (kE false) (qq0.Xt)),.d (dsl false false (kE false) (qq0.Y8)),.d (dsl false false (kC false) (qq0.X5))],.one (dI (qq1))]:AV)) (show Vr b=_ from hd9.1) hd9.2;(try dsimp only at hE);exact hE):p:=h
theorem pe {p:Prop} (h:p:=by exact cI (by exact if_neg (fun h9=>by obtain ⟨q1,q2,q3,q4,q5,q6,q7,q8,q9,q10⟩:=(Wx m).1 h9;exact absurd q10 ‹_›))):p:=h
theorem pf {p:Prop} (h:p:=by exact Nat.le_of_eq (Nat.zero_add _)):p:=h
theorem pg {p:Prop} (h:p:=by first|rfl|exact X1r (by omega) _|exact (X1r (by omega) _).symm|(rw [X1r (by omega)];first|done|rfl)|exact X1q h2l (by omega)|exact (X1q h2l (by omega)).symm|exact X1p h2l (by omega)|exact (X1p h2l (by omega)).symm|(rw [X1q h2l (by omega)])|(rw [X1p h2l (by omega)])):p:=h
theorem ph {p:Prop} (h:p:=by exact .inr ⟨trivial,(And.intro (arr_nt kU8_nt) trivial)⟩):p:=h
theorem pi {p:Prop} (h:p:=by have e1:((Hk l i):List Y1)=([]:List Y1):=(by (have ho:¬okI l i:=(by simp only [okI];omega);(rw [Hk,if_neg ho])));have e2:((Eg l i):Int)=2:=(by (have ho:¬okI l i:=(by simp only [okI];omega);(rw [Eg,if_neg ho])));have hE:=congr (congrArg (fun (q1:List Y1) (q2:Int)=>(.tup [.one (.d (dsl false false (X8 false) q1)),.one (dI q2)]:AV)) e1) e2;exact hE):p:=h
theorem pj {p:Prop} (h:p:=by exact congr (congr (congr (congrArg (fun (q1:Int) (q2:List UInt8) (q3:List aE) (q4:List Xw) (q5:Int)=>(.tup [.agg [dI q1,dS q2,.d (dsl false false (kE false) q3),.d (dsl false false (Xb false) q4)],.one (dI q5)]:AV)) e1) e2) e3) e4):p:=h
theorem pk {p:Prop} (h:p:=by exact cI (by exact if_neg (fun h9=>by obtain ⟨q1,q2,q3,q4,q5,q6,q7,q8,q9,q10⟩:=(Wx m).1 h9;exact q9 ⟨(by exact nbB ‹_›),by assumption⟩))):p:=h
theorem pZl {p:Prop} (h:p:=by exact congrArg (fun (q1:Int)=>([slV tb nb kU8 b,aa,pv 0 0,aa,pv 1 0,pv 3 0,pv 4 0,(Zbn b),vI q1]:List AV)) (by rfl)):p:=h
theorem pm {p:Prop} (h:p:=by first|assumption|exact Xl6 ‹_› (by decide)|exact Ji ‹_› _|exact Uy ‹_› _|exact fewG_set ‹_› ‹_› | decide):p:=h
theorem pn {p:Prop} (h:p:=by exact Nat.le_trans (by omega) (by decide:64≤_)):p:=h
theorem po {p:Prop} (h:p:=by have e1:((Yl c t).Xu:Int)=c.Xu:=pc;have e2:((Yl c t).Xi:List aE)=c.Xi:=pc;have e3:((Yl c t).Xd:List UInt8)=c.Xd:=pc;have e4:((Yl c t).X1:List Y6)=c.X1:=pc;have e5:((Yl c t).Vt:Int)=c.Vt:=pc;have e6:((Yl c t).Xm.f_Signer:Int)=c.Xm.f_Signer:=pc;have e7:((Yl c t).Xm.Xh:List UInt8)=c.Xm.Xh:=pc;have e8:((Yl c t).X3.Y0:Int)=c.X3.Y0:=pc;have e9:((Yl c t).X3.Xq:Int)=c.X3.Xq:=pc;have e10:((Yl c t).Yr:List Y1)=c.Yr:=pc;have hE:=congr pZ1 e10;exact hE):p:=h
theorem pp {p:Prop} (h:p:=by exact .inr ⟨by decide,.inr ⟨rfl,⟨.inl rfl,(kk2 ⟨pZ0,(kk2 (kk4 trivial))⟩)⟩⟩⟩):p:=h
theorem pq {p:Prop} (h:p:=by exact .inr ⟨rfl,⟨.inl rfl,⟨pZ8,⟨pZ8,⟨pZ8,(kk2 ⟨pZ8,(kk2 ⟨pZ8,trivial⟩)⟩)⟩⟩⟩⟩⟩):p:=h
theorem pZr {p:Prop} (h:p:=by exact .inr ⟨rfl,(kk2 (kk4 ⟨pZ8,(kk2 ⟨pZ8,⟨pZ8,⟨pZ8,trivial⟩⟩⟩)⟩))⟩):p:=h
theorem pZs {p:Prop} (h:p:=by exact fun h=>by cases h):p:=h
theorem pt {p:Prop} (h:p:=by have e1:((rblk h L x).X9:Int)=0:=(by (have hi:¬inL h L.length x:=(fun q=>by have q1:=q.1;have q2:=q.2;omega);(rw [rblk,if_neg hi];rfl)));have e2:((rblk h L x).Xy:List UInt8)=[]:=(by (have hi:¬inL h L.length x:=(fun q=>by have q1:=q.1;have q2:=q.2;omega);(rw [rblk,if_neg hi];rfl)));have e3:((rblk h L x).X7:List aE)=([]:List aE):=(by (have hi:¬inL h L.length x:=(fun q=>by have q1:=q.1;have q2:=q.2;omega);(rw [rblk,if_neg hi];rfl)));have e4:((rblk h L x).Xf:List Xw)=([]:List Xw):=(by (have hi:¬inL h L.length x:=(fun q=>by have q1:=q.1;have q2:=q.2;omega);(rw [rblk,if_neg hi];rfl)));have e5:((Ey h L.length x):Int)=4:=(by (have hi:¬inL h L.length x:=(fun q=>by have q1:=q.1;have q2:=q.2;omega);(rw [Ey,if_neg hi])));have hE:=congr pj e5;exact hE):p:=h
theorem pu {p:Prop} (h:p:=by have e1:((Yw h l x).X9:Int)=0:=(by (have hi:¬inL h l.length x:=(fun q=>by have q1:=q.1;have q2:=q.2;omega);(rw [Yw,if_neg hi];rfl)));have e2:((Yw h l x).Xy:List UInt8)=[]:=(by (have hi:¬inL h l.length x:=(fun q=>by have q1:=q.1;have q2:=q.2;omega);(rw [Yw,if_neg hi];rfl)));have e3:((Yw h l x).X7:List aE)=([]:List aE):=(by (have hi:¬inL h l.length x:=(fun q=>by have q1:=q.1;have q2:=q.2;omega);(rw [Yw,if_neg hi];rfl)));have e4:((Yw h l x).Xf:List Xw)=([]:List Xw):=(by (have hi:¬inL h l.length x:=(fun q=>by have q1:=q.1;have q2:=q.2;omega);(rw [Yw,if_neg hi];rfl)));have e5:((Ey h l.length x):Int)=4:=(by (have hi:¬inL h l.length x:=(fun q=>by have q1:=q.1;have q2:=q.2;omega);(rw [Ey,if_neg hi])));have hE:=congr pj e5;exact hE):p:=h
theorem pZv {p:Prop} (h:p:=by (simp [X01,Hx,Hy,X9d,zE, *];done)):p:=h
theorem pw {p:Prop} (h:p:=by first|rfl|exact Xgz (by omega)|exact (Xgz (by omega)).symm|exact X8r (by omega)|exact (X8r (by omega)).symm|exact X5s h2l|exact (X5s h2l).symm):p:=h
theorem px {p:Prop} (h:p:=by rw [List.take_length]):p:=h
theorem py {p:Prop} (h:p:=by exact .inr ⟨by decide,by decide,(.inr ⟨rfl,⟨.inl rfl,(kk2 ⟨(.inr rfl),trivial⟩)⟩⟩)⟩):p:=h
theorem pz {p:Prop} (h:p:=by exact congr (congrArg (fun (q1:Int) (q2:List UInt8) (q3:Int)=>(.tup [.agg [dI q1,dU q2],.one (dI q3)]:AV)) e1) e2):p:=h
theorem pZ10 {p:Prop} (h:p:=by exact congrArg (fun (q1:List UInt8) (q2:Int)=>(.live (.box 195 [dU q1,dI q2]):HS)) e1):p:=h
theorem Et {p:Prop} (h:p:=by (simp [Yh,okK, *];done)):p:=h
theorem pZ12 {p:Prop} (h:p:=by (simp only [List.length_append,List.length_singleton,maxLen];omega)):p:=h
theorem pZ13 {p:Prop} (h:p:=by exact congrArg (fun (q1:List Y1) (q2:Int)=>(.tup [.one (.d (dsl false false (X8 false) q1)),.one (dI q2)]:AV)) e1):p:=h
theorem Es {p:Prop} (h:p:=by (simp [Xk,okK, *];done)):p:=h
theorem Io {p:Prop} (h:p:=by (rw [hst];done)):p:=h
theorem pZ16 {p:Prop} (h:p:=by exact cI (by exact if_neg (fun h9=>by exact absurd h9.2.2.2.2.2.2.2.2.2.2.2.2.2 ‹_›))):p:=h
theorem pZ17 {p:Prop} (h:p:=by exact congr (congr (congr (congr (congrArg (fun (q1:Nat) (q2:Int) (q3:List UInt8) (q4:List aE) (q5:List Xw) (q6:List Y6)=>([(Zoc d l),(Zod l),Zoi,.live (Xc 5 kU8 b),.live (.box 49 [(Zoy seq),(Zp6 x),(Zoz b),.own 10 (X6 false).sz 0 q1,dI i,dI 0,Zoh,dI 0,dI 0,Zoh]),(Zp8 x),.live (.box 65 [dI q2,dS q3,.d (dsl false false (kE false) q4),.d (dsl false false (Xb false) q5)]),.live (Xc 69 (X6 false) q6)]:List HS)) e1) e2) e3) e4) e5):p:=h
theorem pZ18 {p:Prop} (h:p:=by exact cI (by exact if_neg (fun h9=>by obtain ⟨q1,q2,q3,q4,q5,q6,q7,q8,q9,q10⟩:=(Wx m).1 h9;exact q8 ⟨(by exact nbB ‹_›),by assumption⟩))):p:=h
theorem X9f {p:Prop} (h:p:=by (simp [X01,Hx,X6i,zE, *];done)):p:=h
theorem p1a {p:Prop} (h:p:=by exact .inr ⟨by decide,by decide,(.inl rfl)⟩):p:=h
theorem p1b {p:Prop} (h:p:=by exact (if_neg hno)):p:=h
theorem p1c {p:Prop} (h:p:=by (simp [Ii,Yz,Uq,primaryA,orgA, *];done)):p:=h
theorem p1d {p:Prop} (h:p:=by rw [List.length_take];omega):p:=h
theorem p1e {p:Prop} (h:p:=by have e1:(d:List UInt8)=(if fst=true then m.Xe else d):=(by (simp [X1v, *];done));have hE:=congrArg (fun (q1:List UInt8)=>(.live (.box 60 [dS q1]):HS)) e1;exact Eq.trans pZ4 hE):p:=h
theorem p1f {p:Prop} (h:p:=by have e1:((((rfA B a e 4 (Yq most ((B.drop a).take 4)))+(rdC (B.drop a) e most):Nat):Int):Int)=((Ht B a e most:Nat):Int):=(by omega);have e2:((rdE (B.drop a) e 4 (Yq most ((B.drop a).take 4))):Int)=(Va (B.drop a) e most):=(by omega);have hE:=congr (congrArg (fun (q1:Int) (q2:Int)=>(.live (.box 156 [(Z27 B),dI q1,dI q2]):HS)) e1) e2;exact Eq.trans pZ4 hE):p:=h
theorem p1g {p:Prop} (h:p:=by have e1:((Vd b):Int)=102:=(by (unfold Vd;(rw [if_neg (by omega)];rw [if_pos (by omega)])));have hE:=cI e1;exact hE):p:=h
theorem p1h {p:Prop} (h:p:=by exact trivial):p:=h
theorem p1i {p:Prop} (h:p:=by have e1:((X16 x k):List UInt8)=(X9z (Xz f u rows) f x):=(by exact hda.1);have hE:=congrArg (fun (q1:List UInt8)=>(.live (.box 60 [dS q1]):HS)) e1;exact Eq.trans pZ4 hE):p:=h
theorem p1j {p:Prop} (h:p:=by have e1:(((rfA B a e 4 (Yq most ((B.drop a).take 4)):Nat):Int):Int)=((Ht B a e most:Nat):Int):=(by omega);have e2:((rdE (B.drop a) e 4 (Yq most ((B.drop a).take 4))):Int)=(Va (B.drop a) e most):=(by omega);have hE:=congr (congrArg (fun (q1:Int) (q2:Int)=>(.live (.box 156 [(Z27 B),dI q1,dI q2]):HS)) e1) e2;exact Eq.trans pZ4 hE):p:=h
theorem p1k {p:Prop} (h:p:=by first|omega|(simp only [List.length_take,List.length_drop];omega)):p:=h
theorem p1l {p:Prop} (h:p:=by exact gc2 (show (Xk k)=⟨true,true,false,true,false,false,false,false,false⟩ from Es) (show ((decide (okK k)):Bool)=true from Es) (fun qq0 (q10:Bool)=>(.tup [.agg [dB (qq0.Y9),dB (qq0.Xu),dB (qq0.Xr),dB (qq0.Xe),dB (qq0.Xd),dB (qq0.X3),dB (qq0.Xt),dB (qq0.Y8),dB (qq0.X5)],.one (dB q10)]:AV))):p:=h
theorem p1m {p:Prop} (h:p:=by have e1:((X15 k):Bool)=(fstF (Xz f u rows) f x):=(by exact hda.2);have hE:=congrArg (fun (q1:Bool)=>(.live (.box 4 [dB q1]):HS)) e1;exact Eq.trans pZ4 hE):p:=h
theorem p1n {p:Prop} (h:p:=by exact congrArg (fun (q1:Int)=>([pv 0 0,vI seq,aa,aa,vI h,vI i,aa,aa,aa,aa,aa,aa,pv 2 0,aa,aa,aa,aa,aa,pv 4 0,aa,aa,pv 6 0,vI q1]:List AV)) (by omega)):p:=h
theorem p1o {p:Prop} (h:p:=by exact congrArg (fun (q1:Int)=>([pv 0 0,vI seq,(Zqe x),slV false false kU8 b,vI h,vI i,aa,aa,aa,aa,aa,aa,pv 2 0,vI 0,(Zqh b),aa,aa,(Zqi b),pv 3 0,vI q1,aa,aa,aa,aa,aa,aa,aa,aa,aa,aa,aa,aa,aa,aa,aa,aa,aa,aa,(Zqt seq b),aa,aa,aa,aa,aa,aa,aa,aa,aa,aa,aa,aa,aa,(Zqx seq h)]:List AV)) (by omega)):p:=h
theorem p1p {p:Prop} (h:p:=by exact cI (by exact if_neg (fun h9=>by (rcases h9.2.2.2.2.2.2.2.2.2.2.2.2.1 with h8|h8<;>exact absurd h8 ‹_›)))):p:=h
theorem p1q {p:Prop} (h:p:=by (rw [List.take_of_length_le (by omega)])):p:=h
theorem p1r {p:Prop} (h:p:=by have e1:((Vd b):Int)=100:=(by (unfold Vd;rw [if_pos (by omega)]));have hE:=cI e1;exact hE):p:=h
theorem p1s {p:Prop} (h:p:=by have e1:(fst:Bool)=false:=(by (simp [X1v, *];done));have hE:=congrArg (fun (q1:Bool)=>(.live (.box 4 [dB q1]):HS)) e1;exact Eq.trans pZ4 hE):p:=h
theorem p1t {p:Prop} (h:p:=by exact congrArg some pZ4):p:=h
theorem p1u {p:Prop} (h:p:=by have e1:(l:List aE)=(Hy f u l s b):=pZv;have hE:=congrArg (fun (q1:List aE)=>(.live (Xc 43 (kE false) q1):HS)) e1;exact Eq.trans pZ4 hE):p:=h
theorem p1v {p:Prop} (h:p:=by exact congrArg (fun (q1:List UInt8)=>([.live (Xc 5 kU8 q1)]:List HS)) (by rfl)):p:=h
theorem p1w {p:Prop} (h:p:=by exact Classical.not_not.1 ‹_›):p:=h
theorem p1x {p:Prop} (h:p:=by exact .inr ⟨by decide,.inr ⟨rfl,⟨.inl rfl,(kk2 ⟨pZ0,trivial⟩)⟩⟩⟩):p:=h
theorem p1y {p:Prop} (h:p:=by exact .inr ⟨by decide,.inr ⟨rfl,(kk2 ⟨pZ0,⟨.inl rfl,trivial⟩⟩)⟩⟩):p:=h
theorem p1z {p:Prop} (h:p:=by rw [List.length_drop];omega):p:=h
theorem pZ20 {p:Prop} (h:p:=by exact .inr ⟨rfl,pZs,rfl,rfl,rfl⟩):p:=h
theorem pZ21 {p:Prop} (h:p:=by have e1:((if (X15 k)=true then (vtV (Xz f u rows) f (x.getD k zE) 5).Xe else (X16 x k)):List UInt8)=(X9z (Xz f u rows) f x):=(by exact hdn.1.trans hdn.2.1.symm);have hE:=congrArg (fun (q1:List UInt8)=>(.live (.box 60 [dS q1]):HS)) e1;exact Eq.trans pZ4 hE):p:=h
theorem pZ22 {p:Prop} (h:p:=by have e1:(((rdC (B.drop a) e most:Nat):Int):Int)=0:=(by (simp only [rdC];(rw [if_neg hr.1];rfl)));have hE:=cI e1;exact hE):p:=h
theorem pZ23 {p:Prop} (h:p:=by have e1:((H7 b i):List Y1)=(Hk (Y5 b) i):=(by (rw [H7,if_pos (Classical.not_not.1 ‹_›)]));have e2:((J7 b i):Int)=(Eg (Y5 b) i):=(by (rw [J7,if_pos (Classical.not_not.1 ‹_›)]));have hE:=congr pZ13 e2;exact hE):p:=h
theorem pZ24 {p:Prop} (h:p:=by rw [len8_len];exact UInt8.toNat_lt _):p:=h
theorem pZ25 {p:Prop} (h:p:=by exact X12 (X12 trivial)):p:=h
theorem pZ26 {p:Prop} (h:p:=by exact congrArg (fun (q1:Int) (q2:Int)=>(.live (.box 156 [(Z24 B),dI q1,dI q2]):HS)) e1):p:=h
theorem pZ27 {p:Prop} (h:p:=by exact kk2 ⟨pZr,⟨.inl rfl,trivial⟩⟩):p:=h
theorem pZ28 {p:Prop} (h:p:=by exact congrArg (fun (q1:List UInt8)=>(dv (Yn q1):AV)) (by rfl)):p:=h
theorem pZ29 {p:Prop} (h:p:=by exact congrArg (fun (q1:Int) (q2:Int)=>(.tup [.one (dI q1),.one (dI q2)]:AV)) e1):p:=h
theorem p2a {p:Prop} (h:p:=by (have hi:inL h l.length x:=⟨by omega,by omega⟩;(rw [Yw,if_pos hi]))):p:=h
theorem p2b {p:Prop} (h:p:=by (have hi:inL h L.length x:=⟨by omega,by omega⟩;(rw [rblk,if_pos hi]))):p:=h
theorem p2c {p:Prop} (h:p:=by exact congrArg (fun (q1:Nat)=>(Xx 0 kU8 0 q1:AV)) (by rfl)):p:=h
theorem p2d {p:Prop} (h:p:=by have e1:(b++V3 ((x.length:Nat):Int)++x:List UInt8)=b++Yo x:=(by (simp only [Yo,List.append_assoc]));have hE:=congrArg (fun (q1:List UInt8)=>(.live (Xc 5 kU8 q1):HS)) e1;exact Eq.trans pZ4 hE):p:=h
theorem p2e {p:Prop} (h:p:=by exact gc2 (show (Yh k)=⟨11,0,1,7⟩ from Et) (show ((decide (okK k)):Bool)=true from Et) (fun qq0 (q5:Bool)=>(.tup [.agg [dI (qq0.Vp),dI (qq0.Wu),dI (qq0.V6),dI (qq0.Vi)],.one (dB q5)]:AV))):p:=h
theorem p2f {p:Prop} (h:p:=by exact .inr ‹_›):p:=h
theorem p2g {p:Prop} (h:p:=by exact .inl ‹_›):p:=h
theorem p2h {p:Prop} (h:p:=by have e1:((b++Yo x).length:Nat)=(b++V3 ((x.length:Nat):Int)++x).length:=(by (simp only [Yo,List.append_assoc]));have hE:=congrArg (fun (q1:Nat)=>(Xx 1 kU8 0 q1:AV)) e1;exact hE):p:=h
theorem p2i {p:Prop} (h:p:=by (rw [len8 (by omega)];omega)):p:=h
theorem p2j {p:Prop} (h:p:=by have e1:((H7 b i):List Y1)=([]:List Y1):=(by (rw [H7,if_neg ‹_›]));have e2:((J7 b i):Int)=(Vd b):=(by (rw [J7,if_neg ‹_›]));have hE:=congr pZ13 e2;exact hE):p:=h
theorem p2k {p:Prop} (h:p:=by have e1:(m.Xe:List UInt8)=(if fst=true then m.Xe else d):=(by (simp [X1v, *];done));have hE:=congrArg (fun (q1:List UInt8)=>(.live (.box 60 [dS q1]):HS)) e1;exact Eq.trans pZ4 hE):p:=h
theorem p2l {p:Prop} (h:p:=by exact kk2 ⟨(.inr ⟨rfl,(kk2 ⟨pZ8,⟨pZ8,trivial⟩⟩)⟩),trivial⟩):p:=h
theorem p2m {p:Prop} (h:p:=by have e1:((W2 l):List UInt8)=(ofB (3:UInt8) [(W2 (l.take (half l.length))),(W2 (l.drop (half l.length)))]):=pw;have hE:=congrArg (fun (q1:List UInt8)=>(dv (Yn q1):AV)) e1;exact hE):p:=h
theorem p2n {p:Prop} (h:p:=by (simp [X26,X14, *];done)):p:=h
theorem p2o {p:Prop} (h:p:=by exact .inr ⟨trivial,trivial⟩):p:=h
theorem p2p {p:Prop} (h:p:=by have e1:(rows:List (Yg×Bool))=(X6i f u rows s b):=X9f;have hE:=congrArg (fun (q1:List (Yg×Bool))=>(.live (mpK Xp Yc q1):HS)) e1;exact Eq.trans pZ4 hE):p:=h
theorem p2q {p:Prop} (h:p:=by (rw [aw_pr9.1];done)):p:=h
theorem p2r {p:Prop} (h:p:=by exact kk8 (X1z trivial)):p:=h
theorem p2s {p:Prop} (h:p:=by have e1:(l.length:Nat)=(Hy f u l s b).length:=pZv;have hE:=congrArg (fun (q1:Nat)=>(.live (.box 135 [dB true,dI f,dI u,.own 3 (kE false).sz 0 q1]):HS)) e1;exact Eq.trans pZ4 hE):p:=h
theorem p2t {p:Prop} (h:p:=by intro h;cases h):p:=h
theorem p2u {p:Prop} (h:p:=by have e1:(([]:List UInt8):List UInt8)=(rdY (B.drop a) e most):=(by exact hy.1.symm);have hE:=congrArg (fun (q1:List UInt8)=>(.live (Xc 5 kU8 q1):HS)) e1;exact Eq.trans pZ4 hE):p:=h
theorem p2v {p:Prop} (h:p:=by have e1:((Hx f u s b).f_Signer:Int)=s:=pZv;have e2:((Hx f u s b).Xh:List UInt8)=b:=pZv;have e3:((X01 f u s b):Int)=0:=pZv;have hE:=congr pz e3;exact hE):p:=h
theorem p2w {p:Prop} (h:p:=by have e1:(([]:List UInt8):List UInt8)=(rdY rest e most):=(by (rw [hy.1];done));have hE:=congrArg (fun (q1:List UInt8)=>(.live (Xc 5 kU8 q1):HS)) e1;exact Eq.trans pZ4 hE):p:=h
theorem p2x {p:Prop} (h:p:=by have e1:(false:Bool)=(fstF (Xz f u rows) f x):=(by exact hdn.2.2.1.symm);have hE:=congrArg (fun (q1:Bool)=>(.live (.box 4 [dB q1]):HS)) e1;exact Eq.trans pZ4 hE):p:=h
theorem p2y {p:Prop} (h:p:=by exact kk2 ⟨pq,trivial⟩):p:=h
theorem p2z {p:Prop} (h:p:=by have e1:(b++(Wh (Fe n) 4):List UInt8)=b++V3 n:=(by rfl);have hE:=congrArg (fun (q1:List UInt8)=>(.live (Xc 5 kU8 q1):HS)) e1;exact Eq.trans pZ4 hE):p:=h
theorem pZ30 {p:Prop} (h:p:=by have e1:(((Y5 b).take k):List (List UInt8))=(Y5 b):=p1q;have hE:=congrArg (fun (q1:List (List UInt8))=>(.live (Xc 25 (kSl false kU8) q1):HS)) e1;exact Eq.trans pZ4 hE):p:=h
theorem pZ31 {p:Prop} (h:p:=by have e1:(b++(Wh (u64 n) 8):List UInt8)=b++Yp n:=(by rfl);have hE:=congrArg (fun (q1:List UInt8)=>(.live (Xc 5 kU8 q1):HS)) e1;exact Eq.trans pZ4 hE):p:=h
theorem p32 {p:Prop} (h:p:=by exact .inr ⟨by decide,.inr ⟨rfl,(kk2 ⟨pZ0,⟨.inl rfl,(kk2 (kk4 trivial))⟩⟩)⟩⟩):p:=h
theorem p33 {p:Prop} (h:p:=by exact congrArg (fun (q1:Int) (q2:Int)=>(.live (.box 156 [dU B,dI q1,dI q2]):HS)) e1):p:=h
theorem p34 {p:Prop} (h:p:=by have e1:(xs:List Int)=(X2b xs):=(by exact hsh.symm);have hE:=congrArg (fun (q1:List Int)=>(.live (Xc 3 (Yf .i64) q1):HS)) e1;exact Eq.trans pZ4 hE):p:=h
theorem p35 {p:Prop} (h:p:=by have e1:((W2 l):List UInt8)=(ofB (4:UInt8) ([]:List (List UInt8))):=pw;have hE:=congrArg (fun (q1:List UInt8)=>(dv (Yn q1):AV)) e1;exact hE):p:=h
theorem p36 {p:Prop} (h:p:=by have e1:((Y5 b).length:Nat)=((Y5 b).take k).length:=p1q;have hE:=congrArg (fun (q1:Nat)=>(Xx 1 (kSl false kU8) 0 q1:AV)) e1;exact hE):p:=h
theorem p37 {p:Prop} (h:p:=by exact cI (by exact if_neg (fun h9=>by obtain ⟨q1,q2,q3,q4,q5,q6,q7,q8,q9,q10⟩:=(Wx m).1 h9;exact q7 ⟨(by exact nbB ‹_›),by assumption⟩))):p:=h
theorem p38 {p:Prop} (h:p:=by have e1:((W2 l):List UInt8)=(ofB (2:UInt8) [(l.getD 0 [])]):=pw;have hE:=congrArg (fun (q1:List UInt8)=>(dv (Yn q1):AV)) e1;exact hE):p:=h
theorem p39 {p:Prop} (h:p:=by have e1:((rdY (B.drop a) e most).length:Nat)=0:=(by (rw [hy.1];rfl));have hE:=congrArg (fun (q1:Nat)=>(Xx 1 kU8 0 q1:AV)) e1;exact hE):p:=h
theorem p3a {p:Prop} (h:p:=by have e1:((X2b xs).length:Nat)=xs.length:=(by (rw [hsh]));have hE:=congrArg (fun (q1:Nat)=>(Xx 0 (Yf .i64) 0 q1:AV)) e1;exact hE):p:=h
theorem p3b {p:Prop} (h:p:=by exact .inr ⟨rfl,⟨.inl rfl,⟨pZ8,trivial⟩⟩⟩):p:=h
theorem p3c {p:Prop} (h:p:=by exact X1z (X12 trivial)):p:=h
theorem p3d {p:Prop} (h:p:=by exact cI (by exact hz9)):p:=h
theorem p3e {p:Prop} (h:p:=by exact .inr ⟨by decide,.inr ⟨rfl,⟨.inl rfl,⟨pZ0,trivial⟩⟩⟩⟩):p:=h
theorem p3f {p:Prop} (h:p:=by exact (if_pos hok)):p:=h
theorem p3g {p:Prop} (h:p:=by have e1:((decide (Uq f u s)):Bool)=(decide (Ii u s)):=(by (simp [Uq,orgA, *];done));have hE:=cB e1;exact hE):p:=h
theorem p3h {p:Prop} (h:p:=by have e1:((X1v seq (if fst=true then m.Xe else d) m):Int)=131:=(by (simp [X1v, *];done));have hE:=cI e1;exact hE):p:=h
theorem p3i {p:Prop} (h:p:=by exact .inr ⟨trivial,(And.intro (And.intro trivial (And.intro trivial (And.intro trivial trivial))) (And.intro (mp_ntH Xfi) trivial))⟩):p:=h
theorem p3j {p:Prop} (h:p:=by have e1:((X1v seq (if fst=true then m.Xe else d) m):Int)=0:=(by (simp [X1v, *];done));have hE:=cI e1;exact hE):p:=h
theorem p3k {p:Prop} (h:p:=by exact fun b hb=>by cases hb):p:=h
theorem p3l {p:Prop} (h:p:=by have e1:((Vd b):Int)=0:=(by (unfold Vd;(rw [if_neg (by omega)];rw [if_neg (by omega)])));have hE:=cI e1;exact hE):p:=h
theorem p3m {p:Prop} (h:p:=by have h9:=UInt8.toNat_lt (Yk.getD (UInt8.ofNat (((x / 2 ^ 32) / 2 ^ 16) / 2 ^ 8)).toNat 0);rw [IntKind.wrap_i64];omega):p:=h
theorem p3n {p:Prop} (h:p:=by (rw [IntKind.wrap_u64];omega)):p:=h
theorem p3o {p:Prop} (h:p:=by have e1:(rdI (B.drop a) e:Int)=0:=(by (simp only [rdI];(rw [if_neg hr.1];done)));have hE:=cI e1;exact hE):p:=h
theorem p3p {p:Prop} (h:p:=by have e1:((decide (Uq f u s)):Bool)=true:=(by (simp [Uq,orgA, *];done));have hE:=cB e1;exact hE):p:=h
theorem p3q {p:Prop} (h:p:=by exact Nat.le_trans (Nat.pow_le_pow_right (by decide) h) (by decide)):p:=h
theorem p3r {p:Prop} (h:p:=by have h9:=UInt8.toNat_lt (Yk.getD (UInt8.ofNat ((x / 2 ^ 32) / 2 ^ 16)).toNat 0);rw [IntKind.wrap_i64];omega):p:=h
theorem p3s {p:Prop} (h:p:=by have h9:=UInt8.toNat_lt (Yk.getD (UInt8.ofNat ((x / 2 ^ 32) / 2 ^ 8)).toNat 0);rw [IntKind.wrap_i64];omega):p:=h
theorem p3t {p:Prop} (h:p:=by have h9:=UInt8.toNat_lt (Yk.getD (UInt8.ofNat ((x / 2 ^ 16) / 2 ^ 8)).toNat 0);rw [IntKind.wrap_i64];omega):p:=h
theorem p3u {p:Prop} (h:p:=by exact hx9.1):p:=h
theorem p3v {p:Prop} (h:p:=by exact kk2 (kk4 (X1z trivial))):p:=h
theorem p3w {p:Prop} (h:p:=by have e1:((decide (inM s f n lo hi)):Bool)=false:=(by (simp [inM, *];done));have hE:=cB e1;exact hE):p:=h
theorem p3x {p:Prop} (h:p:=by exact kk4 (kk8 trivial)):p:=h
theorem p3y {p:Prop} (h:p:=by decide +kernel):p:=h
theorem p3z {p:Prop} (h:p:=by exact cI (by exact if_neg (fun h9=>by (rcases h9.2.2.2.2.2.2.2.2.2.2.2.1 with h8|h8<;>exact absurd h8 ‹_›)))):p:=h
theorem p40 {p:Prop} (h:p:=by (rw [Uf (z:=zE) (by omega)])):p:=h
theorem p41 {p:Prop} (h:p:=by have e1:((decide (Yz f s)):Bool)=(decide (s<(3*f+1))):=p1c;have hE:=cB e1;exact hE):p:=h
theorem p42 {p:Prop} (h:p:=by rw [← hsame k];exact e):p:=h
theorem p43 {p:Prop} (h:p:=by have h9:=UInt8.toNat_lt (Yk.getD (UInt8.ofNat (x / 2 ^ 32)).toNat 0);rw [IntKind.wrap_i64];omega):p:=h
theorem p44 {p:Prop} (h:p:=by have h9:=UInt8.toNat_lt (Yk.getD (UInt8.ofNat (x / 2 ^ 16)).toNat 0);rw [IntKind.wrap_i64];omega):p:=h
theorem p45 {p:Prop} (h:p:=by have e1:((decide (Ii u s)):Bool)=(decide ((s-1000)<u)):=p1c;have hE:=cB e1;exact hE):p:=h
theorem p46 {p:Prop} (h:p:=by have h9:=UInt8.toNat_lt (Yk.getD (UInt8.ofNat (x / 2 ^ 8)).toNat 0);rw [IntKind.wrap_i64];omega):p:=h
theorem p47 {p:Prop} (h:p:=by exact X1z (X12 pZ25)):p:=h
theorem p48 {p:Prop} (h:p:=by simp;omega):p:=h
theorem p49 {p:Prop} (h:p:=by rw [q];rfl):p:=h
theorem p4a {p:Prop} (h:p:=by (rw [Hu,show rdC rest e 15=k by omega];done)):p:=h
theorem p4b {p:Prop} (h:p:=by exact congrArg (fun (q1:Int) (q2:Bool)=>(.tup [.one (.d (.val (.int .u64 q1))),.one (dB q2)]:AV)) e1):p:=h
theorem p4c {p:Prop} (h:p:=by (rw [X36,show rdC rest e 8=k by omega];done)):p:=h
theorem p4d {p:Prop} (h:p:=by (rw [chk_end (root:=root) (leaf:=leaf) (k:=k) (by omega) hsl (by omega) hb];simp [*];done)):p:=h
theorem p4e {p:Prop} (h:p:=by simp only [List.length_append,List.length_singleton,List.length_take,List.length_drop];omega):p:=h
theorem p4f {p:Prop} (h:p:=by have h9:=UInt8.toNat_lt (Yk.getD (UInt8.ofNat x).toNat 0);rw [IntKind.wrap_i64];omega):p:=h
theorem p4g {p:Prop} (h:p:=by (rw [Xkb he (by omega)])):p:=h
theorem p4h {p:Prop} (h:p:=by exact .inr ⟨(And.intro (dsl_nt (nn:=false) Xas) (And.intro trivial trivial)),trivial⟩):p:=h
theorem p4i {p:Prop} (h:p:=by exact kk4 ⟨pZ8,⟨.inl rfl,(kk2 (kk4 p2r))⟩⟩):p:=h
theorem p4j {p:Prop} (h:p:=by exact hx9.2.1):p:=h
theorem p4k {p:Prop} (h:p:=by (rw [Xl4])):p:=h
theorem p4l {p:Prop} (h:p:=by have e1:((decide (Yz f s)):Bool)=false:=p1c;have hE:=cB e1;exact hE):p:=h
theorem p4m {p:Prop} (h:p:=by have e1:((decide (Ii u s)):Bool)=false:=p1c;have hE:=cB e1;exact hE):p:=h
theorem p4n {p:Prop} (h:p:=by (rw [hfr])):p:=h
theorem p4o {p:Prop} (h:p:=by (rw [hst];simp only [H4,List.append_assoc];rw [crt_end (by omega)];done)):p:=h
theorem p4p {p:Prop} (h:p:=by (rw [frs_pos (by omega)])):p:=h
theorem p4q {p:Prop} (h:p:=by (rw [rfA_no hr.1])):p:=h
theorem p4r {p:Prop} (h:p:=by (have ho:okI l i:=(by simp only [okI];omega);(rw [Eg,if_pos ho]))):p:=h
theorem p4s {p:Prop} (h:p:=by exact .inr ⟨by decide,.inr ⟨rfl,⟨.inl rfl,⟨pZ0,(kk8 trivial)⟩⟩⟩⟩):p:=h
theorem p4t {p:Prop} (h:p:=by exact .inr ⟨by decide,.inr ⟨rfl,⟨.inl rfl,(kk4 ⟨pZ0,trivial⟩)⟩⟩⟩):p:=h
theorem p4u {p:Prop} (h:p:=by exact .inr ⟨.inl rfl,⟨pZ0,trivial⟩⟩):p:=h
theorem p4v {p:Prop} (h:p:=by exact hx9.2.2):p:=h
theorem p4w {p:Prop} (h:p:=by (rw [← F4 (by omega) (by omega),Uf (z:=[]) (by omega)])):p:=h
theorem p4x {p:Prop} (h:p:=by (have hke:l.take k=l:=List.take_of_length_le (by omega);rw [hke])):p:=h
theorem p4y {p:Prop} (h:p:=by exact congrArg (fun (q1:List UInt8)=>(slV false false kU8 q1:AV)) (by rfl)):p:=h
theorem p4z {p:Prop} (h:p:=by exact few_wide ‹_›):p:=h
theorem p50 {p:Prop} (h:p:=by rw [sz4,Wd,Wd];omega):p:=h
theorem p51 {p:Prop} (h:p:=by exact hr.2.symm):p:=h
end Go.Proofs.YtnaopgohccacmaaGreat.Q
