import Derived.Test.YtnaopgohccacmaaGreatK19
namespace Go.Proofs.YtnaopgohccacmaaGreat.Q
open Go Go.RowKit
set_option linter.unusedVariables false
theorem pZ0 {p:Prop} (h:p:=by exact .inr ⟨rfl,rfl,rfl,(fun h=>by cases h),rfl,rfl,Nat.le_of_eq (Nat.zero_add _),fun i j _=>by rw [Nat.zero_add]⟩):p:=h
theorem pZ1 {p:Prop} (h:p:=by have hE:=congrArg (fun (qq0:RdM)=>([.live (.box 156 [(Zdl B),dI (((V9 B qq0.rest:Nat):Int)),dI (qq0.e)]),.live (.box 78 [dI (qq0.m.X1),dI (qq0.m.Y1),dI (qq0.m.Xs),dI (qq0.m.Xh),dI (qq0.m.Yh),dS (qq0.m.X9),dU (qq0.m.Xc),dI (qq0.m.X0.Xt),dI (qq0.m.X0.Xn),.d (dsl false false (kE false) (qq0.m.Xp)),.d (dsl false false (kE false) (qq0.m.Y4)),Zdi]),(Zdp h),Zdq]:List HS)) hst;(try dsimp only at hE);exact hE):p:=h
theorem pZ2 {p:Prop} (h:p:=by exact gc2 (hx9.1) (by exact hx9.2) (fun qq0 (q13:Int)=>(.tup [.agg [dI (qq0.X1),dI (qq0.Y1),dI (qq0.Xs),dI (qq0.Xh),dI (qq0.Yh),dS (qq0.X9),dU (qq0.Xc),dI (qq0.X0.Xt),dI (qq0.X0.Xn),.d (dsl false false (kE false) (qq0.Xp)),.d (dsl false false (kE false) (qq0.Y4)),.d (dsl false false (kC false) (qq0.X6))],.one (dI q13)]:AV))):p:=h
theorem pZ3 {p:Prop} (h:p:=by exact congr (congr (congr (congr (congr (congr (congr (congr (congrArg (fun (q1:Int) (q2:List aE) (q3:List UInt8) (q4:List Yb) (q5:Int) (q6:Int) (q7:List UInt8) (q8:Int) (q9:Int) (q10:List Xz)=>([.live (.box 49 [dI q1,.d (dsl false false (kE false) q2),dU q3,.d (dsl false false (X8 false) q4),dI q5,dI q6,dU q7,dI q8,dI q9,.d (dsl false false (Xa false) q10)]),Zue]:List HS)) e1) e2) e3) e4) e5) e6) e7) e8) e9):p:=h
theorem pZ4 {p:Prop} (h:p:=by exact gc2 (hx9.1) (by exact hx9.2) (fun qq0 (q11:Int)=>(.tup [.agg [dI (qq0.Xs),.d (dsl false false (kE false) (qq0.Xu)),dU (qq0.Xc),.d (dsl false false (X8 false) (qq0.X2)),dI (qq0.Vp),dI (qq0.Xl.X5),dU (qq0.Xl.Xd),dI (qq0.X0.Xt),dI (qq0.X0.Xn),.d (dsl false false (Xa false) (qq0.Yu))],.one (dI q11)]:AV))):p:=h
theorem pZ5 {p:Prop} (h:p:=by exact .inr ⟨rfl,rfl,rfl⟩):p:=h
theorem pZ6 {p:Prop} (h:p:=by intro b hb;simp only [List.mem_cons,List.not_mem_nil,or_false] at hb;rcases hb with rfl;exact ⟨_,List.Mem.head _⟩):p:=h
theorem pZ7 {p:Prop} (h:p:=by have hE:=congrArg (fun (qq0:RdM)=>([Zbi,Zbv,.live (.box 195 [dU (qq0.rest),dI (qq0.e)]),.live (.box 78 [dI (qq0.m.X1),dI (qq0.m.Y1),dI (qq0.m.Xs),dI (qq0.m.Xh),dI (qq0.m.Yh),dS (qq0.m.X9),dU (qq0.m.Xc),dI (qq0.m.X0.Xt),dI (qq0.m.X0.Xn),.d (dsl false false (kE false) (qq0.m.Xp)),.d (dsl false false (kE false) (qq0.m.Y4)),.d (dsl false false (kC false) (qq0.m.X6))]),(Zbr b)]:List HS)) hst;(try dsimp only at hE);exact hE):p:=h
theorem pZ8 {p:Prop} (h:p:=by kernel_rfl):p:=h
theorem pZ9 {p:Prop} (h:p:=by exact .inr ⟨by decide,.inl rfl⟩):p:=h
theorem pa {p:Prop} (h:p:=by have e1:((vtV (Y5 f u rows) f e k).X1:Int)=(opV (Y5 f u rows) e k).X1:=(by (rw [hx9.1,hv9];done));have e2:((vtV (Y5 f u rows) f e k).Y1:Int)=(opV (Y5 f u rows) e k).Y1:=(by (rw [hx9.1,hv9];done));have e3:((vtV (Y5 f u rows) f e k).Xs:Int)=(opV (Y5 f u rows) e k).Xs:=(by (rw [hx9.1,hv9];done));have e4:((vtV (Y5 f u rows) f e k).Xh:Int)=(opV (Y5 f u rows) e k).Xh:=(by (rw [hx9.1,hv9];done));have e5:((vtV (Y5 f u rows) f e k).Yh:Int)=(opV (Y5 f u rows) e k).Yh:=(by (rw [hx9.1,hv9];done));have e6:((vtV (Y5 f u rows) f e k).X9:List UInt8)=(opV (Y5 f u rows) e k).X9:=(by (rw [hx9.1,hv9];done));have e7:((vtV (Y5 f u rows) f e k).Xc:List UInt8)=(opV (Y5 f u rows) e k).Xc:=(by (rw [hx9.1,hv9];done));have e8:((vtV (Y5 f u rows) f e k).X0.Xt:Int)=(opV (Y5 f u rows) e k).X0.Xt:=(by (rw [hx9.1,hv9];done));have e9:((vtV (Y5 f u rows) f e k).X0.Xn:Int)=(opV (Y5 f u rows) e k).X0.Xn:=(by (rw [hx9.1,hv9];done));have e10:((vtV (Y5 f u rows) f e k).Xp:List aE)=(opV (Y5 f u rows) e k).Xp:=(by (rw [hx9.1,hv9];done));have e11:((vtV (Y5 f u rows) f e k).Y4:List aE)=(opV (Y5 f u rows) e k).Y4:=(by (rw [hx9.1,hv9];done));have e12:((vtV (Y5 f u rows) f e k).X6:List aC)=(opV (Y5 f u rows) e k).X6:=(by (rw [hx9.1,hv9];done));have e13:((vtE (Y5 f u rows) f e k):Int)=0:=(by exact hx9.2);have hE:=congr (congr (congr (congr (congr (congr (congr (congr (congr (congr (congr (congr (congrArg (fun (q1:Int) (q2:Int) (q3:Int) (q4:Int) (q5:Int) (q6:List UInt8) (q7:List UInt8) (q8:Int) (q9:Int) (q10:List aE) (q11:List aE) (q12:List aC) (q13:Int)=>(.tup [.agg [dI q1,dI q2,dI q3,dI q4,dI q5,dS q6,dU q7,dI q8,dI q9,.d (dsl false false (kE false) q10),.d (dsl false false (kE false) q11),.d (dsl false false (kC false) q12)],.one (dI q13)]:AV)) e1) e2) e3) e4) e5) e6) e7) e8) e9) e10) e11) e12) e13;exact hE):p:=h
theorem pb {p:Prop} (h:p:=by have e1:((vtV (Xw f u l) f e k).X1:Int)=(orV (Xw f u l) e).X1:=(by (rw [hx9.1,hv9];done));have e2:((vtV (Xw f u l) f e k).Y1:Int)=(orV (Xw f u l) e).Y1:=(by (rw [hx9.1,hv9];done));have e3:((vtV (Xw f u l) f e k).Xs:Int)=(orV (Xw f u l) e).Xs:=(by (rw [hx9.1,hv9];done));have e4:((vtV (Xw f u l) f e k).Xh:Int)=(orV (Xw f u l) e).Xh:=(by (rw [hx9.1,hv9];done));have e5:((vtV (Xw f u l) f e k).Yh:Int)=(orV (Xw f u l) e).Yh:=(by (rw [hx9.1,hv9];done));have e6:((vtV (Xw f u l) f e k).X9:List UInt8)=(orV (Xw f u l) e).X9:=(by (rw [hx9.1,hv9];done));have e7:((vtV (Xw f u l) f e k).Xc:List UInt8)=(orV (Xw f u l) e).Xc:=(by (rw [hx9.1,hv9];done));have e8:((vtV (Xw f u l) f e k).X0.Xt:Int)=(orV (Xw f u l) e).X0.Xt:=(by (rw [hx9.1,hv9];done));have e9:((vtV (Xw f u l) f e k).X0.Xn:Int)=(orV (Xw f u l) e).X0.Xn:=(by (rw [hx9.1,hv9];done));have e10:((vtV (Xw f u l) f e k).Xp:List aE)=(orV (Xw f u l) e).Xp:=(by (rw [hx9.1,hv9];done));have e11:((vtV (Xw f u l) f e k).Y4:List aE)=(orV (Xw f u l) e).Y4:=(by (rw [hx9.1,hv9];done));have e12:((vtV (Xw f u l) f e k).X6:List aC)=(orV (Xw f u l) e).X6:=(by (rw [hx9.1,hv9];done));have e13:((vtE (Xw f u l) f e k):Int)=0:=(by exact hx9.2);have hE:=congr (congr (congr (congr (congr (congr (congr (congr (congr (congr (congr (congr (congrArg (fun (q1:Int) (q2:Int) (q3:Int) (q4:Int) (q5:Int) (q6:List UInt8) (q7:List UInt8) (q8:Int) (q9:Int) (q10:List aE) (q11:List aE) (q12:List aC) (q13:Int)=>(.tup [.agg [dI q1,dI q2,dI q3,dI q4,dI q5,dS q6,dU q7,dI q8,dI q9,.d (dsl false false (kE false) q10),.d (dsl false false (kE false) q11),.d (dsl false false (kC false) q12)],.one (dI q13)]:AV)) e1) e2) e3) e4) e5) e6) e7) e8) e9) e10) e11) e12) e13;exact hE):p:=h
theorem pc {p:Prop} (h:p:=by rw [IntKind.wrap_i64];omega):p:=h
theorem pd {p:Prop} (h:p:=by exact Nat.le_of_ble_eq_true rfl):p:=h
theorem pe {p:Prop} (h:p:=by (rw [hx9];done)):p:=h
theorem pf {p:Prop} (h:p:=by repeat first|assumption|exact List.suffix_refl _|apply sufR|apply sufY|apply sufE|apply sufF|apply sufG|apply sufL|apply sufC|apply sufM):p:=h
theorem pg {p:Prop} (h:p:=by have hE:=cg2 (fun (qq0:aM) (qq1:Int)=>(.tup [.agg [dI (qq0.X1),dI (qq0.Y1),dI (qq0.Xs),dI (qq0.Xh),dI (qq0.Yh),dS (qq0.X9),dU (qq0.Xc),dI (qq0.X0.Xt),dI (qq0.X0.Xn),.d (dsl false false (kE false) (qq0.Xp)),.d (dsl false false (kE false) (qq0.Y4)),.d (dsl false false (kC false) (qq0.X6))],.one (dI (qq1))]:AV)) (show Wn b=_ from hd9.1) hd9.2;(try dsimp only at hE);exact hE):p:=h
theorem ph {p:Prop} (h:p:=by exact cI (by exact if_neg (fun h9=>by obtain ⟨q1,q2,q3,q4,q5,q6,q7,q8,q9,q10⟩:=(Wz m).1 h9;exact absurd q10 ‹_›))):p:=h
theorem pi {p:Prop} (h:p:=by exact gc2 (show Wn b=_ from hd9.1) (by exact hd9.2) (fun qq0 (q13:Int)=>(.tup [.agg [dI (qq0.X1),dI (qq0.Y1),dI (qq0.Xs),dI (qq0.Xh),dI (qq0.Yh),dS (qq0.X9),dU (qq0.Xc),dI (qq0.X0.Xt),dI (qq0.X0.Xn),.d (dsl false false (kE false) (qq0.Xp)),.d (dsl false false (kE false) (qq0.Y4)),.d (dsl false false (kC false) (qq0.X6))],.one (dI q13)]:AV))):p:=h
theorem pj {p:Prop} (h:p:=by first|rfl|exact X3j (by omega) _|exact (X3j (by omega) _).symm|(rw [X3j (by omega)];first|done|rfl)|exact X3i h2l (by omega)|exact (X3i h2l (by omega)).symm|exact X3g h2l (by omega)|exact (X3g h2l (by omega)).symm|(rw [X3i h2l (by omega)])|(rw [X3g h2l (by omega)])):p:=h
theorem pk {p:Prop} (h:p:=by exact .inr ⟨trivial,(And.intro (arr_nt kU8_nt) trivial)⟩):p:=h
theorem pZl {p:Prop} (h:p:=by exact Nat.le_of_eq (Nat.zero_add _)):p:=h
theorem pm {p:Prop} (h:p:=by have e1:((Hv l i):List Xz)=([]:List Xz):=(by (have ho:¬okI l i:=(by simp only [okI];omega);(rw [Hv,if_neg ho])));have e2:((X0z l i):Int)=2:=(by (have ho:¬okI l i:=(by simp only [okI];omega);(rw [X0z,if_neg ho])));have hE:=congr (congrArg (fun (q1:List Xz) (q2:Int)=>(.tup [.one (.d (dsl false false (Xa false) q1)),.one (dI q2)]:AV)) e1) e2;exact hE):p:=h
theorem pn {p:Prop} (h:p:=by exact congr (congr (congr (congrArg (fun (q1:Int) (q2:List UInt8) (q3:List aE) (q4:List Y6) (q5:Int)=>(.tup [.agg [dI q1,dS q2,.d (dsl false false (kE false) q3),.d (dsl false false (Xe false) q4)],.one (dI q5)]:AV)) e1) e2) e3) e4):p:=h
theorem po {p:Prop} (h:p:=by have e1:((W0 c t).Xs:Int)=c.Xs:=pe;have e2:((W0 c t).Xu:List aE)=c.Xu:=pe;have e3:((W0 c t).Xc:List UInt8)=c.Xc:=pe;have e4:((W0 c t).X2:List Yb)=c.X2:=pe;have e5:((W0 c t).Vp:Int)=c.Vp:=pe;have e6:((W0 c t).Xl.X5:Int)=c.Xl.X5:=pe;have e7:((W0 c t).Xl.Xd:List UInt8)=c.Xl.Xd:=pe;have e8:((W0 c t).X0.Xt:Int)=c.X0.Xt:=pe;have e9:((W0 c t).X0.Xn:Int)=c.X0.Xn:=pe;have e10:((W0 c t).Yu:List Xz)=c.Yu:=pe;have hE:=congr pZ3 e10;exact hE):p:=h
theorem pp {p:Prop} (h:p:=by exact .inr ⟨rfl,(kk2 (kk4 ⟨pZ5,(kk2 ⟨pZ5,⟨pZ5,⟨pZ5,trivial⟩⟩⟩)⟩))⟩):p:=h
theorem pq {p:Prop} (h:p:=by exact .inr ⟨by decide,.inr ⟨rfl,⟨.inl rfl,(kk2 ⟨pZ0,(kk2 (kk4 trivial))⟩)⟩⟩⟩):p:=h
theorem pr {p:Prop} (h:p:=by exact .inr ⟨rfl,⟨.inl rfl,⟨pZ5,⟨pZ5,⟨pZ5,(kk2 ⟨pZ5,(kk2 ⟨pZ5,trivial⟩)⟩)⟩⟩⟩⟩⟩):p:=h
theorem pZs {p:Prop} (h:p:=by exact cI (by exact if_neg (fun h9=>by obtain ⟨q1,q2,q3,q4,q5,q6,q7,q8,q9,q10⟩:=(Wz m).1 h9;exact q9 ⟨(by exact nbB ‹_›),by assumption⟩))):p:=h
theorem pt {p:Prop} (h:p:=by exact congrArg (fun (q1:Int)=>([slV tb nb kU8 b,aa,pv 0 0,aa,pv 1 0,pv 3 0,pv 4 0,(Zbn b),vI q1]:List AV)) (by rfl)):p:=h
theorem pu {p:Prop} (h:p:=by first|assumption|exact Xk9 ‹_› (by decide)|exact Ig ‹_› _|exact Jw ‹_› _|exact fewG_set ‹_› ‹_› | decide):p:=h
theorem pZv {p:Prop} (h:p:=by exact fun h=>by cases h):p:=h
theorem pw {p:Prop} (h:p:=by exact Nat.le_trans (by omega) (by decide:64≤_)):p:=h
theorem px {p:Prop} (h:p:=by have e1:((rblk h L x).Xg:Int)=0:=(by (have hi:¬inL h L.length x:=(fun q=>by have q1:=q.1;have q2:=q.2;omega);(rw [rblk,if_neg hi];rfl)));have e2:((rblk h L x).Y0:List UInt8)=[]:=(by (have hi:¬inL h L.length x:=(fun q=>by have q1:=q.1;have q2:=q.2;omega);(rw [rblk,if_neg hi];rfl)));have e3:((rblk h L x).Xb:List aE)=([]:List aE):=(by (have hi:¬inL h L.length x:=(fun q=>by have q1:=q.1;have q2:=q.2;omega);(rw [rblk,if_neg hi];rfl)));have e4:((rblk h L x).Xj:List Y6)=([]:List Y6):=(by (have hi:¬inL h L.length x:=(fun q=>by have q1:=q.1;have q2:=q.2;omega);(rw [rblk,if_neg hi];rfl)));have e5:((X0t h L.length x):Int)=4:=(by (have hi:¬inL h L.length x:=(fun q=>by have q1:=q.1;have q2:=q.2;omega);(rw [X0t,if_neg hi])));have hE:=congr pn e5;exact hE):p:=h
theorem py {p:Prop} (h:p:=by have e1:((Yz h l x).Xg:Int)=0:=(by (have hi:¬inL h l.length x:=(fun q=>by have q1:=q.1;have q2:=q.2;omega);(rw [Yz,if_neg hi];rfl)));have e2:((Yz h l x).Y0:List UInt8)=[]:=(by (have hi:¬inL h l.length x:=(fun q=>by have q1:=q.1;have q2:=q.2;omega);(rw [Yz,if_neg hi];rfl)));have e3:((Yz h l x).Xb:List aE)=([]:List aE):=(by (have hi:¬inL h l.length x:=(fun q=>by have q1:=q.1;have q2:=q.2;omega);(rw [Yz,if_neg hi];rfl)));have e4:((Yz h l x).Xj:List Y6)=([]:List Y6):=(by (have hi:¬inL h l.length x:=(fun q=>by have q1:=q.1;have q2:=q.2;omega);(rw [Yz,if_neg hi];rfl)));have e5:((X0t h l.length x):Int)=4:=(by (have hi:¬inL h l.length x:=(fun q=>by have q1:=q.1;have q2:=q.2;omega);(rw [X0t,if_neg hi])));have hE:=congr pn e5;exact hE):p:=h
theorem pz {p:Prop} (h:p:=by (simp [Ep,Hg,Ht,putL,zE, *];done)):p:=h
theorem pZ10 {p:Prop} (h:p:=by first|rfl|exact Xfz (by omega)|exact (Xfz (by omega)).symm|exact Xbp (by omega)|exact (Xbp (by omega)).symm|exact X8a h2l|exact (X8a h2l).symm):p:=h
theorem Jy {p:Prop} (h:p:=by rw [List.take_length]):p:=h
theorem Ur {p:Prop} (h:p:=by (rw [hst];done)):p:=h
theorem X72 {p:Prop} (h:p:=by (simp only [List.length_append,List.length_singleton,maxLen];omega)):p:=h
theorem pZ14 {p:Prop} (h:p:=by exact .inr ⟨by decide,by decide,(.inr ⟨rfl,⟨.inl rfl,(kk2 ⟨(.inr rfl),trivial⟩)⟩⟩)⟩):p:=h
theorem pZ15 {p:Prop} (h:p:=by exact congr (congrArg (fun (q1:Int) (q2:List UInt8) (q3:Int)=>(.tup [.agg [dI q1,dU q2],.one (dI q3)]:AV)) e1) e2):p:=h
theorem pZ16 {p:Prop} (h:p:=by exact congrArg (fun (q1:List UInt8) (q2:Int)=>(.live (.box 195 [dU q1,dI q2]):HS)) e1):p:=h
theorem Ei {p:Prop} (h:p:=by (simp [Yi,okK, *];done)):p:=h
theorem pZ18 {p:Prop} (h:p:=by exact congrArg (fun (q1:List Xz) (q2:Int)=>(.tup [.one (.d (dsl false false (Xa false) q1)),.one (dI q2)]:AV)) e1):p:=h
theorem Eh {p:Prop} (h:p:=by (simp [Xi,okK, *];done)):p:=h
theorem p1a {p:Prop} (h:p:=by exact cI (by exact if_neg (fun h9=>by exact absurd h9.2.2.2.2.2.2.2.2.2.2.2.2.2 ‹_›))):p:=h
theorem p1b {p:Prop} (h:p:=by exact congr (congr (congr (congr (congrArg (fun (q1:Nat) (q2:Int) (q3:List UInt8) (q4:List aE) (q5:List Y6) (q6:List Yb)=>([(Zoc d l),(Zod l),Zoi,.live (Xf 5 kU8 b),.live (.box 49 [(Zoy seq),(Zp6 x),(Zoz b),.own 10 (X8 false).sz 0 q1,dI i,dI 0,Zoh,dI 0,dI 0,Zoh]),(Zp8 x),.live (.box 65 [dI q2,dS q3,.d (dsl false false (kE false) q4),.d (dsl false false (Xe false) q5)]),.live (Xf 69 (X8 false) q6)]:List HS)) e1) e2) e3) e4) e5):p:=h
theorem p1c {p:Prop} (h:p:=by exact cI (by exact if_neg (fun h9=>by obtain ⟨q1,q2,q3,q4,q5,q6,q7,q8,q9,q10⟩:=(Wz m).1 h9;exact q8 ⟨(by exact nbB ‹_›),by assumption⟩))):p:=h
theorem p1d {p:Prop} (h:p:=by (simp [Ep,Hg,X6c,zE, *];done)):p:=h
theorem p1e {p:Prop} (h:p:=by exact .inr ⟨by decide,by decide,(.inl rfl)⟩):p:=h
theorem p1f {p:Prop} (h:p:=by exact (if_neg hno)):p:=h
theorem p1g {p:Prop} (h:p:=by (simp [Id,V0,Uk,primaryA,orgA, *];done)):p:=h
theorem p1h {p:Prop} (h:p:=by have e1:(d:List UInt8)=(if fst=true then m.X9 else d):=(by (simp [X0g, *];done));have hE:=congrArg (fun (q1:List UInt8)=>(.live (.box 60 [dS q1]):HS)) e1;exact Eq.trans pZ8 hE):p:=h
theorem p1i {p:Prop} (h:p:=by have e1:((((rfA B a e 4 (Yw most ((B.drop a).take 4)))+(rdC (B.drop a) e most):Nat):Int):Int)=((H8 B a e most:Nat):Int):=(by omega);have e2:((rdE (B.drop a) e 4 (Yw most ((B.drop a).take 4))):Int)=(V3 (B.drop a) e most):=(by omega);have hE:=congr (congrArg (fun (q1:Int) (q2:Int)=>(.live (.box 156 [(Z27 B),dI q1,dI q2]):HS)) e1) e2;exact Eq.trans pZ8 hE):p:=h
theorem p1j {p:Prop} (h:p:=by have e1:((Vd b):Int)=102:=(by (unfold Vd;(rw [if_neg (by omega)];rw [if_pos (by omega)])));have hE:=cI e1;exact hE):p:=h
theorem p1k {p:Prop} (h:p:=by exact kk2 ⟨pp,⟨.inl rfl,trivial⟩⟩):p:=h
theorem p1l {p:Prop} (h:p:=by have e1:((Fr x k):List UInt8)=(X9k (Y5 f u rows) f x):=(by exact hda.1);have hE:=congrArg (fun (q1:List UInt8)=>(.live (.box 60 [dS q1]):HS)) e1;exact Eq.trans pZ8 hE):p:=h
theorem p1m {p:Prop} (h:p:=by have e1:(((rfA B a e 4 (Yw most ((B.drop a).take 4)):Nat):Int):Int)=((H8 B a e most:Nat):Int):=(by omega);have e2:((rdE (B.drop a) e 4 (Yw most ((B.drop a).take 4))):Int)=(V3 (B.drop a) e most):=(by omega);have hE:=congr (congrArg (fun (q1:Int) (q2:Int)=>(.live (.box 156 [(Z27 B),dI q1,dI q2]):HS)) e1) e2;exact Eq.trans pZ8 hE):p:=h
theorem p1n {p:Prop} (h:p:=by exact gc2 (show (Xi k)=⟨true,true,false,true,false,false,false,false,false⟩ from Eh) (show ((decide (okK k)):Bool)=true from Eh) (fun qq0 (q10:Bool)=>(.tup [.agg [dB (qq0.Y1),dB (qq0.Xs),dB (qq0.Xh),dB (qq0.X9),dB (qq0.Xc),dB (qq0.X0),dB (qq0.Xp),dB (qq0.Y4),dB (qq0.X6)],.one (dB q10)]:AV))):p:=h
theorem p1o {p:Prop} (h:p:=by first|omega|(simp only [List.length_take,List.length_drop];omega)):p:=h
theorem p1p {p:Prop} (h:p:=by rw [List.length_take];omega):p:=h
theorem p1q {p:Prop} (h:p:=by have e1:((X0k k):Bool)=(fstF (Y5 f u rows) f x):=(by exact hda.2);have hE:=congrArg (fun (q1:Bool)=>(.live (.box 4 [dB q1]):HS)) e1;exact Eq.trans pZ8 hE):p:=h
theorem p1r {p:Prop} (h:p:=by exact Classical.not_not.1 ‹_›):p:=h
theorem p1s {p:Prop} (h:p:=by exact trivial):p:=h
theorem p1t {p:Prop} (h:p:=by exact congrArg (fun (q1:Int)=>([pv 0 0,vI seq,aa,aa,vI h,vI i,aa,aa,aa,aa,aa,aa,pv 2 0,aa,aa,aa,aa,aa,pv 4 0,aa,aa,pv 6 0,vI q1]:List AV)) (by omega)):p:=h
theorem p1u {p:Prop} (h:p:=by exact congrArg (fun (q1:Int)=>([pv 0 0,vI seq,(Zqe x),slV false false kU8 b,vI h,vI i,aa,aa,aa,aa,aa,aa,pv 2 0,vI 0,(Zqh b),aa,aa,(Zqi b),pv 3 0,vI q1,aa,aa,aa,aa,aa,aa,aa,aa,aa,aa,aa,aa,aa,aa,aa,aa,aa,aa,(Zqt seq b),aa,aa,aa,aa,aa,aa,aa,aa,aa,aa,aa,aa,aa,(Zqx seq h)]:List AV)) (by omega)):p:=h
theorem p1v {p:Prop} (h:p:=by exact cI (by exact if_neg (fun h9=>by (rcases h9.2.2.2.2.2.2.2.2.2.2.2.2.1 with h8|h8<;>exact absurd h8 ‹_›)))):p:=h
theorem p1w {p:Prop} (h:p:=by (rw [List.take_of_length_le (by omega)])):p:=h
theorem p1x {p:Prop} (h:p:=by have e1:((Vd b):Int)=100:=(by (unfold Vd;rw [if_pos (by omega)]));have hE:=cI e1;exact hE):p:=h
theorem p1y {p:Prop} (h:p:=by have e1:(fst:Bool)=false:=(by (simp [X0g, *];done));have hE:=congrArg (fun (q1:Bool)=>(.live (.box 4 [dB q1]):HS)) e1;exact Eq.trans pZ8 hE):p:=h
theorem p1z {p:Prop} (h:p:=by have e1:(l:List aE)=(Ht f u l s b):=pz;have hE:=congrArg (fun (q1:List aE)=>(.live (Xf 43 (kE false) q1):HS)) e1;exact Eq.trans pZ8 hE):p:=h
theorem pZ20 {p:Prop} (h:p:=by exact congrArg (fun (q1:List UInt8)=>([.live (Xf 5 kU8 q1)]:List HS)) (by rfl)):p:=h
theorem Hz {p:Prop} (h:p:=by exact hx9.1):p:=h
theorem pZ22 {p:Prop} (h:p:=by exact .inr ⟨by decide,.inr ⟨rfl,⟨.inl rfl,(kk2 ⟨pZ0,trivial⟩)⟩⟩⟩):p:=h
theorem pZ23 {p:Prop} (h:p:=by exact .inr ⟨by decide,.inr ⟨rfl,(kk2 ⟨pZ0,⟨.inl rfl,trivial⟩⟩)⟩⟩):p:=h
theorem X8z {p:Prop} (h:p:=by rw [List.length_drop];omega):p:=h
theorem pZ25 {p:Prop} (h:p:=by exact .inr ⟨rfl,pZv,rfl,rfl,rfl⟩):p:=h
theorem pZ26 {p:Prop} (h:p:=by have e1:((if (X0k k)=true then (vtV (Y5 f u rows) f (x.getD k zE) 5).X9 else (Fr x k)):List UInt8)=(X9k (Y5 f u rows) f x):=(by exact hdn.1.trans hdn.2.1.symm);have hE:=congrArg (fun (q1:List UInt8)=>(.live (.box 60 [dS q1]):HS)) e1;exact Eq.trans pZ8 hE):p:=h
theorem pZ27 {p:Prop} (h:p:=by (rw [Xcs,Uy];rfl)):p:=h
theorem pZ28 {p:Prop} (h:p:=by have e1:(((rdC (B.drop a) e most:Nat):Int):Int)=0:=(by (simp only [rdC];(rw [if_neg hr.1];rfl)));have hE:=cI e1;exact hE):p:=h
theorem pZ29 {p:Prop} (h:p:=by have e1:((Is b i):List Xz)=(Hv (Y9 b) i):=(by (rw [Is,if_pos (Classical.not_not.1 ‹_›)]));have e2:((J8 b i):Int)=(X0z (Y9 b) i):=(by (rw [J8,if_pos (Classical.not_not.1 ‹_›)]));have hE:=congr pZ18 e2;exact hE):p:=h
theorem p2a {p:Prop} (h:p:=by rw [len8_len];exact UInt8.toNat_lt _):p:=h
theorem p2b {p:Prop} (h:p:=by exact X3n (X3n trivial)):p:=h
theorem p2c {p:Prop} (h:p:=by exact congrArg (fun (q1:Int) (q2:Int)=>(.live (.box 156 [(Z24 B),dI q1,dI q2]):HS)) e1):p:=h
theorem p2d {p:Prop} (h:p:=by exact congrArg (fun (q1:Int) (q2:Int)=>(.live (.box 156 [dU B,dI q1,dI q2]):HS)) e1):p:=h
theorem p2e {p:Prop} (h:p:=by exact congrArg (fun (q1:List UInt8)=>(dv (Yk q1):AV)) (by rfl)):p:=h
theorem p2f {p:Prop} (h:p:=by exact congrArg (fun (q1:Int) (q2:Int)=>(.tup [.one (dI q1),.one (dI q2)]:AV)) e1):p:=h
theorem p2g {p:Prop} (h:p:=by (have hi:inL h l.length x:=⟨by omega,by omega⟩;(rw [Yz,if_pos hi]))):p:=h
theorem p2h {p:Prop} (h:p:=by (have hi:inL h L.length x:=⟨by omega,by omega⟩;(rw [rblk,if_pos hi]))):p:=h
theorem p2i {p:Prop} (h:p:=by exact congrArg (fun (q1:Nat)=>(Y8 0 kU8 0 q1:AV)) (by rfl)):p:=h
theorem p2j {p:Prop} (h:p:=by have e1:(b++Ve ((x.length:Nat):Int)++x:List UInt8)=b++Yx x:=(by (simp only [Yx,List.append_assoc]));have hE:=congrArg (fun (q1:List UInt8)=>(.live (Xf 5 kU8 q1):HS)) e1;exact Eq.trans pZ8 hE):p:=h
theorem p2k {p:Prop} (h:p:=by exact gc2 (show (Yi k)=⟨11,0,1,7⟩ from Ei) (show ((decide (okK k)):Bool)=true from Ei) (fun qq0 (q5:Bool)=>(.tup [.agg [dI (qq0.Vy),dI (qq0.Wt),dI (qq0.V7),dI (qq0.Vs)],.one (dB q5)]:AV))):p:=h
theorem p2l {p:Prop} (h:p:=by exact .inr ‹_›):p:=h
theorem p2m {p:Prop} (h:p:=by exact .inl ‹_›):p:=h
theorem p2n {p:Prop} (h:p:=by have e1:((b++Yx x).length:Nat)=(b++Ve ((x.length:Nat):Int)++x).length:=(by (simp only [Yx,List.append_assoc]));have hE:=congrArg (fun (q1:Nat)=>(Y8 1 kU8 0 q1:AV)) e1;exact hE):p:=h
theorem p2o {p:Prop} (h:p:=by (rw [len8 (by omega)];omega)):p:=h
theorem p2p {p:Prop} (h:p:=by have e1:((Is b i):List Xz)=([]:List Xz):=(by (rw [Is,if_neg ‹_›]));have e2:((J8 b i):Int)=(Vd b):=(by (rw [J8,if_neg ‹_›]));have hE:=congr pZ18 e2;exact hE):p:=h
theorem p2q {p:Prop} (h:p:=by have e1:(m.X9:List UInt8)=(if fst=true then m.X9 else d):=(by (simp [X0g, *];done));have hE:=congrArg (fun (q1:List UInt8)=>(.live (.box 60 [dS q1]):HS)) e1;exact Eq.trans pZ8 hE):p:=h
theorem p2r {p:Prop} (h:p:=by have e1:((W6 l):List UInt8)=(ofB (3:UInt8) [(W6 (l.take (half l.length))),(W6 (l.drop (half l.length)))]):=pZ10;have hE:=congrArg (fun (q1:List UInt8)=>(dv (Yk q1):AV)) e1;exact hE):p:=h
theorem p2s {p:Prop} (h:p:=by exact kk2 ⟨(.inr ⟨rfl,(kk2 ⟨pZ5,⟨pZ5,trivial⟩⟩)⟩),trivial⟩):p:=h
theorem p2t {p:Prop} (h:p:=by exact .inr ⟨by decide,.inr ⟨rfl,⟨.inl rfl,⟨pZ0,trivial⟩⟩⟩⟩):p:=h
theorem p2u {p:Prop} (h:p:=by (simp [X3q,X2u, *];done)):p:=h
theorem p2v {p:Prop} (h:p:=by exact .inr ⟨trivial,trivial⟩):p:=h
theorem p2w {p:Prop} (h:p:=by (rw [aw_pr9.1];done)):p:=h
theorem p2x {p:Prop} (h:p:=by have e1:(rows:List (Yl×Bool))=(X6c f u rows s b):=p1d;have hE:=congrArg (fun (q1:List (Yl×Bool))=>(.live (mpK Xx Yg q1):HS)) e1;exact Eq.trans pZ8 hE):p:=h
theorem p2y {p:Prop} (h:p:=by exact kk8 (X3o trivial)):p:=h
theorem p2z {p:Prop} (h:p:=by have e1:(l.length:Nat)=(Ht f u l s b).length:=pz;have hE:=congrArg (fun (q1:Nat)=>(.live (.box 135 [dB true,dI f,dI u,.own 3 (kE false).sz 0 q1]):HS)) e1;exact Eq.trans pZ8 hE):p:=h
theorem X71 {p:Prop} (h:p:=by intro h;cases h):p:=h
theorem pZ31 {p:Prop} (h:p:=by have e1:(((Y9 b).take k):List (List UInt8))=(Y9 b):=p1w;have hE:=congrArg (fun (q1:List (List UInt8))=>(.live (Xf 25 (kSl false kU8) q1):HS)) e1;exact Eq.trans pZ8 hE):p:=h
theorem p32 {p:Prop} (h:p:=by have e1:(([]:List UInt8):List UInt8)=(rdY (B.drop a) e most):=(by exact hy.1.symm);have hE:=congrArg (fun (q1:List UInt8)=>(.live (Xf 5 kU8 q1):HS)) e1;exact Eq.trans pZ8 hE):p:=h
theorem p33 {p:Prop} (h:p:=by have e1:((Hg f u s b).X5:Int)=s:=pz;have e2:((Hg f u s b).Xd:List UInt8)=b:=pz;have e3:((Ep f u s b):Int)=0:=pz;have hE:=congr pZ15 e3;exact hE):p:=h
theorem p34 {p:Prop} (h:p:=by have e1:(([]:List UInt8):List UInt8)=(rdY rest e most):=(by (rw [hy.1];done));have hE:=congrArg (fun (q1:List UInt8)=>(.live (Xf 5 kU8 q1):HS)) e1;exact Eq.trans pZ8 hE):p:=h
theorem p35 {p:Prop} (h:p:=by have e1:(false:Bool)=(fstF (Y5 f u rows) f x):=(by exact hdn.2.2.1.symm);have hE:=congrArg (fun (q1:Bool)=>(.live (.box 4 [dB q1]):HS)) e1;exact Eq.trans pZ8 hE):p:=h
theorem p36 {p:Prop} (h:p:=by exact kk2 ⟨pr,trivial⟩):p:=h
theorem p37 {p:Prop} (h:p:=by exact X3o (X3n trivial)):p:=h
theorem p38 {p:Prop} (h:p:=by have e1:(b++(Wi (X0p n) 4):List UInt8)=b++Ve n:=(by rfl);have hE:=congrArg (fun (q1:List UInt8)=>(.live (Xf 5 kU8 q1):HS)) e1;exact Eq.trans pZ8 hE):p:=h
theorem p39 {p:Prop} (h:p:=by exact hx9.2.1):p:=h
theorem p3a {p:Prop} (h:p:=by exact congrArg (fun (q1:List UInt8)=>([pv 0 0,vI seq,(Zlf x),aa,aa,aa,aa,aa,dv (Yk q1),(Zlk k)]:List AV)) (by exact ((hgd.symm.trans hdn.1).trans hdn.2.2.2.1.symm).symm)):p:=h
theorem p3b {p:Prop} (h:p:=by have e1:(b++(Wi (u64 n) 8):List UInt8)=b++Yy n:=(by rfl);have hE:=congrArg (fun (q1:List UInt8)=>(.live (Xf 5 kU8 q1):HS)) e1;exact Eq.trans pZ8 hE):p:=h
theorem p3c {p:Prop} (h:p:=by exact .inr ⟨by decide,.inr ⟨rfl,(kk2 ⟨pZ0,⟨.inl rfl,(kk2 (kk4 trivial))⟩⟩)⟩⟩):p:=h
theorem p3d {p:Prop} (h:p:=by have e1:((decide (a=b)):Bool)=false:=(by exact dF (fun e=>by have h9:a.length≠b.length:=(by omega);exact h9 (by rw [e])));have hE:=cB e1;exact hE):p:=h
theorem p3e {p:Prop} (h:p:=by have e1:((W6 l):List UInt8)=(ofB (4:UInt8) ([]:List (List UInt8))):=pZ10;have hE:=congrArg (fun (q1:List UInt8)=>(dv (Yk q1):AV)) e1;exact hE):p:=h
theorem p3f {p:Prop} (h:p:=by exact hx9.2.2):p:=h
theorem p3g {p:Prop} (h:p:=by have e1:((Y9 b).length:Nat)=((Y9 b).take k).length:=p1w;have hE:=congrArg (fun (q1:Nat)=>(Y8 1 (kSl false kU8) 0 q1:AV)) e1;exact hE):p:=h
theorem p3h {p:Prop} (h:p:=by exact cI (by exact if_neg (fun h9=>by obtain ⟨q1,q2,q3,q4,q5,q6,q7,q8,q9,q10⟩:=(Wz m).1 h9;exact q7 ⟨(by exact nbB ‹_›),by assumption⟩))):p:=h
theorem p3i {p:Prop} (h:p:=by exact kk2 (kk4 (X3o trivial))):p:=h
theorem p3j {p:Prop} (h:p:=by have e1:((W6 l):List UInt8)=(ofB (2:UInt8) [(l.getD 0 [])]):=pZ10;have hE:=congrArg (fun (q1:List UInt8)=>(dv (Yk q1):AV)) e1;exact hE):p:=h
theorem p3k {p:Prop} (h:p:=by have e1:((rdY (B.drop a) e most).length:Nat)=0:=(by (rw [hy.1];rfl));have hE:=congrArg (fun (q1:Nat)=>(Y8 1 kU8 0 q1:AV)) e1;exact hE):p:=h
theorem p3l {p:Prop} (h:p:=by exact hx9.2):p:=h
theorem p3m {p:Prop} (h:p:=by exact kk8 (X3n trivial)):p:=h
theorem p3n {p:Prop} (h:p:=by exact .inr ⟨rfl,⟨.inl rfl,⟨pZ5,trivial⟩⟩⟩):p:=h
theorem p3o {p:Prop} (h:p:=by exact kk4 (kk8 trivial)):p:=h
theorem p3p {p:Prop} (h:p:=by exact cI (by exact hz9)):p:=h
theorem p3q {p:Prop} (h:p:=by exact (if_pos hok)):p:=h
theorem p3r {p:Prop} (h:p:=by have e1:((decide (Uk f u s)):Bool)=(decide (Id u s)):=(by (simp [Uk,orgA, *];done));have hE:=cB e1;exact hE):p:=h
theorem p3s {p:Prop} (h:p:=by have e1:((X0g seq (if fst=true then m.X9 else d) m):Int)=131:=(by (simp [X0g, *];done));have hE:=cI e1;exact hE):p:=h
theorem p3t {p:Prop} (h:p:=by have e1:((X0g seq (if fst=true then m.X9 else d) m):Int)=0:=(by (simp [X0g, *];done));have hE:=cI e1;exact hE):p:=h
theorem p3u {p:Prop} (h:p:=by have e1:((Vd b):Int)=0:=(by (unfold Vd;(rw [if_neg (by omega)];rw [if_neg (by omega)])));have hE:=cI e1;exact hE):p:=h
theorem p3v {p:Prop} (h:p:=by have h9:=UInt8.toNat_lt (Ys.getD (UInt8.ofNat (((x / 2 ^ 32) / 2 ^ 16) / 2 ^ 8)).toNat 0);rw [IntKind.wrap_i64];omega):p:=h
theorem p3w {p:Prop} (h:p:=by (rw [IntKind.wrap_u64];omega)):p:=h
theorem p3x {p:Prop} (h:p:=by have e1:(rdI (B.drop a) e:Int)=0:=(by (simp only [rdI];(rw [if_neg hr.1];done)));have hE:=cI e1;exact hE):p:=h
theorem p3y {p:Prop} (h:p:=by have e1:((decide (Uk f u s)):Bool)=true:=(by (simp [Uk,orgA, *];done));have hE:=cB e1;exact hE):p:=h
theorem p3z {p:Prop} (h:p:=by exact Nat.le_trans (Nat.pow_le_pow_right (by decide) h) (by decide)):p:=h
theorem p40 {p:Prop} (h:p:=by have h9:=UInt8.toNat_lt (Ys.getD (UInt8.ofNat ((x / 2 ^ 32) / 2 ^ 16)).toNat 0);rw [IntKind.wrap_i64];omega):p:=h
theorem p41 {p:Prop} (h:p:=by have h9:=UInt8.toNat_lt (Ys.getD (UInt8.ofNat ((x / 2 ^ 32) / 2 ^ 8)).toNat 0);rw [IntKind.wrap_i64];omega):p:=h
theorem p42 {p:Prop} (h:p:=by have h9:=UInt8.toNat_lt (Ys.getD (UInt8.ofNat ((x / 2 ^ 16) / 2 ^ 8)).toNat 0);rw [IntKind.wrap_i64];omega):p:=h
theorem p43 {p:Prop} (h:p:=by have e1:((decide (inM s f n lo hi)):Bool)=false:=(by (simp [inM, *];done));have hE:=cB e1;exact hE):p:=h
theorem p44 {p:Prop} (h:p:=by decide +kernel):p:=h
theorem p45 {p:Prop} (h:p:=by exact cI (by exact if_neg (fun h9=>by (rcases h9.2.2.2.2.2.2.2.2.2.2.2.1 with h8|h8<;>exact absurd h8 ‹_›)))):p:=h
theorem p46 {p:Prop} (h:p:=by (rw [Ho (z:=zE) (by omega)])):p:=h
theorem p47 {p:Prop} (h:p:=by have e1:((decide (V0 f s)):Bool)=(decide (s<(3*f+1))):=p1g;have hE:=cB e1;exact hE):p:=h
theorem p48 {p:Prop} (h:p:=by have h9:=UInt8.toNat_lt (Ys.getD (UInt8.ofNat (x / 2 ^ 32)).toNat 0);rw [IntKind.wrap_i64];omega):p:=h
theorem p49 {p:Prop} (h:p:=by have h9:=UInt8.toNat_lt (Ys.getD (UInt8.ofNat (x / 2 ^ 16)).toNat 0);rw [IntKind.wrap_i64];omega):p:=h
theorem p4a {p:Prop} (h:p:=by have e1:((decide (Id u s)):Bool)=(decide ((s-1000)<u)):=p1g;have hE:=cB e1;exact hE):p:=h
theorem p4b {p:Prop} (h:p:=by have h9:=UInt8.toNat_lt (Ys.getD (UInt8.ofNat (x / 2 ^ 8)).toNat 0);rw [IntKind.wrap_i64];omega):p:=h
theorem p4c {p:Prop} (h:p:=by rw [q];rfl):p:=h
theorem p4d {p:Prop} (h:p:=by (rw [Up,show rdC rest e 15=k by omega];done)):p:=h
theorem p4e {p:Prop} (h:p:=by exact congrArg (fun (q1:Int) (q2:Bool)=>(.tup [.one (.d (.val (.int .u64 q1))),.one (dB q2)]:AV)) e1):p:=h
theorem p4f {p:Prop} (h:p:=by (rw [Ey,show rdC rest e 8=k by omega];done)):p:=h
theorem p4g {p:Prop} (h:p:=by (rw [chk_end (root:=root) (leaf:=leaf) (k:=k) (by omega) hsl (by omega) hb];simp [*];done)):p:=h
theorem p4h {p:Prop} (h:p:=by exact X3o (X3n p2b)):p:=h
theorem p4i {p:Prop} (h:p:=by simp only [List.length_append,List.length_singleton,List.length_take,List.length_drop];omega):p:=h
theorem p4j {p:Prop} (h:p:=by (rw [Up,show rdC r e 15=k by omega];done)):p:=h
theorem p4k {p:Prop} (h:p:=by exact kk2 (kk4 trivial)):p:=h
theorem p4l {p:Prop} (h:p:=by have h9:=UInt8.toNat_lt (Ys.getD (UInt8.ofNat x).toNat 0);rw [IntKind.wrap_i64];omega):p:=h
theorem p4m {p:Prop} (h:p:=by (rw [Xjd he (by omega)])):p:=h
theorem p4n {p:Prop} (h:p:=by exact .inr ⟨(And.intro (dsl_nt (nn:=false) Xae) (And.intro trivial trivial)),trivial⟩):p:=h
theorem p4o {p:Prop} (h:p:=by exact kk4 ⟨pZ5,⟨.inl rfl,(kk2 (kk4 p2y))⟩⟩):p:=h
theorem p4p {p:Prop} (h:p:=by (rw [Xk6])):p:=h
theorem p4q {p:Prop} (h:p:=by exact .inr ⟨by decide,.inr ⟨rfl,(kk2 (kk4 ⟨pZ0,⟨.inl rfl,(kk4 trivial)⟩⟩))⟩⟩):p:=h
theorem p4r {p:Prop} (h:p:=by exact fun b hb=>by cases hb):p:=h
theorem p4s {p:Prop} (h:p:=by have e1:((decide (V0 f s)):Bool)=false:=p1g;have hE:=cB e1;exact hE):p:=h
theorem p4t {p:Prop} (h:p:=by have e1:((decide (Id u s)):Bool)=false:=p1g;have hE:=cB e1;exact hE):p:=h
theorem p4u {p:Prop} (h:p:=by exact kk4 (X3n trivial)):p:=h
theorem p4v {p:Prop} (h:p:=by (rw [hfr])):p:=h
theorem p4w {p:Prop} (h:p:=by (rw [hst];simp only [Em,List.append_assoc];rw [crt_end (by omega)];done)):p:=h
theorem p4x {p:Prop} (h:p:=by (rw [frs_pos (by omega)])):p:=h
theorem p4y {p:Prop} (h:p:=by (rw [rfA_no hr.1])):p:=h
theorem p4z {p:Prop} (h:p:=by (have ho:okI l i:=(by simp only [okI];omega);(rw [X0z,if_pos ho]))):p:=h
theorem p50 {p:Prop} (h:p:=by exact .inr ⟨by decide,.inr ⟨rfl,⟨.inl rfl,⟨pZ0,(kk8 trivial)⟩⟩⟩⟩):p:=h
theorem p51 {p:Prop} (h:p:=by exact .inr ⟨by decide,.inr ⟨rfl,⟨.inl rfl,(kk4 ⟨pZ0,trivial⟩)⟩⟩⟩):p:=h
theorem p52 {p:Prop} (h:p:=by exact .inr ⟨.inl rfl,⟨pZ0,trivial⟩⟩):p:=h
theorem p53 {p:Prop} (h:p:=by (rw [← Fo (by omega) (by omega),Ho (z:=[]) (by omega)])):p:=h
theorem p54 {p:Prop} (h:p:=by (have hke:l.take k=l:=List.take_of_length_le (by omega);rw [hke])):p:=h
theorem p55 {p:Prop} (h:p:=by exact congrArg (fun (q1:List UInt8)=>(slV false false kU8 q1:AV)) (by rfl)):p:=h
theorem p56 {p:Prop} (h:p:=by exact few_wide ‹_›):p:=h
theorem p57 {p:Prop} (h:p:=by (rw [hg9.trans ((if_neg hq9).trans (if_neg (fun w=>w rfl)))];simp)):p:=h
theorem p58 {p:Prop} (h:p:=by exact kk2 (X3o trivial)):p:=h
theorem p59 {p:Prop} (h:p:=by exact hr.2.symm):p:=h
end Go.Proofs.YtnaopgohccacmaaGreat.Q
