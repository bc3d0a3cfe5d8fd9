import Derived.Test.YtnaopgohccacmaaGreatC19n1
namespace Go.Proofs.YtnaopgohccacmaaGreat.Q
set_option linter.unusedVariables false
set_option linter.unusedSimpArgs false
set_option maxRecDepth 100000
def I0 (a b:Int):Int:=IntKind.i64.wrap ((BitVec.ofInt 64 a &&& BitVec.ofInt 64 b).toNat:Int)
def orI (a b:Int):Int:=IntKind.i64.wrap ((BitVec.ofInt 64 a ||| BitVec.ofInt 64 b).toNat:Int)
section
variable {P:Program}
theorem Xcy {t:TypeId} {a b c:Int} (h:I0 a b=c):Ir P .and t (.int .i64 a) (.int .i64 b) (.int .i64 c):=Uk (.inl fun _=>by simp) (.inl (by simp)) fun w=>by
  subst h
  rfl
theorem X74 {t:TypeId} {a b c:Int} (h:orI a b=c):Ir P .or t (.int .i64 a) (.int .i64 b) (.int .i64 c):=Uk (.inl fun _=>by simp) (.inl (by simp)) fun w=>by
  subst h
  rfl
end
def Yk (k:Int):J8:=if k=1 then ⟨20,0,1,7⟩ else if k=2 then ⟨75,0,1,4⟩ else if k=3 then ⟨11,0,1,7⟩ else if k=4 then ⟨11,0,1,7⟩ else if k=5 then ⟨10,0,1,7⟩ else if k=6 then ⟨323,1,0,7⟩ else if k=7 then ⟨193,1,1,7⟩ else if k=8 then ⟨37,0,1,7⟩ else if k=9 then ⟨2,0,0,7⟩ else if k=10 then ⟨256,0,1,7⟩ else if k=11 then ⟨82,0,1,7⟩ else ⟨0,0,1,7⟩
def Xj (k:Int):aH:=if k=1 then ⟨false,false,true,false,true,false,false,false,false⟩ else if k=2 then ⟨true,true,false,true,false,false,true,false,false⟩ else if k=3 then ⟨true,true,false,true,false,false,false,false,false⟩ else if k=4 then ⟨true,true,false,true,false,false,false,false,false⟩ else if k=5 then ⟨false,true,false,true,false,false,false,false,false⟩ else if k=6 then ⟨true,true,false,false,false,false,true,false,true⟩ else if k=7 then ⟨true,false,false,false,false,false,true,true,false⟩ else if k=8 then ⟨true,false,true,false,false,true,false,false,false⟩ else if k=9 then ⟨false,true,false,false,false,false,false,false,false⟩ else if k=10 then ⟨false,false,false,false,false,false,false,false,true⟩ else if k=11 then ⟨false,true,false,false,true,false,true,false,false⟩ else ⟨false,false,false,false,false,false,false,false,false⟩
def okK (k:Int):Prop:=1≤k∧k≤11
instance (k:Int):Decidable (okK k):=inferInstanceAs (Decidable (_∧_))
theorem kinds (k:Int):k=1∨k=2∨k=3∨k=4∨k=5∨k=6∨k=7∨k=8∨k=9∨k=10∨k=11∨¬okK k:=by unfold okK;omega
theorem Xaw {k:Int} (h:¬okK k):Yk k=⟨0,0,1,7⟩:=by
  unfold okK at h
  unfold Yk
  rw [if_neg (by omega),if_neg (by omega),if_neg (by omega),if_neg (by omega),if_neg (by omega),if_neg (by omega),if_neg (by omega),if_neg (by omega),if_neg (by omega),if_neg (by omega),if_neg (by omega)]
theorem Xhz {k:Int} (h:¬okK k):Xj k=⟨false,false,false,false,false,false,false,false,false⟩:=by
  unfold okK at h
  unfold Xj
  rw [if_neg (by omega),if_neg (by omega),if_neg (by omega),if_neg (by omega),if_neg (by omega),if_neg (by omega),if_neg (by omega),if_neg (by omega),if_neg (by omega),if_neg (by omega),if_neg (by omega)]
def Uz (h:aH):Nat→Bool
  | 0=>h.Y1
  | 1=>h.Xo
  | 2=>h.Xi
  | 3=>h.X8
  | 4=>h.Xa
  | 5=>h.X1
  | 6=>h.Xp
  | 7=>h.Y5
  | 8=>h.X5
  | _=>false
def bits9 (h:aH):List Bool:=[h.Y1,h.Xo,h.Xi,h.X8,h.Xa,h.X1,h.Xp,h.Y5,h.X5]
def bitsS (n:Int):List Bool:=[decide (I0 n 1≠0),decide (I0 n 2≠0),decide (I0 n 4≠0),decide (I0 n 8≠0),decide (I0 n 16≠0),decide (I0 n 32≠0),decide (I0 n 64≠0),decide (I0 n 128≠0),decide (I0 n 256≠0)]
theorem X8d (k:Int):bitsS (Yk k).Vx=bits9 (Xj k):=by
  rcases kinds k with h|h|h|h|h|h|h|h|h|h|h|h
  case inr.inr.inr.inr.inr.inr.inr.inr.inr.inr.inr=>rw [Xaw h,Xhz h];decide +kernel
  all_goals (subst h;decide +kernel)
theorem Xig {n:Int} {h:aH} (e:bitsS n=bits9 h):(I0 n 1=0↔¬h.Y1=true)∧(I0 n 2=0↔¬h.Xo=true)∧(I0 n 4=0↔¬h.Xi=true)∧(I0 n 8=0↔¬h.X8=true)∧(I0 n 16=0↔¬h.Xa=true)∧(I0 n 32=0↔¬h.X1=true)∧(I0 n 64=0↔¬h.Xp=true)∧(I0 n 128=0↔¬h.Y5=true)∧(I0 n 256=0↔¬h.X5=true):=by
  unfold bitsS bits9 at e
  simp only [List.cons.injEq,and_true] at e
  obtain ⟨e1,e2,e3,e4,e5,e6,e7,e8,e9⟩:=e
  have key:∀ {x:Int} {b:Bool},decide (x≠0)=b→(x=0↔¬b=true):=fun {x b} q=>by subst q;simp
  exact ⟨key e1,key e2,key e3,key e4,key e5,key e6,key e7,key e8,key e9⟩
theorem Xih {k:Int} {j:Nat} (hj:j≤8):I0 (Yk k).Vx ((2 ^ j:Nat):Int)=0↔¬Uz (Xj k) j=true:=by
  obtain ⟨e1,e2,e3,e4,e5,e6,e7,e8,e9⟩:=Xig (X8d k)
  rcases (by omega:j=0∨j=1∨j=2∨j=3∨j=4∨j=5∨j=6∨j=7∨j=8) with h|h|h|h|h|h|h|h|h<;>subst h<;>assumption
theorem pow_le {j:Nat} (hj:j≤9):((2 ^ j:Nat):Int)≤256↔j≤8:=by
  rcases (by omega:j=0∨j=1∨j=2∨j=3∨j=4∨j=5∨j=6∨j=7∨j=8∨j=9) with h|h|h|h|h|h|h|h|h|h<;>subst h<;>decide
theorem pow_le9 {j:Nat} (hj:j≤9):2 ^ j≤512:=Nat.pow_le_pow_right (n:=2) (by decide) hj
theorem X0j {j i:Nat} (hj:j≤9) (h:((2 ^ j:Nat):Int)=((2 ^ i:Nat):Int)):j=i:=Nat.pow_right_inj (a:=2) (by decide) |>.1 (Int.ofNat.inj h)
def inM (s:J8) (f n lo hi:Int):Prop:=if I0 s.Vx f=0 then 0≤n∧n≤0 else lo≤n∧n≤hi
instance (s:J8) (f n lo hi:Int):Decidable (inM s f n lo hi):=by unfold inM;infer_instance
def X28 (l:List aC):Prop:=∀ c,c∈l→c.Xv.length≤7
instance (l:List aC):Decidable (X28 l):=inferInstanceAs (Decidable (∀ c,c∈l→_))
theorem X27 {l:List aC} {k:Nat} (hb:∀ j,j<k→(l.getD j zC).Xv.length≤7) (hk:l.length≤k):X28 l:=fun c hc=>by
  obtain ⟨j,hj,rfl⟩:=List.getElem_of_mem hc
  have:=hb j (by omega)
  rw [List.getD_eq_getElem?_getD,List.getElem?_eq_getElem hj] at this
  exact this
def idxV (l:List aC):Int:=if X28 l then -1 else ((l.findIdx fun c=>decide (7<c.Xv.length):Nat):Int)
theorem idx_no {l:List aC} {k:Nat} (hb:∀ j,j<k→(l.getD j zC).Xv.length≤7) (hk:l.length≤k):idxV l=-1:=if_pos (X27 hb hk)
theorem idx_at {l:List aC} {k:Nat} (hb:∀ j,j<k→(l.getD j zC).Xv.length≤7) (hk:k<l.length) (h:7<(l.getD k zC).Xv.length):idxV l=((k:Nat):Int):=by
  have e:∀ j (hj:j<l.length),l.getD j zC=l[j]:=fun j hj=>by rw [List.getD_eq_getElem?_getD,List.getElem?_eq_getElem hj];rfl
  have hn:¬X28 l:=fun w=>by
    have:=w _ (J5 (z:=zC) hk)
    omega
  rw [idxV,if_neg hn,(List.findIdx_eq hk).2 ⟨?_,fun j hj=>?_⟩]
  · rw [e k hk] at h;exact decide_eq_true h
  · have:=hb j hj
    rw [e j (by omega)] at this
    exact decide_eq_false (by omega)
theorem idx_few (l:List aC):idxV l≥0↔¬X28 l:=by
  unfold idxV
  split
  · rename_i h;exact ⟨(fun w=>by omega),fun w=>absurd h w⟩
  · rename_i h;exact ⟨fun _=>h,fun _=>Int.natCast_nonneg _⟩
def X6h (m:aM):Prop:=okK m.X2∧inM (Yk m.X2) 1 m.Y1 (Yk m.X2).Wt 1099511627776∧inM (Yk m.X2) 2 m.Xo (Yk m.X2).V7 1099511627776∧inM (Yk m.X2) 4 m.Xi 0 1099511627776∧inM (Yk m.X2) 4 m.Yj 1 1099511627776 ∧
  inM (Yk m.X2) 64 (m.Xp.length:Nat) 0 (Yk m.X2).Vp∧inM (Yk m.X2) 128 (m.Y5.length:Nat) 0 8∧inM (Yk m.X2) 256 (m.X5.length:Nat) 0 8∧inM (Yk m.X2) 8 (m.X8.length:Nat) 0 (m.X8.length:Nat)∧inM (Yk m.X2) 16 (m.Xa.length:Nat) 0 (m.Xa.length:Nat) ∧
  (I0 (Yk m.X2).Vx 32≠0∨m.X1=Ym)∧(m.X2≠1∨((m.Xa.length:Nat):Int)≤4096)∧(m.X2≠10∨((m.X5.length:Nat):Int)=1)∧X28 m.X5
instance (m:aM):Decidable (X6h m):=by unfold X6h;infer_instance
def X7f (m:aM):Int:=if X6h m then 0 else 120
theorem chk0 {m:aM}:X7f m=0↔X6h m:=by
  unfold X7f
  split
  · exact ⟨fun _=>‹_›,fun _=>rfl⟩
  · exact ⟨px,fun h=>absurd h ‹_›⟩
theorem nbB {b:Bool} (h:b=false):¬b=true:=fun q=>by rw [h] at q;cases q
def X0m (n:Int) (had:Bool) (lo:Int):Prop:=if had=true then n≥lo∧n≤1099511627776 else n=0
instance (n:Int) (had:Bool) (lo:Int):Decidable (X0m n had lo):=by unfold X0m;infer_instance
def X3z (k:Int):Int:=if k=6 then 1 else if k=7 then 1 else 0
def X30 (k:Int):Int:=if k=6 then 0 else if k=7 then 1 else if k=9 then 0 else 1
def maxB (k:Int) (h:aH):Int:=if k=2 then 4 else if h.Xp=true then 7 else 0
def maxP (h:aH):Int:=if h.Y5=true then 8 else 0
def Eo (m:aM) (h:aH):Prop:=((m.Xp.length:Nat):Int)≤maxB m.X2 h∧((m.Y5.length:Nat):Int)≤maxP h∧¬(m.X2=10∧((m.X5.length:Nat):Int)≠1)∧¬(¬h.X5=true∧((m.X5.length:Nat):Int)>0)∧((m.X5.length:Nat):Int)≤8∧X28 m.X5
instance (m:aM) (h:aH):Decidable (Eo m h):=by unfold Eo;infer_instance
def wellR (m:aM) (h:aH):Prop:=okK m.X2∧X0m m.Y1 h.Y1 (X3z m.X2)∧X0m m.Xo h.Xo (X30 m.X2)∧X0m m.Xi h.Xi 0∧X0m m.Yj h.Xi 1∧¬(m.X2=1∧((m.Xa.length:Nat):Int)>4096) ∧
  ¬(¬h.X8=true∧m.X8≠[])∧¬(¬h.Xa=true∧((m.Xa.length:Nat):Int)>0)∧¬(¬h.X1=true∧m.X1≠Ym)∧Eo m h
theorem lo_is (k:Int):(Yk k).Wt=X3z k∧(Yk k).V7=X30 k∧((Xj k).Xp=true→(Yk k).Vp=maxB k (Xj k))∧(¬(Xj k).Xp=true→maxB k (Xj k)=0):=by
  rcases kinds k with h|h|h|h|h|h|h|h|h|h|h|h
  case inr.inr.inr.inr.inr.inr.inr.inr.inr.inr.inr =>
    rw [Xaw h,Xhz h]
    unfold okK at h
    refine ⟨?_,?_,(fun q=>by cases q),fun _=>?_⟩
    · unfold X3z;rw [if_neg (by omega),if_neg (by omega)]
    · unfold X30;rw [if_neg (by omega),if_neg (by omega),if_neg (by omega)]
    · unfold maxB;rw [if_neg (by omega)];rfl
  all_goals (subst h;decide +kernel)
theorem Xcj {s:J8} {f n lo:Int} {b:Bool} (h:I0 s.Vx f=0↔¬b=true):inM s f n lo 1099511627776↔X0m n b lo:=by
  unfold inM X0m
  by_cases q:b=true
  · rw [if_neg (fun w=>h.1 w q),if_pos q]
  · rw [if_pos (h.2 q),if_neg q];omega
theorem in_len {s:J8} {f:Int} {n:Nat} {hi:Int} {b:Bool} (h:I0 s.Vx f=0↔¬b=true) (hh:b=true→(n:Int)≤hi):inM s f (n:Nat) 0 hi↔¬(¬b=true∧(n:Int)>0):=by
  unfold inM
  by_cases q:b=true
  · rw [if_neg (fun w=>h.1 w q)];exact ⟨fun _ w=>w.1 q,fun _=>⟨Int.natCast_nonneg _,hh q⟩⟩
  · rw [if_pos (h.2 q)];exact ⟨(fun w v=>by have:=v.2;omega),fun w=>⟨Int.natCast_nonneg _,Int.not_lt.1 (fun v=>w ⟨q,v⟩)⟩⟩
theorem Xgn {s:J8} {f:Int} {n:Nat} {hi:Int} {b:Bool} (h:I0 s.Vx f=0↔¬b=true):inM s f (n:Nat) 0 hi↔(n:Int)≤if b=true then hi else 0:=by
  unfold inM
  by_cases q:b=true
  · rw [if_neg (fun w=>h.1 w q),if_pos q];omega
  · rw [if_pos (h.2 q),if_neg q];omega
theorem Wz (m:aM):X6h m↔wellR m (Xj m.X2):=by
  obtain ⟨e1,e2,e3,e4,e5,e6,e7,e8,e9⟩:=Xig (X8d m.X2)
  obtain ⟨l1,l2,l3,l4⟩:=lo_is m.X2
  have hB:inM (Yk m.X2) 64 (m.Xp.length:Nat) 0 (Yk m.X2).Vp↔((m.Xp.length:Nat):Int)≤maxB m.X2 (Xj m.X2):=by
    rw [Xgn e7]
    split
    · rw [l3 (by assumption)]
    · rw [l4 (by assumption)]
  have hC:inM (Yk m.X2) 256 (m.X5.length:Nat) 0 8↔¬(¬(Xj m.X2).X5=true∧((m.X5.length:Nat):Int)>0)∧((m.X5.length:Nat):Int)≤8:=by
    rw [Xgn e9]
    split
    · rename_i q;exact ⟨fun w=>⟨fun v=>v.1 q,w⟩,fun w=>w.2⟩
    · rename_i q;exact ⟨fun w=>⟨(fun v=>by have:=v.2;omega),by omega⟩,fun w=>Int.not_lt.1 (fun v=>w.1 ⟨q,v⟩)⟩
  have hD:inM (Yk m.X2) 8 (m.X8.length:Nat) 0 (m.X8.length:Nat)↔¬(¬(Xj m.X2).X8=true∧m.X8≠[]):=by
    rw [in_len e4 (fun _=>Int.le_refl _)]
    have:((m.X8.length:Nat):Int)>0↔m.X8≠[]:=by
      rw [← List.length_pos_iff];omega
    rw [this]
  have hP:=Xgn (n:=m.Y5.length) (hi:=8) e8
  have hV:=Xcj (n:=m.Y1) (lo:=(Yk m.X2).Wt) e1
  have hS:=Xcj (n:=m.Xo) (lo:=(Yk m.X2).V7) e2
  have hA:=in_len (n:=m.Xa.length) (hi:=((m.Xa.length:Nat):Int)) e5 (fun _=>Int.le_refl _)
  have hR:(I0 (Yk m.X2).Vx 32≠0∨m.X1=Ym)↔¬(¬(Xj m.X2).X1=true∧m.X1≠Ym):=by
    rw [Ne,e6,Classical.not_not]
    constructor
    · rintro (w|w) v
      · exact v.1 w
      · exact v.2 w
    · intro w
      by_cases q:(Xj m.X2).X1=true
      · exact .inl q
      · exact .inr (Classical.byContradiction fun v=>w ⟨q,v⟩)
  unfold X6h wellR Eo maxP
  rw [hB,hC,hD,hP,hV,hS,hA,hR,Xcj e3,Xcj e3,l1,l2]
  constructor
  · rintro ⟨a1,a2,a3,a4,a5,a6,a7,⟨a8,a9⟩,a10,a11,a12,a13,a14,a15⟩
    exact ⟨a1,a2,a3,a4,a5,fun w=>by rcases a13 with q|q<;>omega,a10,a11,a12,a6,a7,fun w=>by rcases a14 with q|q<;>omega,a8,a9,a15⟩
  · rintro ⟨a1,a2,a3,a4,a5,a6,a7,a8,a9,b1,b2,b3,b4,b5,b6⟩
    exact ⟨a1,a2,a3,a4,a5,b1,b2,⟨b4,b5⟩,a7,a8,a9,by omega,by omega,b6⟩
end Go.Proofs.YtnaopgohccacmaaGreat.Q
namespace Go.Proofs.YtnaopgohccacmaaGreat.Q
set_option linter.unusedVariables false
set_option linter.unusedSimpArgs false
section
variable {P:Program} {bs:Base}
theorem Uu {s:St} (s':St) {x y:Code} {Q:Exit→Act→World→Prop} (h1:T P bs s x (Exit.then (fun a w=>Gs bs s' a w) Q)) (h2:T P bs s' y Q):T P bs s (.seq x y) Q:=by
  refine T.seq fun a w hG b k cs=>?_
  obtain ⟨e,a',w',hq,harr⟩:=h1 a w hG b k cs
  refine ⟨e,a',w',?_,harr⟩
  cases e with
  | normal=>exact h2 a' w' hq
  | _=>exact hq
theorem nJ {s:St} {Q:Exit→Act→World→Prop}:Ends bs s .normal (Exit.then (fun a w=>Gs bs s a w) Q):=fun a w h=>h
end
end Go.Proofs.YtnaopgohccacmaaGreat.Q
namespace Go.Proofs.YtnaopgohccacmaaGreat.Q
open Go Go.RowKit
set_option linter.unusedVariables false
set_option linter.unusedSimpArgs false
set_option maxRecDepth 100000
set_option maxHeartbeats 4000000
theorem X3r (ta:Bool) (na:Bool) (tb:Bool) (nb:Bool) (a:List UInt8) (b:List UInt8):Holds Tryz.prog 23 ⟨[slV ta na kU8 a,slV tb nb kU8 b],[],vB (decide (a=b)),[]⟩:=by
 refine Holds.of Tryz.func23 rfl (N:=10) Tryz.ntmps23 rfl fun w0 B0 S0 U0=>?_
 show T _ (Y2 10 0 w0 S0 U0 B0) ⟨[slV ta na kU8 a,slV tb nb kU8 b],[]⟩ _ _
 refine sR [] ?_
 refine sR [hR 1 rfl rfl (Hr () a (ys:=(.d (dsl ta na kU8 a))) (rhs:=[]) Tryz.underlying25 Tryz.underlying5 Tryz.underlying9 (Ji ta na kU8 a) (X3 rfl) trivial),hR 3 rfl rfl (Hr () b (ys:=(.d (dsl tb nb kU8 b))) (rhs:=[]) Tryz.underlying25 Tryz.underlying5 Tryz.underlying9 (Ji tb nb kU8 b) (X3 rfl) trivial)] ?_
 refine T.ret ?_
 exact eRt 4 (.one (dB (decide (a=b)))) [] rfl trivial
theorem Jl:Tryz.prog.info? 5=some Tryz.t5:=by kernel_rfl
theorem Io:Zero Tryz.prog 5 [.int .u8 0]:=⟨_,_,Jl,rfl,rfl⟩
theorem Jf:Elem Tryz.prog 25 5 1 1:=⟨Tryz.underlying25,_,_,Jl,rfl,rfl,rfl,rfl,by decide⟩
theorem Fu (ta:Bool) (na:Bool) (a:List UInt8) (hp:a.length≤140737488355328):Holds Tryz.prog 51 ⟨[slV ta na kU8 a],[],Y9 0 kU8 0 a.length,[.live (Xe 5 kU8 a)]⟩:=by
 refine Holds.of Tryz.func51 rfl (N:=8) Tryz.ntmps51 rfl fun w0 B0 S0 U0=>?_
 show T _ (Y2 8 0 w0 S0 U0 B0) ⟨[slV ta na kU8 a],[]⟩ _ _
 cases na
 ·refine Xd2 (k:=0) rfl (fun h0=>?_) ?_
  ·have h0:=List.eq_nil_of_length_eq_zero h0
   subst h0
   show T _ _ ⟨[dv (.slice none 0 0)],[]⟩ _ _
   refine sR [] ?_
   refine T.seq ?_
   refine sR [hR 1 rfl rfl (Ye (u1:=.slice none 0 0) (u2:=.slice none 0 0) (v:=.bool true) (X6d Tryz.underlying25) (X3 rfl) ⟨rfl,trivial⟩)] ?_
   refine cT (b:=true) rfl ?_
   refine sR [] ?_
   refine T.ret (rT ?_)
   refine eN ⟨[dv (.slice none 0 0),aa,dv (.slice none 0 0),aa,vB true],[]⟩ ?_
   refine Xc (s':=⟨[dv (.slice none 0 0),aa,Y9 0 kU8 0 0,aa,vB true],[.live (Xe 5 kU8 ([]:List UInt8))]⟩) (fun _ _ hG=>Vy 0 2 5 kU8 rfl rfl hG) ?_
   exact eRt 2 (.one (.own 0 kU8.sz 0 0)) [0] p2s (ix trivial)
  show T _ _ ⟨[slV ta true kU8 a],[]⟩ _ _
  refine sR [] ?_
  refine T.seq ?_
  refine sR [hR 1 rfl rfl (X2n (s:=.d (dsl ta true kU8 a)) Tryz.underlying25 (.inl rfl) (X3 rfl) ⟨rfl,trivial⟩)] ?_
  refine cF (b:=false) rfl ?_
  refine T.skip (nT ?_)
  refine sR [hR 0 rfl rfl (Yd 0 5 kU8 Vr ([]:List UInt8) [] (cs:=[]) Tryz.underlying25 Jl rfl Io rfl rfl rfl pd W4 pZ7 (V1 pZ7) (X3 rfl) trivial),hR 2 rfl rfl (Yy 0 1 5 1 kU8 Vr ([]:List UInt8) a a ([]:List UInt8).length (sy:=(.d (dsl ta true kU8 a))) (rhs:=[]) Jf (by omega) (Ji ta true kU8 a) (by simp) (by (simp [maxLen,-List.getD_eq_getElem?_getD]<;>omega)) (by (simp [maxLen,-List.getD_eq_getElem?_getD]<;>omega)) (X3 rfl) trivial)] ?_
  refine T.ret ?_
  exact eRt 2 (.one (.own 1 kU8.sz 0 a.length)) [1] rfl (ix trivial)
 refine sR [] ?_
 refine T.seq ?_
 refine sR [hR 1 rfl rfl (X2n (s:=.d (dsl ta true kU8 a)) Tryz.underlying25 (.inl rfl) (X3 rfl) ⟨rfl,trivial⟩)] ?_
 refine cF (b:=false) rfl ?_
 refine T.skip (nT ?_)
 refine sR [hR 0 rfl rfl (Yd 0 5 kU8 Vr ([]:List UInt8) [] (cs:=[]) Tryz.underlying25 Jl rfl Io rfl rfl rfl pd W4 pZ7 (V1 pZ7) (X3 rfl) trivial),hR 2 rfl rfl (Yy 0 1 5 1 kU8 Vr ([]:List UInt8) a a ([]:List UInt8).length (sy:=(.d (dsl ta true kU8 a))) (rhs:=[]) Jf (by omega) (Ji ta true kU8 a) (by simp) (by (simp [maxLen,-List.getD_eq_getElem?_getD]<;>omega)) (by (simp [maxLen,-List.getD_eq_getElem?_getD]<;>omega)) (X3 rfl) trivial)] ?_
 refine T.ret ?_
 exact eRt 2 (.one (.own 1 kU8.sz 0 a.length)) [1] rfl (ix trivial)
theorem X23:Tryz.prog.info? 3=some Tryz.t3:=by kernel_rfl
theorem Xk3 (f:Int) (u:Int):Holds Tryz.prog 34 ⟨[vI f,vI u],[],pv 0 0,[.live (.box 130 [dI (3*(fOf f)+1),dI (cOf u),.mref 1]),.live (mpK Y0 Yc ([]:List (Yn×Bool)))]⟩:=by
 refine Holds.of Tryz.func34 rfl (N:=16) Tryz.ntmps34 rfl fun w0 B0 S0 U0=>?_
 show T _ (Y2 16 0 w0 S0 U0 B0) ⟨[vI f,vI u],[]⟩ _ _
 refine sR [] ?_
 refine sR [hR 1 rfl rfl (X1p (k:=.i64) (a:=f) (b:=0) (X3 rfl) ⟨rfl,trivial⟩),hR 2 rfl rfl (X9a (k:=.i64) (a:=max f 0) (b:=2) (X3 rfl) ⟨rfl,trivial⟩),hR 3 rfl rfl (Ye (u1:=.int .i64 3) (u2:=.int .i64 (min (max f 0) 2)) (v:=.int .i64 (3*(min (max f 0) 2))) (Xa2 pa) (X3 rfl) ⟨rfl,trivial⟩),hR 4 rfl rfl (Ye (u1:=.int .i64 (3*(min (max f 0) 2))) (u2:=.int .i64 1) (v:=.int .i64 ((3*(min (max f 0) 2))+1)) (Wa pa) (X3 rfl) ⟨rfl,trivial⟩),hR 6 rfl rfl (X1p (k:=.i64) (a:=u) (b:=0) (X3 rfl) ⟨rfl,trivial⟩),hR 7 rfl rfl (X9a (k:=.i64) (a:=max u 0) (b:=8) (X3 rfl) ⟨rfl,trivial⟩),hR 8 rfl rfl (Xb4 0 Y0 Yc (X3 rfl))] ?_
 refine T.ret ?_
 exact eRt 4 (.one (.ptr 1 0)) [1,0] rfl ⟨⟨rfl,(by have e1:((3*(min (max f 0) 2))+1:Int)=3*(fOf f)+1:=(by rfl);have e2:(min (max u 0) 8:Int)=(cOf u):=(by rfl);have hE:=congr (congrArg (fun (q1:Int) (q2:Int)=>(.live (.box 130 [dI q1,dI q2,.mref 0]):HS)) e1) e2;exact Eq.trans pZ7 hE)⟩,(ix trivial)⟩
theorem wide_3:Wide Tryz.prog 3 none:=⟨_,Tryz.underlying3,(fun _ h=>by cases h),(fun _ _ h=>by cases h)⟩
theorem Xd1 (f:Int) (u:Int) (rows:List (Yn×Bool)) (hf:0≤f∧f≤2) (hu:0≤u∧u≤8):Holds Tryz.prog 82 ⟨[pv 0 0],[.box 130 [dI (3*f+1),dI u,.mref 1],mpK Y0 Yc rows],vI (3*f+1),[.live (.box 130 [dI (3*f+1),dI u,.mref 1]),.live (mpK Y0 Yc rows)]⟩:=by
 refine Holds.of Tryz.func82 rfl (N:=9) Tryz.ntmps82 rfl fun w0 B0 S0 U0=>?_
 show T _ (Y2 9 2 w0 S0 U0 B0) ⟨[pv 0 0],[.live (.box 130 [dI (3*f+1),dI u,.mref 1]),.live (mpK Y0 Yc rows)]⟩ _ _
 refine sR [] ?_
 refine T.seq ?_
 refine sR [] ?_
 refine cF (b:=false) rfl ?_
 refine T.skip (nT ?_)
 refine sR [] ?_
 refine T.ret ?_
 exact eRt 2 (.one (dI (3*f+1))) [0,1] rfl (ix (ix trivial))
theorem authn_F (f:Int) (u:Int) (rows:List (Yn×Bool)) (hf:0≤f∧f≤2) (hu:0≤u∧u≤8):Holds Tryz.prog 83 ⟨[pv 0 0],[.box 130 [dI (3*f+1),dI u,.mref 1],mpK Y0 Yc rows],vI f,[.live (.box 130 [dI (3*f+1),dI u,.mref 1]),.live (mpK Y0 Yc rows)]⟩:=by
 refine Holds.of Tryz.func83 rfl (N:=6) Tryz.ntmps83 rfl fun w0 B0 S0 U0=>?_
 show T _ (Y2 6 2 w0 S0 U0 B0) ⟨[pv 0 0],[.live (.box 130 [dI (3*f+1),dI u,.mref 1]),.live (mpK Y0 Yc rows)]⟩ _ _
 refine sR [] ?_
 refine sR [hR 1 rfl rfl (rCa (Xd1 f u rows ‹_› ‹_›) Tryz.func82 [0,1] [(.tmp 3,pv 0 0)] 2 2),hR 2 rfl rfl (Ye (u1:=.int .i64 (3*f+1)) (u2:=.int .i64 3) (v:=.int .i64 ((3*f+1) / 3)) (b_quoP (by omega) (by omega) pa) (X3 rfl) ⟨rfl,trivial⟩)] ?_
 refine T.ret ?_
 exact eRt 2 (.one (dI ((3*f+1) / 3))) [0,1] (cI (by omega)) (ix (ix trivial))
theorem Xao (f:Int) (u:Int) (rows:List (Yn×Bool)) (hf:0≤f∧f≤2) (hu:0≤u∧u≤8):Holds Tryz.prog 152 ⟨[pv 0 0],[.box 130 [dI (3*f+1),dI u,.mref 1],mpK Y0 Yc rows],vI u,[.live (.box 130 [dI (3*f+1),dI u,.mref 1]),.live (mpK Y0 Yc rows)]⟩:=by
 refine Holds.of Tryz.func152 rfl (N:=9) Tryz.ntmps152 rfl fun w0 B0 S0 U0=>?_
 show T _ (Y2 9 2 w0 S0 U0 B0) ⟨[pv 0 0],[.live (.box 130 [dI (3*f+1),dI u,.mref 1]),.live (mpK Y0 Yc rows)]⟩ _ _
 refine sR [] ?_
 refine T.seq ?_
 refine sR [] ?_
 refine cF (b:=false) rfl ?_
 refine T.skip (nT ?_)
 refine sR [] ?_
 refine T.ret ?_
 exact eRt 2 (.one (dI u)) [0,1] rfl (ix (ix trivial))
theorem Xd0 (f:Int) (u:Int) (rows:List (Yn×Bool)) (hf:0≤f∧f≤2) (hu:0≤u∧u≤8):Holds Tryz.prog 33 ⟨[pv 0 0],[.box 130 [dI (3*f+1),dI u,.mref 1],mpK Y0 Yc rows],vI (2*f+1),[.live (.box 130 [dI (3*f+1),dI u,.mref 1]),.live (mpK Y0 Yc rows)]⟩:=by
 refine Holds.of Tryz.func33 rfl (N:=8) Tryz.ntmps33 rfl fun w0 B0 S0 U0=>?_
 show T _ (Y2 8 2 w0 S0 U0 B0) ⟨[pv 0 0],[.live (.box 130 [dI (3*f+1),dI u,.mref 1]),.live (mpK Y0 Yc rows)]⟩ _ _
 refine sR [] ?_
 refine sR [hR 1 rfl rfl (rCa (Xd1 f u rows ‹_› ‹_›) Tryz.func82 [0,1] [(.tmp 3,pv 0 0)] 2 2),hR 3 rfl rfl (rCa (authn_F f u rows ‹_› ‹_›) Tryz.func83 [0,1] [(.tmp 5,pv 0 0)] 2 2),hR 4 rfl rfl (Ye (u1:=.int .i64 (3*f+1)) (u2:=.int .i64 f) (v:=.int .i64 ((3*f+1)-f)) (Ve pa) (X3 rfl) trivial)] ?_
 refine T.ret ?_
 exact eRt 2 (.one (dI ((3*f+1)-f))) [0,1] (cI (by omega)) (ix (ix trivial))
theorem Xcz (f:Int) (u:Int) (rows:List (Yn×Bool)) (s:Int) (hf:0≤f∧f≤2) (hu:0≤u∧u≤8) (hs:-9223372036854775808≤s∧s≤9223372036854775807):Holds Tryz.prog 123 ⟨[pv 0 0,vI s],[.box 130 [dI (3*f+1),dI u,.mref 1],mpK Y0 Yc rows],vB (decide (Ic u s)),[.live (.box 130 [dI (3*f+1),dI u,.mref 1]),.live (mpK Y0 Yc rows)]⟩:=by
 refine Holds.of Tryz.func123 rfl (N:=14) Tryz.ntmps123 rfl fun w0 B0 S0 U0=>?_
 show T _ (Y2 14 2 w0 S0 U0 B0) ⟨[pv 0 0,vI s],[.live (.box 130 [dI (3*f+1),dI u,.mref 1]),.live (mpK Y0 Yc rows)]⟩ _ _
 refine sR [] ?_
 by_cases hq1:s≥1000
 ·refine sR [hY 3 (dT hq1),hS 4 (oY rfl rfl rfl rfl (X3 rfl) (dT hq1) (Ye (u1:=.int .i64 s) (u2:=.int .i64 1000) (v:=.int .i64 (s-1000)) (Ve pa) (X3 rfl) ⟨rfl,trivial⟩)),hY 5 (dT hq1),hS 6 (oY rfl rfl rfl rfl (X3 rfl) (dT hq1) (rCa (Xao f u rows ‹_› ‹_›) Tryz.func152 [0,1] [(.tmp 10,pv 0 0)] 2 2)),hY 7 (dT hq1),hP 8 (dT hq1)] ?_
  refine T.ret ?_
  exact eRt 4 (.one (dB (decide ((s-1000)<u)))) [0,1] p4i (ix (ix trivial))
 refine sR (Xm (hN · true (dF hq1)) [3,4,5,6,7] (hP 8 (dF hq1)::[])) ?_
 refine T.ret ?_
 exact eRt 4 (.one (dB false)) [0,1] p51 (ix (ix trivial))
theorem Iw (f:Int) (u:Int) (rows:List (Yn×Bool)) (s:Int) (hf:0≤f∧f≤2) (hu:0≤u∧u≤8):Holds Tryz.prog 79 ⟨[pv 0 0,vI s],[.box 130 [dI (3*f+1),dI u,.mref 1],mpK Y0 Yc rows],vB (decide (V0 f s)),[.live (.box 130 [dI (3*f+1),dI u,.mref 1]),.live (mpK Y0 Yc rows)]⟩:=by
 refine Holds.of Tryz.func79 rfl (N:=13) Tryz.ntmps79 rfl fun w0 B0 S0 U0=>?_
 show T _ (Y2 13 2 w0 S0 U0 B0) ⟨[pv 0 0,vI s],[.live (.box 130 [dI (3*f+1),dI u,.mref 1]),.live (mpK Y0 Yc rows)]⟩ _ _
 refine sR [] ?_
 by_cases hq1:s≥0
 ·refine sR [hY 3 (dT hq1),hY 4 (dT hq1),hS 5 (oY rfl rfl rfl rfl (X3 rfl) (dT hq1) (rCa (Xd1 f u rows ‹_› ‹_›) Tryz.func82 [0,1] [(.tmp 9,pv 0 0)] 2 2)),hY 6 (dT hq1),hP 7 (dT hq1)] ?_
  refine T.ret ?_
  exact eRt 4 (.one (dB (decide (s<(3*f+1))))) [0,1] p4e (ix (ix trivial))
 refine sR (Xm (hN · true (dF hq1)) [3,4,5,6] (hP 7 (dF hq1)::[])) ?_
 refine T.ret ?_
 exact eRt 4 (.one (dB false)) [0,1] p50 (ix (ix trivial))
theorem X75 (f:Int) (u:Int) (rows:List (Yn×Bool)) (s:Int) (hf:0≤f∧f≤2) (hu:0≤u∧u≤8) (hs:-9223372036854775808≤s∧s≤9223372036854775807):Holds Tryz.prog 68 ⟨[pv 0 0,vI s],[.box 130 [dI (3*f+1),dI u,.mref 1],mpK Y0 Yc rows],vB (decide (Um f u s)),[.live (.box 130 [dI (3*f+1),dI u,.mref 1]),.live (mpK Y0 Yc rows)]⟩:=by
 refine Holds.of Tryz.func68 rfl (N:=13) Tryz.ntmps68 rfl fun w0 B0 S0 U0=>?_
 show T _ (Y2 13 2 w0 S0 U0 B0) ⟨[pv 0 0,vI s],[.live (.box 130 [dI (3*f+1),dI u,.mref 1]),.live (mpK Y0 Yc rows)]⟩ _ _
 refine sR [] ?_
 by_cases hq1:V0 f s
 ·refine sR (hR 2 rfl rfl (rCa (Iw f u rows s ‹_› ‹_›) Tryz.func79 [0,1] [(.tmp 5,pv 0 0),(.tmp 6,vI s)] 2 2)::(Xm (hN · false (dT hq1)) [4,5,6] (hP 7 (dT hq1)::[]))) ?_
  refine T.ret ?_
  exact eRt 4 (.one (dB true)) [0,1] p45 (ix (ix trivial))
 refine sR [hR 2 rfl rfl (rCa (Iw f u rows s ‹_› ‹_›) Tryz.func79 [0,1] [(.tmp 5,pv 0 0),(.tmp 6,vI s)] 2 2),hY 4 (dF hq1),hY 5 (dF hq1),hS 6 (oY rfl rfl rfl rfl (X3 rfl) (dF hq1) (rCa (Xcz f u rows s ‹_› ‹_› ‹_›) Tryz.func123 [0,1] [(.tmp 9,pv 0 0),(.tmp 10,vI s)] 2 2)),hP 7 (dF hq1)] ?_
 refine T.ret ?_
 exact eRt 4 (.one (dB (decide (Ic u s)))) [0,1] p3y (ix (ix trivial))
theorem Vs:Tryz.prog.info? 43=some Tryz.t43:=by kernel_rfl
theorem F7:Zero Tryz.prog 43 [.int .i64 0,.slice none 0 0]:=⟨_,_,Vs,rfl,rfl⟩
theorem U1:Tryz.prog.info? 25=some Tryz.t25:=by kernel_rfl
theorem F8:Wide Tryz.prog 43 (some 2):=⟨_,_,Tryz.underlying43,.inl ⟨_,rfl⟩,Vs,rfl⟩
section
variable (f:Int) (u:Int) (s:Int) (tb:Bool) (nb:Bool) (b:List UInt8)
end
end Go.Proofs.YtnaopgohccacmaaGreat.Q
