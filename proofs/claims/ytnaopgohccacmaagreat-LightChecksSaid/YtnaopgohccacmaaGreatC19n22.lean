import Derived.Test.YtnaopgohccacmaaGreatC19n21
namespace Go.Proofs.YtnaopgohccacmaaGreat.Q
set_option linter.unusedVariables false
set_option linter.unusedSimpArgs false
theorem Xj2 (r:List UInt8) (e:Int):X24 (rdI r e):=by
  unfold rdI X24
  split
  · have:=X1t (l:=r.take 8) (List.length_take_le _ _)
    unfold X36
    split<;>omega
  · omega
theorem rdX_ok {r:List UInt8} {e:Int} (h:rdX r e=0):e=0∧r=[]:=by
  unfold rdX at h
  split at h
  · cases h
  · rename_i h1
    refine ⟨h,?_⟩
    cases r with
    | nil=>rfl
    | cons a r=>exact absurd ⟨h,by simp<;>omega⟩ h1
end Go.Proofs.YtnaopgohccacmaaGreat.Q
namespace Go.Proofs.YtnaopgohccacmaaGreat.Q
set_option linter.unusedVariables false
set_option linter.unusedSimpArgs false
theorem lim_big {rest:List UInt8} {M:Int} (hM:((rest.length:Nat):Int)≤M) (h:Vd (rest.take 4)≤(rest.drop 4).length):Yu M (rest.take 4)=0:=by
  unfold Yu
  rw [List.length_drop] at h
  rw [if_neg (by omega)]
theorem okY_any {rest:List UInt8} {e M M':Int} (hM:((rest.length:Nat):Int)≤M) (hM':((rest.length:Nat):Int)≤M') (h:okY rest e M):okY rest e M':=by
  obtain ⟨h1,h2⟩:=h
  exact ⟨⟨h1.1,h1.2.1,lim_big hM' h2⟩,h2⟩
theorem X7r {rest:List UInt8} {e M:Int}:V5 rest e M=0↔okY rest e M:=by
  unfold V5 okY
  constructor
  · intro h
    split at h
    · rename_i h1
      split at h
      · rename_i h2;exact ⟨h1,h2⟩
      · cases h
    · rename_i h1;exact absurd h (Xg5 h1)
  · rintro ⟨h1,h2⟩
    rw [if_pos h1,if_pos h2]
theorem X4p {rest:List UInt8} {e M M':Int} (hM:((rest.length:Nat):Int)≤M) (hM':((rest.length:Nat):Int)≤M') (h:V5 rest e M=0):V5 rest e M'=0∧rdY rest e M'=rdY rest e M∧Vw rest e M'=Vw rest e M:=by
  have h1:=X7r.1 h
  have h2:=okY_any hM hM' h1
  exact ⟨X7r.2 h2,by rw [rdY,rdY,if_pos h1,if_pos h2],by rw [Vw,Vw,if_pos h1,if_pos h2]⟩
end Go.Proofs.YtnaopgohccacmaaGreat.Q
namespace Go.Proofs.YtnaopgohccacmaaGreat.Q
set_option linter.unusedVariables false
set_option linter.unusedSimpArgs false
def V8 (B r:List UInt8):Nat:=B.length-r.length
theorem X5t (B r:List UInt8):V8 B r≤B.length:=Nat.sub_le _ _
section
variable {B r:List UInt8}
theorem X05 (h:r <:+ B):B.drop (V8 B r)=r:=(List.suffix_iff_eq_drop.1 h).symm
theorem pos_0:V8 B B=0:=Nat.sub_self _
theorem rdR_suf (r:List UInt8) (e n m:Int):rdR r e n m <:+ r:=by unfold rdR;split<;>first|exact List.drop_suffix _ _|exact List.suffix_refl _
theorem rdYR_suf (r:List UInt8) (e m:Int):Vw r e m <:+ r:=by unfold Vw;split<;>first|exact (List.drop_suffix _ _).trans (List.drop_suffix _ _)|exact List.suffix_refl _
theorem sufR {e n m:Int} (h:r <:+ B):rdR r e n m <:+ B:=(rdR_suf _ _ _ _).trans h
theorem sufY {e m:Int} (h:r <:+ B):Vw r e m <:+ B:=(rdYR_suf _ _ _).trans h
theorem pos_of {a:Nat} (ha:a≤B.length) (h:B.drop a=r):a=V8 B r:=by
  subst h
  unfold V8
  rw [List.length_drop]
  omega
theorem pos_R {e n m:Int} (h:r <:+ B):rfA B (V8 B r) e n m=V8 B (rdR r e n m):=pos_of (Xfu (X5t _ _)) (by rw [Xdk,X05 h])
theorem pos_Y {e m:Int} (h:r <:+ B):H6 B (V8 B r) e m=V8 B (Vw r e m):=pos_of (Xbv (X5t _ _)) (by rw [X5o,X05 h])
end
end Go.Proofs.YtnaopgohccacmaaGreat.Q
namespace Go.Proofs.YtnaopgohccacmaaGreat.Q
set_option linter.unusedVariables false
set_option linter.unusedSimpArgs false
set_option maxRecDepth 100000
def X3a (h:Int) (d s:List UInt8):List UInt8:=Yx h++W3 d++W3 s
def uD (M:Int) (b:List UInt8):List UInt8:=rdY (rdR b 0 8 0) (rdE b 0 8 0) M
def uR2 (M:Int) (b:List UInt8):List UInt8:=Vw (rdR b 0 8 0) (rdE b 0 8 0) M
def uE2 (M:Int) (b:List UInt8):Int:=V5 (rdR b 0 8 0) (rdE b 0 8 0) M
def uS (M:Int) (b:List UInt8):List UInt8:=rdY (uR2 M b) (uE2 M b) M
def uR3 (M:Int) (b:List UInt8):List UInt8:=Vw (uR2 M b) (uE2 M b) M
def uE3 (M:Int) (b:List UInt8):Int:=V5 (uR2 M b) (uE2 M b) M
def okU (M:Int) (b:List UInt8):Prop:=rdX (uR3 M b) (uE3 M b)=0∧0≤rdI b 0∧rdI b 0≤1099511627776
instance (M:Int) (b:List UInt8):Decidable (okU M b):=inferInstanceAs (Decidable (_∧_∧_))
def unH (M:Int) (b:List UInt8):Int:=if okU M b then rdI b 0 else 0
def unD (M:Int) (b:List UInt8):List UInt8:=if okU M b then uD M b else []
def unS (M:Int) (b:List UInt8):List UInt8:=if okU M b then uS M b else []
def unE (M:Int) (b:List UInt8):Int:=if okU M b then 0 else 12
theorem pack_len (h:Int) (d s:List UInt8):(X3a h d s).length=16+d.length+s.length:=by
  simp only [X3a,List.length_append,Wq,Vg];omega
theorem Xfo (M:Int) (b:List UInt8):(rdR b 0 8 0).length≤b.length∧(uR2 M b).length≤b.length∧(uR3 M b).length≤b.length∧(uD M b).length≤b.length∧(uS M b).length≤b.length:=by
  have h1:=U3 b 0 8 0
  have h2:(uR2 M b).length≤b.length:=Nat.le_trans (X1n _ _ _) h1
  exact ⟨h1,h2,Nat.le_trans (X1n _ _ _) h2,Nat.le_trans (X0i _ _ _) h1,Nat.le_trans (X0i _ _ _) h2⟩
theorem Xhp {b:List UInt8} {M M':Int} (hM:((b.length:Nat):Int)≤M) (hM':((b.length:Nat):Int)≤M') (h:okU M b):okU M' b∧uD M' b=uD M b∧uS M' b=uS M b:=by
  obtain ⟨h1,h2⟩:=h
  obtain ⟨x1,x2⟩:=rdX_ok h1
  have l1:=U3 b 0 8 0
  have l2:=(Xfo M b).2.1
  have e2:uE2 M b=0:=(X7r.1 x1).1.1
  obtain ⟨a1,a2,a3⟩:=X4p (M':=M') (show (((rdR b 0 8 0).length:Nat):Int)≤M by omega) (by omega) e2
  have a1':uE2 M' b=uE2 M b:=a1.trans e2.symm
  have a3':uR2 M' b=uR2 M b:=a3
  obtain ⟨b1,b2,b3⟩:=X4p (M':=M') (show (((uR2 M b).length:Nat):Int)≤M by omega) (by omega) x1
  refine ⟨⟨?_,h2⟩,a2,by unfold uS;rw [a1',a3'];exact b2⟩
  unfold uR3 uE3
  rw [a1',a3',b3]
  show rdX (uR3 M b) (V5 (uR2 M b) (uE2 M b) M')=0
  rw [b1,← show uE3 M b=0 from x1]
  exact h1.trans x1.symm
theorem Xfn {b:List UInt8} {M M':Int} (hM:((b.length:Nat):Int)≤M) (hM':((b.length:Nat):Int)≤M'):unH M b=unH M' b∧unD M b=unD M' b∧unS M b=unS M' b∧unE M b=unE M' b:=by
  unfold unH unD unS unE
  by_cases h:okU M b
  · obtain ⟨h1,h2,h3⟩:=Xhp hM hM' h
    rw [if_pos h,if_pos h,if_pos h,if_pos h,if_pos h1,if_pos h1,if_pos h1,if_pos h1,h2,h3]
    exact ⟨rfl,rfl,rfl,rfl⟩
  · have h1:¬okU M' b:=fun h'=>h (Xhp hM' hM h').1
    rw [if_neg h,if_neg h,if_neg h,if_neg h,if_neg h1,if_neg h1,if_neg h1,if_neg h1]
    exact ⟨rfl,rfl,rfl,rfl⟩
end Go.Proofs.YtnaopgohccacmaaGreat.Q
namespace Go.Proofs.YtnaopgohccacmaaGreat.Q
open Go Go.RowKit
set_option linter.unusedVariables false
set_option linter.unusedSimpArgs false
set_option maxRecDepth 100000
set_option maxHeartbeats 4000000
theorem Xeg (tb:Bool) (nb:Bool) (b:List UInt8) (hb:b.length≤1000000000):Holds Tryz.prog 60 ⟨[slV tb nb kU8 b],[],dv (Yh (ofB 7 [b])),[]⟩:=by
 refine Holds.of Tryz.func60 rfl (N:=5) Tryz.ntmps60 rfl fun w0 B0 S0 U0=>?_
 show T _ (Y2 5 0 w0 S0 U0 B0) ⟨[slV tb nb kU8 b],[]⟩ _ _
 refine sR [] ?_
 refine sR [hR 1 rfl rfl (rCa (X5l (7:UInt8) tb nb b (by omega)) Tryz.func118 [] [(.const (.int .u8 7),dv (.int .u8 7)),(.tmp 3,slV tb nb kU8 b)] 0 0)] ?_
 refine T.ret ?_
 exact eRt 2 (.one (dS (ofB (7:UInt8) [b]))) [] p2o trivial
theorem Xfx (h:Int) (d:List UInt8) (ts:Bool) (ns:Bool) (s:List UInt8) (hd:d.length≤100000000) (hs:s.length≤100000000):Holds Tryz.prog 41 ⟨[vI h,dv (Yh d),slV ts ns kU8 s],[],Y9 0 kU8 0 (X3a h d s).length,[.live (Xe 5 kU8 (X3a h d s))]⟩:=by
 refine Holds.of Tryz.func41 rfl (N:=14) Tryz.ntmps41 rfl fun w0 B0 S0 U0=>?_
 show T _ (Y2 14 0 w0 S0 U0 B0) ⟨[vI h,dv (Yh d),slV ts ns kU8 s],[]⟩ _ _
 have hi:=Wq h
 have hb:=Vg d
 refine sR [] ?_
 refine sR [hR 1 rfl rfl (rCn (Ui false false ([]:List UInt8) h (by (simp [maxLen,-List.getD_eq_getElem?_getD]<;>omega))) Tryz.func63 [0] [(.const (.slice none 0 0),dv (.slice none 0 0)),(.tmp 7,vI h)] 0 1 ⟨.inr pZ5,⟨.inl ⟨rfl,rfl⟩,trivial⟩⟩ ⟨rfl,trivial⟩),hR 3 rfl rfl (Jx (l:=d) Tryz.underlying60 Tryz.underlying25 Tryz.underlying5 (X3 rfl) trivial),hR 4 rfl rfl (Ww (I9 true false (([]:List UInt8)++Yx h) false true d (by (simp [maxLen,-List.getD_eq_getElem?_getD]<;>omega))) Tryz.func64 rfl (by decide) [1] [0] (l:=[(.tmp 8,Y9 0 kU8 0 (([]:List UInt8)++Yx h).length),(.tmp 10,slV false true kU8 d)]) [(0,.live (Xe 5 kU8 (([]:List UInt8)++Yx h)))] rfl 0 1 rfl rfl rfl rfl rfl rfl rfl rfl rfl ⟨.inr (.inl ⟨rfl,px,rfl,rfl,by simp,5,(([]:List UInt8)++Yx h).length,W6 kU8 (([]:List UInt8)++Yx h),List.Mem.head _,pm,fun i j=>by rw [Nat.zero_add]⟩),⟨.inl ⟨rfl,rfl⟩,trivial⟩⟩ rfl pZ6 pZl (X3 rfl) trivial),hR 6 rfl rfl (Ww (I9 true false (([]:List UInt8)++Yx h++W3 d) ts ns s (by (simp [maxLen,-List.getD_eq_getElem?_getD]<;>omega))) Tryz.func64 rfl (by decide) [2] [1] (l:=[(.tmp 11,Y9 1 kU8 0 (([]:List UInt8)++Yx h++W3 d).length),(.tmp 12,slV ts ns kU8 s)]) [(1,.live (Xe 5 kU8 (([]:List UInt8)++Yx h++W3 d)))] rfl 0 1 rfl rfl rfl rfl rfl rfl rfl rfl rfl ⟨.inr (.inl ⟨rfl,px,rfl,rfl,by simp,5,(([]:List UInt8)++Yx h++W3 d).length,W6 kU8 (([]:List UInt8)++Yx h++W3 d),List.Mem.head _,pm,fun i j=>by rw [Nat.zero_add]⟩),⟨.inl ⟨rfl,rfl⟩,trivial⟩⟩ rfl pZ6 pZl (X3 rfl) trivial)] ?_
 refine T.ret ?_
 exact eRt 6 (.one (.own 2 kU8.sz 0 (([]:List UInt8)++Yx h++W3 d++W3 s).length)) [2] (congrArg (fun (q1:Nat)=>(Y9 2 kU8 0 q1:AV)) (by rfl)) ⟨⟨rfl,(by have e1:(([]:List UInt8)++Yx h++W3 d++W3 s:List UInt8)=X3a h d s:=(by rfl);have hE:=congrArg (fun (q1:List UInt8)=>(.live (Xe 5 kU8 q1):HS)) e1;exact Eq.trans pZ7 hE)⟩,trivial⟩
theorem X8u (tb:Bool) (nb:Bool) (b:List UInt8) (hb:b.length≤1000000000):Holds Tryz.prog 42 ⟨[slV tb nb kU8 b],[],dv (Yh (ofB 7 [b])),[]⟩:=by
 refine Holds.of Tryz.func42 rfl (N:=5) Tryz.ntmps42 rfl fun w0 B0 S0 U0=>?_
 show T _ (Y2 5 0 w0 S0 U0 B0) ⟨[slV tb nb kU8 b],[]⟩ _ _
 refine sR [] ?_
 refine sR [hR 1 rfl rfl (rCa (X3q (7:UInt8) tb nb b (by omega)) Tryz.func93 [] [(.const (.int .u8 7),dv (.int .u8 7)),(.tmp 3,slV tb nb kU8 b)] 0 0)] ?_
 refine T.ret ?_
 exact eRt 2 (.one (dS (ofB (7:UInt8) [b]))) [] p2o trivial
section
variable (tb:Bool) (nb:Bool) (b:List UInt8)
abbrev Z9j:=(rdY (rdR b 0 8 0) (rdE b 0 8 0) ((b.length:Nat):Int))
abbrev Z9k:AV:=vI (rdI b 0)
abbrev Z9l:AV:=dv (Yh (Z9j b))
abbrev Z9m:=(Vw (rdR b 0 8 0) (rdE b 0 8 0) ((b.length:Nat):Int))
abbrev Z9n:=(V5 (rdR b 0 8 0) (rdE b 0 8 0) ((b.length:Nat):Int))
abbrev Z9o:=(rdY (Z9m b) (Z9n b) ((b.length:Nat):Int))
abbrev Z9p:AV:=Y9 2 kU8 0 (Z9o b).length
abbrev Z9q:HS:=.live (.box 195 [dU (Vw (Z9m b) (Z9n b) ((b.length:Nat):Int)),dI (rdX (Vw (Z9m b) (Z9n b) ((b.length:Nat):Int)) (V5 (Z9m b) (Z9n b) ((b.length:Nat):Int)))])
abbrev Z9r:List HS:=[(Z9q b),.live (Xe 5 kU8 (Z9j b)),.live (Xe 5 kU8 (Z9o b))]
abbrev Z9s:St:=⟨[slV tb nb kU8 b,aa,vI 0,dv (Yh []),dv (.slice none 0 0),vI 12,pv 0 0,(Z9k b),(Z9l b),(Z9p b),aa,aa,aa,aa,aa,aa,aa,aa,aa,aa,aa,aa,aa,aa,aa,aa,aa,aa,aa,aa,aa,aa,aa,aa,aa,vB true],(Z9r b)⟩
abbrev Z9t:St:=⟨[slV tb nb kU8 b,aa,vI 0,dv (Yh []),slV false false kU8 ([]:List UInt8),vI 12,pv 0 0,(Z9k b),(Z9l b),(Z9p b),aa,aa,aa,aa,aa,aa,aa,aa,aa,aa,aa,aa,aa,aa,aa,aa,aa,aa,aa,aa,aa,aa,aa,aa,aa,vB true],(Z9r b)⟩
abbrev Z9u:TV:=.one (dI 0)
abbrev Z9v:TV:=.one (dS [])
abbrev Z9w:TV:=.one (dU ([]:List UInt8))
abbrev Z9x:AV:=vB (decide ((rdI b 0)>1099511627776))
abbrev Z9y:St:=⟨[slV tb nb kU8 b,aa,vI 0,dv (Yh []),dv (.slice none 0 0),vI 12,pv 0 0,(Z9k b),(Z9l b),(Z9p b),aa,aa,aa,aa,aa,aa,aa,aa,aa,aa,aa,aa,aa,aa,aa,aa,aa,aa,aa,aa,aa,aa,aa,aa,aa,(Z9x b)],(Z9r b)⟩
abbrev Z9z:St:=⟨[slV tb nb kU8 b,aa,(Z9k b),(Z9l b),(Z9p b),vI 0,pv 0 0,(Z9k b),(Z9l b),(Z9p b),aa,aa,aa,aa,aa,aa,aa,aa,aa,aa,aa,aa,aa,aa,aa,aa,aa,aa,aa,aa,aa,aa,aa,aa,aa,(Z9x b)],(Z9r b)⟩
end
theorem X3c (tb:Bool) (nb:Bool) (b:List UInt8) (hb:b.length≤100000000):Holds Tryz.prog 50 ⟨[slV tb nb kU8 b],[],.tup [.one (dI (unH ((b.length:Nat):Int) b)),.one (dS (unD ((b.length:Nat):Int) b)),.one (dU (unS ((b.length:Nat):Int) b)),.one (dI (unE ((b.length:Nat):Int) b))],[]⟩:=by
 refine Holds.of Tryz.func50 rfl (N:=39) Tryz.ntmps50 rfl fun w0 B0 S0 U0=>?_
 show T _ (Y2 39 0 w0 S0 U0 B0) ⟨[slV tb nb kU8 b],[]⟩ _ _
 have hu:=Xfo ((b.length:Nat):Int) b
 have hu1:=hu.1
 have hu2:=hu.2.1
 have hu3:=hu.2.2.1
 have hu4:=hu.2.2.2.1
 have hu5:=hu.2.2.2.2
 simp only [uR2,uR3,uE2,uD,uS] at hu2 hu3 hu4 hu5
 refine sR [] ?_
 refine sR [hR 1 rfl rfl (rCa (Xd6 tb nb b (by omega)) Tryz.func104 [0] [(.tmp 10,slV tb nb kU8 b)] 0 1)] ?_
 refine sD [[],[0],[],[],[3],[0,1,2,3,4],[0,1,2,3,4,5],[],[],[8],[0,1,2,3,4,5,7,8,9],[0,1,2,3,4,5,7,8,9,10],[0,1,2,3,4,5,6,7,8,9,10,11],[0,1,2,3,4,5,6,7,8,9,10,11,12]] [hR 1 rfl rfl (rCa (rd_Int b 0 (by omega)) Tryz.func105 [0] [(.tmp 12,pv 0 0)] 1 1),hR 5 rfl rfl (rCa (X1m (rdR b 0 8 0) (rdE b 0 8 0) ((b.length:Nat):Int) (by omega)) Tryz.func106 [0,1] [(.tmp 14,pv 0 0),(.tmp 16,vI ((b.length:Nat):Int))] 1 2),hR 6 rfl rfl (Hr () (rdY (rdR b 0 8 0) (rdE b 0 8 0) ((b.length:Nat):Int)) (ys:=(.own 1 kU8.sz 0 (Z9j b).length)) (rhs:=[(1,.live (Xe 5 kU8 (Z9j b)))]) Tryz.underlying25 Tryz.underlying5 Tryz.underlying60 (Wu 1 5 kU8 (rdY (rdR b 0 8 0) (rdE b 0 8 0) ((b.length:Nat):Int))) (X3 rfl) trivial),hR 10 rfl rfl (rCa (X1m (Vw (rdR b 0 8 0) (rdE b 0 8 0) ((b.length:Nat):Int)) (V5 (rdR b 0 8 0) (rdE b 0 8 0) ((b.length:Nat):Int)) ((b.length:Nat):Int) (by omega)) Tryz.func106 [0,2] [(.tmp 19,pv 0 0),(.tmp 21,vI ((b.length:Nat):Int))] 1 2)] ?_
 refine T.seq ?_
 refine sR [hR 1 rfl rfl (rCa (Xg3 (Vw (Vw (rdR b 0 8 0) (rdE b 0 8 0) ((b.length:Nat):Int)) (V5 (rdR b 0 8 0) (rdE b 0 8 0) ((b.length:Nat):Int)) ((b.length:Nat):Int)) (V5 (Vw (rdR b 0 8 0) (rdE b 0 8 0) ((b.length:Nat):Int)) (V5 (rdR b 0 8 0) (rdE b 0 8 0) ((b.length:Nat):Int)) ((b.length:Nat):Int)) (by omega)) Tryz.func107 [0] [(.tmp 23,pv 0 0)] 1 1)] ?_
 by_cases hq1:(rdX (Vw (Vw (rdR b 0 8 0) (rdE b 0 8 0) ((b.length:Nat):Int)) (V5 (rdR b 0 8 0) (rdE b 0 8 0) ((b.length:Nat):Int)) ((b.length:Nat):Int)) (V5 (Vw (rdR b 0 8 0) (rdE b 0 8 0) ((b.length:Nat):Int)) (V5 (rdR b 0 8 0) (rdE b 0 8 0) ((b.length:Nat):Int)) ((b.length:Nat):Int)))≠0
 ·have hno:¬okU ((b.length:Nat):Int) b:=fun h9=>hq1 h9.1
  refine sR [hR 1 rfl rfl (rCa (X92 (Vw (Vw (rdR b 0 8 0) (rdE b 0 8 0) ((b.length:Nat):Int)) (V5 (rdR b 0 8 0) (rdE b 0 8 0) ((b.length:Nat):Int)) ((b.length:Nat):Int)) (rdX (Vw (Vw (rdR b 0 8 0) (rdE b 0 8 0) ((b.length:Nat):Int)) (V5 (rdR b 0 8 0) (rdE b 0 8 0) ((b.length:Nat):Int)) ((b.length:Nat):Int)) (V5 (Vw (rdR b 0 8 0) (rdE b 0 8 0) ((b.length:Nat):Int)) (V5 (rdR b 0 8 0) (rdE b 0 8 0) ((b.length:Nat):Int)) ((b.length:Nat):Int))) ) Tryz.func108 [0] [(.tmp 25,pv 0 0)] 1 1),hN 4 false (dT hq1),hN 5 false (dT hq1),hP 6 (dT hq1),hN0 8,hN0 9,hP1 10] ?_
  refine cT (b:=true) rfl ?_
  refine sR [] ?_
  refine T.ret (rT ?_)
  refine eN (Z9s tb nb b) ?_
  refine Xc (s':=(Z9t tb nb b)) (fun _ _ hG=>Ys (s:=(Z9s tb nb b)) p4w ⟨.inl rfl,(kk2 trivial)⟩ hG) ?_
  exact eX [.t 2 (Z9u),.t 3 (Z9v),.t 4 (Z9w),.t 5 (.one (dI 12))] ⟨⟨rfl,by kernel_rfl⟩,⟨⟨rfl,by kernel_rfl⟩,⟨⟨rfl,by kernel_rfl⟩,⟨⟨rfl,by kernel_rfl⟩,trivial⟩⟩⟩⟩ [] (cg4 (fun (q1:Int) (q2:List UInt8) (q3:List UInt8) (q4:Int)=>(.tup [.one (dI q1),.one (dS q2),.one (dU q3),.one (dI q4)]:AV)) p1m p1m p1m p1m) trivial
 by_cases hq2:(rdI b 0)<0
 ·have hno:¬okU ((b.length:Nat):Int) b:=(fun h9=>by have h8:=h9.2.1;omega)
  refine sR [hR 1 rfl rfl (rCa (X92 (Vw (Vw (rdR b 0 8 0) (rdE b 0 8 0) ((b.length:Nat):Int)) (V5 (rdR b 0 8 0) (rdE b 0 8 0) ((b.length:Nat):Int)) ((b.length:Nat):Int)) (rdX (Vw (Vw (rdR b 0 8 0) (rdE b 0 8 0) ((b.length:Nat):Int)) (V5 (rdR b 0 8 0) (rdE b 0 8 0) ((b.length:Nat):Int)) ((b.length:Nat):Int)) (V5 (Vw (rdR b 0 8 0) (rdE b 0 8 0) ((b.length:Nat):Int)) (V5 (rdR b 0 8 0) (rdE b 0 8 0) ((b.length:Nat):Int)) ((b.length:Nat):Int))) ) Tryz.func108 [0] [(.tmp 25,pv 0 0)] 1 1),hY 4 (dF hq1),hY 5 (dF hq1),hP 6 (dF hq1),hN 8 false (dT hq2),hN 9 false (dT hq2),hP 10 (dT hq2)] ?_
  refine cT (b:=true) rfl ?_
  refine sR [] ?_
  refine T.ret (rT ?_)
  refine eN (Z9s tb nb b) ?_
  refine Xc (s':=(Z9t tb nb b)) (fun _ _ hG=>Ys (s:=(Z9s tb nb b)) p4w ⟨.inl rfl,(kk2 trivial)⟩ hG) ?_
  exact eX [.t 2 (Z9u),.t 3 (Z9v),.t 4 (Z9w),.t 5 (.one (dI 12))] ⟨⟨rfl,by kernel_rfl⟩,⟨⟨rfl,by kernel_rfl⟩,⟨⟨rfl,by kernel_rfl⟩,⟨⟨rfl,by kernel_rfl⟩,trivial⟩⟩⟩⟩ [] (cg4 (fun (q1:Int) (q2:List UInt8) (q3:List UInt8) (q4:Int)=>(.tup [.one (dI q1),.one (dS q2),.one (dU q3),.one (dI q4)]:AV)) p1m p1m p1m p1m) trivial
 refine sR [hR 1 rfl rfl (rCa (X92 (Vw (Vw (rdR b 0 8 0) (rdE b 0 8 0) ((b.length:Nat):Int)) (V5 (rdR b 0 8 0) (rdE b 0 8 0) ((b.length:Nat):Int)) ((b.length:Nat):Int)) (rdX (Vw (Vw (rdR b 0 8 0) (rdE b 0 8 0) ((b.length:Nat):Int)) (V5 (rdR b 0 8 0) (rdE b 0 8 0) ((b.length:Nat):Int)) ((b.length:Nat):Int)) (V5 (Vw (rdR b 0 8 0) (rdE b 0 8 0) ((b.length:Nat):Int)) (V5 (rdR b 0 8 0) (rdE b 0 8 0) ((b.length:Nat):Int)) ((b.length:Nat):Int))) ) Tryz.func108 [0] [(.tmp 25,pv 0 0)] 1 1),hY 4 (dF hq1),hY 5 (dF hq1),hP 6 (dF hq1),hY 8 (dF hq2),hY 9 (dF hq2),hP 10 (dF hq2)] ?_
 by_cases hq3:(rdI b 0)>1099511627776
 ·have hno:¬okU ((b.length:Nat):Int) b:=(fun h9=>by have h8:=h9.2.2;omega)
  refine cT (dT hq3) ?_
  refine sR [] ?_
  refine T.ret (rT ?_)
  refine eN (Z9y tb nb b) ?_
  refine Xc (s':=⟨[slV tb nb kU8 b,aa,vI 0,dv (Yh []),slV false false kU8 ([]:List UInt8),vI 12,pv 0 0,(Z9k b),(Z9l b),(Z9p b),aa,aa,aa,aa,aa,aa,aa,aa,aa,aa,aa,aa,aa,aa,aa,aa,aa,aa,aa,aa,aa,aa,aa,aa,aa,(Z9x b)],(Z9r b)⟩) (fun _ _ hG=>Ys (s:=(Z9y tb nb b)) p4w ⟨.inl rfl,(kk2 trivial)⟩ hG) ?_
  exact eX [.t 2 (Z9u),.t 3 (Z9v),.t 4 (Z9w),.t 5 (.one (dI 12))] ⟨⟨rfl,by kernel_rfl⟩,⟨⟨rfl,by kernel_rfl⟩,⟨⟨rfl,by kernel_rfl⟩,⟨⟨rfl,by kernel_rfl⟩,trivial⟩⟩⟩⟩ [] (cg4 (fun (q1:Int) (q2:List UInt8) (q3:List UInt8) (q4:Int)=>(.tup [.one (dI q1),.one (dS q2),.one (dU q3),.one (dI q4)]:AV)) p1m p1m p1m p1m) trivial
 have hok:okU ((b.length:Nat):Int) b:=⟨Classical.not_not.1 ‹_›,by omega,by omega⟩
 refine cF (dF hq3) ?_
 refine T.skip (nT ?_)
 refine sR [] ?_
 refine T.ret ?_
 refine eN (Z9z tb nb b) ?_
 refine Xc (s':=⟨[slV tb nb kU8 b,aa,(Z9k b),(Z9l b),slV false false kU8 (Z9o b),vI 0,pv 0 0,(Z9k b),(Z9l b),slV false false kU8 (Z9o b),aa,aa,aa,aa,aa,aa,aa,aa,aa,aa,aa,aa,aa,aa,aa,aa,aa,aa,aa,aa,aa,aa,aa,aa,aa,(Z9x b)],[(Z9q b),.live (Xe 5 kU8 (Z9j b)),.dead]⟩) (fun _ _ hG=>Gs.freeze (s:=(Z9z tb nb b)) 2 (el:=W6 kU8 (rdY (Vw (rdR b 0 8 0) (rdE b 0 8 0) ((b.length:Nat):Int)) (V5 (rdR b 0 8 0) (rdE b 0 8 0) ((b.length:Nat):Int)) ((b.length:Nat):Int))) (sz:=kU8.sz) (n:=(rdY (Vw (rdR b 0 8 0) (rdE b 0 8 0) ((b.length:Nat):Int)) (V5 (rdR b 0 8 0) (rdE b 0 8 0) ((b.length:Nat):Int)) ((b.length:Nat):Int)).length) rfl (kk4 ⟨(.inr pZ0),(kk4 ⟨(.inr pZ0),(kk2 p2w)⟩)⟩) ⟨pc,⟨pc,⟨(.inl ⟨rfl,rfl⟩),trivial⟩⟩⟩ hG) ?_
 exact eX [.t 2 (.one (dI (rdI b 0))),.t 3 (.one (dS (Z9j b))),.t 4 (.one (dU (Z9o b))),.t 5 (Z9u)] ⟨⟨rfl,by kernel_rfl⟩,⟨⟨rfl,by kernel_rfl⟩,⟨⟨rfl,by kernel_rfl⟩,⟨⟨rfl,by kernel_rfl⟩,trivial⟩⟩⟩⟩ [] (cg4 (fun (q1:Int) (q2:List UInt8) (q3:List UInt8) (q4:Int)=>(.tup [.one (dI q1),.one (dS q2),.one (dU q3),.one (dI q4)]:AV)) p3x p3x p3x p3x) trivial
section
variable (b:List UInt8)
abbrev Za0:=(rdY (b.drop (rfA b 0 0 8 0)) (rdE (b.drop 0) 0 8 0) 1099511627776)
abbrev Za1:HS:=.live (Xe 5 kU8 (Za0 b))
abbrev Za2:=(H6 b (rfA b 0 0 8 0) (rdE (b.drop 0) 0 8 0) 1099511627776)
abbrev Za3:=(V5 (b.drop (rfA b 0 0 8 0)) (rdE (b.drop 0) 0 8 0) 1099511627776)
abbrev Za4:List AV:=[slV false false kU8 b,aa,vI 0,dv (Yh []),dv (.slice none 0 0),vI 0,pv 0 0,vI (rdI (b.drop 0) 0),dv (Yh (Za0 b)),Y9 2 kU8 0 (rdY (b.drop (Za2 b)) (Za3 b) 1099511627776).length]
abbrev Za5:SV:=dI ((H6 b (Za2 b) (Za3 b) 1099511627776:Nat):Int)
abbrev Za6:List HS:=[.live (.box 156 [dU b,(Za5 b),dI (V5 (b.drop (Za2 b)) (Za3 b) 1099511627776)]),(Za1 b),.live (Xe 5 kU8 (rdY (b.drop (Za2 b)) (Za3 b) 1099511627776))]
abbrev Za7:AV:=vI (rdI b 0)
abbrev Za8:AV:=dv (Yh (uD 1099511627776 b))
abbrev Za9:AV:=Y9 2 kU8 0 (uS 1099511627776 b).length
abbrev Zaa:List AV:=[slV false false kU8 b,aa,vI 0,dv (Yh []),dv (.slice none 0 0),vI 0,pv 0 0,(Za7 b),(Za8 b),(Za9 b)]
abbrev Zab:List HS:=[.live (.box 156 [dU b,(Za5 b),dI (uE3 1099511627776 b)]),(Za1 b),.live (Xe 5 kU8 (uS 1099511627776 b))]
abbrev Zac:HS:=.live (.box 156 [dU b,(Za5 b),dI (rdX (b.drop (H6 b (Za2 b) (Za3 b) 1099511627776)) (uE3 1099511627776 b))])
abbrev Zad:List HS:=[(Zac b),(Za1 b),.live (Xe 5 kU8 (uS 1099511627776 b))]
abbrev Zae:St:=⟨[slV false false kU8 b,aa,vI 0,dv (Yh []),dv (.slice none 0 0),vI 12,pv 0 0,(Za7 b),(Za8 b),(Za9 b),aa,aa,aa,aa,aa,aa,aa,aa,aa,aa,aa,aa,aa,aa,aa,aa,aa,aa,aa,aa,aa,aa,aa,aa,vB true],(Zad b)⟩
abbrev Zaf:St:=⟨[slV false false kU8 b,aa,vI 0,dv (Yh []),slV false false kU8 ([]:List UInt8),vI 12,pv 0 0,(Za7 b),(Za8 b),(Za9 b),aa,aa,aa,aa,aa,aa,aa,aa,aa,aa,aa,aa,aa,aa,aa,aa,aa,aa,aa,aa,aa,aa,aa,aa,vB true],(Zad b)⟩
abbrev Zag:TV:=.one (dI 0)
abbrev Zah:TV:=.one (dS [])
abbrev Zai:TV:=.one (dU ([]:List UInt8))
abbrev Zaj:AV:=vB (decide ((rdI b 0)>1099511627776))
abbrev Zak:St:=⟨[slV false false kU8 b,aa,vI 0,dv (Yh []),dv (.slice none 0 0),vI 12,pv 0 0,(Za7 b),(Za8 b),(Za9 b),aa,aa,aa,aa,aa,aa,aa,aa,aa,aa,aa,aa,aa,aa,aa,aa,aa,aa,aa,aa,aa,aa,aa,aa,(Zaj b)],(Zad b)⟩
abbrev Zal:St:=⟨[slV false false kU8 b,aa,(Za7 b),(Za8 b),(Za9 b),vI 0,pv 0 0,(Za7 b),(Za8 b),(Za9 b),aa,aa,aa,aa,aa,aa,aa,aa,aa,aa,aa,aa,aa,aa,aa,aa,aa,aa,aa,aa,aa,aa,aa,aa,(Zaj b)],(Zad b)⟩
end
theorem X4i (b:List UInt8) (hb:b.length≤100000000):Holds Tryz.prog 43 ⟨[slV false false kU8 b],[],.tup [.one (dI (unH 1099511627776 b)),.one (dS (unD 1099511627776 b)),.one (dU (unS 1099511627776 b)),.one (dI (unE 1099511627776 b))],[]⟩:=by
 refine Holds.of Tryz.func43 rfl (N:=38) Tryz.ntmps43 rfl fun w0 B0 S0 U0=>?_
 show T _ (Y2 38 0 w0 S0 U0 B0) ⟨[slV false false kU8 b],[]⟩ _ _
 have hu:=Xfo 1099511627776 b
 have hu1:=hu.1
 have hu2:=hu.2.1
 have hu3:=hu.2.2.1
 have hu4:=hu.2.2.2.1
 have hu5:=hu.2.2.2.2
 simp only [uR2,uR3,uE2,uD,uS] at hu2 hu3 hu4 hu5
 have hd1:b.drop (rfA b 0 0 8 0)=rdR b 0 8 0:=Xdk b 0 0 8 0
 have hd2:b.drop (H6 b (rfA b 0 0 8 0) (rdE (b.drop 0) 0 8 0) 1099511627776)=uR2 1099511627776 b:=by rw [X5o,hd1];rfl
 have he2:(V5 (b.drop (rfA b 0 0 8 0)) (rdE (b.drop 0) 0 8 0) 1099511627776)=uE2 1099511627776 b:=by rw [hd1];rfl
 have hd3:b.drop (H6 b (H6 b (rfA b 0 0 8 0) (rdE (b.drop 0) 0 8 0) 1099511627776) (V5 (b.drop (rfA b 0 0 8 0)) (rdE (b.drop 0) 0 8 0) 1099511627776) 1099511627776)=uR3 1099511627776 b:=by rw [X5o,hd2,he2];rfl
 have he3:(V5 (b.drop (H6 b (rfA b 0 0 8 0) (rdE (b.drop 0) 0 8 0) 1099511627776)) (V5 (b.drop (rfA b 0 0 8 0)) (rdE (b.drop 0) 0 8 0) 1099511627776) 1099511627776)=uE3 1099511627776 b:=by rw [hd2,he2];rfl
 have hv1:rdY (b.drop (rfA b 0 0 8 0)) (rdE (b.drop 0) 0 8 0) 1099511627776=uD 1099511627776 b:=by rw [hd1];rfl
 have hv2:rdY (b.drop (H6 b (rfA b 0 0 8 0) (rdE (b.drop 0) 0 8 0) 1099511627776)) (V5 (b.drop (rfA b 0 0 8 0)) (rdE (b.drop 0) 0 8 0) 1099511627776) 1099511627776=uS 1099511627776 b:=by rw [hd2,he2];rfl
 have hA1:(rfA b 0 0 8 0)≤b.length:=Xfu (Nat.zero_le _)
 have hA2:(H6 b (rfA b 0 0 8 0) (rdE (b.drop 0) 0 8 0) 1099511627776)≤b.length:=Xbv hA1
 have hA3:(H6 b (H6 b (rfA b 0 0 8 0) (rdE (b.drop 0) 0 8 0) 1099511627776) (V5 (b.drop (rfA b 0 0 8 0)) (rdE (b.drop 0) 0 8 0) 1099511627776) 1099511627776)≤b.length:=Xbv hA2
 refine sR [] ?_
 refine sR [] ?_
 refine sR [hR 1 rfl rfl (rCa (X8z b 0 0 (by omega) (by omega)) Tryz.func94 [0] [(.tmp 13,pv 0 0)] 1 1)] ?_
 refine sR [hR 1 rfl rfl (rCa (X0e b (rfA b 0 0 8 0) (rdE (b.drop 0) 0 8 0) 1099511627776 ‹_› (by omega)) Tryz.func95 [0,1] [(.tmp 15,pv 0 0),(.const (.int .i64 1099511627776),vI 1099511627776)] 1 2),hR 2 rfl rfl (Hr () (rdY (b.drop (rfA b 0 0 8 0)) (rdE (b.drop 0) 0 8 0) 1099511627776) (ys:=(.own 1 kU8.sz 0 (Za0 b).length)) (rhs:=[(1,(Za1 b))]) Tryz.underlying25 Tryz.underlying5 Tryz.underlying60 (Wu 1 5 kU8 (rdY (b.drop (rfA b 0 0 8 0)) (rdE (b.drop 0) 0 8 0) 1099511627776)) (X3 rfl) trivial)] ?_
 refine sR [hR 1 rfl rfl (rCa (X0e b (H6 b (rfA b 0 0 8 0) (rdE (b.drop 0) 0 8 0) 1099511627776) (V5 (b.drop (rfA b 0 0 8 0)) (rdE (b.drop 0) 0 8 0) 1099511627776) 1099511627776 ‹_› (by omega)) Tryz.func95 [0,2] [(.tmp 18,pv 0 0),(.const (.int .i64 1099511627776),vI 1099511627776)] 1 2)] ?_
 refine tN ⟨(Za4 b),(Za6 b)⟩ ?_
 refine Wv (s':=⟨(Zaa b),(Zab b)⟩) (fun _ _ hG=>Yt [0,1,2] (bm 10 1021) (t2:=(Za4 b)) (h2:=(Za6 b)) (by have e1:(rdI b 0:Int)=rdI (b.drop 0) 0:=(by rfl);have e2:((uD 1099511627776 b):List UInt8)=(rdY (b.drop (rfA b 0 0 8 0)) (rdE (b.drop 0) 0 8 0) 1099511627776):=(by exact hv1.symm);have e3:((uS 1099511627776 b).length:Nat)=(rdY (b.drop (H6 b (rfA b 0 0 8 0) (rdE (b.drop 0) 0 8 0) 1099511627776)) (V5 (b.drop (rfA b 0 0 8 0)) (rdE (b.drop 0) 0 8 0) 1099511627776) 1099511627776).length:=(by (rw [hv2]));have hE:=congr (congr (congrArg (fun (q1:Int) (q2:List UInt8) (q3:Nat)=>([slV false false kU8 b,aa,vI 0,dv (Yh []),dv (.slice none 0 0),vI 0,pv 0 0,vI q1,dv (Yh q2),Y9 2 kU8 0 q3]:List AV)) e1) e2) e3;exact hE) (cg2 (fun (q1:Int) (q2:List UInt8)=>([.live (.box 156 [dU b,(Za5 b),dI q1]),(Za1 b),.live (Xe 5 kU8 q2)]:List HS)) (by exact he3.symm) (by exact hv2.symm)) hG) ?_
 refine sR [hR 1 rfl rfl (rCa (X90 b (H6 b (H6 b (rfA b 0 0 8 0) (rdE (b.drop 0) 0 8 0) 1099511627776) (V5 (b.drop (rfA b 0 0 8 0)) (rdE (b.drop 0) 0 8 0) 1099511627776) 1099511627776) (uE3 1099511627776 b) ‹_› (by omega)) Tryz.func96 [0] [(.tmp 20,pv 0 0)] 1 1)] ?_
 refine T.seq ?_
 by_cases hq1:(rdX (b.drop (H6 b (H6 b (rfA b 0 0 8 0) (rdE (b.drop 0) 0 8 0) 1099511627776) (V5 (b.drop (rfA b 0 0 8 0)) (rdE (b.drop 0) 0 8 0) 1099511627776) 1099511627776)) (uE3 1099511627776 b))≠0
 ·have hno:¬okU 1099511627776 b:=fun h9=>hq1 (by rw [hd3];exact h9.1)
  refine sR [hN 6 false (dT hq1),hN 7 false (dT hq1),hP 8 (dT hq1),hN0 10,hN0 11,hP1 12] ?_
  refine cT (b:=true) rfl ?_
  refine sR [] ?_
  refine T.ret (rT ?_)
  refine eN (Zae b) ?_
  refine Xc (s':=(Zaf b)) (fun _ _ hG=>Ys (s:=(Zae b)) (kk4 ⟨pZ5,(kk2 (kk4 p2w))⟩) ⟨.inl rfl,(kk2 trivial)⟩ hG) ?_
  exact eX [.t 2 (Zag),.t 3 (Zah),.t 4 (Zai),.t 5 (.one (dI 12))] ⟨⟨rfl,by kernel_rfl⟩,⟨⟨rfl,by kernel_rfl⟩,⟨⟨rfl,by kernel_rfl⟩,⟨⟨rfl,by kernel_rfl⟩,trivial⟩⟩⟩⟩ [] (cg4 (fun (q1:Int) (q2:List UInt8) (q3:List UInt8) (q4:Int)=>(.tup [.one (dI q1),.one (dS q2),.one (dU q3),.one (dI q4)]:AV)) p1m p1m p1m p1m) trivial
 by_cases hq2:(rdI b 0)<0
 ·have hno:¬okU 1099511627776 b:=(fun h9=>by have h8:=h9.2.1;omega)
  refine sR [hY 6 (dF hq1),hY 7 (dF hq1),hP 8 (dF hq1),hN 10 false (dT hq2),hN 11 false (dT hq2),hP 12 (dT hq2)] ?_
  refine cT (b:=true) rfl ?_
  refine sR [] ?_
  refine T.ret (rT ?_)
  refine eN (Zae b) ?_
  refine Xc (s':=(Zaf b)) (fun _ _ hG=>Ys (s:=(Zae b)) (kk4 ⟨pZ5,(kk2 (kk4 p2w))⟩) ⟨.inl rfl,(kk2 trivial)⟩ hG) ?_
  exact eX [.t 2 (Zag),.t 3 (Zah),.t 4 (Zai),.t 5 (.one (dI 12))] ⟨⟨rfl,by kernel_rfl⟩,⟨⟨rfl,by kernel_rfl⟩,⟨⟨rfl,by kernel_rfl⟩,⟨⟨rfl,by kernel_rfl⟩,trivial⟩⟩⟩⟩ [] (cg4 (fun (q1:Int) (q2:List UInt8) (q3:List UInt8) (q4:Int)=>(.tup [.one (dI q1),.one (dS q2),.one (dU q3),.one (dI q4)]:AV)) p1m p1m p1m p1m) trivial
 refine sR [hY 6 (dF hq1),hY 7 (dF hq1),hP 8 (dF hq1),hY 10 (dF hq2),hY 11 (dF hq2),hP 12 (dF hq2)] ?_
 by_cases hq3:(rdI b 0)>1099511627776
 ·have hno:¬okU 1099511627776 b:=(fun h9=>by have h8:=h9.2.2;omega)
  refine cT (dT hq3) ?_
  refine sR [] ?_
  refine T.ret (rT ?_)
  refine eN (Zak b) ?_
  refine Xc (s':=⟨[slV false false kU8 b,aa,vI 0,dv (Yh []),slV false false kU8 ([]:List UInt8),vI 12,pv 0 0,(Za7 b),(Za8 b),(Za9 b),aa,aa,aa,aa,aa,aa,aa,aa,aa,aa,aa,aa,aa,aa,aa,aa,aa,aa,aa,aa,aa,aa,aa,aa,(Zaj b)],(Zad b)⟩) (fun _ _ hG=>Ys (s:=(Zak b)) (kk4 ⟨pZ5,(kk2 (kk4 p2w))⟩) ⟨.inl rfl,(kk2 trivial)⟩ hG) ?_
  exact eX [.t 2 (Zag),.t 3 (Zah),.t 4 (Zai),.t 5 (.one (dI 12))] ⟨⟨rfl,by kernel_rfl⟩,⟨⟨rfl,by kernel_rfl⟩,⟨⟨rfl,by kernel_rfl⟩,⟨⟨rfl,by kernel_rfl⟩,trivial⟩⟩⟩⟩ [] (cg4 (fun (q1:Int) (q2:List UInt8) (q3:List UInt8) (q4:Int)=>(.tup [.one (dI q1),.one (dS q2),.one (dU q3),.one (dI q4)]:AV)) p1m p1m p1m p1m) trivial
 have hok:okU 1099511627776 b:=⟨by rw [← hd3];exact Classical.not_not.1 ‹_›,by omega,by omega⟩
 refine cF (dF hq3) ?_
 refine T.skip (nT ?_)
 refine sR [] ?_
 refine T.ret ?_
 refine eN (Zal b) ?_
 refine Xc (s':=⟨[slV false false kU8 b,aa,(Za7 b),(Za8 b),slV false false kU8 (uS 1099511627776 b),vI 0,pv 0 0,(Za7 b),(Za8 b),slV false false kU8 (uS 1099511627776 b),aa,aa,aa,aa,aa,aa,aa,aa,aa,aa,aa,aa,aa,aa,aa,aa,aa,aa,aa,aa,aa,aa,aa,aa,(Zaj b)],[(Zac b),(Za1 b),.dead]⟩) (fun _ _ hG=>Gs.freeze (s:=(Zal b)) 2 (el:=W6 kU8 (uS 1099511627776 b)) (sz:=kU8.sz) (n:=(uS 1099511627776 b).length) rfl (kk4 ⟨(.inr pZ0),(kk4 ⟨(.inr pZ0),⟨.inl rfl,p2w⟩⟩)⟩) ⟨pc,⟨pc,⟨(.inl ⟨rfl,rfl⟩),trivial⟩⟩⟩ hG) ?_
 exact eX [.t 2 (.one (dI (rdI b 0))),.t 3 (.one (dS (uD 1099511627776 b))),.t 4 (.one (dU (uS 1099511627776 b))),.t 5 (Zag)] ⟨⟨rfl,by kernel_rfl⟩,⟨⟨rfl,by kernel_rfl⟩,⟨⟨rfl,by kernel_rfl⟩,⟨⟨rfl,by kernel_rfl⟩,trivial⟩⟩⟩⟩ [] (cg4 (fun (q1:Int) (q2:List UInt8) (q3:List UInt8) (q4:Int)=>(.tup [.one (dI q1),.one (dS q2),.one (dU q3),.one (dI q4)]:AV)) p3x p3x p3x p3x) trivial
theorem I8 (B:List UInt8) (r:List UInt8) (e:Int) (hs:r <:+ B) (hB:B.length≤140737488350000):Holds Tryz.prog 94 ⟨[pv 0 0],[.box 156 [dU B,dI ((V8 B r:Nat):Int),dI e]],vI (rdI r e),[.live (.box 156 [dU B,dI ((V8 B (rdR r e 8 0):Nat):Int),dI (rdE r e 8 0)])]⟩:=by
  have h:=X8z B (V8 B r) e (X5t B r) hB
  simp only [X05 hs,pos_R hs,pos_Y hs] at h
  exact h
theorem X4m (B:List UInt8) (r:List UInt8) (e:Int) (most:Int) (hs:r <:+ B) (hB:B.length≤140737488350000):Holds Tryz.prog 137 ⟨[pv 0 0,vI most],[.box 156 [dU B,dI ((V8 B r:Nat):Int),dI e]],vI ((rdC r e most:Nat):Int),[.live (.box 156 [dU B,dI ((V8 B (rdR r e 4 (Yu most (r.take 4))):Nat):Int),dI (rdE r e 4 (Yu most (r.take 4)))])]⟩:=by
  have h:=X4n B (V8 B r) e most (X5t B r) hB
  simp only [X05 hs,pos_R hs,pos_Y hs] at h
  exact h
theorem Xg2 (B:List UInt8) (r:List UInt8) (e:Int) (hs:r <:+ B) (hB:B.length≤140737488350000):Holds Tryz.prog 96 ⟨[pv 0 0],[.box 156 [dU B,dI ((V8 B r:Nat):Int),dI e]],.tup [],[.live (.box 156 [dU B,dI ((V8 B r:Nat):Int),dI (rdX r e)])]⟩:=by
  have h:=X90 B (V8 B r) e (X5t B r) hB
  simp only [X05 hs,pos_R hs,pos_Y hs] at h
  exact h
theorem X0d (B:List UInt8) (r:List UInt8) (e:Int) (most:Int) (hs:r <:+ B) (hB:B.length≤140737488350000):Holds Tryz.prog 95 ⟨[pv 0 0,vI most],[.box 156 [dU B,dI ((V8 B r:Nat):Int),dI e]],Y9 1 kU8 0 (rdY r e most).length,[.live (.box 156 [dU B,dI ((V8 B (Vw r e most):Nat):Int),dI (V5 r e most)]),.live (Xe 5 kU8 (rdY r e most))]⟩:=by
  have h:=X0e B (V8 B r) e most (X5t B r) hB
  simp only [X05 hs,pos_R hs,pos_Y hs] at h
  exact h
end Go.Proofs.YtnaopgohccacmaaGreat.Q
