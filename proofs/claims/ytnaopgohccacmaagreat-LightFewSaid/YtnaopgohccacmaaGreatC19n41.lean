import Derived.Test.YtnaopgohccacmaaGreatC19n36
namespace Go.Proofs.YtnaopgohccacmaaGreat.Q
open Go Go.RowKit
set_option linter.unusedVariables false
set_option linter.unusedSimpArgs false
set_option maxRecDepth 100000
set_option maxHeartbeats 4000000
end Go.Proofs.YtnaopgohccacmaaGreat.Q
namespace Go.Proofs.YtnaopgohccacmaaGreat.Q
set_option linter.unusedVariables false
set_option linter.unusedSimpArgs false
set_option maxRecDepth 100000
section
variable (C:aE→Int) (f seq:Int) (x:List aE) (b:List UInt8)
def s9E:Int:=if seq<1 then 2 else if stE C f seq x≠0 then stE C f seq x else if stD C f seq x≠ofB 7 [b] then 132 else if unE ((b.length:Nat):Int) b≠0∨unH ((b.length:Nat):Int) b≠seq then 12 else 0
def s9D:List UInt8:=if s9E C f seq x b=0 then unD ((b.length:Nat):Int) b else []
def s9S:List UInt8:=if s9E C f seq x b=0 then unS ((b.length:Nat):Int) b else []
end
section
variable {C:aE→Int} {f seq:Int} {x:List aE} {b:List UInt8}
theorem s9_of {n:Int} (h:s9E C f seq x b=n) (hn:n≠0):s9D C f seq x b=[]∧s9S C f seq x b=[]∧s9E C f seq x b=n:=⟨if_neg (by rw [h];exact hn),if_neg (by rw [h];exact hn),h⟩
theorem s9_rng (h:seq<1):s9D C f seq x b=[]∧s9S C f seq x b=[]∧s9E C f seq x b=2:=s9_of (if_pos h) (by decide)
theorem s9_st (h:¬seq<1) (h1:stE C f seq x≠0):s9D C f seq x b=[]∧s9S C f seq x b=[]∧s9E C f seq x b=stE C f seq x:=s9_of ((if_neg h).trans (if_pos h1)) h1
theorem s9_dig (h:¬seq<1) (h1:¬stE C f seq x≠0) (h2:stD C f seq x≠ofB 7 [b]):s9D C f seq x b=[]∧s9S C f seq x b=[]∧s9E C f seq x b=132:=s9_of ((if_neg h).trans ((if_neg h1).trans (if_pos h2))) (by decide)
theorem Xir (h:¬seq<1) (h1:¬stE C f seq x≠0) (h2:¬stD C f seq x≠ofB 7 [b]) (h3:unE ((b.length:Nat):Int) b≠0∨unH ((b.length:Nat):Int) b≠seq):s9D C f seq x b=[]∧s9S C f seq x b=[]∧s9E C f seq x b=12:=s9_of ((if_neg h).trans ((if_neg h1).trans ((if_neg h2).trans (if_pos h3)))) (by decide)
theorem s9_ok (h:¬seq<1) (h1:¬stE C f seq x≠0) (h2:¬stD C f seq x≠ofB 7 [b]) (h3:¬unE ((b.length:Nat):Int) b≠0) (h4:¬unH ((b.length:Nat):Int) b≠seq):s9D C f seq x b=unD ((b.length:Nat):Int) b∧s9S C f seq x b=unS ((b.length:Nat):Int) b∧s9E C f seq x b=0:=by
  have e:s9E C f seq x b=0:=(if_neg h).trans ((if_neg h1).trans ((if_neg h2).trans (if_neg (fun q=>q.elim h3 h4))))
  exact ⟨if_pos e,if_pos e,e⟩
theorem s9_seq (h:s9E C f seq x b=0):¬seq<1:=fun q=>by rw [(s9_rng (C:=C) (f:=f) (x:=x) (b:=b) q).2.2] at h;cases h
end
def X4v (l:List Y6) (d:List UInt8) (i:Nat):List UInt8:=if i+1<l.length then (l.getD (i+1) Xg).Xy else d
def X63 (l:List Y6) (H:Int) (k:Nat):Prop:=∀ i,i<l.length→l.length-k≤i→(l.getD i Xg).X9=H-(((l.length:Nat):Int)-1-((i:Nat):Int))
def E1 (l:List Y6) (d:List UInt8) (k:Nat):Prop:=∀ i,i<l.length→l.length-k≤i→Hw (l.getD i Xg)=X4v l d i
instance (l:List Y6) (H:Int) (k:Nat):Decidable (X63 l H k):=by unfold X63;infer_instance
instance (l:List Y6) (d:List UInt8) (k:Nat):Decidable (E1 l d k):=by unfold E1;infer_instance
def Fl (l:List Y6) (d:List UInt8) (k:Nat):Int:=if E1 l d k then 0 else 101
def X74 (l:List Y6) (H:Int) (d:List UInt8):Int:=if X63 l H l.length then Fl l d l.length else 100
section
variable {l:List Y6} {H:Int} {d:List UInt8} {k:Nat}
theorem hgt_0:X63 l H 0:=fun i h1 h2=>by omega
theorem dig_00:E1 l d 0:=fun i h1 h2=>by omega
theorem hgt_succ (hk:k<l.length) (h:X63 l H k) (h1:¬(l.getD (l.length-1-k) Xg).X9≠H-((k:Nat):Int)):X63 l H (k+1):=fun i hi h2=>by
  by_cases q:l.length-k≤i
  · exact h i hi q
  · rw [show i=l.length-1-k by omega,Classical.not_not.1 h1];omega
theorem lnk_h (hk:k<l.length) (h1:(l.getD (l.length-1-k) Xg).X9≠H-((k:Nat):Int)):X74 l H d=100:=if_neg fun q=>h1 (by rw [q (l.length-1-k) (by omega) (by omega)];omega)
theorem lnk_end (hk:l.length≤k) (hk2:k≤l.length) (h:X63 l H k):X74 l H d=Fl l d k:=by
  have e:k=l.length:=by omega
  subst e
  exact if_pos h
theorem Xfy (h:Fl l d k≠0):Fl l d (k+1)=Fl l d k∧¬E1 l d (k+1):=by
  have hn:¬E1 l d k:=fun q=>h (if_pos q)
  have hn':¬E1 l d (k+1):=fun q=>hn fun i h1 h2=>q i h1 (by omega)
  exact ⟨by unfold Fl;rw [if_neg hn,if_neg hn'],hn'⟩
theorem err_0 (h:¬Fl l d k≠0):E1 l d k:=Classical.byContradiction fun q=>h (by unfold Fl;rw [if_neg q];decide)
theorem Xjn {w:List UInt8} (hk:k<l.length) (hw:E1 l d k→k<l.length→w=X4v l d (l.length-1-k)) (h:¬Fl l d k≠0) (h1:Hw (l.getD (l.length-1-k) Xg)≠w):Fl l d (k+1)=101∧¬E1 l d (k+1):=by
  have hn:¬E1 l d (k+1):=fun q=>h1 (by rw [hw (err_0 h) hk,q (l.length-1-k) (by omega) (by omega)])
  exact ⟨if_neg hn,hn⟩
theorem err_good {w:List UInt8} (hk:k<l.length) (hw:E1 l d k→k<l.length→w=X4v l d (l.length-1-k)) (h:¬Fl l d k≠0) (h1:¬Hw (l.getD (l.length-1-k) Xg)≠w):Fl l d (k+1)=Fl l d k:=by
  have h0:=err_0 h
  have hn:E1 l d (k+1):=fun i hi h2=>by
    by_cases q:l.length-k≤i
    · exact h0 i hi q
    · rw [show i=l.length-1-k by omega,Classical.not_not.1 h1,hw h0 hk]
  unfold Fl
  rw [if_pos hn,if_pos h0]
theorem Xj6 (hk:0<l.length):X4v l d (l.length-1-0)=d:=if_neg (by omega)
theorem Xf2 (hk:k+1<l.length):X4v l d (l.length-1-(k+1))=(l.getD (l.length-1-k) Xg).Xy:=by
  unfold X4v
  rw [if_pos (by omega),show l.length-1-(k+1)+1=l.length-1-k by omega]
end
def okHs (l:List Y6):Prop:=∀ h,h∈l→h.Xy.length≤10000000∧h.W4.length≤10000000∧h.Ye≤9223372036854775807∧Wm h.X9
def okC9 (c:Wl):Prop:=X1t c.Xi∧c.Xd.length≤100000000∧okHs c.X1∧c.X1.length≤100000∧Jj szS 70 30000 c.Yr∧c.Xm.Xh.length≤500∧Wm c.Xu
theorem X9h {l:List Y6} (h:okHs l) (k:Nat):(l.getD k Xg).Xy.length≤10000000∧(l.getD k Xg).W4.length≤10000000∧(l.getD k Xg).Ye≤9223372036854775807∧Wm (l.getD k Xg).X9:=by
  by_cases hk:k<l.length
  · exact h _ (Vc hk)
  · rw [List.getD_eq_getElem?_getD,List.getElem?_eq_none (by omega)]
    exact ⟨by decide,by decide,by decide,by unfold Wm;decide⟩
def inc9 (c:Wl):Int:=Jk (c.X1.getD 0 Xg).W4 (V9 c.Xm c.X3) c.Vt (c.X1.getD 0 Xg).Ye c.Yr
def c9E (C:aE→Int) (f:Int) (c:Wl):Int:=if s9E C f c.Xu c.Xi c.Xd≠0 then s9E C f c.Xu c.Xi c.Xd else if c.X1.length=0∨1000<c.X1.length then 90 else if X74 c.X1 c.Xu (s9D C f c.Xu c.Xi c.Xd)≠0 then X74 c.X1 c.Xu (s9D C f c.Xu c.Xi c.Xd) else inc9 c
section
variable {C:aE→Int} {f:Int} {c:Wl}
theorem c9_s (h:s9E C f c.Xu c.Xi c.Xd≠0):c9E C f c=s9E C f c.Xu c.Xi c.Xd:=if_pos h
theorem c9_n (h:¬s9E C f c.Xu c.Xi c.Xd≠0) (h1:c.X1.length=0∨1000<c.X1.length):c9E C f c=90:=(if_neg h).trans (if_pos h1)
theorem c9_l (h:¬s9E C f c.Xu c.Xi c.Xd≠0) (h1:¬(c.X1.length=0∨1000<c.X1.length)) (h2:X74 c.X1 c.Xu (s9D C f c.Xu c.Xi c.Xd)≠0):c9E C f c=X74 c.X1 c.Xu (s9D C f c.Xu c.Xi c.Xd):=(if_neg h).trans ((if_neg h1).trans (if_pos h2))
theorem c9_i (h:¬s9E C f c.Xu c.Xi c.Xd≠0) (h1:¬(c.X1.length=0∨1000<c.X1.length)) (h2:¬X74 c.X1 c.Xu (s9D C f c.Xu c.Xi c.Xd)≠0):c9E C f c=inc9 c:=(if_neg h).trans ((if_neg h1).trans (if_neg h2))
end
def hdrs (bf:Int→Xn) (h:Int) (k:Nat):List Y6:=(List.range k).map fun (t:Nat)=>Wn (bf (h+((t:Nat):Int)))
theorem Xl4 (bf:Int→Xn) (h:Int) (k:Nat):hdrs bf h (k+1)=hdrs bf h k++[Wn (bf (h+((k:Nat):Int)))]:=by unfold hdrs;rw [List.range_succ,List.map_append];rfl
theorem X9s (bf:Int→Xn) (h:Int) (k:Nat):(hdrs bf h k).length=k:=by unfold hdrs;rw [List.length_map,List.length_range]
def Ho (bf:Int→Xn) (h:Int) (k:Nat):Xn:=if k=0 then Ys else bf h
theorem frs_0 {bf:Int→Xn} {h:Int} {k:Nat} (hk:h+((k:Nat):Int)=h):Ho bf h (k+1)=bf (h+((k:Nat):Int)):=by rw [hk];exact if_neg (by omega)
theorem frs_s {bf:Int→Xn} {h:Int} {k:Nat} (hk:¬h+((k:Nat):Int)=h):Ho bf h (k+1)=Ho bf h k:=by unfold Ho;rw [if_neg (by omega),if_neg (by omega)]
theorem frs_pos {bf:Int→Xn} {h:Int} {k:Nat} (hk:0<k):Ho bf h k=bf h:=if_neg (by omega)
section
variable (bf:Int→Xn) (n:Nat) (seq:Int) (x:List aE) (b:List UInt8) (h i:Int)
def X3z:Int:=if unE ((b.length:Nat):Int) b≠0∨unH ((b.length:Nat):Int) b≠seq then 12 else if h<1∨h>seq∨seq-h>999 then 2 else if seq>((n:Nat):Int) then 4 else J7 (bf h) i
def Uw:Wl:=if X3z bf n seq b h i=0 then ⟨seq,x,b,hdrs bf h (seq-h+1).toNat,i,(bf h).X7.getD i.toNat zE,(bf h).Xf.getD i.toNat Ya,H7 (bf h) i⟩ else Ib
end
section
variable {bf:Int→Xn} {n:Nat} {seq:Int} {x:List aE} {b:List UInt8} {h i:Int}
theorem Xcr {e:Int} (q:X3z bf n seq b h i=e) (he:e≠0):Uw bf n seq x b h i=Ib∧X3z bf n seq b h i=e:=⟨if_neg (by rw [q];exact he),q⟩
theorem X4r (q:unE ((b.length:Nat):Int) b≠0∨unH ((b.length:Nat):Int) b≠seq):Uw bf n seq x b h i=Ib∧X3z bf n seq b h i=12:=Xcr (if_pos q) (by decide)
theorem X2r (q1:¬unE ((b.length:Nat):Int) b≠0) (q2:¬unH ((b.length:Nat):Int) b≠seq) (q:h<1∨h>seq∨seq-h>999):Uw bf n seq x b h i=Ib∧X3z bf n seq b h i=2:=Xcr ((if_neg (fun w=>w.elim q1 q2)).trans (if_pos q)) (by decide)
theorem Xep (q1:¬unE ((b.length:Nat):Int) b≠0) (q2:¬unH ((b.length:Nat):Int) b≠seq) (q:¬(h<1∨h>seq∨seq-h>999)) (q3:seq>((n:Nat):Int)):Uw bf n seq x b h i=Ib∧X3z bf n seq b h i=4:=Xcr ((if_neg (fun w=>w.elim q1 q2)).trans ((if_neg q).trans (if_pos q3))) (by decide)
theorem Xj0 (q1:¬unE ((b.length:Nat):Int) b≠0) (q2:¬unH ((b.length:Nat):Int) b≠seq) (q:¬(h<1∨h>seq∨seq-h>999)) (q3:¬seq>((n:Nat):Int)) (q4:J7 (bf h) i≠0):Uw bf n seq x b h i=Ib∧X3z bf n seq b h i=J7 (bf h) i:=Xcr ((if_neg (fun w=>w.elim q1 q2)).trans ((if_neg q).trans (if_neg q3))) q4
theorem prv_ok (q1:¬unE ((b.length:Nat):Int) b≠0) (q2:¬unH ((b.length:Nat):Int) b≠seq) (q:¬(h<1∨h>seq∨seq-h>999)) (q3:¬seq>((n:Nat):Int)) (q4:¬J7 (bf h) i≠0) {k:Nat} (hk:((k:Nat):Int)=seq-h+1):Uw bf n seq x b h i=⟨seq,x,b,hdrs bf h k,i,(bf h).X7.getD i.toNat zE,(bf h).Xf.getD i.toNat Ya,H7 (bf h) i⟩∧X3z bf n seq b h i=0:=by
  have e:X3z bf n seq b h i=0:=(if_neg (fun w=>w.elim q1 q2)).trans ((if_neg q).trans ((if_neg q3).trans (Classical.not_not.1 q4)))
  refine ⟨(if_pos e).trans ?_,e⟩
  rw [← hk];rfl
end
theorem un_rng {M:Int} {b:List UInt8} (h:¬unE M b≠0):0≤unH M b∧unH M b≤1099511627776:=by
  have h:=Classical.not_not.1 h
  unfold unE at h
  unfold unH
  split at h
  · rename_i q;rw [if_pos q];exact ⟨q.2.1,q.2.2⟩
  · cases h
theorem blk_in {n:Nat} {x:Int} (h:¬Ey 0 n x≠0):1≤x∧x≤((n:Nat):Int):=by
  have h:=Classical.not_not.1 h
  unfold Ey at h
  split at h
  · rename_i q;obtain ⟨q1,q2⟩:=q;omega
  · cases h
theorem Xjx {n:Nat} {x:Int} (h:Ey 0 n x≠0) (hx:1≤x):x>((n:Nat):Int):=by
  refine Classical.byContradiction fun q=>h (if_pos ⟨by omega,by omega⟩)
theorem blk_few {l:Links} (hw:Xc0 l) (x:Int):Hv (Yw 0 l x):=by
  unfold Yw;split
  · exact Xbz hw _
  · decide
theorem rblk_few {L:List Xn} (hw:X0a L) (x:Int):Hv (rblk 0 L x):=by
  unfold rblk;split
  · exact X66 hw _
  · decide
theorem blk_fun (L:List Xn):Yw 0 (Yx L)=rblk 0 L:=funext fun x=>Xlj 0 L x
end Go.Proofs.YtnaopgohccacmaaGreat.Q
namespace Go.Proofs.YtnaopgohccacmaaGreat.Q
open Go Go.RowKit
set_option linter.unusedVariables false
set_option linter.unusedSimpArgs false
set_option maxRecDepth 100000
set_option maxHeartbeats 4000000
section
variable (f:Int) (u:Int) (rows:List (Yg×Bool)) (seq:Int) (tx:Bool) (nx:Bool) (sx:Bool) (x:List aE) (tb:Bool) (nb:Bool) (b:List UInt8)
abbrev Zmo:AV:=slV tx nx (kE sx) x
abbrev Zmp:List HS:=[.live (.box 130 [dI (3*f+1),dI u,.mref 1]),.live (mpK Xp Yc rows)]
abbrev Zmq:AV:=vB (decide (seq<1))
abbrev Zmr:AV:=slV false false kU8 ([]:List UInt8)
abbrev Zms:TV:=.one (dS [])
abbrev Zmt:TV:=.one (dU ([]:List UInt8))
abbrev Zmu:AV:=vB (decide ((stD (Xz f u rows) f seq x)≠(ofB 7 [b])))
abbrev Zmv:St:=⟨[pv 0 0,vI seq,(Zmo tx nx sx x),slV tb nb kU8 b,aa,aa,aa,aa,dv (Yn []),dv (.slice none 0 0),vI 132,dv (Yn (stD (Xz f u rows) f seq x)),vI 132,aa,aa,aa,aa,(Zmq seq),aa,aa,aa,aa,aa,aa,aa,aa,aa,aa,aa,aa,aa,aa,(Zmu f u rows seq x b),aa,vB true],(Zmp f u rows)⟩
abbrev Zmw:AV:=vI (unE ((b.length:Nat):Int) b)
abbrev Zmx:AV:=vI (unH ((b.length:Nat):Int) b)
abbrev Zmy:AV:=dv (Yn (unD ((b.length:Nat):Int) b))
abbrev Zmz:AV:=slV false false kU8 (unS ((b.length:Nat):Int) b)
abbrev Zn0:AV:=vB (decide ((stE (Xz f u rows) f seq x)≠0))
abbrev Zn1:St:=⟨[pv 0 0,vI seq,(Zmo tx nx sx x),slV tb nb kU8 b,aa,aa,aa,aa,dv (Yn []),dv (.slice none 0 0),vI 12,dv (Yn (stD (Xz f u rows) f seq x)),(Zmw b),(Zmx b),(Zmy b),(Zmz b),aa,(Zmq seq),aa,aa,aa,aa,aa,aa,aa,aa,aa,aa,aa,aa,aa,aa,(Zmu f u rows seq x b),aa,(Zn0 f u rows seq x),aa,aa,aa,aa,aa,aa,aa,aa,aa,aa,aa,aa,aa,aa,vB true],(Zmp f u rows)⟩
abbrev Zn2:St:=⟨[pv 0 0,vI seq,(Zmo tx nx sx x),slV tb nb kU8 b,aa,aa,aa,aa,dv (Yn []),dv (.slice none 0 0),vI 12,dv (Yn (stD (Xz f u rows) f seq x)),(Zmw b),(Zmx b),(Zmy b),(Zmz b),aa,(Zmq seq),aa,aa,aa,aa,aa,aa,aa,aa,aa,aa,aa,aa,aa,aa,(Zmu f u rows seq x b),aa,(Zn0 f u rows seq x),aa,aa,aa,aa,aa,aa,aa,aa,aa,aa,aa,aa,aa,aa,vB (decide ((unH ((b.length:Nat):Int) b)≠seq))],(Zmp f u rows)⟩
abbrev Zn3:St:=⟨[pv 0 0,vI seq,(Zmo tx nx sx x),slV tb nb kU8 b,aa,aa,aa,aa,dv (Yn []),dv (.slice none 0 0),vI (stE (Xz f u rows) f seq x),dv (Yn (stD (Xz f u rows) f seq x)),vI (stE (Xz f u rows) f seq x),aa,aa,aa,aa,(Zmq seq),aa,aa,aa,aa,aa,aa,aa,aa,aa,aa,aa,aa,aa,aa,vB false,aa,(Zn0 f u rows seq x)],(Zmp f u rows)⟩
end
theorem Xfd (f:Int) (u:Int) (rows:List (Yg×Bool)) (seq:Int) (tx:Bool) (nx:Bool) (sx:Bool) (x:List aE) (tb:Bool) (nb:Bool) (b:List UInt8) (hf:0≤f∧f≤2) (hu:0≤u∧u≤8) (hx:X1t x) (hb:b.length≤100000000) (hi:-9223372036854775808≤seq∧seq≤9223372036854775807):Holds Tryz.prog 22 ⟨[pv 0 0,vI seq,slV tx nx (kE sx) x,slV tb nb kU8 b],[.box 130 [dI (3*f+1),dI u,.mref 1],mpK Xp Yc rows],.tup [.one (dS (s9D (Xz f u rows) f seq x b)),.one (dU (s9S (Xz f u rows) f seq x b)),.one (dI (s9E (Xz f u rows) f seq x b))],[.live (.box 130 [dI (3*f+1),dI u,.mref 1]),.live (mpK Xp Yc rows)]⟩:=by
 refine Holds.of Tryz.func22 rfl (N:=52) Tryz.ntmps22 rfl fun w0 B0 S0 U0=>?_
 show T _ (Y2 52 2 w0 S0 U0 B0) ⟨[pv 0 0,vI seq,(Zmo tx nx sx x),slV tb nb kU8 b],(Zmp f u rows)⟩ _ _
 have hun:=un_any (b:=b) (M:=((b.length:Nat):Int)) (M':=1099511627776) (Int.le_refl _) (by omega)
 obtain ⟨hun1,hun2,hun3,hun4⟩:=hun
 refine sR [] (T.seq (sR [] ?_))
 by_cases hq1:seq<1
 ·have hx9:=s9_rng (C:=(Xz f u rows)) (f:=f) (x:=x) (b:=b) hq1
  refine cT (dT hq1) (sR [] (T.ret (rT ?_)))
  refine eN ⟨[pv 0 0,vI seq,(Zmo tx nx sx x),slV tb nb kU8 b,aa,aa,aa,aa,dv (Yn []),dv (.slice none 0 0),vI 2,aa,aa,aa,aa,aa,aa,(Zmq seq)],(Zmp f u rows)⟩ ?_
  refine Xa (s':=⟨[pv 0 0,vI seq,(Zmo tx nx sx x),slV tb nb kU8 b,aa,aa,aa,aa,dv (Yn []),Zmr,vI 2,aa,aa,aa,aa,aa,aa,(Zmq seq)],(Zmp f u rows)⟩) (fun _ _ hG=>W1 (s:=⟨[pv 0 0,vI seq,(Zmo tx nx sx x),slV tb nb kU8 b,aa,aa,aa,aa,dv (Yn []),dv (.slice none 0 0),vI 2,aa,aa,aa,aa,aa,aa,(Zmq seq)],(Zmp f u rows)⟩) ⟨.inl rfl,(kk8 ⟨pZ8,(kk8 trivial)⟩)⟩ (kk2 trivial) hG) ?_
  exact eX [.t 8 (Zms),.t 9 (Zmt),.t 10 (.one (dI 2))] ⟨⟨rfl,by kernel_rfl⟩,⟨⟨rfl,by kernel_rfl⟩,⟨⟨rfl,by kernel_rfl⟩,trivial⟩⟩⟩ [0,1] (cg3 (fun (q1:List UInt8) (q2:List UInt8) (q3:Int)=>(.tup [.one (dS q1),.one (dU q2),.one (dI q3)]:AV)) p3u p4j p4v) (ix (ix trivial))
 have h0:=hq1
 refine cF (dF hq1) (T.skip (nT (sR [hR 3 rfl rfl (rCa (Xgb f u rows seq tx nx sx x ‹_› ‹_› ‹_›) Tryz.func59 [0,1] [(.tmp 19,pv 0 0),(.tmp 20,vI seq),(.tmp 21,(Zmo tx nx sx x))] 2 2)] (T.seq ?_))))
 by_cases hq2:(stE (Xz f u rows) f seq x)=0
 rotate_left
 ·have hx9:=s9_st (b:=b) h0 hq2
  refine sR (Xl (hN · true (dF hq2)) [3,4,5,6] (hP 7 (dF hq2)::[])) (cF (b:=false) rfl (T.skip (nT (T.seq (sR [] ?_)))))
  by_cases hq7:(stE (Xz f u rows) f seq x)≠0
  ·have hx9:=s9_st (b:=b) h0 hq7
   refine cT (dT hq7) (sR [] (T.ret (rT ?_)))
   refine eN (Zn3 f u rows seq tx nx sx x tb nb b) ?_
   refine Xa (s':=⟨[pv 0 0,vI seq,(Zmo tx nx sx x),slV tb nb kU8 b,aa,aa,aa,aa,dv (Yn []),Zmr,vI (stE (Xz f u rows) f seq x),dv (Yn (stD (Xz f u rows) f seq x)),vI (stE (Xz f u rows) f seq x),aa,aa,aa,aa,(Zmq seq),aa,aa,aa,aa,aa,aa,aa,aa,aa,aa,aa,aa,aa,aa,vB false,aa,(Zn0 f u rows seq x)],(Zmp f u rows)⟩) (fun _ _ hG=>W1 (s:=(Zn3 f u rows seq tx nx sx x tb nb b)) ⟨.inl rfl,(kk8 ⟨pZ8,⟨.inl rfl,p2r⟩⟩)⟩ (kk2 trivial) hG) ?_
   exact eX [.t 8 (Zms),.t 9 (Zmt),.t 10 (.one (dI (stE (Xz f u rows) f seq x)))] ⟨⟨rfl,by kernel_rfl⟩,⟨⟨rfl,by kernel_rfl⟩,⟨⟨rfl,by kernel_rfl⟩,trivial⟩⟩⟩ [0,1] (cg3 (fun (q1:List UInt8) (q2:List UInt8) (q3:Int)=>(.tup [.one (dS q1),.one (dU q2),.one (dI q3)]:AV)) p3u p4j p4v) (ix (ix trivial))
  exact absurd hq2 hq7
 have h1:¬stE (Xz f u rows) f seq x≠0:=fun w=>w hq2
 refine sR [hY 3 (dT hq2),hY 4 (dT hq2),hS 5 (oY rfl rfl rfl rfl (X2 rfl) (dT hq2) (rCa (Xff tb nb b (by omega)) Tryz.func60 [] [(.tmp 29,slV tb nb kU8 b)] 0 0)),hY 6 (dT hq2),hP 7 (dT hq2)] ?_
 by_cases hq3:(stD (Xz f u rows) f seq x)≠(ofB 7 [b])
 ·have hx9:=s9_dig h0 h1 hq3
  refine cT (dT hq3) (xK [] (nT (T.seq (sR [] (cT (b:=true) rfl (sR [] (T.ret (rT ?_))))))))
  refine eN (Zmv f u rows seq tx nx sx x tb nb b) ?_
  refine Xa (s':=⟨[pv 0 0,vI seq,(Zmo tx nx sx x),slV tb nb kU8 b,aa,aa,aa,aa,dv (Yn []),Zmr,vI 132,dv (Yn (stD (Xz f u rows) f seq x)),vI 132,aa,aa,aa,aa,(Zmq seq),aa,aa,aa,aa,aa,aa,aa,aa,aa,aa,aa,aa,aa,aa,(Zmu f u rows seq x b),aa,vB true],(Zmp f u rows)⟩) (fun _ _ hG=>W1 (s:=(Zmv f u rows seq tx nx sx x tb nb b)) ⟨.inl rfl,(kk8 ⟨pZ8,⟨.inl rfl,p2r⟩⟩)⟩ (kk2 trivial) hG) ?_
  exact eX [.t 8 (Zms),.t 9 (Zmt),.t 10 (.one (dI 132))] ⟨⟨rfl,by kernel_rfl⟩,⟨⟨rfl,by kernel_rfl⟩,⟨⟨rfl,by kernel_rfl⟩,trivial⟩⟩⟩ [0,1] (cg3 (fun (q1:List UInt8) (q2:List UInt8) (q3:Int)=>(.tup [.one (dS q1),.one (dU q2),.one (dI q3)]:AV)) p3u p4j p4v) (ix (ix trivial))
 have h2:=hq3
 refine cF (dF hq3) (T.skip (nT (T.seq (sR [] ?_))))
 by_cases hq4:(stE (Xz f u rows) f seq x)≠0
 ·exact absurd hq2 hq4
 have h1:=hq4
 refine cF (dF hq4) (T.skip (nT (sR [hR 1 rfl rfl (rCa (X3j tb nb b ‹_›) Tryz.func50 [] [(.tmp 37,slV tb nb kU8 b)] 0 0)] (T.seq ?_))))
 by_cases hq5:(unE ((b.length:Nat):Int) b)≠0
 ·have h3:=hq5;have hx9:=Xir h0 h1 h2 (.inl h3)
  refine sR (Xl (hN · false (dT hq5)) [3,4,5] (hP 6 (dT hq5)::[])) (cT (b:=true) rfl (sR [] (T.ret (rT ?_))))
  refine eN (Zn1 f u rows seq tx nx sx x tb nb b) ?_
  refine Xa (s':=⟨[pv 0 0,vI seq,(Zmo tx nx sx x),slV tb nb kU8 b,aa,aa,aa,aa,dv (Yn []),Zmr,vI 12,dv (Yn (stD (Xz f u rows) f seq x)),(Zmw b),(Zmx b),(Zmy b),(Zmz b),aa,(Zmq seq),aa,aa,aa,aa,aa,aa,aa,aa,aa,aa,aa,aa,aa,aa,(Zmu f u rows seq x b),aa,(Zn0 f u rows seq x),aa,aa,aa,aa,aa,aa,aa,aa,aa,aa,aa,aa,aa,aa,vB true],(Zmp f u rows)⟩) (fun _ _ hG=>W1 (s:=(Zn1 f u rows seq tx nx sx x tb nb b)) ⟨.inl rfl,(kk8 ⟨pZ8,(kk8 (X12 trivial))⟩)⟩ (kk2 trivial) hG) ?_
  exact eX [.t 8 (Zms),.t 9 (Zmt),.t 10 (.one (dI 12))] ⟨⟨rfl,by kernel_rfl⟩,⟨⟨rfl,by kernel_rfl⟩,⟨⟨rfl,by kernel_rfl⟩,trivial⟩⟩⟩ [0,1] (cg3 (fun (q1:List UInt8) (q2:List UInt8) (q3:Int)=>(.tup [.one (dS q1),.one (dU q2),.one (dI q3)]:AV)) p3u p4j p4v) (ix (ix trivial))
 have h3:=hq5; 
 refine sR (Xl (hY · (dF hq5)) [3,4,5] (hP 6 (dF hq5)::[])) ?_
 by_cases hq6:(unH ((b.length:Nat):Int) b)≠seq
 ·have h4:=hq6;have hx9:=Xir h0 h1 h2 (.inr h4)
  refine cT (dT hq6) (sR [] (T.ret (rT ?_)))
  refine eN (Zn2 f u rows seq tx nx sx x tb nb b) ?_
  refine Xa (s':=⟨[pv 0 0,vI seq,(Zmo tx nx sx x),slV tb nb kU8 b,aa,aa,aa,aa,dv (Yn []),Zmr,vI 12,dv (Yn (stD (Xz f u rows) f seq x)),(Zmw b),(Zmx b),(Zmy b),(Zmz b),aa,(Zmq seq),aa,aa,aa,aa,aa,aa,aa,aa,aa,aa,aa,aa,aa,aa,(Zmu f u rows seq x b),aa,(Zn0 f u rows seq x),aa,aa,aa,aa,aa,aa,aa,aa,aa,aa,aa,aa,aa,aa,vB (decide ((unH ((b.length:Nat):Int) b)≠seq))],(Zmp f u rows)⟩) (fun _ _ hG=>W1 (s:=(Zn2 f u rows seq tx nx sx x tb nb b)) ⟨.inl rfl,(kk8 ⟨pZ8,(kk8 (X12 trivial))⟩)⟩ (kk2 trivial) hG) ?_
  exact eX [.t 8 (Zms),.t 9 (Zmt),.t 10 (.one (dI 12))] ⟨⟨rfl,by kernel_rfl⟩,⟨⟨rfl,by kernel_rfl⟩,⟨⟨rfl,by kernel_rfl⟩,trivial⟩⟩⟩ [0,1] (cg3 (fun (q1:List UInt8) (q2:List UInt8) (q3:Int)=>(.tup [.one (dS q1),.one (dU q2),.one (dI q3)]:AV)) p3u p4j p4v) (ix (ix trivial))
 have h4:=hq6;have hx9:=s9_ok h0 h1 h2 h3 h4
 refine cF (dF hq6) (T.skip (nT (sR [] (T.ret ?_))))
 exact eX [.t 8 (.one (dS (unD ((b.length:Nat):Int) b))),.t 9 (.one (dU (unS ((b.length:Nat):Int) b))),.t 10 (.one (dI 0))] ⟨⟨rfl,by kernel_rfl⟩,⟨⟨rfl,by kernel_rfl⟩,⟨⟨rfl,by kernel_rfl⟩,trivial⟩⟩⟩ [0,1] (cg3 (fun (q1:List UInt8) (q2:List UInt8) (q3:Int)=>(.tup [.one (dS q1),.one (dU q2),.one (dI q3)]:AV)) p3u p4j p4v) (ix (ix trivial))
section
variable (f:Int) (u:Int) (l:List aE) (seq:Int) (x:List aE) (b:List UInt8)
end
section
variable (th:Bool) (nh:Bool) (hs:List Y6) (H:Int) (d:List UInt8) (k:Nat) (w:List UInt8)
abbrev Znl:AV:=slV th nh (X6 false) hs
abbrev Znn:AV:=vI (H-((k:Nat):Int))
abbrev Zno:AV:=vB (decide ((((hs.length:Nat):Int)-1-((k:Nat):Int))≥0))
abbrev Znp:List AV:=[(Znl th nh hs),(Znn H k),aa,aa,aa,aa,aa,vI (Fl hs d k),dv (Yn w),vI (((hs.length:Nat):Int)-1-((k:Nat):Int)),aa,aa,aa,aa,aa,(Zno hs k)]
abbrev Znq:List AV:=[(Znl th nh hs),(Znn H k),aa,aa,aa,aa,aa,vI (Fl hs d k),dv (Yn w),vI (((hs.length-1-k):Nat):Int),aa,aa,aa,aa,aa,(Zno hs k)]
abbrev Zns:AV:=vI ((H-((k:Nat):Int))-1)
abbrev Znt:AV:=vI ((((hs.length-1-k):Nat):Int)-1)
abbrev Znu:AV:=dv (Yn (hs.getD (hs.length-1-k) Xg).Xy)
end
theorem Xd6 (th:Bool) (nh:Bool) (hs:List Y6) (H:Int) (d:List UInt8) (ho:okHs hs) (hn:hs.length≤1000) (hH:-9223372036854770000≤H∧H≤9223372036854775807):Holds Tryz.prog 46 ⟨[slV th nh (X6 false) hs,vI H,dv (Yn d)],[],vI (X74 hs H d),[]⟩:=by
 refine Holds.of Tryz.func46 rfl (N:=42) Tryz.ntmps46 rfl fun w0 B0 S0 U0=>?_
 show T _ (Y2 42 0 w0 S0 U0 B0) ⟨[(Znl th nh hs),vI H,dv (Yn d)],[]⟩ _ _
 refine sR [] (Xgn (sR [] (sR [] (T.seq ?_))))
 refine T.label (nT (T.seq (sR [hR 2 rfl rfl (Yb (u1:=.int .i64 ((hs.length:Nat):Int)) (u2:=.int .i64 1) (v:=.int .i64 (((hs.length:Nat):Int)-1)) (Vy pZ9) (X2 rfl) ⟨rfl,trivial⟩)] (T.block ?_))))
 refine T.loop (ι:=Nat×(List UInt8)) (fun (x_:Nat×(List UInt8))=>⟨[(Znl th nh hs),vI (H-((x_.1:Nat):Int)),aa,aa,aa,aa,aa,vI (Fl hs d x_.1),dv (Yn x_.2),vI (((hs.length:Nat):Int)-1-((x_.1:Nat):Int))],[]⟩) (fun (x_:Nat×(List UInt8))=>(x_.1≤hs.length)∧(X63 hs H x_.1)∧(E1 hs d x_.1→x_.1<hs.length→x_.2=X4v hs d (hs.length-1-x_.1))) (fun (x_:Nat×(List UInt8))=>hs.length-x_.1) (0,d) ⟨(Nat.zero_le _),hgt_0,(fun _ q=>(Xj6 q).symm)⟩ (fun _ _ hG=>Yu [] (bm 10 899) (t2:=[(Znl th nh hs),vI H,aa,aa,aa,aa,aa,vI 0,dv (Yn d),vI (((hs.length:Nat):Int)-1)]) (cg3 (fun (q1:Int) (q2:Int) (q3:Int)=>([(Znl th nh hs),vI q1,aa,aa,aa,aa,aa,vI q2,dv (Yn d),vI q3]:List AV)) (show (H-((0:Nat):Int):Int)=H from (by omega)) (by exact (if_pos dig_00)) (show (((hs.length:Nat):Int)-1-((0:Nat):Int):Int)=((hs.length:Nat):Int)-1 from (by omega))) rfl hG) ?_
 rintro ⟨k,w⟩ ⟨hk,hh,hw⟩
 show T _ _ ⟨[(Znl th nh hs),(Znn H k),aa,aa,aa,aa,aa,vI (Fl hs d k),dv (Yn w),vI (((hs.length:Nat):Int)-1-((k:Nat):Int))],[]⟩ _ _
 replace hk:k≤hs.length:=hk
 replace hh:X63 hs H k:=hh
 replace hw:E1 hs d k→k<hs.length→w=X4v hs d (hs.length-1-k):=hw
 refine T.seq (sR [] ?_)
 by_cases hq1:(((hs.length:Nat):Int)-1-((k:Nat):Int))≥0
 rotate_left
 ·have hz9:=lnk_end (d:=d) (by omega) hk hh
  refine cF (dF hq1) (T.exit (xT (xT (xH (nT (sR [] (T.ret (rS ?_))))))))
  exact eRt 6 (.one (dI (Fl hs d k))) [] p3d trivial
 have hkl:k<hs.length:=(by omega);have hok:=X9h ho (hs.length-1-k);have hok1:=hok.1;have hok2:=hok.2.1
 refine cT (dT hq1) (T.skip (nT (T.seq (T.block (T.seq ?_)))))
 refine tN ⟨(Znp th nh hs H d k w),[]⟩ ?_
 refine Wy (s':=⟨(Znq th nh hs H d k w),[]⟩) (fun _ _ hG=>Yu [] (bm 16 33667) (t2:=(Znp th nh hs H d k w)) (congrArg (fun (q1:Int)=>([(Znl th nh hs),(Znn H k),aa,aa,aa,aa,aa,vI (Fl hs d k),dv (Yn w),vI q1,aa,aa,aa,aa,aa,(Zno hs k)]:List AV)) (by omega)) rfl hG) (sR [hR 2 rfl rfl (Wi th nh (X6 false) hs (hs.length-1-k) (k:=.i64) (i:=(((hs.length-1-k):Nat):Int)) Tryz.underlying41 Ik rfl rfl (by omega) (X2 rfl) trivial)] ?_)
 by_cases hq2:(hs.getD (hs.length-1-k) Xg).X9≠(H-((k:Nat):Int))
 ·have hz9:=lnk_h (d:=d) hkl hq2
  refine cT (dT hq2) (sR [] (T.ret (rT (rB (rT (rT (rB (rT (rS ?_)))))))))
  exact eRt 6 (.one (dI 100)) [] p3d trivial
 have hh9:=hgt_succ hkl hh hq2
 refine cF (dF hq2) (T.skip (nT (sR [hR 1 rfl rfl (Yb (u1:=.int .i64 (H-((k:Nat):Int))) (u2:=.int .i64 1) (v:=.int .i64 ((H-((k:Nat):Int))-1)) (Vy pZ9) (X2 rfl) ⟨rfl,trivial⟩)] (T.seq (sR [] ?_)))))
 by_cases hq3:(Fl hs d k)≠0
 ·have he9:=(Xfy hq3).1;have hw9:E1 hs d (k+1)→k+1<hs.length→w=X4v hs d (hs.length-1-(k+1)):=fun q=>absurd q (Xfy hq3).2
  refine cT (dT hq3) (T.exit (xT (xH (nT (xK [hR 1 rfl rfl (Yb (u1:=.int .i64 (((hs.length-1-k):Nat):Int)) (u2:=.int .i64 1) (v:=.int .i64 ((((hs.length-1-k):Nat):Int)-1)) (Vy pZ9) (X2 rfl) ⟨rfl,trivial⟩)] ?_)))))
  refine nL (k+1,w) ⟨(show (k+1)≤hs.length from (by omega)),(show X63 hs H (k+1) from hh9),(show E1 hs d (k+1)→(k+1)<hs.length→w=X4v hs d (hs.length-1-(k+1)) from hw9)⟩ (show (hs.length-(k+1):Nat)<hs.length-k from (by omega)) (fun _ _ hG=>Yu [] (bm 10 899) (t2:=[(Znl th nh hs),(Zns H k),aa,aa,aa,aa,aa,vI (Fl hs d k),dv (Yn w),(Znt hs k)]) (cg3 (fun (q1:Int) (q2:Int) (q3:Int)=>([(Znl th nh hs),vI q1,aa,aa,aa,aa,aa,vI q2,dv (Yn w),vI q3]:List AV)) (by omega) (by exact he9) (by omega)) rfl hG)
 have h7:=hq3
 refine cF (dF hq3) (T.skip (nT (T.seq (sR [hR 2 rfl rfl (Wi th nh (X6 false) hs (hs.length-1-k) (k:=.i64) (i:=(((hs.length-1-k):Nat):Int)) Tryz.underlying41 Ik rfl rfl (by omega) (X2 rfl) trivial),hR 4 rfl rfl (rCa (X5g (hs.getD (hs.length-1-k) Xg) ‹_› ‹_›) Tryz.func91 [] [(.tmp 32,.tv (.agg [dI (hs.getD (hs.length-1-k) Xg).X9,dS (hs.getD (hs.length-1-k) Xg).Xy,dI (hs.getD (hs.length-1-k) Xg).Ye,dS (hs.getD (hs.length-1-k) Xg).W4]))] 0 0)] ?_))))
 by_cases hq4:(Hw (hs.getD (hs.length-1-k) Xg))≠w
 ·have he9:=(Xjn hkl hw h7 hq4).1;have hw9:E1 hs d (k+1)→k+1<hs.length→(hs.getD (hs.length-1-k) Xg).Xy=X4v hs d (hs.length-1-(k+1)):=fun q=>absurd q (Xjn hkl hw h7 hq4).2
  refine cT (dT hq4) (xK [] (nT (xK [hR 2 rfl rfl (Wi th nh (X6 false) hs (hs.length-1-k) (k:=.i64) (i:=(((hs.length-1-k):Nat):Int)) Tryz.underlying41 Ik rfl rfl (by omega) (X2 rfl) trivial)] (nB (nT (xK [hR 1 rfl rfl (Yb (u1:=.int .i64 (((hs.length-1-k):Nat):Int)) (u2:=.int .i64 1) (v:=.int .i64 ((((hs.length-1-k):Nat):Int)-1)) (Vy pZ9) (X2 rfl) ⟨rfl,trivial⟩)] ?_))))))
  refine nL (k+1,(hs.getD (hs.length-1-k) Xg).Xy) ⟨(show (k+1)≤hs.length from (by omega)),(show X63 hs H (k+1) from hh9),(show E1 hs d (k+1)→(k+1)<hs.length→(hs.getD (hs.length-1-k) Xg).Xy=X4v hs d (hs.length-1-(k+1)) from hw9)⟩ (show (hs.length-(k+1):Nat)<hs.length-k from (by omega)) (fun _ _ hG=>Yu [] (bm 10 899) (t2:=[(Znl th nh hs),(Zns H k),aa,aa,aa,aa,aa,vI 101,(Znu hs k),(Znt hs k)]) (cg3 (fun (q1:Int) (q2:Int) (q3:Int)=>([(Znl th nh hs),vI q1,aa,aa,aa,aa,aa,vI q2,(Znu hs k),vI q3]:List AV)) (by omega) (by exact he9) (by omega)) rfl hG)
 have he9:=err_good hkl hw h7 hq4;have hw9:E1 hs d (k+1)→k+1<hs.length→(hs.getD (hs.length-1-k) Xg).Xy=X4v hs d (hs.length-1-(k+1)):=fun _ q=>(Xf2 q).symm
 refine cF (dF hq4) (T.skip (nT (xK [hR 2 rfl rfl (Wi th nh (X6 false) hs (hs.length-1-k) (k:=.i64) (i:=(((hs.length-1-k):Nat):Int)) Tryz.underlying41 Ik rfl rfl (by omega) (X2 rfl) trivial)] (nB (nT (xK [hR 1 rfl rfl (Yb (u1:=.int .i64 (((hs.length-1-k):Nat):Int)) (u2:=.int .i64 1) (v:=.int .i64 ((((hs.length-1-k):Nat):Int)-1)) (Vy pZ9) (X2 rfl) ⟨rfl,trivial⟩)] ?_))))))
 refine nL (k+1,(hs.getD (hs.length-1-k) Xg).Xy) ⟨(show (k+1)≤hs.length from (by omega)),(show X63 hs H (k+1) from hh9),(show E1 hs d (k+1)→(k+1)<hs.length→(hs.getD (hs.length-1-k) Xg).Xy=X4v hs d (hs.length-1-(k+1)) from hw9)⟩ (show (hs.length-(k+1):Nat)<hs.length-k from (by omega)) (fun _ _ hG=>Yu [] (bm 10 899) (t2:=[(Znl th nh hs),(Zns H k),aa,aa,aa,aa,aa,vI (Fl hs d k),(Znu hs k),(Znt hs k)]) (cg3 (fun (q1:Int) (q2:Int) (q3:Int)=>([(Znl th nh hs),vI q1,aa,aa,aa,aa,aa,vI q2,(Znu hs k),vI q3]:List AV)) (by omega) (by exact he9) (by omega)) rfl hG)
theorem Ih (f:Int) (u:Int) (rows:List (Yg×Bool)) (c:Wl) (hf:0≤f∧f≤2) (hu:0≤u∧u≤8) (hc:okC9 c):Holds Tryz.prog 14 ⟨[pv 0 0,.tv (.agg [dI c.Xu,.d (dsl false false (kE false) c.Xi),dU c.Xd,.d (dsl false false (X6 false) c.X1),dI c.Vt,dI c.Xm.f_Signer,dU c.Xm.Xh,dI c.X3.Y0,dI c.X3.Xq,.d (dsl false false (X8 false) c.Yr)])],[.box 130 [dI (3*f+1),dI u,.mref 1],mpK Xp Yc rows],vI (c9E (Xz f u rows) f c),[.live (.box 130 [dI (3*f+1),dI u,.mref 1]),.live (mpK Xp Yc rows)]⟩:=by
 refine Holds.of Tryz.func14 rfl (N:=58) Tryz.ntmps14 rfl fun w0 B0 S0 U0=>?_
 show T _ (Y2 58 2 w0 S0 U0 B0) ⟨[pv 0 0,.tv (.agg [dI c.Xu,.d (dsl false false (kE false) c.Xi),dU c.Xd,.d (dsl false false (X6 false) c.X1),dI c.Vt,dI c.Xm.f_Signer,dU c.Xm.Xh,dI c.X3.Y0,dI c.X3.Xq,.d (dsl false false (X8 false) c.Yr)])],[.live (.box 130 [dI (3*f+1),dI u,.mref 1]),.live (mpK Xp Yc rows)]⟩ _ _
 obtain ⟨hc1,hc2,hc3,hc4,hc5,hc6,hc7⟩:=hc
 have hc8:-9223372036854775808≤c.Xu∧c.Xu≤9223372036854775807:=hc7
 have hg0:=X9h hc3 0
 have hg1:=hg0.2.2.1
 refine sR [] (sR [hR 7 rfl rfl (rCa (Xfd f u rows c.Xu false false false c.Xi false false c.Xd ‹_› ‹_› ‹_› ‹_› ‹_›) Tryz.func22 [0,1] [(.tmp 9,pv 0 0),(.tmp 11,vI c.Xu),(.tmp 13,slV false false (kE false) c.Xi),(.tmp 15,slV false false kU8 c.Xd)] 2 2)] (T.seq ?_))
 by_cases hq1:(s9E (Xz f u rows) f c.Xu c.Xi c.Xd)=0
 rotate_left
 ·have hz9:=c9_s hq1
  refine sR (Xl (hN · true (dF hq1)) [3,4,5,6,7] (hU 8::(hU 9::(hU 10::(hU 11::(hN 12 true (dF hq1)::(hP 13 (dF hq1)::[]))))))) (cF (b:=false) rfl (T.skip (nT (T.seq (sR [] (cF (dF hq1) (T.skip (nT (T.seq (sR [] ?_))))))))))
  by_cases hq5:(s9E (Xz f u rows) f c.Xu c.Xi c.Xd)≠0
  ·have hz9:=c9_s hq5
   refine cT (dT hq5) (sR [] (T.ret (rT ?_)))
   exact eRt 4 (.one (dI (s9E (Xz f u rows) f c.Xu c.Xi c.Xd))) [0,1] p3d (ix (ix trivial))
  exact absurd hq1 hq5
 have h0:¬s9E (Xz f u rows) f c.Xu c.Xi c.Xd≠0:=fun w=>w hq1;have hs9:=s9_seq hq1
 by_cases hq2:((c.X1.length:Nat):Int)=0
 ·have hz9:=c9_n h0 (.inl (by omega))
  refine sR (Xl (hY · (dT hq1)) [3,4,5,6,7] (Xl (hN · false (dT hq2)) [8,9,10,11] (hS 12 (oY rfl rfl rfl rfl (X2 rfl) (dT hq1) (Wc (b:=(decide (((c.X1.length:Nat):Int)=0))) (av:=vB true) (X2 rfl) ⟨rfl,trivial⟩ (dT hq2)))::(hP 13 (dT hq1)::[])))) (cT (b:=true) rfl (xK [] (nT (T.seq (sR [] (cF (b:=false) rfl (T.skip (nT (T.seq (sR [] (cT (b:=true) rfl (sR [] (T.ret (rT ?_))))))))))))))
  exact eRt 4 (.one (dI 90)) [0,1] p3d (ix (ix trivial))
 refine sR (Xl (hY · (dT hq1)) [3,4,5,6,7] (Xl (hY · (dF hq2)) [8,9,10,11] (hS 12 (oY rfl rfl rfl rfl (X2 rfl) (dT hq1) (Wv (b:=(decide (((c.X1.length:Nat):Int)=0))) (av:=vB (decide (((c.X1.length:Nat):Int)>1000))) (X2 rfl) trivial (dF hq2)))::(hP 13 (dT hq1)::[])))) ?_
 by_cases hq3:((c.X1.length:Nat):Int)>1000
 ·have hz9:=c9_n h0 (.inr (by omega))
  refine cT (dT hq3) (xK [] (nT (T.seq (sR [] (cF (b:=false) rfl (T.skip (nT (T.seq (sR [] (cT (b:=true) rfl (sR [] (T.ret (rT ?_)))))))))))))
  exact eRt 4 (.one (dI 90)) [0,1] p3d (ix (ix trivial))
 have hn:¬(c.X1.length=0∨1000<c.X1.length):=(by omega)
 refine cF (dF hq3) (T.skip (nT (T.seq (sR [] (cT (dT hq1) (xK [hR 5 rfl rfl (rCa (Xd6 false false c.X1 c.Xu (s9D (Xz f u rows) f c.Xu c.Xi c.Xd) ‹_› (by omega) (by omega)) Tryz.func46 [] [(.tmp 37,slV false false (X6 false) c.X1),(.tmp 39,vI c.Xu),(.tmp 40,dv (Yn (s9D (Xz f u rows) f c.Xu c.Xi c.Xd)))] 0 0)] (nT (T.seq (sR [] ?_)))))))))
 by_cases hq4:(X74 c.X1 c.Xu (s9D (Xz f u rows) f c.Xu c.Xi c.Xd))≠0
 ·have hz9:=c9_l h0 hn hq4
  refine cT (dT hq4) (sR [] (T.ret (rT ?_)))
  exact eRt 4 (.one (dI (X74 c.X1 c.Xu (s9D (Xz f u rows) f c.Xu c.Xi c.Xd)))) [0,1] p3d (ix (ix trivial))
 have hz9:=c9_i h0 hn hq4
 refine cF (dF hq4) (T.skip (nT ?_))
 refine sD [[],[0],[0,1],[0,1,2],[],[4],[],[6],[],[8],[],[10],[0,1,2,3,4,5,6,7,8,9,10,11],[0,1,2,3,4,5,6,7,8,9,10,11,12]] [hR 2 rfl rfl (Wi false false (X6 false) c.X1 0 (k:=.i64) (i:=0) Tryz.underlying41 Ik rfl rfl (by omega) (X2 rfl) ⟨rfl,trivial⟩),hR 12 rfl rfl (rCa (Xa6 (c.X1.getD 0 Xg) c.Vt false c.Xm c.X3 false false c.Yr ‹_› ‹_› ‹_›) Tryz.func47 [] [(.tmp 48,.tv (.agg [dI (c.X1.getD 0 Xg).X9,dS (c.X1.getD 0 Xg).Xy,dI (c.X1.getD 0 Xg).Ye,dS (c.X1.getD 0 Xg).W4])),(.tmp 50,vI c.Vt),(.tmp 52,.tv (.agg [dI c.Xm.f_Signer,dU c.Xm.Xh])),(.tmp 54,.tv (.agg [dI c.X3.Y0,dI c.X3.Xq])),(.tmp 56,slV false false (X8 false) c.Yr)] 0 0)] ?_
 refine T.ret ?_
 exact eRt 4 (.one (dI (Jk (c.X1.getD 0 Xg).W4 (V9 c.Xm c.X3) c.Vt (c.X1.getD 0 Xg).Ye c.Yr))) [0,1] p3d (ix (ix trivial))
section
variable (f:Int) (u:Int) (l:List aE) (c:Wl) (k:Nat) (k2:Nat)
end
theorem iat_49:Tryz.prog.info? 49=some Tryz.t49:=by kernel_rfl
theorem J0:Wide Tryz.prog 49 (some 10):=⟨_,_,Tryz.underlying49,.inl ⟨_,rfl⟩,iat_49,rfl⟩
theorem X56:Elem Tryz.prog 41 69 4 48:=⟨Tryz.underlying41,_,_,Ik,rfl,rfl,rfl,rfl,by decide⟩
section
variable (d:List UInt8) (l:List Yj) (seq:Int) (x:List aE) (b:List UInt8) (h:Int) (i:Int) (k:Nat) (k2:Nat)
abbrev Zob:AV:=slV false false (kE false) x
abbrev Zoc:HS:=.live (.box 149 [dI 0,dS d,dB true,.own 1 (Xj false).sz 0 l.length])
abbrev Zod:HS:=.live (Xc 152 (Xj false) l)
abbrev Zoe:AV:=vI (unH ((b.length:Nat):Int) b)
abbrev Zof:AV:=vI (unE ((b.length:Nat):Int) b)
abbrev Zog:List AV:=[pv 0 0,vI seq,(Zob x),slV false false kU8 b,vI h,vI i,aa,aa,aa,aa,aa,aa,pv 2 0,vI 12,(Zoe b),aa,aa,(Zof b),aa,aa,aa,aa,aa,aa,aa,aa,aa,aa,aa,aa,aa,aa,aa,aa,aa,aa,aa,aa,aa,aa,vB true]
abbrev Zoh:SV:=.d (.val (.slice none 0 0))
abbrev Zoi:HS:=.live (.box 49 [dI 0,Zoh,Zoh,Zoh,dI 0,dI 0,Zoh,dI 0,dI 0,Zoh])
abbrev Zoj:List HS:=[(Zoc d l),(Zod l),Zoi]
abbrev Zok:SV:=.d (dsl false false (kE false) ([]:List aE))
abbrev Zol:SV:=dU ([]:List UInt8)
abbrev Zom:SV:=.d (dsl false false (X6 false) ([]:List Y6))
abbrev Zon:SV:=.d (dsl false false (X8 false) ([]:List Y1))
abbrev Zoo:List SV:=[dI 0,Zok,Zol,Zom,dI 0,dI 0,Zol,dI 0,dI 0,Zon]
abbrev Zop:List HS:=[(Zoc d l),(Zod l),.live (.box 49 Zoo)]
abbrev Zoq:AV:=vB (decide ((unH ((b.length:Nat):Int) b)≠seq))
abbrev Zor:List AV:=[pv 0 0,vI seq,(Zob x),slV false false kU8 b,vI h,vI i,aa,aa,aa,aa,aa,aa,pv 2 0,vI 12,(Zoe b),aa,aa,(Zof b),aa,aa,aa,aa,aa,aa,aa,aa,aa,aa,aa,aa,aa,aa,aa,aa,aa,aa,aa,aa,aa,aa,(Zoq seq b)]
abbrev Zos:List AV:=[pv 0 0,vI seq,(Zob x),slV false false kU8 b,vI h,vI i,aa,aa,aa,aa,aa,aa,pv 2 0,vI 2,(Zoe b),aa,aa,(Zof b),aa,aa,aa,aa,aa,aa,aa,aa,aa,aa,aa,aa,aa,aa,aa,aa,aa,aa,aa,aa,aa,aa,(Zoq seq b),aa,aa,aa,aa,aa,aa,aa,aa,aa,aa,aa,aa,aa,vB true]
abbrev Zot:TV:=.one (dI 2)
abbrev Zou:AV:=vB (decide ((seq-h)>999))
abbrev Zov:List AV:=[pv 0 0,vI seq,(Zob x),slV false false kU8 b,vI h,vI i,aa,aa,aa,aa,aa,aa,pv 2 0,vI 2,(Zoe b),aa,aa,(Zof b),aa,aa,aa,aa,aa,aa,aa,aa,aa,aa,aa,aa,aa,aa,aa,aa,aa,aa,aa,aa,aa,aa,(Zoq seq b),aa,aa,aa,aa,aa,aa,aa,aa,aa,aa,aa,aa,aa,(Zou seq h)]
abbrev Zow:AV:=vI ((x.length:Nat):Int)
abbrev Zox:List AV:=[pv 0 0,vI seq,(Zob x),slV false false kU8 b,vI h,vI i,aa,aa,aa,aa,aa,aa,pv 2 0,vI 0,(Zoe b),aa,aa,(Zof b),pv 4 0,aa,aa,aa,aa,aa,aa,aa,aa,aa,aa,aa,aa,aa,aa,aa,aa,aa,aa,aa,aa,aa,(Zoq seq b),aa,aa,aa,aa,aa,aa,aa,aa,aa,aa,aa,aa,aa,(Zou seq h),aa,aa,aa,aa,aa,aa,(Zob x),(Zow x),vI 0]
abbrev Zoy:SV:=dI seq
abbrev Zoz:SV:=.own 3 kU8.sz 0 b.length
abbrev Zp0:List HS:=[(Zoc d l),(Zod l),Zoi,.live (Xc 5 kU8 b),.live (.box 49 [(Zoy seq),.own 5 (kE false).sz 0 0,(Zoz b),Zoh,dI i,dI 0,Zoh,dI 0,dI 0,Zoh]),.live (Xc 43 (kE false) ([]:List aE))]
abbrev Zp1:List AV:=[pv 0 0,vI seq,(Zob x),slV false false kU8 b,vI h,vI i,aa,aa,aa,aa,aa,aa,pv 2 0,vI 0,(Zoe b),aa,aa,(Zof b),pv 4 0,aa,aa,aa,aa,aa,aa,aa,aa,aa,aa,aa,aa,aa,aa,aa,aa,aa,aa,aa,aa,aa,(Zoq seq b),aa,aa,aa,aa,aa,aa,aa,aa,aa,aa,aa,aa,aa,(Zou seq h),aa,aa,aa,aa,aa,aa,(Zob x),(Zow x),vI ((k:Nat):Int)]
abbrev Zp2:List HS:=[(Zoc d l),(Zod l),Zoi,.live (Xc 5 kU8 b),.live (.box 49 [(Zoy seq),.own 5 (kE false).sz 0 (x.take k).length,(Zoz b),Zoh,dI i,dI 0,Zoh,dI 0,dI 0,Zoh]),.live (Xc 43 (kE false) (x.take k))]
abbrev Zp4:List AV:=[pv 0 0,vI seq,(Zob x),slV false false kU8 b,vI h,vI i,aa,aa,aa,aa,aa,aa,pv 2 0,vI 0,(Zoe b),aa,aa,(Zof b),pv 4 0,aa,aa,aa,aa,aa,aa,aa,aa,aa,aa,aa,aa,aa,aa,aa,aa,aa,aa,aa,aa,aa,(Zoq seq b),aa,aa,aa,aa,aa,aa,aa,aa,aa,aa,aa,aa,aa,(Zou seq h),aa,aa,aa,aa,aa,aa,(Zob x),(Zow x),vI ((k+1:Nat):Int)]
abbrev Zp5:List AV:=[pv 0 0,vI seq,aa,aa,vI h,vI i,aa,aa,aa,aa,aa,aa,pv 2 0,aa,aa,aa,aa,aa,pv 4 0]
abbrev Zp6:SV:=.own 5 (kE false).sz 0 x.length
abbrev Zp7:HS:=.live (.box 49 [(Zoy seq),(Zp6 x),(Zoz b),Zoh,dI i,dI 0,Zoh,dI 0,dI 0,Zoh])
abbrev Zp8:HS:=.live (Xc 43 (kE false) x)
abbrev Zp9:List AV:=[pv 0 0,vI seq,aa,aa,vI h,vI i,aa,aa,aa,aa,aa,aa,pv 2 0,aa,aa,aa,aa,aa,pv 4 0,aa,aa,pv 6 0,vI h]
abbrev Zpa:HS:=.live (.box 65 [dI 0,dS [],Zoh,Zoh])
abbrev Zpb:HS:=.live (.box 49 [(Zoy seq),(Zp6 x),(Zoz b),.own 7 (X6 false).sz 0 0,dI i,dI 0,Zoh,dI 0,dI 0,Zoh])
abbrev Zpc:HS:=.live (Xc 69 (X6 false) ([]:List Y6))
abbrev Zpd:HS:=.live (.box 65 [dI 0,dS [],Zok,.d (dsl false false (Xb false) ([]:List Xw))])
abbrev Zpe:AV:=vI (h+((k2:Nat):Int))
abbrev Zpf:List AV:=[pv 0 0,vI seq,aa,aa,vI h,vI i,aa,aa,aa,aa,aa,aa,pv 2 0,aa,aa,aa,aa,aa,pv 4 0,aa,aa,pv 6 0,(Zpe h k2)]
abbrev Zpg:SV:=.own 7 (X6 false).sz 0 (hdrs (Yw 0 l) h k2).length
abbrev Zph:HS:=.live (.box 49 [(Zoy seq),(Zp6 x),(Zoz b),(Zpg l h k2),dI i,dI 0,Zoh,dI 0,dI 0,Zoh])
abbrev Zpi:HS:=.live (.box 65 [dI (Ho (Yw 0 l) h k2).X9,dS (Ho (Yw 0 l) h k2).Xy,.d (dsl false false (kE false) (Ho (Yw 0 l) h k2).X7),.d (dsl false false (Xb false) (Ho (Yw 0 l) h k2).Xf)])
abbrev Zpj:HS:=.live (Xc 69 (X6 false) (hdrs (Yw 0 l) h k2))
abbrev Zpk:List HS:=[(Zoc d l),(Zod l),Zoi,.live (Xc 5 kU8 b),(Zph l seq x b h i k2),(Zp8 x),(Zpi l h k2),(Zpj l h k2)]
abbrev Zpn:AV:=vB (decide ((h+((k2:Nat):Int))≤seq))
abbrev Zpo:List AV:=[pv 0 0,vI seq,aa,aa,vI h,vI i,aa,aa,aa,aa,aa,aa,pv 2 0,vI 4,aa,aa,aa,aa,pv 4 0,aa,aa,pv 6 0,(Zpe h k2),pv 8 0,vI (Ey 0 l.length (h+((k2:Nat):Int))),aa,aa,aa,aa,aa,aa,aa,aa,aa,aa,aa,aa,aa,aa,aa,aa,aa,aa,aa,aa,aa,aa,aa,aa,aa,aa,aa,aa,aa,aa,aa,aa,aa,aa,aa,aa,aa,aa,aa,aa,aa,aa,aa,aa,aa,aa,aa,aa,aa,aa,aa,aa,aa,aa,aa,aa,(Zpn seq h k2),aa,aa,aa,aa,aa,aa,aa,aa,aa,vB (decide ((Ey 0 l.length (h+((k2:Nat):Int)))≠0))]
abbrev Zpp:List SV:=[dI (Yw 0 l (h+((k2:Nat):Int))).X9,dS (Yw 0 l (h+((k2:Nat):Int))).Xy,.d (dsl false false (kE false) (Yw 0 l (h+((k2:Nat):Int))).X7),.d (dsl false false (Xb false) (Yw 0 l (h+((k2:Nat):Int))).Xf)]
abbrev Zpq:=(Wn (Yw 0 l (h+((k2:Nat):Int))))
abbrev Zpr:TV:=.agg [dI (Zpq l h k2).X9,dS (Zpq l h k2).Xy,dI (Zpq l h k2).Ye,dS (Zpq l h k2).W4]
abbrev Zps:List AV:=[pv 0 0,vI seq,aa,aa,vI h,vI i,aa,aa,aa,aa,aa,aa,pv 2 0,aa,aa,aa,aa,aa,pv 4 0,aa,aa,pv 6 0,vI (h+(((k2+1):Nat):Int))]
abbrev Zpt:HS:=.live (.box 65 [dI (Ho (Yw 0 l) h (k2+1)).X9,dS (Ho (Yw 0 l) h (k2+1)).Xy,.d (dsl false false (kE false) (Ho (Yw 0 l) h (k2+1)).X7),.d (dsl false false (Xb false) (Ho (Yw 0 l) h (k2+1)).Xf)])
abbrev Zpv:List AV:=[pv 0 0,vI seq,aa,aa,vI h,vI i,aa,aa,aa,aa,aa,aa,pv 2 0,aa,aa,aa,aa,aa,pv 4 0,aa,aa,pv 6 0,vI ((h+((k2:Nat):Int))+1)]
abbrev Zpw:List HS:=[(Zoc d l),(Zod l),Zoi,.live (Xc 5 kU8 b),.live (.box 49 [(Zoy seq),(Zp6 x),(Zoz b),.own 10 (X6 false).sz 0 (hdrs (Yw 0 l) h (k2+1)).length,dI i,dI 0,Zoh,dI 0,dI 0,Zoh]),(Zp8 x),(Zpt l h k2),.live (Xc 69 (X6 false) (hdrs (Yw 0 l) h (k2+1)))]
abbrev Zpx:HS:=.live (.box 49 [(Zoy seq),(Zp6 x),(Zoz b),.own 10 (X6 false).sz 0 ((hdrs (Yw 0 l) h k2)++[(Zpq l h k2)]).length,dI i,dI 0,Zoh,dI 0,dI 0,Zoh])
abbrev Zpy:List AV:=[pv 0 0,vI seq,aa,aa,vI h,vI i,aa,aa,aa,aa,aa,aa,pv 2 0,aa,aa,aa,aa,aa,pv 4 0,aa,aa,pv 6 0,(Zpe h k2),aa,aa,aa,aa,aa,aa,aa,aa,aa,aa,aa,aa,aa,aa,aa,aa,aa,aa,aa,aa,aa,aa,aa,aa,aa,aa,aa,aa,aa,aa,aa,aa,aa,aa,aa,aa,aa,aa,aa,aa,aa,aa,aa,aa,aa,aa,aa,aa,aa,aa,aa,aa,aa,aa,aa,aa,aa,aa,(Zpn seq h k2)]
abbrev Zpz:List SV:=[dI (Yw 0 l h).X9,dS (Yw 0 l h).Xy,.d (dsl false false (kE false) (Yw 0 l h).X7),.d (dsl false false (Xb false) (Yw 0 l h).Xf)]
abbrev Zq0:List HS:=[(Zoc d l),(Zod l),Zoi,.live (Xc 5 kU8 b),(Zph l seq x b h i k2),(Zp8 x),.live (.box 65 (Zpz l h)),(Zpj l h k2)]
abbrev Zq1:List AV:=[pv 0 0,vI seq,aa,aa,vI h,vI i,aa,aa,aa,aa,aa,aa,pv 2 0,vI (J7 (Yw 0 l h) i),aa,aa,aa,aa,pv 4 0,aa,aa,pv 6 0,(Zpe h k2),aa,aa,slV false false (X8 false) (H7 (Yw 0 l h) i),vI (J7 (Yw 0 l h) i),aa,aa,aa,aa,aa,aa,aa,aa,aa,aa,aa,aa,aa,aa,aa,aa,aa,aa,aa,aa,aa,aa,aa,aa,aa,aa,aa,aa,aa,aa,aa,aa,aa,aa,aa,aa,aa,aa,aa,aa,aa,aa,aa,aa,aa,aa,aa,aa,aa,aa,aa,aa,aa,aa,(Zpn seq h k2),aa,aa,aa,aa,aa,aa,aa,aa,aa,aa,aa,aa,aa,aa,aa,aa,aa,aa,aa,aa,aa,aa,aa,aa,aa,aa,aa,aa,aa,vB (decide ((J7 (Yw 0 l h) i)≠0))]
abbrev Zq2:List AV:=[pv 0 0,vI seq,aa,aa,vI h,vI i,aa,aa,aa,aa,aa,aa,pv 2 0,vI 0,aa,aa,aa,aa,pv 4 0,aa,aa,pv 6 0,(Zpe h k2),aa,aa,slV false false (X8 false) (H7 (Yw 0 l h) i),vI (J7 (Yw 0 l h) i),aa,aa,aa,aa,aa,aa,aa,aa,aa,aa,aa,aa,aa,aa,aa,aa,aa,aa,aa,aa,aa,aa,aa,aa,aa,aa,aa,aa,aa,aa,aa,aa,aa,aa,aa,aa,aa,aa,aa,aa,aa,aa,aa,aa,aa,aa,aa,aa,aa,aa,aa,aa,aa,aa,(Zpn seq h k2),aa,aa,aa,aa,aa,aa,aa,aa,aa,aa,aa,aa,aa,aa,aa,aa,aa,aa,aa,aa,aa,aa,aa,aa,aa,aa,aa,aa,aa,vB (decide ((J7 (Yw 0 l h) i)≠0))]
abbrev Zq3:SV:=dI ((Yw 0 l h).X7.getD (i).toNat zE).f_Signer
abbrev Zq4:SV:=dU ((Yw 0 l h).X7.getD (i).toNat zE).Xh
abbrev Zq5:SV:=dI ((Yw 0 l h).Xf.getD (i).toNat Ya).Y0
abbrev Zq6:SV:=dI ((Yw 0 l h).Xf.getD (i).toNat Ya).Xq
abbrev Zq7:SV:=.d (dsl false false (X8 false) (H7 (Yw 0 l h) i))
abbrev Zq8:HS:=.live (.box 49 [(Zoy seq),(Zp6 x),(Zoz b),(Zpg l h k2),dI i,(Zq3 l h i),(Zq4 l h i),(Zq5 l h i),(Zq6 l h i),(Zq7 l h i)])
abbrev Zq9:SV:=.d (dsl false false (kE false) x)
abbrev Zqa:St:=⟨(Zq2 l seq h i k2),[(Zoc d l),(Zod l),.live (.box 49 [(Zoy seq),(Zq9 x),(Zoz b),(Zpg l h k2),dI i,(Zq3 l h i),(Zq4 l h i),(Zq5 l h i),(Zq6 l h i),(Zq7 l h i)]),.live (Xc 5 kU8 b),.live (.box 49 [(Zoy seq),(Zq9 x),(Zoz b),(Zpg l h k2),dI i,(Zq3 l h i),(Zq4 l h i),(Zq5 l h i),(Zq6 l h i),(Zq7 l h i)]),.dead,.live (.box 65 (Zpz l h)),(Zpj l h k2)]⟩
abbrev Zqb:HS:=.live (.box 49 [(Zoy seq),(Zq9 x),dU b,(Zpg l h k2),dI i,(Zq3 l h i),(Zq4 l h i),(Zq5 l h i),(Zq6 l h i),(Zq7 l h i)])
abbrev Zqc:St:=⟨(Zq2 l seq h i k2),[(Zoc d l),(Zod l),(Zqb l seq x b h i k2),.dead,(Zqb l seq x b h i k2),.dead,.live (.box 65 (Zpz l h)),(Zpj l h k2)]⟩
abbrev Zqd:List SV:=[(Zoy seq),(Zq9 x),dU b,.d (dsl false false (X6 false) (hdrs (Yw 0 l) h k2)),dI i,(Zq3 l h i),(Zq4 l h i),(Zq5 l h i),(Zq6 l h i),(Zq7 l h i)]
end
theorem Xfe (d:List UInt8) (l:List Yj) (seq:Int) (x:List aE) (b:List UInt8) (h:Int) (i:Int) (hl:l.length≤100) (hw:Xc0 l) (hx:X1t x) (hb:b.length≤100000000) (hsq:-9223372036854775808≤seq∧seq≤9223372036854775807) (hh:-9223372036854775808≤h∧h≤9223372036854775807) (hi:-9223372036854775808≤i∧i≤9223372036854775807):Holds Tryz.prog 17 ⟨[pv 0 0,vI seq,slV false false (kE false) x,slV false false kU8 b,vI h,vI i],[.box 149 [dI 0,dS d,dB true,.own 1 (Xj false).sz 0 l.length],Xc 152 (Xj false) l],.tup [.agg [dI (Uw (Yw 0 l) l.length seq x b h i).Xu,.d (dsl false false (kE false) (Uw (Yw 0 l) l.length seq x b h i).Xi),dU (Uw (Yw 0 l) l.length seq x b h i).Xd,.d (dsl false false (X6 false) (Uw (Yw 0 l) l.length seq x b h i).X1),dI (Uw (Yw 0 l) l.length seq x b h i).Vt,dI (Uw (Yw 0 l) l.length seq x b h i).Xm.f_Signer,dU (Uw (Yw 0 l) l.length seq x b h i).Xm.Xh,dI (Uw (Yw 0 l) l.length seq x b h i).X3.Y0,dI (Uw (Yw 0 l) l.length seq x b h i).X3.Xq,.d (dsl false false (X8 false) (Uw (Yw 0 l) l.length seq x b h i).Yr)],.one (dI (X3z (Yw 0 l) l.length seq b h i))],[.live (.box 149 [dI 0,dS d,dB true,.own 1 (Xj false).sz 0 l.length]),.live (Xc 152 (Xj false) l)]⟩:=by
 refine Holds.of Tryz.func17 rfl (N:=129) Tryz.ntmps17 rfl fun w0 B0 S0 U0=>?_
 show T _ (Y2 129 2 w0 S0 U0 B0) ⟨[pv 0 0,vI seq,(Zob x),slV false false kU8 b,vI h,vI i],[(Zoc d l),(Zod l)]⟩ _ _
 have hx1:=hx.1
 have hfw:=fun y=>blk_few hw y
 have hfh:=hfw h
 refine sR [] (T.seq (sR [hR 1 rfl rfl (rCa (X3j false false b ‹_›) Tryz.func50 [] [(.tmp 28,slV false false kU8 b)] 0 0)] ?_))
 by_cases hq1:(unE ((b.length:Nat):Int) b)≠0
 ·have h3:=hq1;have hx9:=X4r (bf:=(Yw 0 l)) (n:=l.length) (seq:=seq) (x:=x) (b:=b) (h:=h) (i:=i) (.inl h3)
  refine sR (Xl (hN · false (dT hq1)) [3,4,5] (hP 6 (dT hq1)::[])) (cT (b:=true) rfl (sR [] (T.ret (rT ?_))))
  refine eN ⟨(Zog seq x b h i),(Zoj d l)⟩ ?_
  refine Xa (s':=⟨(Zog seq x b h i),(Zop d l)⟩) (fun _ _ hG=>W1 (s:=⟨(Zog seq x b h i),(Zoj d l)⟩) ⟨.inl rfl,(kk8 (X12 trivial))⟩ p2y hG) ?_
  exact eX [.c 12 2 49 0 49 [dI 0,Zok,Zol,Zom,dI 0,dI 0,Zol,dI 0,dI 0,Zon] (.agg Zoo),.t 13 (.one (dI 12))] ⟨⟨rfl,rfl,by kernel_rfl,by kernel_rfl,.inl ⟨10,J0,rfl,Nat.le_of_ble_eq_true rfl⟩⟩,⟨⟨rfl,by kernel_rfl⟩,trivial⟩⟩ [0,1] pZ2 (ix (ix trivial))
 have h3:=hq1;have hur:=un_rng h3
 refine sR (Xl (hY · (dF hq1)) [3,4,5] (hP 6 (dF hq1)::[])) ?_
 by_cases hq2:(unH ((b.length:Nat):Int) b)≠seq
 ·have h4:=hq2;have hx9:=X4r (bf:=(Yw 0 l)) (n:=l.length) (seq:=seq) (x:=x) (b:=b) (h:=h) (i:=i) (.inr h4)
  refine cT (dT hq2) (sR [] (T.ret (rT ?_)))
  refine eN ⟨(Zor seq x b h i),(Zoj d l)⟩ ?_
  refine Xa (s':=⟨(Zor seq x b h i),(Zop d l)⟩) (fun _ _ hG=>W1 (s:=⟨(Zor seq x b h i),(Zoj d l)⟩) ⟨.inl rfl,(kk8 (X12 trivial))⟩ p2y hG) ?_
  exact eX [.c 12 2 49 0 49 [dI 0,Zok,Zol,Zom,dI 0,dI 0,Zol,dI 0,dI 0,Zon] (.agg Zoo),.t 13 (.one (dI 12))] ⟨⟨rfl,rfl,by kernel_rfl,by kernel_rfl,.inl ⟨10,J0,rfl,Nat.le_of_ble_eq_true rfl⟩⟩,⟨⟨rfl,by kernel_rfl⟩,trivial⟩⟩ [0,1] pZ2 (ix (ix trivial))
 have h4:=hq2; 
 refine cF (dF hq2) (T.skip (nT (T.seq ?_)))
 by_cases hq3:h<1
 ·have hx9:=X2r (bf:=(Yw 0 l)) (n:=l.length) (seq:=seq) (x:=x) (b:=b) (h:=h) (i:=i) h3 h4 (by omega)
  refine sR (Xl (hN · false (dT hq3)) [3,4,5] (hP 6 (dT hq3)::(Xl hN0 [8,9,10,11] (hP1 12::[])))) (cT (b:=true) rfl (sR [] (T.ret (rT ?_))))
  refine eN ⟨(Zos seq x b h i),(Zoj d l)⟩ ?_
  refine Xa (s':=⟨(Zos seq x b h i),(Zop d l)⟩) (fun _ _ hG=>W1 (s:=⟨(Zos seq x b h i),(Zoj d l)⟩) ⟨.inl rfl,(kk2 (kk4 p3c))⟩ p2y hG) ?_
  exact eX [.c 12 2 49 0 49 [dI 0,Zok,Zol,Zom,dI 0,dI 0,Zol,dI 0,dI 0,Zon] (.agg Zoo),.t 13 (Zot)] ⟨⟨rfl,rfl,by kernel_rfl,by kernel_rfl,.inl ⟨10,J0,rfl,Nat.le_of_ble_eq_true rfl⟩⟩,⟨⟨rfl,by kernel_rfl⟩,trivial⟩⟩ [0,1] pZ2 (ix (ix trivial))
 by_cases hq4:h>seq
 ·have hx9:=X2r (bf:=(Yw 0 l)) (n:=l.length) (seq:=seq) (x:=x) (b:=b) (h:=h) (i:=i) h3 h4 (by omega)
  refine sR (Xl (hY · (dF hq3)) [3,4,5] (hP 6 (dF hq3)::(Xl (hN · false (dT hq4)) [8,9,10,11] (hP 12 (dT hq4)::[])))) (cT (b:=true) rfl (sR [] (T.ret (rT ?_))))
  refine eN ⟨(Zos seq x b h i),(Zoj d l)⟩ ?_
  refine Xa (s':=⟨(Zos seq x b h i),(Zop d l)⟩) (fun _ _ hG=>W1 (s:=⟨(Zos seq x b h i),(Zoj d l)⟩) ⟨.inl rfl,(kk2 (kk4 p3c))⟩ p2y hG) ?_
  exact eX [.c 12 2 49 0 49 [dI 0,Zok,Zol,Zom,dI 0,dI 0,Zol,dI 0,dI 0,Zon] (.agg Zoo),.t 13 (Zot)] ⟨⟨rfl,rfl,by kernel_rfl,by kernel_rfl,.inl ⟨10,J0,rfl,Nat.le_of_ble_eq_true rfl⟩⟩,⟨⟨rfl,by kernel_rfl⟩,trivial⟩⟩ [0,1] pZ2 (ix (ix trivial))
 refine sR (Xl (hY · (dF hq3)) [3,4,5] (hP 6 (dF hq3)::(hY 8 (dF hq4)::(hY 9 (dF hq4)::(hS 10 (oY rfl rfl rfl rfl (X2 rfl) (dF hq4) (Yb (u1:=.int .i64 seq) (u2:=.int .i64 h) (v:=.int .i64 (seq-h)) (Vy pZ9) (X2 rfl) p1h))::(hY 11 (dF hq4)::(hP 12 (dF hq4)::[]))))))) ?_
 by_cases hq5:(seq-h)>999
 ·have hx9:=X2r (bf:=(Yw 0 l)) (n:=l.length) (seq:=seq) (x:=x) (b:=b) (h:=h) (i:=i) h3 h4 (by omega)
  refine cT (dT hq5) (sR [] (T.ret (rT ?_)))
  refine eN ⟨(Zov seq x b h i),(Zoj d l)⟩ ?_
  refine Xa (s':=⟨(Zov seq x b h i),(Zop d l)⟩) (fun _ _ hG=>W1 (s:=⟨(Zov seq x b h i),(Zoj d l)⟩) ⟨.inl rfl,(kk2 (kk4 p3c))⟩ p2y hG) ?_
  exact eX [.c 12 2 49 0 49 [dI 0,Zok,Zol,Zom,dI 0,dI 0,Zol,dI 0,dI 0,Zon] (.agg Zoo),.t 13 (Zot)] ⟨⟨rfl,rfl,by kernel_rfl,by kernel_rfl,.inl ⟨10,J0,rfl,Nat.le_of_ble_eq_true rfl⟩⟩,⟨⟨rfl,by kernel_rfl⟩,trivial⟩⟩ [0,1] pZ2 (ix (ix trivial))
 have h5:¬(h<1∨h>seq∨seq-h>999):=(by omega)
 refine cF (dF hq5) (T.skip (nT (sR [hR 2 rfl rfl (rCa (E4 false false b (by omega)) Tryz.func51 [3] [(.tmp 57,slV false false kU8 b)] 0 1)] (T.seq (sR [] (T.block ?_))))))
 refine tN ⟨(Zox seq x b h i),[(Zoc d l),(Zod l),Zoi,.live (Xc 5 kU8 b),.live (.box 49 [(Zoy seq),Zoh,(Zoz b),Zoh,dI i,dI 0,Zoh,dI 0,dI 0,Zoh])]⟩ ?_
 refine Wy (s':=⟨(Zox seq x b h i),(Zp0 d l seq b i)⟩) (fun _ _ hG=>Jr 5 4 1 43 (kE false) (Tb:=49) (cs:=[(Zoy seq),Zoh,(Zoz b),Zoh,dI i,dI 0,Zoh,dI 0,dI 0,Zoh]) rfl rfl rfl hG) ?_
 refine T.loop (ι:=Nat) (fun (k:Nat)=>⟨(Zp1 seq x b h i k),(Zp2 d l seq x b i k)⟩) (fun (k:Nat)=>(k≤x.length)) (fun (k:Nat)=>x.length-k) (0) (Nat.zero_le _) (fun _ _ hG=>Yu [0,1,2,3,4,5] (bm 64 16158916562517389375) (h2:=(Zp0 d l seq b i)) rfl (cg2 (fun (q1:Nat) (q2:List aE)=>([(Zoc d l),(Zod l),Zoi,.live (Xc 5 kU8 b),.live (.box 49 [(Zoy seq),.own 5 (kE false).sz 0 q1,(Zoz b),Zoh,dI i,dI 0,Zoh,dI 0,dI 0,Zoh]),.live (Xc 43 (kE false) q2)]:List HS)) (by rfl) (by rfl)) hG) ?_
 rintro k hk
 show T _ _ ⟨(Zp1 seq x b h i k),(Zp2 d l seq x b i k)⟩ _ _
 replace hk:k≤x.length:=hk
 have htk:(x.take k).length=k:=p1d
 refine sR [] (T.seq ?_)
 by_cases hq6:((k:Nat):Int)<((x.length:Nat):Int)
 ·have hgk:=Xf1 hx (k:=k) (by omega);have hgk1:=hgk.1.1;have hgk2:=hgk.1.2;have hgk3:=hgk.2
  refine cT (dT hq6) (T.skip (nT (T.seq (T.block (sR [hR 0 rfl rfl (Wi false false (kE false) x k (k:=.i64) (i:=((k:Nat):Int)) Tryz.underlying37 Vv rfl rfl (by omega) (X2 rfl) trivial)] (sR [hR 2 rfl rfl (rCa (E4 false false (x.getD k zE).Xh (by omega)) Tryz.func51 [7] [(.tmp 68,slV false false kU8 (x.getD k zE).Xh)] 0 1)] ?_))))))
  refine xR [hR 3 rfl rfl (Uz 0 73 7 5 kU8 (x.getD k zE).Xh (av:=.tv (.agg [dI (x.getD k zE).f_Signer,.own 7 kU8.sz 0 (x.getD k zE).Xh.length])) (Y7 8 43 (kE false) (W9 false) [(x.getD k zE)] [⟨0,.tmp 73,.agg [dI (x.getD k zE).f_Signer,dU (x.getD k zE).Xh],0⟩] (cs:=[dI (x.getD k zE).f_Signer,dU (x.getD k zE).Xh]) Tryz.underlying37 Vv rfl E7 rfl rfl rfl pb (Ym rfl rfl pb W3) pZ4 (V2 pZ4) (X2 rfl) trivial) rfl p4u p2t rfl rfl),hR 4 rfl rfl (Yv 5 9 43 32 (kE false) (W9 false) (x.take k) [(x.getD k zE)] ((x.take k)++[(x.getD k zE)]) (x.take k).length (sy:=(.own 8 (kE false).sz 0 [(x.getD k zE)].length)) (rhs:=[(8,.live (Xc 43 (kE false) [(x.getD k zE)]))]) En (by omega) (V0 8 43 (kE false) [(x.getD k zE)]) px (by (simp [maxLen,-List.getD_eq_getElem?_getD]<;>omega)) (by (simp [maxLen,-List.getD_eq_getElem?_getD]<;>omega)) (X2 rfl) trivial)] pZ4 pZ4 ?_
  refine nB (nT (xK [hR 0 rfl rfl (Yb (u1:=.int .i64 ((k:Nat):Int)) (u2:=.int .i64 1) (v:=.int .i64 ((k+1:Nat):Int)) (Wb pZ9) (X2 rfl) ⟨rfl,trivial⟩)] ?_))
  refine nL (k+1) (show (k+1)≤x.length from (by omega)) (show (x.length-(k+1):Nat)<x.length-k from (by omega)) (fun _ _ hG=>Wf [0,1,2,3,4,9] (bm 64 16158916562517389375) (h1:=[(Zoc d l),(Zod l),Zoi,.live (Xc 5 kU8 b),.live (.box 49 [(Zoy seq),.own 9 (kE false).sz 0 (x.take (k+1)).length,(Zoz b),Zoh,dI i,dI 0,Zoh,dI 0,dI 0,Zoh]),.live (Xc 43 (kE false) (x.take (k+1)))]) (h2:=[(Zoc d l),(Zod l),Zoi,.live (Xc 5 kU8 b),.live (.box 49 [(Zoy seq),.own 9 (kE false).sz 0 ((x.take k)++[(x.getD k zE)]).length,(Zoz b),Zoh,dI i,dI 0,Zoh,dI 0,dI 0,Zoh]),.live (Xc 43 (kE false) ((x.take k)++[(x.getD k zE)]))]) (t1:=(Zp4 seq x b h i k)) rfl (by have e1:((x.take (k+1)).length:Nat)=((x.take k)++[(x.getD k zE)]).length:=p40;have e2:((x.take (k+1)):List aE)=(x.take k)++[(x.getD k zE)]:=p40;have hE:=congr (congrArg (fun (q1:Nat) (q2:List aE)=>([(Zoc d l),(Zod l),Zoi,.live (Xc 5 kU8 b),.live (.box 49 [(Zoy seq),.own 9 (kE false).sz 0 q1,(Zoz b),Zoh,dI i,dI 0,Zoh,dI 0,dI 0,Zoh]),.live (Xc 43 (kE false) q2)]:List HS)) e1) e2;exact hE) hG)
 refine cF (dF hq6) (T.exit (xT (xT (xH (nT ?_)))))
 refine tN ⟨[pv 0 0,vI seq,(Zob x),slV false false kU8 b,vI h,vI i,aa,aa,aa,aa,aa,aa,pv 2 0,vI 0,(Zoe b),aa,aa,(Zof b),pv 4 0,aa,aa,aa,aa,aa,aa,aa,aa,aa,aa,aa,aa,aa,aa,aa,aa,aa,aa,aa,aa,aa,(Zoq seq b),aa,aa,aa,aa,aa,aa,aa,aa,aa,aa,aa,aa,aa,(Zou seq h),aa,aa,aa,aa,aa,aa,(Zob x),(Zow x),vI ((k:Nat):Int),vB (decide (((k:Nat):Int)<((x.length:Nat):Int)))],(Zp2 d l seq x b i k)⟩ ?_
 refine Wy (s':=⟨(Zp5 seq h i),[(Zoc d l),(Zod l),Zoi,.live (Xc 5 kU8 b),(Zp7 seq x b i),(Zp8 x)]⟩) (fun _ _ hG=>Yu [0,1,2,3,4,5] (bm 19 266291) (h2:=(Zp2 d l seq x b i k)) rfl (by have e1:(x.length:Nat)=(x.take k).length:=p1q;have e2:(x:List aE)=(x.take k):=p1q;have hE:=congr (congrArg (fun (q1:Nat) (q2:List aE)=>([(Zoc d l),(Zod l),Zoi,.live (Xc 5 kU8 b),.live (.box 49 [(Zoy seq),.own 5 (kE false).sz 0 q1,(Zoz b),Zoh,dI i,dI 0,Zoh,dI 0,dI 0,Zoh]),.live (Xc 43 (kE false) q2)]:List HS)) e1) e2;exact hE) hG) (sR [] (T.seq (sR [] (T.block ?_))))
 refine tN ⟨(Zp9 seq h i),[(Zoc d l),(Zod l),Zoi,.live (Xc 5 kU8 b),(Zp7 seq x b i),(Zp8 x),Zpa]⟩ ?_
 refine Wy (s':=⟨(Zp9 seq h i),[(Zoc d l),(Zod l),Zoi,.live (Xc 5 kU8 b),(Zpb seq x b i),(Zp8 x),Zpa,Zpc]⟩) (fun _ _ hG=>Jr 7 4 3 69 (X6 false) (Tb:=49) (cs:=[(Zoy seq),(Zp6 x),(Zoz b),Zoh,dI i,dI 0,Zoh,dI 0,dI 0,Zoh]) rfl rfl rfl hG) ?_
 refine Wy (s':=⟨(Zp9 seq h i),[(Zoc d l),(Zod l),Zoi,.live (Xc 5 kU8 b),(Zpb seq x b i),(Zp8 x),Zpd,Zpc]⟩) (fun _ _ hG=>W1 (s:=⟨(Zp9 seq h i),[(Zoc d l),(Zod l),Zoi,.live (Xc 5 kU8 b),(Zpb seq x b i),(Zp8 x),Zpa,Zpc]⟩) ⟨.inl rfl,p3v⟩ (kk2 (kk4 ⟨(.inr ⟨rfl,(kk2 ⟨pZ8,⟨pZ8,trivial⟩⟩)⟩),⟨.inl rfl,trivial⟩⟩)) hG) ?_
 refine T.loop (ι:=Nat) (fun (k2:Nat)=>⟨(Zpf seq h i k2),(Zpk d l seq x b h i k2)⟩) (fun (k2:Nat)=>(((k2:Nat):Int)≤seq-h+1)∧(k2=0∨h+((k2:Nat):Int)≤((l.length:Nat):Int)+1)) (fun (k2:Nat)=>(seq-h+1).toNat-k2) (0) ⟨(show ((0:Nat):Int)≤seq-h+1 from (by omega)),(show 0=0∨h+((0:Nat):Int)≤((l.length:Nat):Int)+1 from (.inl rfl))⟩ (fun _ _ hG=>Yu [0,1,2,3,4,5,6,7] (bm 23 6557747) (t2:=(Zp9 seq h i)) (h2:=[(Zoc d l),(Zod l),Zoi,.live (Xc 5 kU8 b),(Zpb seq x b i),(Zp8 x),Zpd,Zpc]) p1n (cg6 (fun (q1:Nat) (q2:Int) (q3:List UInt8) (q4:List aE) (q5:List Xw) (q6:List Y6)=>([(Zoc d l),(Zod l),Zoi,.live (Xc 5 kU8 b),.live (.box 49 [(Zoy seq),(Zp6 x),(Zoz b),.own 7 (X6 false).sz 0 q1,dI i,dI 0,Zoh,dI 0,dI 0,Zoh]),(Zp8 x),.live (.box 65 [dI q2,dS q3,.d (dsl false false (kE false) q4),.d (dsl false false (Xb false) q5)]),.live (Xc 69 (X6 false) q6)]:List HS)) (by rfl) (by rfl) (by rfl) (by rfl) (by rfl) (by rfl)) hG) ?_
 rintro k2 ⟨hk2,hb2⟩
 show T _ _ ⟨(Zpf seq h i k2),(Zpk d l seq x b h i k2)⟩ _ _
 replace hk2:((k2:Nat):Int)≤seq-h+1:=hk2
 replace hb2:k2=0∨h+((k2:Nat):Int)≤((l.length:Nat):Int)+1:=hb2
 have hhl:=X9s (Yw 0 l) h k2
 have hfk:=hfw (h+((k2:Nat):Int))
 refine T.seq (sR [] ?_)
 by_cases hq7:(h+((k2:Nat):Int))≤seq
 ·have hks:h+((k2:Nat):Int)≤seq:=(by omega)
  refine cT (dT hq7) (T.skip (nT (T.seq (T.block (sR [hR 2 rfl rfl (rCa (Xd7 0 d l (h+((k2:Nat):Int)) (by omega) ‹_› ‹_›) Tryz.func52 [0,1] [(.tmp 85,pv 0 0),(.tmp 86,(Zpe h k2))] 2 2)] (T.seq (sR [] ?_)))))))
  by_cases hq8:(Ey 0 l.length (h+((k2:Nat):Int)))≠0
  ·have hx9:=Xep (bf:=(Yw 0 l)) (n:=l.length) (seq:=seq) (x:=x) (b:=b) (h:=h) (i:=i) h3 h4 h5 (by have h9:=Xjx hq8 (by omega);omega)
   refine cT (dT hq8) (sR [] (T.ret (rT (rB (rT (rT (rB (rT ?_))))))))
   refine eN ⟨(Zpo l seq h i k2),[(Zoc d l),(Zod l),Zoi,.live (Xc 5 kU8 b),(Zph l seq x b h i k2),(Zp8 x),(Zpi l h k2),(Zpj l h k2),.live (.box 65 (Zpp l h k2))]⟩ ?_
   refine Xa (s':=⟨(Zpo l seq h i k2),[(Zoc d l),(Zod l),.live (.box 49 Zoo),.live (Xc 5 kU8 b),(Zph l seq x b h i k2),(Zp8 x),(Zpi l h k2),(Zpj l h k2),.live (.box 65 (Zpp l h k2))]⟩) (fun _ _ hG=>W1 (s:=⟨(Zpo l seq h i k2),[(Zoc d l),(Zod l),Zoi,.live (Xc 5 kU8 b),(Zph l seq x b h i k2),(Zp8 x),(Zpi l h k2),(Zpj l h k2),.live (.box 65 (Zpp l h k2))]⟩) (kk4 (kk8 (X1z pZ25))) (kk2 ⟨pq,(kk2 (kk4 trivial))⟩) hG) ?_
   exact eX [.c 12 2 49 0 49 [dI 0,Zok,Zol,Zom,dI 0,dI 0,Zol,dI 0,dI 0,Zon] (.agg Zoo),.t 13 (.one (dI 4))] ⟨⟨rfl,rfl,by kernel_rfl,by kernel_rfl,.inl ⟨10,J0,rfl,Nat.le_of_ble_eq_true rfl⟩⟩,⟨⟨rfl,by kernel_rfl⟩,trivial⟩⟩ [0,1] pZ2 (ix (ix trivial))
  have hbi:=blk_in hq8
  refine cF (dF hq8) (T.skip (nT (T.seq (sR [] ?_))))
  by_cases hq9:(h+((k2:Nat):Int))=h
  ·have hfr:=frs_0 (bf:=(Yw 0 l)) hq9
   refine cT (dT hq9) (xK [] (nT ?_))
   refine xD [[],[0],[],[2],[2,3],[0,1,2,3,4],[0,1,2,3,4,5],[0,1,2,3,4,5,6]] [hR 3 rfl rfl (rCa (X0t false (Yw 0 l (h+((k2:Nat):Int))) ‹_›) Tryz.func53 [] [(.tmp 99,.tv (.agg (Zpp l h k2)))] 0 0),hR 4 rfl rfl (Y7 9 69 (X6 false) (Vh false) [(Wn (Yw 0 l (h+((k2:Nat):Int))))] [⟨0,.tmp 100,(Zpr l h k2),0⟩] (cs:=[dI (Zpq l h k2).X9,dS (Zpq l h k2).Xy,dI (Zpq l h k2).Ye,dS (Zpq l h k2).W4]) Tryz.underlying41 Ik rfl X7k rfl rfl rfl pb (Ym rfl rfl pb W3) pZ4 (V2 pZ4) (X2 rfl) trivial),hR 5 rfl rfl (Yv 7 10 69 48 (X6 false) (Vh false) (hdrs (Yw 0 l) h k2) [(Wn (Yw 0 l (h+((k2:Nat):Int))))] ((hdrs (Yw 0 l) h k2)++[(Wn (Yw 0 l (h+((k2:Nat):Int))))]) (hdrs (Yw 0 l) h k2).length (sy:=(.own 9 (X6 false).sz 0 [(Zpq l h k2)].length)) (rhs:=[(9,.live (Xc 69 (X6 false) [(Zpq l h k2)]))]) X56 (by omega) (V0 9 69 (X6 false) [(Wn (Yw 0 l (h+((k2:Nat):Int))))]) px (by (simp [maxLen,-List.getD_eq_getElem?_getD]<;>omega)) (by (simp [maxLen,-List.getD_eq_getElem?_getD]<;>omega)) (X2 rfl) trivial)] pZ4 pZ4 pZ4 pZ4 pZ4 pZ4 ?_
   refine nB (nT (xK [hR 1 rfl rfl (Yb (u1:=.int .i64 (h+((k2:Nat):Int))) (u2:=.int .i64 1) (v:=.int .i64 ((h+((k2:Nat):Int))+1)) (Wb pZ9) (X2 rfl) ⟨rfl,trivial⟩)] ?_))
   refine nL (k2+1) ⟨(show (((k2+1):Nat):Int)≤seq-h+1 from (by omega)),(show (k2+1)=0∨h+(((k2+1):Nat):Int)≤((l.length:Nat):Int)+1 from (.inr (by omega)))⟩ (show ((seq-h+1).toNat-(k2+1):Nat)<(seq-h+1).toNat-k2 from (by omega)) (fun _ _ hG=>Wf [0,1,2,3,4,5,6,10] (bm 23 6557747) (t1:=(Zps seq h i k2)) (t2:=(Zpv seq h i k2)) (h1:=(Zpw d l seq x b h i k2)) (h2:=[(Zoc d l),(Zod l),Zoi,.live (Xc 5 kU8 b),(Zpx l seq x b h i k2),(Zp8 x),.live (.box 65 (Zpp l h k2)),.live (Xc 69 (X6 false) ((hdrs (Yw 0 l) h k2)++[(Zpq l h k2)]))]) p1n (by have e1:((hdrs (Yw 0 l) h (k2+1)).length:Nat)=((hdrs (Yw 0 l) h k2)++[(Wn (Yw 0 l (h+((k2:Nat):Int))))]).length:=p4k;have e2:((Ho (Yw 0 l) h (k2+1)).X9:Int)=(Yw 0 l (h+((k2:Nat):Int))).X9:=p4n;have e3:((Ho (Yw 0 l) h (k2+1)).Xy:List UInt8)=(Yw 0 l (h+((k2:Nat):Int))).Xy:=p4n;have e4:((Ho (Yw 0 l) h (k2+1)).X7:List aE)=(Yw 0 l (h+((k2:Nat):Int))).X7:=p4n;have e5:((Ho (Yw 0 l) h (k2+1)).Xf:List Xw)=(Yw 0 l (h+((k2:Nat):Int))).Xf:=p4n;have e6:((hdrs (Yw 0 l) h (k2+1)):List Y6)=(hdrs (Yw 0 l) h k2)++[(Wn (Yw 0 l (h+((k2:Nat):Int))))]:=p4k;have hE:=congr pZ17 e6;exact hE) hG)
  have hfr:=frs_s (bf:=(Yw 0 l)) hq9
  refine cF (dF hq9) (T.skip (nT ?_))
  refine xD [[],[0],[],[2],[2,3],[0,1,2,3,4],[0,1,2,3,4,5],[0,1,2,3,4,5,6]] [hR 3 rfl rfl (rCa (X0t false (Yw 0 l (h+((k2:Nat):Int))) ‹_›) Tryz.func53 [] [(.tmp 99,.tv (.agg (Zpp l h k2)))] 0 0),hR 4 rfl rfl (Y7 9 69 (X6 false) (Vh false) [(Wn (Yw 0 l (h+((k2:Nat):Int))))] [⟨0,.tmp 100,(Zpr l h k2),0⟩] (cs:=[dI (Zpq l h k2).X9,dS (Zpq l h k2).Xy,dI (Zpq l h k2).Ye,dS (Zpq l h k2).W4]) Tryz.underlying41 Ik rfl X7k rfl rfl rfl pb (Ym rfl rfl pb W3) pZ4 (V2 pZ4) (X2 rfl) trivial),hR 5 rfl rfl (Yv 7 10 69 48 (X6 false) (Vh false) (hdrs (Yw 0 l) h k2) [(Wn (Yw 0 l (h+((k2:Nat):Int))))] ((hdrs (Yw 0 l) h k2)++[(Wn (Yw 0 l (h+((k2:Nat):Int))))]) (hdrs (Yw 0 l) h k2).length (sy:=(.own 9 (X6 false).sz 0 [(Zpq l h k2)].length)) (rhs:=[(9,.live (Xc 69 (X6 false) [(Zpq l h k2)]))]) X56 (by omega) (V0 9 69 (X6 false) [(Wn (Yw 0 l (h+((k2:Nat):Int))))]) px (by (simp [maxLen,-List.getD_eq_getElem?_getD]<;>omega)) (by (simp [maxLen,-List.getD_eq_getElem?_getD]<;>omega)) (X2 rfl) trivial)] pZ4 pZ4 pZ4 pZ4 pZ4 pZ4 ?_
  refine nB (nT (xK [hR 1 rfl rfl (Yb (u1:=.int .i64 (h+((k2:Nat):Int))) (u2:=.int .i64 1) (v:=.int .i64 ((h+((k2:Nat):Int))+1)) (Wb pZ9) (X2 rfl) ⟨rfl,trivial⟩)] ?_))
  refine nL (k2+1) ⟨(show (((k2+1):Nat):Int)≤seq-h+1 from (by omega)),(show (k2+1)=0∨h+(((k2+1):Nat):Int)≤((l.length:Nat):Int)+1 from (.inr (by omega)))⟩ (show ((seq-h+1).toNat-(k2+1):Nat)<(seq-h+1).toNat-k2 from (by omega)) (fun _ _ hG=>Wf [0,1,2,3,4,5,6,10] (bm 23 6557747) (t1:=(Zps seq h i k2)) (t2:=(Zpv seq h i k2)) (h1:=(Zpw d l seq x b h i k2)) (h2:=[(Zoc d l),(Zod l),Zoi,.live (Xc 5 kU8 b),(Zpx l seq x b h i k2),(Zp8 x),(Zpi l h k2),.live (Xc 69 (X6 false) ((hdrs (Yw 0 l) h k2)++[(Zpq l h k2)]))]) p1n (by have e1:((hdrs (Yw 0 l) h (k2+1)).length:Nat)=((hdrs (Yw 0 l) h k2)++[(Wn (Yw 0 l (h+((k2:Nat):Int))))]).length:=p4k;have e2:((Ho (Yw 0 l) h (k2+1)).X9:Int)=(Ho (Yw 0 l) h k2).X9:=p4n;have e3:((Ho (Yw 0 l) h (k2+1)).Xy:List UInt8)=(Ho (Yw 0 l) h k2).Xy:=p4n;have e4:((Ho (Yw 0 l) h (k2+1)).X7:List aE)=(Ho (Yw 0 l) h k2).X7:=p4n;have e5:((Ho (Yw 0 l) h (k2+1)).Xf:List Xw)=(Ho (Yw 0 l) h k2).Xf:=p4n;have e6:((hdrs (Yw 0 l) h (k2+1)):List Y6)=(hdrs (Yw 0 l) h k2)++[(Wn (Yw 0 l (h+((k2:Nat):Int))))]:=p4k;have hE:=congr pZ17 e6;exact hE) hG)
 have hkn:((k2:Nat):Int)=seq-h+1:=(by omega);have h6:¬seq>((l.length:Nat):Int):=(by omega)
 refine cF (dF hq7) (T.exit (xT (xT (xH (nT ?_)))))
 refine tN ⟨(Zpy seq h i k2),(Zpk d l seq x b h i k2)⟩ ?_
 refine Wy (s':=⟨(Zpy seq h i k2),(Zq0 d l seq x b h i k2)⟩) (fun _ _ hG=>Yu [0,1,2,3,4,5,6,7] (bm 82 2417851639229258355970099) (h2:=(Zpk d l seq x b h i k2)) rfl (by have e1:((Yw 0 l h).X9:Int)=(Ho (Yw 0 l) h k2).X9:=p4p;have e2:((Yw 0 l h).Xy:List UInt8)=(Ho (Yw 0 l) h k2).Xy:=p4p;have e3:((Yw 0 l h).X7:List aE)=(Ho (Yw 0 l) h k2).X7:=p4p;have e4:((Yw 0 l h).Xf:List Xw)=(Ho (Yw 0 l) h k2).Xf:=p4p;have hE:=congr (congr (congr (congrArg (fun (q1:Int) (q2:List UInt8) (q3:List aE) (q4:List Xw)=>([(Zoc d l),(Zod l),Zoi,.live (Xc 5 kU8 b),(Zph l seq x b h i k2),(Zp8 x),.live (.box 65 [dI q1,dS q2,.d (dsl false false (kE false) q3),.d (dsl false false (Xb false) q4)]),(Zpj l h k2)]:List HS)) e1) e2) e3) e4;exact hE) hG) ?_
 refine sR [hR 2 rfl rfl (rCa (Xgh false (Yw 0 l h) i ‹_›) Tryz.func54 [] [(.tmp 105,.tv (.agg (Zpz l h))),(.tmp 106,vI i)] 0 0)] (T.seq (sR [] ?_))
 by_cases hq10:(J7 (Yw 0 l h) i)≠0
 ·have hx9:=Xj0 (bf:=(Yw 0 l)) (n:=l.length) (seq:=seq) (x:=x) (b:=b) (h:=h) (i:=i) h3 h4 h5 h6 hq10
  refine cT (dT hq10) (sR [] (T.ret (rT ?_)))
  refine eN ⟨(Zq1 l seq h i k2),(Zq0 d l seq x b h i k2)⟩ ?_
  refine Xa (s':=⟨(Zq1 l seq h i k2),[(Zoc d l),(Zod l),.live (.box 49 Zoo),.live (Xc 5 kU8 b),(Zph l seq x b h i k2),(Zp8 x),.live (.box 65 (Zpz l h)),(Zpj l h k2)]⟩) (fun _ _ hG=>W1 (s:=⟨(Zq1 l seq h i k2),(Zq0 d l seq x b h i k2)⟩) p47 (kk2 ⟨pq,⟨.inl rfl,(kk4 trivial)⟩⟩) hG) ?_
  exact eX [.c 12 2 49 0 49 [dI 0,Zok,Zol,Zom,dI 0,dI 0,Zol,dI 0,dI 0,Zon] (.agg Zoo),.t 13 (.one (dI (J7 (Yw 0 l h) i)))] ⟨⟨rfl,rfl,by kernel_rfl,by kernel_rfl,.inl ⟨10,J0,rfl,Nat.le_of_ble_eq_true rfl⟩⟩,⟨⟨rfl,by kernel_rfl⟩,trivial⟩⟩ [0,1] pZ2 (ix (ix trivial))
 have hx9:=prv_ok (bf:=(Yw 0 l)) (n:=l.length) (seq:=seq) (x:=x) (b:=b) (h:=h) (i:=i) h3 h4 h5 h6 hq10 hkn;obtain ⟨p1,p2,p3,p4,p5,p6,p7⟩:=Xcs (hfw h) (Classical.not_not.1 hq10)
 refine cF (dF hq10) (T.skip (nT ?_))
 refine sD [[],[],[1],[],[1,2,3],[1,2,3,4],[],[6],[],[6,7,8],[6,7,8,9],[0],[0,11],[0,1,2,3,4,5,11,12],[0,1,2,3,4,5,11,12,13],[0,1,2,3,4,5,6,7,8,9,10,11,12,13,14],[0,1,2,3,4,5,6,7,8,9,10,11,12,13,14,15]] [hR 4 rfl rfl (Wi false false (kE false) (Yw 0 l h).X7 (i).toNat (k:=.i64) (i:=i) Tryz.underlying37 Vv rfl (by omega) (by omega) (X2 rfl) trivial),hR 9 rfl rfl (Wi false false (Xb false) (Yw 0 l h).Xf (i).toNat (k:=.i64) (i:=i) Tryz.underlying63 E0 rfl (by omega) (by omega) (X2 rfl) trivial)] (sR [] (T.ret ?_))
 refine eN ⟨(Zq2 l seq h i k2),[(Zoc d l),(Zod l),(Zq8 l seq x b h i k2),.live (Xc 5 kU8 b),(Zq8 l seq x b h i k2),(Zp8 x),.live (.box 65 (Zpz l h)),(Zpj l h k2)]⟩ ?_
 refine Xa (s':=(Zqa d l seq x b h i k2)) (fun _ _ hG=>Gs.freeze (s:=⟨(Zq2 l seq h i k2),[(Zoc d l),(Zod l),(Zq8 l seq x b h i k2),.live (Xc 5 kU8 b),(Zq8 l seq x b h i k2),(Zp8 x),.live (.box 65 (Zpz l h)),(Zpj l h k2)]⟩) 5 (el:=W5 (kE false) x) (sz:=(kE false).sz) (n:=x.length) rfl p47 ⟨pZ7,⟨pZ7,⟨p4s,⟨pZ7,⟨p4s,⟨(.inl ⟨rfl,rfl⟩),⟨pZ7,⟨pZ7,trivial⟩⟩⟩⟩⟩⟩⟩⟩ hG) ?_
 refine eN (Zqa d l seq x b h i k2) ?_
 refine Xa (s':=(Zqc d l seq x b h i k2)) (fun _ _ hG=>Gs.freeze (s:=(Zqa d l seq x b h i k2)) 3 (el:=W5 kU8 b) (sz:=kU8.sz) (n:=b.length) rfl p47 ⟨pZ7,⟨pZ7,⟨p32,⟨(.inl ⟨rfl,rfl⟩),⟨p32,⟨pZ7,⟨pZ7,⟨pZ7,trivial⟩⟩⟩⟩⟩⟩⟩⟩ hG) ?_
 refine eN (Zqc d l seq x b h i k2) ?_
 refine Xa (s':=⟨(Zq2 l seq h i k2),[(Zoc d l),(Zod l),.live (.box 49 (Zqd l seq x b h i k2)),.dead,.live (.box 49 (Zqd l seq x b h i k2)),.dead,.live (.box 65 (Zpz l h)),.dead]⟩) (fun _ _ hG=>Gs.freeze (s:=(Zqc d l seq x b h i k2)) 7 (el:=W5 (X6 false) (hdrs (Yw 0 l) h k2)) (sz:=(X6 false).sz) (n:=(hdrs (Yw 0 l) h k2).length) rfl p47 ⟨pZ7,⟨pZ7,⟨pp,⟨pZ7,⟨pp,⟨pZ7,⟨pZ7,⟨(.inl ⟨rfl,rfl⟩),trivial⟩⟩⟩⟩⟩⟩⟩⟩ hG) ?_
 exact eX [.c 12 2 49 0 49 [(Zoy seq),(Zq9 x),dU b,.d (dsl false false (X6 false) (hdrs (Yw 0 l) h k2)),dI i,(Zq3 l h i),(Zq4 l h i),(Zq5 l h i),(Zq6 l h i),(Zq7 l h i)] (.agg (Zqd l seq x b h i k2)),.t 13 (.one (dI 0))] ⟨⟨rfl,rfl,by kernel_rfl,by kernel_rfl,.inl ⟨10,J0,rfl,Nat.le_of_ble_eq_true rfl⟩⟩,⟨⟨rfl,by kernel_rfl⟩,trivial⟩⟩ [0,1] pZ2 (ix (ix trivial))
section
variable (d:List UInt8) (L:List Xn) (seq:Int) (x:List aE) (b:List UInt8) (h:Int) (i:Int) (k2:Nat)
abbrev Zqe:AV:=slV false false (kE false) x
abbrev Zqf:HS:=.live (.box 106 [dB true,dI 0,dS d,.own 1 (Xo false).sz 0 L.length])
abbrev Zqg:HS:=.live (Xc 65 (Xo false) L)
abbrev Zqh:AV:=vI (unH 1099511627776 b)
abbrev Zqi:AV:=vI (unE 1099511627776 b)
abbrev Zqj:List AV:=[pv 0 0,vI seq,(Zqe x),slV false false kU8 b,vI h,vI i,aa,aa,aa,aa,aa,aa,pv 2 0,vI 12,(Zqh b),aa,aa,(Zqi b),aa,aa,aa,aa,aa,aa,aa,aa,aa,aa,aa,aa,aa,aa,aa,aa,aa,aa,aa,aa,vB true]
abbrev Zqk:SV:=.d (.val (.slice none 0 0))
abbrev Zql:HS:=.live (.box 49 [dI 0,Zqk,Zqk,Zqk,dI 0,dI 0,Zqk,dI 0,dI 0,Zqk])
abbrev Zqm:List HS:=[(Zqf d L),(Zqg L),Zql]
abbrev Zqn:SV:=.d (dsl false false (kE false) ([]:List aE))
abbrev Zqo:SV:=dU ([]:List UInt8)
abbrev Zqp:SV:=.d (dsl false false (X6 false) ([]:List Y6))
abbrev Zqq:SV:=.d (dsl false false (X8 false) ([]:List Y1))
abbrev Zqr:List SV:=[dI 0,Zqn,Zqo,Zqp,dI 0,dI 0,Zqo,dI 0,dI 0,Zqq]
abbrev Zqs:List HS:=[(Zqf d L),(Zqg L),.live (.box 49 Zqr)]
abbrev Zqt:AV:=vB (decide ((unH 1099511627776 b)≠seq))
abbrev Zqu:List AV:=[pv 0 0,vI seq,(Zqe x),slV false false kU8 b,vI h,vI i,aa,aa,aa,aa,aa,aa,pv 2 0,vI 12,(Zqh b),aa,aa,(Zqi b),aa,aa,aa,aa,aa,aa,aa,aa,aa,aa,aa,aa,aa,aa,aa,aa,aa,aa,aa,aa,(Zqt seq b)]
abbrev Zqv:List AV:=[pv 0 0,vI seq,(Zqe x),slV false false kU8 b,vI h,vI i,aa,aa,aa,aa,aa,aa,pv 2 0,vI 2,(Zqh b),aa,aa,(Zqi b),aa,aa,aa,aa,aa,aa,aa,aa,aa,aa,aa,aa,aa,aa,aa,aa,aa,aa,aa,aa,(Zqt seq b),aa,aa,aa,aa,aa,aa,aa,aa,aa,aa,aa,aa,aa,vB true]
abbrev Zqw:TV:=.one (dI 2)
abbrev Zqx:AV:=vB (decide ((seq-h)>999))
abbrev Zqy:List AV:=[pv 0 0,vI seq,(Zqe x),slV false false kU8 b,vI h,vI i,aa,aa,aa,aa,aa,aa,pv 2 0,vI 2,(Zqh b),aa,aa,(Zqi b),aa,aa,aa,aa,aa,aa,aa,aa,aa,aa,aa,aa,aa,aa,aa,aa,aa,aa,aa,aa,(Zqt seq b),aa,aa,aa,aa,aa,aa,aa,aa,aa,aa,aa,aa,aa,(Zqx seq h)]
abbrev Zqz:List AV:=[pv 0 0,vI seq,(Zqe x),slV false false kU8 b,vI h,vI i,aa,aa,aa,aa,aa,aa,pv 2 0,vI 0,(Zqh b),aa,aa,(Zqi b),pv 3 0,vI h,aa,aa,aa,aa,aa,aa,aa,aa,aa,aa,aa,aa,aa,aa,aa,aa,aa,aa,(Zqt seq b),aa,aa,aa,aa,aa,aa,aa,aa,aa,aa,aa,aa,aa,(Zqx seq h)]
abbrev Zr0:SV:=dI seq
abbrev Zr1:SV:=.d (dsl false false (kE false) x)
abbrev Zr2:SV:=dU b
abbrev Zr3:List HS:=[(Zqf d L),(Zqg L),Zql,.live (.box 49 [(Zr0 seq),(Zr1 x),(Zr2 b),.own 4 (X6 false).sz 0 0,dI i,dI 0,Zqk,dI 0,dI 0,Zqk]),.live (Xc 69 (X6 false) ([]:List Y6))]
abbrev Zr4:AV:=vI (h+((k2:Nat):Int))
abbrev Zr5:HS:=.live (.box 49 [(Zr0 seq),(Zr1 x),(Zr2 b),.own 4 (X6 false).sz 0 (hdrs (rblk 0 L) h k2).length,dI i,dI 0,Zqk,dI 0,dI 0,Zqk])
abbrev Zr6:HS:=.live (Xc 69 (X6 false) (hdrs (rblk 0 L) h k2))
abbrev Zr7:St:=⟨[pv 0 0,vI seq,(Zqe x),slV false false kU8 b,vI h,vI i,aa,aa,aa,aa,aa,aa,pv 2 0,vI 0,(Zqh b),aa,aa,(Zqi b),pv 3 0,(Zr4 h k2),aa,aa,aa,aa,aa,aa,aa,aa,aa,aa,aa,aa,aa,aa,aa,aa,aa,aa,(Zqt seq b),aa,aa,aa,aa,aa,aa,aa,aa,aa,aa,aa,aa,aa,(Zqx seq h)],[(Zqf d L),(Zqg L),Zql,(Zr5 L seq x b h i k2),(Zr6 L h k2)]⟩
abbrev Zra:List AV:=[pv 0 0,vI seq,(Zqe x),slV false false kU8 b,vI h,vI i,aa,aa,aa,aa,aa,aa,pv 2 0,vI 4,(Zqh b),aa,aa,(Zqi b),pv 3 0,(Zr4 h k2),pv 5 0,vI (Ey 0 L.length (h+((k2:Nat):Int))),aa,aa,aa,aa,aa,aa,aa,aa,aa,aa,aa,aa,aa,aa,aa,aa,(Zqt seq b),aa,aa,aa,aa,aa,aa,aa,aa,aa,aa,aa,aa,aa,(Zqx seq h),aa,aa,aa,aa,aa,aa,aa,aa,aa,vB (decide ((h+((k2:Nat):Int))≤seq)),aa,aa,aa,aa,aa,aa,aa,aa,aa,vB (decide ((Ey 0 L.length (h+((k2:Nat):Int)))≠0))]
abbrev Zrb:List SV:=[dI (rblk 0 L (h+((k2:Nat):Int))).X9,dS (rblk 0 L (h+((k2:Nat):Int))).Xy,.d (dsl false false (kE false) (rblk 0 L (h+((k2:Nat):Int))).X7),.d (dsl false false (Xb false) (rblk 0 L (h+((k2:Nat):Int))).Xf)]
abbrev Zrc:=(Wn (rblk 0 L (h+((k2:Nat):Int))))
abbrev Zrd:List AV:=[pv 0 0,vI seq,(Zqe x),slV false false kU8 b,vI h,vI i,aa,aa,aa,aa,aa,aa,pv 2 0,vI 0,(Zqh b),aa,aa,(Zqi b),pv 3 0,vI (h+(((k2+1):Nat):Int)),aa,aa,aa,aa,aa,aa,aa,aa,aa,aa,aa,aa,aa,aa,aa,aa,aa,aa,(Zqt seq b),aa,aa,aa,aa,aa,aa,aa,aa,aa,aa,aa,aa,aa,(Zqx seq h)]
abbrev Zre:List SV:=[dI (rblk 0 L h).X9,dS (rblk 0 L h).Xy,.d (dsl false false (kE false) (rblk 0 L h).X7),.d (dsl false false (Xb false) (rblk 0 L h).Xf)]
abbrev Zrf:List AV:=[pv 0 0,vI seq,(Zqe x),slV false false kU8 b,vI h,vI i,aa,aa,aa,aa,aa,aa,pv 2 0,vI (J7 (rblk 0 L h) i),(Zqh b),aa,aa,vI (J7 (rblk 0 L h) i),pv 3 0,(Zr4 h k2),aa,aa,pv 5 0,aa,slV false false (X8 false) (H7 (rblk 0 L h) i),aa,aa,aa,aa,aa,aa,aa,aa,aa,aa,aa,aa,aa,(Zqt seq b),aa,aa,aa,aa,aa,aa,aa,aa,aa,aa,aa,aa,aa,(Zqx seq h),aa,aa,aa,aa,aa,aa,aa,aa,aa,vB (decide ((h+((k2:Nat):Int))≤seq)),aa,aa,aa,aa,aa,aa,aa,aa,aa,aa,aa,aa,aa,aa,aa,aa,aa,aa,aa,aa,aa,aa,aa,aa,aa,aa,aa,aa,aa,aa,aa,vB (decide ((J7 (rblk 0 L h) i)≠0))]
abbrev Zrg:List AV:=[pv 0 0,vI seq,(Zqe x),slV false false kU8 b,vI h,vI i,aa,aa,aa,aa,aa,aa,pv 2 0,vI 0,(Zqh b),aa,aa,vI (J7 (rblk 0 L h) i),pv 3 0,(Zr4 h k2),aa,aa,pv 5 0,aa,slV false false (X8 false) (H7 (rblk 0 L h) i),aa,aa,aa,aa,aa,aa,aa,aa,aa,aa,aa,aa,aa,(Zqt seq b),aa,aa,aa,aa,aa,aa,aa,aa,aa,aa,aa,aa,aa,(Zqx seq h),aa,aa,aa,aa,aa,aa,aa,aa,aa,vB (decide ((h+((k2:Nat):Int))≤seq)),aa,aa,aa,aa,aa,aa,aa,aa,aa,aa,aa,aa,aa,aa,aa,aa,aa,aa,aa,aa,aa,aa,aa,aa,aa,aa,aa,aa,aa,aa,aa,vB (decide ((J7 (rblk 0 L h) i)≠0))]
abbrev Zrh:SV:=dI ((rblk 0 L h).X7.getD (i).toNat zE).f_Signer
abbrev Zri:SV:=dU ((rblk 0 L h).X7.getD (i).toNat zE).Xh
abbrev Zrj:SV:=dI ((rblk 0 L h).Xf.getD (i).toNat Ya).Y0
abbrev Zrk:SV:=dI ((rblk 0 L h).Xf.getD (i).toNat Ya).Xq
abbrev Zrl:HS:=.live (.box 49 [(Zr0 seq),(Zr1 x),(Zr2 b),.own 4 (X6 false).sz 0 (hdrs (rblk 0 L) h k2).length,dI i,(Zrh L h i),(Zri L h i),(Zrj L h i),(Zrk L h i),.d (dsl false false (X8 false) (H7 (rblk 0 L h) i))])
abbrev Zrm:List SV:=[(Zr0 seq),(Zr1 x),(Zr2 b),.d (dsl false false (X6 false) (hdrs (rblk 0 L) h k2)),dI i,(Zrh L h i),(Zri L h i),(Zrj L h i),(Zrk L h i),.d (dsl false false (X8 false) (H7 (rblk 0 L h) i))]
end
theorem X6p (d:List UInt8) (L:List Xn) (seq:Int) (x:List aE) (b:List UInt8) (h:Int) (i:Int) (hl:L.length≤100) (hw:X0a L) (hx:X1t x) (hb:b.length≤100000000) (hsq:-9223372036854775808≤seq∧seq≤9223372036854775807) (hh:-9223372036854775808≤h∧h≤9223372036854775807) (hi:-9223372036854775808≤i∧i≤9223372036854775807):Holds Tryz.prog 11 ⟨[pv 0 0,vI seq,slV false false (kE false) x,slV false false kU8 b,vI h,vI i],[.box 106 [dB true,dI 0,dS d,.own 1 (Xo false).sz 0 L.length],Xc 65 (Xo false) L],.tup [.agg [dI (Uw (rblk 0 L) L.length seq x b h i).Xu,.d (dsl false false (kE false) (Uw (rblk 0 L) L.length seq x b h i).Xi),dU (Uw (rblk 0 L) L.length seq x b h i).Xd,.d (dsl false false (X6 false) (Uw (rblk 0 L) L.length seq x b h i).X1),dI (Uw (rblk 0 L) L.length seq x b h i).Vt,dI (Uw (rblk 0 L) L.length seq x b h i).Xm.f_Signer,dU (Uw (rblk 0 L) L.length seq x b h i).Xm.Xh,dI (Uw (rblk 0 L) L.length seq x b h i).X3.Y0,dI (Uw (rblk 0 L) L.length seq x b h i).X3.Xq,.d (dsl false false (X8 false) (Uw (rblk 0 L) L.length seq x b h i).Yr)],.one (dI (X3z (rblk 0 L) L.length seq b h i))],[.live (.box 106 [dB true,dI 0,dS d,.own 1 (Xo false).sz 0 L.length]),.live (Xc 65 (Xo false) L)]⟩:=by
 refine Holds.of Tryz.func11 rfl (N:=112) Tryz.ntmps11 rfl fun w0 B0 S0 U0=>?_
 show T _ (Y2 112 2 w0 S0 U0 B0) ⟨[pv 0 0,vI seq,(Zqe x),slV false false kU8 b,vI h,vI i],[(Zqf d L),(Zqg L)]⟩ _ _
 have hun:=un_any (b:=b) (M:=((b.length:Nat):Int)) (M':=1099511627776) (Int.le_refl _) (by omega)
 obtain ⟨hun1,hun2,hun3,hun4⟩:=hun
 have hfw:=fun y=>rblk_few hw y
 have hfh:=hfw h
 refine sR [] (sR [hR 1 rfl rfl (rCa (Xcj b ‹_›) Tryz.func43 [] [(.tmp 26,slV false false kU8 b)] 0 0)] (T.seq ?_))
 by_cases hq1:(unE 1099511627776 b)≠0
 ·have h3:=hq1;rw [← hun4] at h3;have hx9:=X4r (bf:=(rblk 0 L)) (n:=L.length) (seq:=seq) (x:=x) (b:=b) (h:=h) (i:=i) (.inl h3)
  refine sR (Xl (hN · false (dT hq1)) [3,4,5] (hP 6 (dT hq1)::[])) (cT (b:=true) rfl (sR [] (T.ret (rT ?_))))
  refine eN ⟨(Zqj seq x b h i),(Zqm d L)⟩ ?_
  refine Xa (s':=⟨(Zqj seq x b h i),(Zqs d L)⟩) (fun _ _ hG=>W1 (s:=⟨(Zqj seq x b h i),(Zqm d L)⟩) ⟨.inl rfl,(kk2 (kk4 (X12 trivial)))⟩ p2y hG) ?_
  exact eX [.c 12 2 49 0 49 [dI 0,Zqn,Zqo,Zqp,dI 0,dI 0,Zqo,dI 0,dI 0,Zqq] (.agg Zqr),.t 13 (.one (dI 12))] ⟨⟨rfl,rfl,by kernel_rfl,by kernel_rfl,.inl ⟨10,J0,rfl,Nat.le_of_ble_eq_true rfl⟩⟩,⟨⟨rfl,by kernel_rfl⟩,trivial⟩⟩ [0,1] pZ2 (ix (ix trivial))
 have h3:=hq1;rw [← hun4] at h3;have hur:=un_rng h3
 refine sR (Xl (hY · (dF hq1)) [3,4,5] (hP 6 (dF hq1)::[])) ?_
 by_cases hq2:(unH 1099511627776 b)≠seq
 ·have h4:=hq2;rw [← hun1] at h4;have hx9:=X4r (bf:=(rblk 0 L)) (n:=L.length) (seq:=seq) (x:=x) (b:=b) (h:=h) (i:=i) (.inr h4)
  refine cT (dT hq2) (sR [] (T.ret (rT ?_)))
  refine eN ⟨(Zqu seq x b h i),(Zqm d L)⟩ ?_
  refine Xa (s':=⟨(Zqu seq x b h i),(Zqs d L)⟩) (fun _ _ hG=>W1 (s:=⟨(Zqu seq x b h i),(Zqm d L)⟩) ⟨.inl rfl,(kk2 (kk4 (X12 trivial)))⟩ p2y hG) ?_
  exact eX [.c 12 2 49 0 49 [dI 0,Zqn,Zqo,Zqp,dI 0,dI 0,Zqo,dI 0,dI 0,Zqq] (.agg Zqr),.t 13 (.one (dI 12))] ⟨⟨rfl,rfl,by kernel_rfl,by kernel_rfl,.inl ⟨10,J0,rfl,Nat.le_of_ble_eq_true rfl⟩⟩,⟨⟨rfl,by kernel_rfl⟩,trivial⟩⟩ [0,1] pZ2 (ix (ix trivial))
 have h4:=hq2;rw [← hun1] at h4; 
 refine cF (dF hq2) (T.skip (nT (T.seq ?_)))
 by_cases hq3:h<1
 ·have hx9:=X2r (bf:=(rblk 0 L)) (n:=L.length) (seq:=seq) (x:=x) (b:=b) (h:=h) (i:=i) h3 h4 (by omega)
  refine sR (Xl (hN · false (dT hq3)) [3,4,5] (hP 6 (dT hq3)::(Xl hN0 [8,9,10,11] (hP1 12::[])))) (cT (b:=true) rfl (sR [] (T.ret (rT ?_))))
  refine eN ⟨(Zqv seq x b h i),(Zqm d L)⟩ ?_
  refine Xa (s':=⟨(Zqv seq x b h i),(Zqs d L)⟩) (fun _ _ hG=>W1 (s:=⟨(Zqv seq x b h i),(Zqm d L)⟩) ⟨.inl rfl,(kk4 p3c)⟩ p2y hG) ?_
  exact eX [.c 12 2 49 0 49 [dI 0,Zqn,Zqo,Zqp,dI 0,dI 0,Zqo,dI 0,dI 0,Zqq] (.agg Zqr),.t 13 (Zqw)] ⟨⟨rfl,rfl,by kernel_rfl,by kernel_rfl,.inl ⟨10,J0,rfl,Nat.le_of_ble_eq_true rfl⟩⟩,⟨⟨rfl,by kernel_rfl⟩,trivial⟩⟩ [0,1] pZ2 (ix (ix trivial))
 by_cases hq4:h>seq
 ·have hx9:=X2r (bf:=(rblk 0 L)) (n:=L.length) (seq:=seq) (x:=x) (b:=b) (h:=h) (i:=i) h3 h4 (by omega)
  refine sR (Xl (hY · (dF hq3)) [3,4,5] (hP 6 (dF hq3)::(Xl (hN · false (dT hq4)) [8,9,10,11] (hP 12 (dT hq4)::[])))) (cT (b:=true) rfl (sR [] (T.ret (rT ?_))))
  refine eN ⟨(Zqv seq x b h i),(Zqm d L)⟩ ?_
  refine Xa (s':=⟨(Zqv seq x b h i),(Zqs d L)⟩) (fun _ _ hG=>W1 (s:=⟨(Zqv seq x b h i),(Zqm d L)⟩) ⟨.inl rfl,(kk4 p3c)⟩ p2y hG) ?_
  exact eX [.c 12 2 49 0 49 [dI 0,Zqn,Zqo,Zqp,dI 0,dI 0,Zqo,dI 0,dI 0,Zqq] (.agg Zqr),.t 13 (Zqw)] ⟨⟨rfl,rfl,by kernel_rfl,by kernel_rfl,.inl ⟨10,J0,rfl,Nat.le_of_ble_eq_true rfl⟩⟩,⟨⟨rfl,by kernel_rfl⟩,trivial⟩⟩ [0,1] pZ2 (ix (ix trivial))
 refine sR (Xl (hY · (dF hq3)) [3,4,5] (hP 6 (dF hq3)::(hY 8 (dF hq4)::(hY 9 (dF hq4)::(hS 10 (oY rfl rfl rfl rfl (X2 rfl) (dF hq4) (Yb (u1:=.int .i64 seq) (u2:=.int .i64 h) (v:=.int .i64 (seq-h)) (Vy pZ9) (X2 rfl) p1h))::(hY 11 (dF hq4)::(hP 12 (dF hq4)::[]))))))) ?_
 by_cases hq5:(seq-h)>999
 ·have hx9:=X2r (bf:=(rblk 0 L)) (n:=L.length) (seq:=seq) (x:=x) (b:=b) (h:=h) (i:=i) h3 h4 (by omega)
  refine cT (dT hq5) (sR [] (T.ret (rT ?_)))
  refine eN ⟨(Zqy seq x b h i),(Zqm d L)⟩ ?_
  refine Xa (s':=⟨(Zqy seq x b h i),(Zqs d L)⟩) (fun _ _ hG=>W1 (s:=⟨(Zqy seq x b h i),(Zqm d L)⟩) ⟨.inl rfl,(kk4 p3c)⟩ p2y hG) ?_
  exact eX [.c 12 2 49 0 49 [dI 0,Zqn,Zqo,Zqp,dI 0,dI 0,Zqo,dI 0,dI 0,Zqq] (.agg Zqr),.t 13 (Zqw)] ⟨⟨rfl,rfl,by kernel_rfl,by kernel_rfl,.inl ⟨10,J0,rfl,Nat.le_of_ble_eq_true rfl⟩⟩,⟨⟨rfl,by kernel_rfl⟩,trivial⟩⟩ [0,1] pZ2 (ix (ix trivial))
 have h5:¬(h<1∨h>seq∨seq-h>999):=(by omega)
 refine cF (dF hq5) (T.skip (nT (sR [] (T.seq (sR [] (T.block ?_))))))
 refine tN ⟨(Zqz seq x b h i),[(Zqf d L),(Zqg L),Zql,.live (.box 49 [(Zr0 seq),(Zr1 x),(Zr2 b),Zqk,dI i,dI 0,Zqk,dI 0,dI 0,Zqk])]⟩ ?_
 refine Wy (s':=⟨(Zqz seq x b h i),(Zr3 d L seq x b i)⟩) (fun _ _ hG=>Jr 4 3 3 69 (X6 false) (Tb:=49) (cs:=[(Zr0 seq),(Zr1 x),(Zr2 b),Zqk,dI i,dI 0,Zqk,dI 0,dI 0,Zqk]) rfl rfl rfl hG) ?_
 refine T.loop (ι:=Nat) (fun (k2:Nat)=>(Zr7 d L seq x b h i k2)) (fun (k2:Nat)=>(((k2:Nat):Int)≤seq-h+1)∧(k2=0∨h+((k2:Nat):Int)≤((L.length:Nat):Int)+1)) (fun (k2:Nat)=>(seq-h+1).toNat-k2) (0) ⟨(show ((0:Nat):Int)≤seq-h+1 from (by omega)),(show 0=0∨h+((0:Nat):Int)≤((L.length:Nat):Int)+1 from (.inl rfl))⟩ (fun _ _ hG=>Yu [0,1,2,3,4] (bm 53 4503874506223679) (t2:=(Zqz seq x b h i)) (h2:=(Zr3 d L seq x b i)) p1o (cg2 (fun (q1:Nat) (q2:List Y6)=>([(Zqf d L),(Zqg L),Zql,.live (.box 49 [(Zr0 seq),(Zr1 x),(Zr2 b),.own 4 (X6 false).sz 0 q1,dI i,dI 0,Zqk,dI 0,dI 0,Zqk]),.live (Xc 69 (X6 false) q2)]:List HS)) (by rfl) (by rfl)) hG) ?_
 rintro k2 ⟨hk2,hb2⟩
 show T _ _ (Zr7 d L seq x b h i k2) _ _
 replace hk2:((k2:Nat):Int)≤seq-h+1:=hk2
 replace hb2:k2=0∨h+((k2:Nat):Int)≤((L.length:Nat):Int)+1:=hb2
 have hhl:=X9s (rblk 0 L) h k2
 have hfk:=hfw (h+((k2:Nat):Int))
 refine T.seq (sR [] ?_)
 by_cases hq6:(h+((k2:Nat):Int))≤seq
 ·have hks:h+((k2:Nat):Int)≤seq:=(by omega)
  refine cT (dT hq6) (T.skip (nT (T.seq (T.block (sR [hR 2 rfl rfl (rCa (X1i 0 d L (h+((k2:Nat):Int)) (by omega) ‹_› ‹_›) Tryz.func20 [0,1] [(.tmp 66,pv 0 0),(.tmp 67,(Zr4 h k2))] 2 2)] (T.seq (sR [] ?_)))))))
  by_cases hq7:(Ey 0 L.length (h+((k2:Nat):Int)))≠0
  ·have hx9:=Xep (bf:=(rblk 0 L)) (n:=L.length) (seq:=seq) (x:=x) (b:=b) (h:=h) (i:=i) h3 h4 h5 (by have h9:=Xjx hq7 (by omega);omega)
   refine cT (dT hq7) (sR [] (T.ret (rT (rB (rT (rT (rB (rT ?_))))))))
   refine eN ⟨(Zra L seq x b h i k2),[(Zqf d L),(Zqg L),Zql,(Zr5 L seq x b h i k2),(Zr6 L h k2),.live (.box 65 (Zrb L h k2))]⟩ ?_
   refine Xa (s':=⟨(Zra L seq x b h i k2),[(Zqf d L),(Zqg L),.live (.box 49 Zqr),(Zr5 L seq x b h i k2),(Zr6 L h k2),.live (.box 65 (Zrb L h k2))]⟩) (fun _ _ hG=>W1 (s:=⟨(Zra L seq x b h i k2),[(Zqf d L),(Zqg L),Zql,(Zr5 L seq x b h i k2),(Zr6 L h k2),.live (.box 65 (Zrb L h k2))]⟩) ⟨.inl rfl,(kk8 pZ25)⟩ (kk2 ⟨pq,⟨.inl rfl,(kk2 trivial)⟩⟩) hG) ?_
   exact eX [.c 12 2 49 0 49 [dI 0,Zqn,Zqo,Zqp,dI 0,dI 0,Zqo,dI 0,dI 0,Zqq] (.agg Zqr),.t 13 (.one (dI 4))] ⟨⟨rfl,rfl,by kernel_rfl,by kernel_rfl,.inl ⟨10,J0,rfl,Nat.le_of_ble_eq_true rfl⟩⟩,⟨⟨rfl,by kernel_rfl⟩,trivial⟩⟩ [0,1] pZ2 (ix (ix trivial))
  have hbi:=blk_in hq7
  refine cF (dF hq7) (T.skip (nT ?_))
  refine xD [[],[0],[],[2],[2,3],[0,1,2,3,4],[0,1,2,3,4,5],[0,1,2,3,4,5,6]] [hR 3 rfl rfl (rCa (X4o false (rblk 0 L (h+((k2:Nat):Int))) ‹_›) Tryz.func44 [] [(.tmp 76,.tv (.agg (Zrb L h k2)))] 0 0),hR 4 rfl rfl (Y7 6 69 (X6 false) (Vh false) [(Wn (rblk 0 L (h+((k2:Nat):Int))))] [⟨0,.tmp 77,.agg [dI (Zrc L h k2).X9,dS (Zrc L h k2).Xy,dI (Zrc L h k2).Ye,dS (Zrc L h k2).W4],0⟩] (cs:=[dI (Zrc L h k2).X9,dS (Zrc L h k2).Xy,dI (Zrc L h k2).Ye,dS (Zrc L h k2).W4]) Tryz.underlying41 Ik rfl X7k rfl rfl rfl pb (Ym rfl rfl pb W3) pZ4 (V2 pZ4) (X2 rfl) trivial),hR 5 rfl rfl (Yv 4 7 69 48 (X6 false) (Vh false) (hdrs (rblk 0 L) h k2) [(Wn (rblk 0 L (h+((k2:Nat):Int))))] ((hdrs (rblk 0 L) h k2)++[(Wn (rblk 0 L (h+((k2:Nat):Int))))]) (hdrs (rblk 0 L) h k2).length (sy:=(.own 6 (X6 false).sz 0 [(Zrc L h k2)].length)) (rhs:=[(6,.live (Xc 69 (X6 false) [(Zrc L h k2)]))]) X56 (by omega) (V0 6 69 (X6 false) [(Wn (rblk 0 L (h+((k2:Nat):Int))))]) px (by (simp [maxLen,-List.getD_eq_getElem?_getD]<;>omega)) (by (simp [maxLen,-List.getD_eq_getElem?_getD]<;>omega)) (X2 rfl) trivial)] pZ4 pZ4 pZ4 pZ4 pZ4 pZ4 ?_
  refine nB (nT (xK [hR 1 rfl rfl (Yb (u1:=.int .i64 (h+((k2:Nat):Int))) (u2:=.int .i64 1) (v:=.int .i64 ((h+((k2:Nat):Int))+1)) (Wb pZ9) (X2 rfl) ⟨rfl,trivial⟩)] ?_))
  refine nL (k2+1) ⟨(show (((k2+1):Nat):Int)≤seq-h+1 from (by omega)),(show (k2+1)=0∨h+(((k2+1):Nat):Int)≤((L.length:Nat):Int)+1 from (.inr (by omega)))⟩ (show ((seq-h+1).toNat-(k2+1):Nat)<(seq-h+1).toNat-k2 from (by omega)) (fun _ _ hG=>Wf [0,1,2,3,7] (bm 53 4503874506223679) (t1:=(Zrd seq x b h i k2)) (t2:=[pv 0 0,vI seq,(Zqe x),slV false false kU8 b,vI h,vI i,aa,aa,aa,aa,aa,aa,pv 2 0,vI 0,(Zqh b),aa,aa,(Zqi b),pv 3 0,vI ((h+((k2:Nat):Int))+1),aa,aa,aa,aa,aa,aa,aa,aa,aa,aa,aa,aa,aa,aa,aa,aa,aa,aa,(Zqt seq b),aa,aa,aa,aa,aa,aa,aa,aa,aa,aa,aa,aa,aa,(Zqx seq h)]) (h1:=[(Zqf d L),(Zqg L),Zql,.live (.box 49 [(Zr0 seq),(Zr1 x),(Zr2 b),.own 7 (X6 false).sz 0 (hdrs (rblk 0 L) h (k2+1)).length,dI i,dI 0,Zqk,dI 0,dI 0,Zqk]),.live (Xc 69 (X6 false) (hdrs (rblk 0 L) h (k2+1)))]) (h2:=[(Zqf d L),(Zqg L),Zql,.live (.box 49 [(Zr0 seq),(Zr1 x),(Zr2 b),.own 7 (X6 false).sz 0 ((hdrs (rblk 0 L) h k2)++[(Zrc L h k2)]).length,dI i,dI 0,Zqk,dI 0,dI 0,Zqk]),.live (Xc 69 (X6 false) ((hdrs (rblk 0 L) h k2)++[(Zrc L h k2)]))]) p1o (by have e1:((hdrs (rblk 0 L) h (k2+1)).length:Nat)=((hdrs (rblk 0 L) h k2)++[(Wn (rblk 0 L (h+((k2:Nat):Int))))]).length:=p4k;have e2:((hdrs (rblk 0 L) h (k2+1)):List Y6)=(hdrs (rblk 0 L) h k2)++[(Wn (rblk 0 L (h+((k2:Nat):Int))))]:=p4k;have hE:=congr (congrArg (fun (q1:Nat) (q2:List Y6)=>([(Zqf d L),(Zqg L),Zql,.live (.box 49 [(Zr0 seq),(Zr1 x),(Zr2 b),.own 7 (X6 false).sz 0 q1,dI i,dI 0,Zqk,dI 0,dI 0,Zqk]),.live (Xc 69 (X6 false) q2)]:List HS)) e1) e2;exact hE) hG)
 have hkn:((k2:Nat):Int)=seq-h+1:=(by omega);have h6:¬seq>((L.length:Nat):Int):=(by omega)
 refine cF (dF hq6) (T.exit (xT (xT (xH (nT (sR [hR 2 rfl rfl (rCa (X1i 0 d L h (by omega) ‹_› ‹_›) Tryz.func20 [0,1] [(.tmp 82,pv 0 0),(.tmp 83,vI h)] 2 2)] (sR [hR 2 rfl rfl (rCa (Xek false (rblk 0 L h) i ‹_›) Tryz.func45 [] [(.tmp 88,.tv (.agg (Zre L h))),(.tmp 89,vI i)] 0 0)] (T.seq (sR [] ?_)))))))))
 by_cases hq8:(J7 (rblk 0 L h) i)≠0
 ·have hx9:=Xj0 (bf:=(rblk 0 L)) (n:=L.length) (seq:=seq) (x:=x) (b:=b) (h:=h) (i:=i) h3 h4 h5 h6 hq8
  refine cT (dT hq8) (sR [] (T.ret (rT ?_)))
  refine eN ⟨(Zrf L seq x b h i k2),[(Zqf d L),(Zqg L),Zql,(Zr5 L seq x b h i k2),(Zr6 L h k2),.live (.box 65 (Zre L h))]⟩ ?_
  refine Xa (s':=⟨(Zrf L seq x b h i k2),[(Zqf d L),(Zqg L),.live (.box 49 Zqr),(Zr5 L seq x b h i k2),(Zr6 L h k2),.live (.box 65 (Zre L h))]⟩) (fun _ _ hG=>W1 (s:=⟨(Zrf L seq x b h i k2),[(Zqf d L),(Zqg L),Zql,(Zr5 L seq x b h i k2),(Zr6 L h k2),.live (.box 65 (Zre L h))]⟩) ⟨.inl rfl,(kk2 (kk4 (kk8 (X1z pZ25))))⟩ (kk2 ⟨pq,⟨.inl rfl,(kk2 trivial)⟩⟩) hG) ?_
  exact eX [.c 12 2 49 0 49 [dI 0,Zqn,Zqo,Zqp,dI 0,dI 0,Zqo,dI 0,dI 0,Zqq] (.agg Zqr),.t 13 (.one (dI (J7 (rblk 0 L h) i)))] ⟨⟨rfl,rfl,by kernel_rfl,by kernel_rfl,.inl ⟨10,J0,rfl,Nat.le_of_ble_eq_true rfl⟩⟩,⟨⟨rfl,by kernel_rfl⟩,trivial⟩⟩ [0,1] pZ2 (ix (ix trivial))
 have hx9:=prv_ok (bf:=(rblk 0 L)) (n:=L.length) (seq:=seq) (x:=x) (b:=b) (h:=h) (i:=i) h3 h4 h5 h6 hq8 hkn;obtain ⟨p1,p2,p3,p4,p5,p6,p7⟩:=Xcs (hfw h) (Classical.not_not.1 hq8)
 refine cF (dF hq8) (T.skip (nT (sR [] (sR [hR 3 rfl rfl (Wi false false (kE false) (rblk 0 L h).X7 (i).toNat (k:=.i64) (i:=i) Tryz.underlying37 Vv rfl (by omega) (by omega) (X2 rfl) trivial)] (sR [hR 3 rfl rfl (Wi false false (Xb false) (rblk 0 L h).Xf (i).toNat (k:=.i64) (i:=i) Tryz.underlying63 E0 rfl (by omega) (by omega) (X2 rfl) trivial)] (sR [] (T.ret ?_)))))))
 refine eN ⟨(Zrg L seq x b h i k2),[(Zqf d L),(Zqg L),(Zrl L seq x b h i k2),(Zrl L seq x b h i k2),(Zr6 L h k2),.live (.box 65 (Zre L h))]⟩ ?_
 refine Xa (s':=⟨(Zrg L seq x b h i k2),[(Zqf d L),(Zqg L),.live (.box 49 (Zrm L seq x b h i k2)),.live (.box 49 (Zrm L seq x b h i k2)),.dead,.live (.box 65 (Zre L h))]⟩) (fun _ _ hG=>Gs.freeze (s:=⟨(Zrg L seq x b h i k2),[(Zqf d L),(Zqg L),(Zrl L seq x b h i k2),(Zrl L seq x b h i k2),(Zr6 L h k2),.live (.box 65 (Zre L h))]⟩) 4 (el:=W5 (X6 false) (hdrs (rblk 0 L) h k2)) (sz:=(X6 false).sz) (n:=(hdrs (rblk 0 L) h k2).length) rfl ⟨.inl rfl,(kk2 (kk4 (kk8 (X1z pZ25))))⟩ ⟨pZ7,⟨pZ7,⟨pp,⟨pp,⟨(.inl ⟨rfl,rfl⟩),⟨pZ7,trivial⟩⟩⟩⟩⟩⟩ hG) ?_
 exact eX [.c 12 2 49 0 49 [(Zr0 seq),(Zr1 x),(Zr2 b),.d (dsl false false (X6 false) (hdrs (rblk 0 L) h k2)),dI i,(Zrh L h i),(Zri L h i),(Zrj L h i),(Zrk L h i),.d (dsl false false (X8 false) (H7 (rblk 0 L h) i))] (.agg (Zrm L seq x b h i k2)),.t 13 (.one (dI 0))] ⟨⟨rfl,rfl,by kernel_rfl,by kernel_rfl,.inl ⟨10,J0,rfl,Nat.le_of_ble_eq_true rfl⟩⟩,⟨⟨rfl,by kernel_rfl⟩,trivial⟩⟩ [0,1] pZ2 (ix (ix trivial))
end Go.Proofs.YtnaopgohccacmaaGreat.Q
namespace Go.Proofs.YtnaopgohccacmaaGreat.Q
set_option linter.unusedVariables false
set_option linter.unusedSimpArgs false
set_option maxRecDepth 100000
abbrev d9:List UInt8:=ofB 6 ([]:List (List UInt8))
theorem dig_len9 {b:Xn} (h:Hv b):(Hw (Wn b)).length≤b.Xy.length+26000:=by
  have h2:=Vo (Uo h)
  have h3:(Wn b).W4.length≤25400:=h2
  have h4:(Wn b).Xy=b.Xy:=rfl
  unfold Hw
  rw [Ei,sz4,Wd,Wd,h4]
  omega
theorem at_snoc9 (d:List UInt8) (L:List Xn) (b:Xn):atB d (L++[b]) (L++[b]).length=Hw (Wn b):=by
  unfold atB
  rw [if_neg (by simp),List.length_append,List.getD_eq_getElem?_getD,List.getElem?_append_right (by simp)]
  simp
def Is (i n:Nat):List aE:=(List.range n).map fun (k:Nat)=>⟨((1000+k:Nat):Int),[UInt8.ofNat i,UInt8.ofNat k]⟩
def Ir (i n:Nat):List Xw:=(List.range n).map fun (k:Nat)=>⟨0,((i+k:Nat):Int)⟩
theorem X8u (i n:Nat):Is i (n+1)=Is i n++[⟨((1000+n:Nat):Int),[UInt8.ofNat i,UInt8.ofNat n]⟩]:=by unfold Is;rw [List.range_succ,List.map_append];rfl
theorem X8t (i n:Nat):Ir i (n+1)=Ir i n++[⟨0,((i+n:Nat):Int)⟩]:=by unfold Ir;rw [List.range_succ,List.map_append];rfl
theorem X5u (i n:Nat):(Is i n).length=n:=by unfold Is;rw [List.length_map,List.length_range]
theorem X5t (i n:Nat):(Ir i n).length=n:=by unfold Ir;rw [List.length_map,List.length_range]
def Jy (b:Int):Int:=(Int.tmod b 5+5) % 5
theorem X2z (b:Int):0≤Jy b∧Jy b≤4:=by
  unfold Jy
  have h1:=Int.emod_nonneg (Int.tmod b 5+5) (b:=5) (by decide)
  have h2:=Int.emod_lt_of_pos (Int.tmod b 5+5) (b:=5) (by decide)
  omega
theorem tmod5 (a:Int):-5<a.tmod 5∧a.tmod 5<5:=by
  rcases Int.le_total 0 a with h|h
  · rw [Int.tmod_eq_emod_of_nonneg h];omega
  · have e:a.tmod 5=-((-a).tmod 5):=by rw [Int.neg_tmod,Int.neg_neg]
    rw [e,Int.tmod_eq_emod_of_nonneg (by omega)];omega
def I0 (L:List Xn) (i n:Nat):Xn:=⟨((i+1:Nat):Int),atB d9 L L.length,Is i n,Ir i n⟩
def Yy (bs:List Int):Nat→List Xn
  | 0=>[]
  | i+1=>Yy bs i++[I0 (Yy bs i) i (Jy (bs.getD i 0)).toNat]
theorem Jz (bs:List Int):∀ i,(Yy bs i).length=i
  | 0=>rfl
  | i+1=>by rw [Yy,List.length_append,Jz bs i];rfl
theorem X6b {L:List Xn} {i n:Nat} (hn:n≤4) (hL:(atB d9 L L.length).length≤10000000):Hv (I0 L i n):=by
  refine ⟨⟨by rw [show (I0 L i n).X7=Is i n from rfl,X5u];omega,fun e he=>?_⟩,by rw [show (I0 L i n).Xf=Ir i n from rfl,X5t];omega,hL⟩
  obtain ⟨k,_,rfl⟩:=List.mem_map.1 he
  show (2:Nat)≤500
  decide
theorem blk_chk9 {L:List Xn} {i n:Nat} (hn:n≤4) (hi:i≤1000000):Vd (I0 L i n)=0:=by
  have h1:(I0 L i n).X7.length=n:=X5u i n
  have h2:(I0 L i n).Xf.length=n:=X5t i n
  have h3:(I0 L i n).X9=((i+1:Nat):Int):=rfl
  unfold Vd
  rw [h1,h2,h3,if_neg (by omega),if_neg (by omega)]
theorem blk_rng9 {L:List Xn} {i n:Nat} (hn:n≤4) (hi:i≤1000000):Xhf (I0 L i n):=by
  refine ⟨show Wm ((i+1:Nat):Int) by unfold Wm;omega,fun e he=>?_,fun r hr=>?_⟩
  · obtain ⟨k,hk,rfl⟩:=List.mem_map.1 he
    have:=List.mem_range.1 hk
    show Wm ((1000+k:Nat):Int)
    unfold Wm;omega
  · obtain ⟨k,hk,rfl⟩:=List.mem_map.1 hr
    have:=List.mem_range.1 hk
    exact ⟨show Wm 0 by unfold Wm;decide,show Wm ((i+k:Nat):Int) by unfold Wm;omega⟩
theorem Fm (bs:List Int):∀ i,i≤100→(atB d9 (Yy bs i) (Yy bs i).length).length≤5000+26000*i∧X0a (Yy bs i)
  | 0,_=>⟨by show (ofB 6 ([]:List (List UInt8))).length≤_;decide +kernel,fun b hb=>by cases hb⟩
  | i+1,hi=>by
    obtain ⟨h1,h2⟩:=Fm bs i (by omega)
    have hc:=X2z (bs.getD i 0)
    have hf:Hv (I0 (Yy bs i) i (Jy (bs.getD i 0)).toNat):=X6b (by omega) (by omega)
    refine ⟨?_,fun b hb=>?_⟩
    · rw [Yy,at_snoc9]
      have h3:=dig_len9 hf
      have h4:(I0 (Yy bs i) i (Jy (bs.getD i 0)).toNat).Xy=atB d9 (Yy bs i) (Yy bs i).length:=rfl
      rw [h4] at h3
      omega
    · rw [Yy] at hb
      rcases List.mem_append.1 hb with hb|hb
      · exact h2 b hb
      · rw [List.mem_singleton] at hb;rw [hb];exact hf
theorem Xhr (L:List Xn) (b:Xn):Yx (L++[b])=Yx L++[lnk b]:=by unfold Yx;rw [List.map_append];rfl
theorem app_chn9 {bs:List Int} {i:Nat} (hi:i≤100):X0v 0 d9 (Yx (Yy bs i)) (I0 (Yy bs i) i (Jy (bs.getD i 0)).toNat)=Yx (Yy bs (i+1))∧Hi 0 d9 (Yy bs i) (I0 (Yy bs i) i (Jy (bs.getD i 0)).toNat)=Yy bs (i+1):=by
  have hc:=X2z (bs.getD i 0)
  have hl:=Jz bs i
  have h1:¬Vd (I0 (Yy bs i) i (Jy (bs.getD i 0)).toNat)≠0:=fun q=>q (blk_chk9 (by omega) (by omega))
  have h2:(I0 (Yy bs i) i (Jy (bs.getD i 0)).toNat).X9=((i+1:Nat):Int):=rfl
  refine ⟨?_,(X7t h1 (by rw [h2,hl];omega) (fun q=>q rfl)).2⟩
  rw [(Xab h1 (by rw [h2,Jg,hl];omega) (by rw [X9t];exact fun q=>q rfl)).2,Yy,Xhr]
abbrev chL (c:Xs):List Xn:=Yy c.X4 c.X4.length
def Jn (c:Xs):List UInt8:=Jf ((c.X4.length:Nat):Int) (atB d9 (chL c) (chL c).length) c.Vq
def X7w:List UInt8:=[97,110,111,116,104,101,114,32,111,110,101]
def ckD9 (c:Xs):List UInt8:=if c.Us=true then X7w else ofB 7 [Jn c]
def Vx (c:Xs):aM:=⟨5,0,max 1 ((c.X4.length:Nat):Int),0,0,ckD9 c,[],Ya,[],[],[]⟩
def votE9 (c:Xs) (s:Int):aE:=⟨s,Jm (Vx c)⟩
def J1 (c:Xs) (k:Nat):List aE:=(c.Y3.take k).map (votE9 c)
def Ux (f u:Int) (c:Xs):Nat→List aE
  | 0=>[]
  | k+1=>Hy f u (Ux f u c k) (c.Y3.getD k 0) (Jm (Vx c))
theorem Xb2 {c:Xs} {k:Nat} (hk:k<c.Y3.length):J1 c (k+1)=J1 c k++[votE9 c (c.Y3.getD k 0)]:=by unfold J1;rw [Uf (z:=0) hk,List.map_append];rfl
theorem X89 {c:Xs} {k:Nat} (hk:k≤c.Y3.length):(J1 c k).length=k:=by unfold J1;rw [List.length_map,List.length_take];omega
theorem X5i (f u:Int) (c:Xs):∀ k,(Ux f u c k).length≤k
  | 0=>Nat.le_refl _
  | k+1=>by have:=Xkc f u (Ux f u c k) (c.Y3.getD k 0) (Jm (Vx c));have:=X5i f u c k;rw [Ux];omega
def Vj (c:Xs):Prop:=c.X4.length≤20∧c.Vq.length≤500∧c.Y3.length≤12
instance (c:Xs):Decidable (Vj c):=inferInstanceAs (Decidable (_∧_∧_))
theorem E2 {c:Xs} (h:Vj c):(Jn c).length≤600000:=by
  have h1:(atB d9 (chL c) (chL c).length).length≤5000+26000*c.X4.length:=(Fm c.X4 c.X4.length (by have:=h.1;omega)).1
  have h2:=h.1
  have h3:=h.2.1
  unfold Jn
  rw [Xet]
  omega
theorem Xg8 {c:Xs} (h:Vj c):(ckD9 c).length≤700000:=by
  unfold ckD9
  split
  · decide
  · rw [Ei]
    have h1:=E2 h
    show 5+(4+(Jn c).length)≤_
    omega
theorem Xa3 {c:Xs} (h:Vj c):(Y4 (Vx c) 9).length≤800000:=by
  have e:=Xi0 (Vx c)
  have e1:(Vx c).Xe=ckD9 c:=rfl
  have e2:(Vx c).Xd=[]:=rfl
  have e3:(V5 (Vx c).Xt).length=4:=rfl
  have e4:(V5 (Vx c).Y8).length=4:=rfl
  have e5:(H4 (Vx c).X5).length=4:=rfl
  rw [e1,e2,e3,e4,e5,List.length_nil] at e
  have:=Xg8 h
  omega
theorem Xg9 {c:Xs} (h:Vj c):(Jm (Vx c)).length≤800000:=by
  unfold Jm
  split
  · exact Xa3 h
  · simp
def rngW (c:Xs):Prop:=∀ s,s∈c.Y3→Wm s
theorem X7m {c:Xs} (h:Vj c) (hr:rngW c) {k:Nat}:X1t (J1 c k):=⟨by
  unfold J1;rw [List.length_map,List.length_take];have:=h.2.2;omega,fun e he=>by
  obtain ⟨s,hs,rfl⟩:=List.mem_map.1 he
  exact ⟨hr s (List.mem_of_mem_take hs),Nat.le_trans (Xg9 h) (by decide)⟩⟩
end Go.Proofs.YtnaopgohccacmaaGreat.Q
namespace Go.Proofs.YtnaopgohccacmaaGreat.Q
open Go Go.RowKit
set_option linter.unusedVariables false
set_option linter.unusedSimpArgs false
set_option maxRecDepth 100000
set_option maxHeartbeats 4000000
theorem Xbo (c:Xs) (h0:c.X4.length≤9223372036854775807) (h1:c.Vq.length≤9223372036854775807) (h2:c.Y3.length≤9223372036854775807):Holds Tryz.prog 9 ⟨[.tv (.agg [.d (dsl false false (Yf .i64) c.X4),dU c.Vq,.d (dsl false false (Yf .i64) c.Y3),dB c.Us])],[],vB (decide (Vj c)),[]⟩:=by
 refine Holds.of Tryz.func9 rfl (N:=19) Tryz.ntmps9 rfl fun w0 B0 S0 U0=>?_
 show T _ (Y2 19 0 w0 S0 U0 B0) ⟨[.tv (.agg [.d (dsl false false (Yf .i64) c.X4),dU c.Vq,.d (dsl false false (Yf .i64) c.Y3),dB c.Us])],[]⟩ _ _
 refine sR [] ?_
 by_cases hq1:((c.X4.length:Nat):Int)≤20
 ·by_cases hq2:((c.Vq.length:Nat):Int)≤500
  ·refine sR (Xl (hY · (dT hq1)) [5,6,7,8] (hP 9 (dT hq1)::(Xl (hY · (dT hq2)) [11,12,13,14] (hP 15 (dT hq2)::[])))) (T.ret ?_)
   exact eRt 2 (.one (dB (decide (((c.Y3.length:Nat):Int)≤12)))) [] (cB (by exact decide_eq_decide.2 (by unfold Vj;omega))) trivial
  refine sR (Xl (hY · (dT hq1)) [5,6,7,8] (hP 9 (dT hq1)::(Xl (hN · true (dF hq2)) [11,12,13,14] (hP 15 (dF hq2)::[])))) (T.ret ?_)
  exact eRt 2 (.one (dB false)) [] (cB (by exact dF (by unfold Vj;omega))) trivial
 refine sR (Xl (hN · true (dF hq1)) [5,6,7,8] (hP 9 (dF hq1)::(Xl hN1 [11,12,13,14] (hP0 15::[])))) (T.ret ?_)
 exact eRt 2 (.one (dB false)) [] (cB (by exact dF (by unfold Vj;omega))) trivial
end Go.Proofs.YtnaopgohccacmaaGreat.Q
