import Derived.Test.YtnaopgohccacmaaGreatC19n36
namespace Go.Proofs.YtnaopgohccacmaaGreat.Q
open Go Go.RowKit
set_option linter.unusedVariables false
set_option linter.unusedSimpArgs false
set_option maxRecDepth 100000
set_option maxHeartbeats 4000000
end Go.Proofs.YtnaopgohccacmaaGreat.Q
namespace Go.Proofs.YtnaopgohccacmaaGreat.Q
set_option linter.unusedVariables false
set_option linter.unusedSimpArgs false
set_option maxRecDepth 100000
section
variable (C:aE→Int) (f seq:Int) (x:List aE) (b:List UInt8)
def s9E:Int:=if seq<1 then 2 else if stE C f seq x≠0 then stE C f seq x else if stD C f seq x≠ofB 7 [b] then 132 else if unE ((b.length:Nat):Int) b≠0∨unH ((b.length:Nat):Int) b≠seq then 12 else 0
def s9D:List UInt8:=if s9E C f seq x b=0 then unD ((b.length:Nat):Int) b else []
def s9S:List UInt8:=if s9E C f seq x b=0 then unS ((b.length:Nat):Int) b else []
end
section
variable {C:aE→Int} {f seq:Int} {x:List aE} {b:List UInt8}
theorem s9_of {n:Int} (h:s9E C f seq x b=n) (hn:n≠0):s9D C f seq x b=[]∧s9S C f seq x b=[]∧s9E C f seq x b=n:=⟨if_neg (by rw [h];exact hn),if_neg (by rw [h];exact hn),h⟩
theorem Xfr (h:seq<1):s9D C f seq x b=[]∧s9S C f seq x b=[]∧s9E C f seq x b=2:=s9_of (if_pos h) (by decide)
theorem s9_st (h:¬seq<1) (h1:stE C f seq x≠0):s9D C f seq x b=[]∧s9S C f seq x b=[]∧s9E C f seq x b=stE C f seq x:=s9_of ((if_neg h).trans (if_pos h1)) h1
theorem s9_dig (h:¬seq<1) (h1:¬stE C f seq x≠0) (h2:stD C f seq x≠ofB 7 [b]):s9D C f seq x b=[]∧s9S C f seq x b=[]∧s9E C f seq x b=132:=s9_of ((if_neg h).trans ((if_neg h1).trans (if_pos h2))) (by decide)
theorem X7p (h:¬seq<1) (h1:¬stE C f seq x≠0) (h2:¬stD C f seq x≠ofB 7 [b]) (h3:unE ((b.length:Nat):Int) b≠0∨unH ((b.length:Nat):Int) b≠seq):s9D C f seq x b=[]∧s9S C f seq x b=[]∧s9E C f seq x b=12:=s9_of ((if_neg h).trans ((if_neg h1).trans ((if_neg h2).trans (if_pos h3)))) (by decide)
theorem s9_ok (h:¬seq<1) (h1:¬stE C f seq x≠0) (h2:¬stD C f seq x≠ofB 7 [b]) (h3:¬unE ((b.length:Nat):Int) b≠0) (h4:¬unH ((b.length:Nat):Int) b≠seq):s9D C f seq x b=unD ((b.length:Nat):Int) b∧s9S C f seq x b=unS ((b.length:Nat):Int) b∧s9E C f seq x b=0:=by
  have e:s9E C f seq x b=0:=(if_neg h).trans ((if_neg h1).trans ((if_neg h2).trans (if_neg (fun q=>q.elim h3 h4))))
  exact ⟨if_pos e,if_pos e,e⟩
theorem s9_seq (h:s9E C f seq x b=0):¬seq<1:=fun q=>by rw [(Xfr (C:=C) (f:=f) (x:=x) (b:=b) q).2.2] at h;cases h
end
def F9 (l:List Yf) (d:List UInt8) (i:Nat):List UInt8:=if i+1<l.length then (l.getD (i+1) Xh).Y4 else d
def X7e (l:List Yf) (H:Int) (k:Nat):Prop:=∀ i,i<l.length→l.length-k≤i→(l.getD i Xh).Xg=H-(((l.length:Nat):Int)-1-((i:Nat):Int))
def En (l:List Yf) (d:List UInt8) (k:Nat):Prop:=∀ i,i<l.length→l.length-k≤i→Ii (l.getD i Xh)=F9 l d i
instance (l:List Yf) (H:Int) (k:Nat):Decidable (X7e l H k):=by unfold X7e;infer_instance
instance (l:List Yf) (d:List UInt8) (k:Nat):Decidable (En l d k):=by unfold En;infer_instance
def F1 (l:List Yf) (d:List UInt8) (k:Nat):Int:=if En l d k then 0 else 101
def X1w (l:List Yf) (H:Int) (d:List UInt8):Int:=if X7e l H l.length then F1 l d l.length else 100
section
variable {l:List Yf} {H:Int} {d:List UInt8} {k:Nat}
theorem hgt_0:X7e l H 0:=fun i h1 h2=>by omega
theorem dig_00:En l d 0:=fun i h1 h2=>by omega
theorem hgt_succ (hk:k<l.length) (h:X7e l H k) (h1:¬(l.getD (l.length-1-k) Xh).Xg≠H-((k:Nat):Int)):X7e l H (k+1):=fun i hi h2=>by
  by_cases q:l.length-k≤i
  · exact h i hi q
  · rw [show i=l.length-1-k by omega,Classical.not_not.1 h1];omega
theorem lnk_h (hk:k<l.length) (h1:(l.getD (l.length-1-k) Xh).Xg≠H-((k:Nat):Int)):X1w l H d=100:=if_neg fun q=>h1 (by rw [q (l.length-1-k) (by omega) (by omega)];omega)
theorem lnk_end (hk:l.length≤k) (hk2:k≤l.length) (h:X7e l H k):X1w l H d=F1 l d k:=by
  have e:k=l.length:=by omega
  subst e
  exact if_pos h
theorem Xew (h:F1 l d k≠0):F1 l d (k+1)=F1 l d k∧¬En l d (k+1):=by
  have hn:¬En l d k:=fun q=>h (if_pos q)
  have hn':¬En l d (k+1):=fun q=>hn fun i h1 h2=>q i h1 (by omega)
  exact ⟨by unfold F1;rw [if_neg hn,if_neg hn'],hn'⟩
theorem err_0 (h:¬F1 l d k≠0):En l d k:=Classical.byContradiction fun q=>h (by unfold F1;rw [if_neg q];decide)
theorem Xi5 {w:List UInt8} (hk:k<l.length) (hw:En l d k→k<l.length→w=F9 l d (l.length-1-k)) (h:¬F1 l d k≠0) (h1:Ii (l.getD (l.length-1-k) Xh)≠w):F1 l d (k+1)=101∧¬En l d (k+1):=by
  have hn:¬En l d (k+1):=fun q=>h1 (by rw [hw (err_0 h) hk,q (l.length-1-k) (by omega) (by omega)])
  exact ⟨if_neg hn,hn⟩
theorem err_good {w:List UInt8} (hk:k<l.length) (hw:En l d k→k<l.length→w=F9 l d (l.length-1-k)) (h:¬F1 l d k≠0) (h1:¬Ii (l.getD (l.length-1-k) Xh)≠w):F1 l d (k+1)=F1 l d k:=by
  have h0:=err_0 h
  have hn:En l d (k+1):=fun i hi h2=>by
    by_cases q:l.length-k≤i
    · exact h0 i hi q
    · rw [show i=l.length-1-k by omega,Classical.not_not.1 h1,hw h0 hk]
  unfold F1
  rw [if_pos hn,if_pos h0]
theorem nxt_end (hk:0<l.length):F9 l d (l.length-1-0)=d:=if_neg (by omega)
theorem nxt_prev (hk:k+1<l.length):F9 l d (l.length-1-(k+1))=(l.getD (l.length-1-k) Xh).Y4:=by
  unfold F9
  rw [if_pos (by omega),show l.length-1-(k+1)+1=l.length-1-k by omega]
theorem Xji (hk:k<l.length) (h1:(l.getD k Xh).Xg≠H-(((l.length:Nat):Int)-1-((k:Nat):Int))):X1w l H d=100:=if_neg fun q=>h1 (q k hk (by omega))
theorem Xee (hb:∀ i,i<k→(l.getD i Xh).Xg=H-(((l.length:Nat):Int)-1-((i:Nat):Int))) (hk:l.length≤k):X1w l H d=F1 l d l.length:=if_pos fun i hi _=>hb i (by omega)
theorem Xb8 (h:X1w l H d=F1 l d l.length) (hk:k<l.length) (h1:Ii (l.getD k Xh)≠F9 l d k):X1w l H d=101:=h.trans (if_neg fun q=>h1 (q k hk (by omega)))
theorem Xjj (h:X1w l H d=F1 l d l.length) (hb:∀ i,i<k→Ii (l.getD i Xh)=F9 l d i) (hk:l.length≤k):X1w l H d=0:=h.trans (if_pos fun i hi _=>hb i (by omega))
theorem nxt_in (h:k+1<l.length):F9 l d k=(l.getD (k+1) Xh).Y4:=if_pos h
theorem nxt_last (h:¬k+1<l.length):F9 l d k=d:=if_neg h
end
def okHs (l:List Yf):Prop:=∀ h,h∈l→h.Y4.length≤10000000∧h.W2.length≤10000000∧h.Yg≤9223372036854775807∧X24 h.Xg
def okC9 (c:Wo):Prop:=X0l c.Xv∧c.Xa.length≤100000000∧okHs c.X0∧c.X0.length≤100000∧Jp szS 70 30000 c.Yv∧c.Xs.Xf.length≤500∧X24 c.Xo
theorem X4s {l:List Yf} (h:okHs l) (k:Nat):(l.getD k Xh).Y4.length≤10000000∧(l.getD k Xh).W2.length≤10000000∧(l.getD k Xh).Yg≤9223372036854775807∧X24 (l.getD k Xh).Xg:=by
  by_cases hk:k<l.length
  · exact h _ (J5 hk)
  · rw [List.getD_eq_getElem?_getD,List.getElem?_eq_none (by omega)]
    exact ⟨by decide,by decide,by decide,by unfold X24;decide⟩
def inc9 (c:Wo):Int:=Jc (c.X0.getD 0 Xh).W2 (V6 c.Xs c.X1) c.J6 (c.X0.getD 0 Xh).Yg c.Yv
def c9E (C:aE→Int) (f:Int) (c:Wo):Int:=if s9E C f c.Xo c.Xv c.Xa≠0 then s9E C f c.Xo c.Xv c.Xa else if c.X0.length=0∨1000<c.X0.length then 90 else if X1w c.X0 c.Xo (s9D C f c.Xo c.Xv c.Xa)≠0 then X1w c.X0 c.Xo (s9D C f c.Xo c.Xv c.Xa) else inc9 c
section
variable {C:aE→Int} {f:Int} {c:Wo}
theorem c9_s (h:s9E C f c.Xo c.Xv c.Xa≠0):c9E C f c=s9E C f c.Xo c.Xv c.Xa:=if_pos h
theorem c9_n (h:¬s9E C f c.Xo c.Xv c.Xa≠0) (h1:c.X0.length=0∨1000<c.X0.length):c9E C f c=90:=(if_neg h).trans (if_pos h1)
theorem c9_l (h:¬s9E C f c.Xo c.Xv c.Xa≠0) (h1:¬(c.X0.length=0∨1000<c.X0.length)) (h2:X1w c.X0 c.Xo (s9D C f c.Xo c.Xv c.Xa)≠0):c9E C f c=X1w c.X0 c.Xo (s9D C f c.Xo c.Xv c.Xa):=(if_neg h).trans ((if_neg h1).trans (if_pos h2))
theorem c9_i (h:¬s9E C f c.Xo c.Xv c.Xa≠0) (h1:¬(c.X0.length=0∨1000<c.X0.length)) (h2:¬X1w c.X0 c.Xo (s9D C f c.Xo c.Xv c.Xa)≠0):c9E C f c=inc9 c:=(if_neg h).trans ((if_neg h1).trans (if_neg h2))
end
def hdrs (bf:Int→Xq) (h:Int) (k:Nat):List Yf:=(List.range k).map fun (t:Nat)=>Ws (bf (h+((t:Nat):Int)))
theorem Xjk (bf:Int→Xq) (h:Int) (k:Nat):hdrs bf h (k+1)=hdrs bf h k++[Ws (bf (h+((k:Nat):Int)))]:=by unfold hdrs;rw [List.range_succ,List.map_append];rfl
theorem X9m (bf:Int→Xq) (h:Int) (k:Nat):(hdrs bf h k).length=k:=by unfold hdrs;rw [List.length_map,List.length_range]
def Hd (bf:Int→Xq) (h:Int) (k:Nat):Xq:=if k=0 then Yz else bf h
theorem frs_0 {bf:Int→Xq} {h:Int} {k:Nat} (hk:h+((k:Nat):Int)=h):Hd bf h (k+1)=bf (h+((k:Nat):Int)):=by rw [hk];exact if_neg (by omega)
theorem frs_s {bf:Int→Xq} {h:Int} {k:Nat} (hk:¬h+((k:Nat):Int)=h):Hd bf h (k+1)=Hd bf h k:=by unfold Hd;rw [if_neg (by omega),if_neg (by omega)]
theorem frs_pos {bf:Int→Xq} {h:Int} {k:Nat} (hk:0<k):Hd bf h k=bf h:=if_neg (by omega)
section
variable (bf:Int→Xq) (n:Nat) (seq:Int) (x:List aE) (b:List UInt8) (h i:Int)
def X3s:Int:=if unE ((b.length:Nat):Int) b≠0∨unH ((b.length:Nat):Int) b≠seq then 12 else if h<1∨h>seq∨seq-h>999 then 2 else if seq>((n:Nat):Int) then 4 else Je (bf h) i
def J1:Wo:=if X3s bf n seq b h i=0 then ⟨seq,x,b,hdrs bf h (seq-h+1).toNat,i,(bf h).X9.getD i.toNat zE,(bf h).Xl.getD i.toNat Ym,Iz (bf h) i⟩ else I5
end
section
variable {bf:Int→Xq} {n:Nat} {seq:Int} {x:List aE} {b:List UInt8} {h i:Int}
theorem Xc6 {e:Int} (q:X3s bf n seq b h i=e) (he:e≠0):J1 bf n seq x b h i=I5∧X3s bf n seq b h i=e:=⟨if_neg (by rw [q];exact he),q⟩
theorem X4q (q:unE ((b.length:Nat):Int) b≠0∨unH ((b.length:Nat):Int) b≠seq):J1 bf n seq x b h i=I5∧X3s bf n seq b h i=12:=Xc6 (if_pos q) (by decide)
theorem X2o (q1:¬unE ((b.length:Nat):Int) b≠0) (q2:¬unH ((b.length:Nat):Int) b≠seq) (q:h<1∨h>seq∨seq-h>999):J1 bf n seq x b h i=I5∧X3s bf n seq b h i=2:=Xc6 ((if_neg (fun w=>w.elim q1 q2)).trans (if_pos q)) (by decide)
theorem Xdy (q1:¬unE ((b.length:Nat):Int) b≠0) (q2:¬unH ((b.length:Nat):Int) b≠seq) (q:¬(h<1∨h>seq∨seq-h>999)) (q3:seq>((n:Nat):Int)):J1 bf n seq x b h i=I5∧X3s bf n seq b h i=4:=Xc6 ((if_neg (fun w=>w.elim q1 q2)).trans ((if_neg q).trans (if_pos q3))) (by decide)
theorem Xhk (q1:¬unE ((b.length:Nat):Int) b≠0) (q2:¬unH ((b.length:Nat):Int) b≠seq) (q:¬(h<1∨h>seq∨seq-h>999)) (q3:¬seq>((n:Nat):Int)) (q4:Je (bf h) i≠0):J1 bf n seq x b h i=I5∧X3s bf n seq b h i=Je (bf h) i:=Xc6 ((if_neg (fun w=>w.elim q1 q2)).trans ((if_neg q).trans (if_neg q3))) q4
theorem prv_ok (q1:¬unE ((b.length:Nat):Int) b≠0) (q2:¬unH ((b.length:Nat):Int) b≠seq) (q:¬(h<1∨h>seq∨seq-h>999)) (q3:¬seq>((n:Nat):Int)) (q4:¬Je (bf h) i≠0) {k:Nat} (hk:((k:Nat):Int)=seq-h+1):J1 bf n seq x b h i=⟨seq,x,b,hdrs bf h k,i,(bf h).X9.getD i.toNat zE,(bf h).Xl.getD i.toNat Ym,Iz (bf h) i⟩∧X3s bf n seq b h i=0:=by
  have e:X3s bf n seq b h i=0:=(if_neg (fun w=>w.elim q1 q2)).trans ((if_neg q).trans ((if_neg q3).trans (Classical.not_not.1 q4)))
  refine ⟨(if_pos e).trans ?_,e⟩
  rw [← hk];rfl
end
theorem un_rng {M:Int} {b:List UInt8} (h:¬unE M b≠0):0≤unH M b∧unH M b≤1099511627776:=by
  have h:=Classical.not_not.1 h
  unfold unE at h
  unfold unH
  split at h
  · rename_i q;rw [if_pos q];exact ⟨q.2.1,q.2.2⟩
  · cases h
theorem blk_in {n:Nat} {x:Int} (h:¬X10 0 n x≠0):1≤x∧x≤((n:Nat):Int):=by
  have h:=Classical.not_not.1 h
  unfold X10 at h
  split at h
  · rename_i q;obtain ⟨q1,q2⟩:=q;omega
  · cases h
theorem Xif {n:Nat} {x:Int} (h:X10 0 n x≠0) (hx:1≤x):x>((n:Nat):Int):=by
  refine Classical.byContradiction fun q=>h (if_pos ⟨by omega,by omega⟩)
theorem blk_few {l:Links} (hw:Xbj l) (x:Int):Hm (W0 0 l x):=by
  unfold W0;split
  · exact Xbi hw _
  · decide
theorem rblk_few {L:List Xq} (hw:X04 L) (x:Int):Hm (rblk 0 L x):=by
  unfold rblk;split
  · exact X68 hw _
  · decide
theorem blk_fun (L:List Xq):W0 0 (W1 L)=rblk 0 L:=funext fun x=>Xk0 0 L x
end Go.Proofs.YtnaopgohccacmaaGreat.Q
namespace Go.Proofs.YtnaopgohccacmaaGreat.Q
open Go Go.RowKit
set_option linter.unusedVariables false
set_option linter.unusedSimpArgs false
set_option maxRecDepth 100000
set_option maxHeartbeats 4000000
section
variable (f:Int) (u:Int) (rows:List (Yn×Bool)) (seq:Int) (tx:Bool) (nx:Bool) (sx:Bool) (x:List aE) (tb:Bool) (nb:Bool) (b:List UInt8)
abbrev Zmo:AV:=slV tx nx (kE sx) x
abbrev Zmp:List HS:=[.live (.box 130 [dI (3*f+1),dI u,.mref 1]),.live (mpK Y0 Yc rows)]
abbrev Zmq:AV:=vB (decide (seq<1))
abbrev Zmr:AV:=slV false false kU8 ([]:List UInt8)
abbrev Zms:TV:=.one (dS [])
abbrev Zmt:TV:=.one (dU ([]:List UInt8))
abbrev Zmu:AV:=vB (decide ((stD (Xz f u rows) f seq x)≠(ofB 7 [b])))
abbrev Zmv:St:=⟨[pv 0 0,vI seq,(Zmo tx nx sx x),slV tb nb kU8 b,aa,aa,aa,aa,dv (Yh []),dv (.slice none 0 0),vI 132,dv (Yh (stD (Xz f u rows) f seq x)),vI 132,aa,aa,aa,aa,(Zmq seq),aa,aa,aa,aa,aa,aa,aa,aa,aa,aa,aa,aa,aa,aa,(Zmu f u rows seq x b),aa,vB true],(Zmp f u rows)⟩
abbrev Zmw:AV:=vI (unE ((b.length:Nat):Int) b)
abbrev Zmx:AV:=vI (unH ((b.length:Nat):Int) b)
abbrev Zmy:AV:=dv (Yh (unD ((b.length:Nat):Int) b))
abbrev Zmz:AV:=slV false false kU8 (unS ((b.length:Nat):Int) b)
abbrev Zn0:AV:=vB (decide ((stE (Xz f u rows) f seq x)≠0))
abbrev Zn1:St:=⟨[pv 0 0,vI seq,(Zmo tx nx sx x),slV tb nb kU8 b,aa,aa,aa,aa,dv (Yh []),dv (.slice none 0 0),vI 12,dv (Yh (stD (Xz f u rows) f seq x)),(Zmw b),(Zmx b),(Zmy b),(Zmz b),aa,(Zmq seq),aa,aa,aa,aa,aa,aa,aa,aa,aa,aa,aa,aa,aa,aa,(Zmu f u rows seq x b),aa,(Zn0 f u rows seq x),aa,aa,aa,aa,aa,aa,aa,aa,aa,aa,aa,aa,aa,aa,vB true],(Zmp f u rows)⟩
abbrev Zn2:St:=⟨[pv 0 0,vI seq,(Zmo tx nx sx x),slV tb nb kU8 b,aa,aa,aa,aa,dv (Yh []),dv (.slice none 0 0),vI 12,dv (Yh (stD (Xz f u rows) f seq x)),(Zmw b),(Zmx b),(Zmy b),(Zmz b),aa,(Zmq seq),aa,aa,aa,aa,aa,aa,aa,aa,aa,aa,aa,aa,aa,aa,(Zmu f u rows seq x b),aa,(Zn0 f u rows seq x),aa,aa,aa,aa,aa,aa,aa,aa,aa,aa,aa,aa,aa,aa,vB (decide ((unH ((b.length:Nat):Int) b)≠seq))],(Zmp f u rows)⟩
abbrev Zn3:St:=⟨[pv 0 0,vI seq,(Zmo tx nx sx x),slV tb nb kU8 b,aa,aa,aa,aa,dv (Yh []),dv (.slice none 0 0),vI (stE (Xz f u rows) f seq x),dv (Yh (stD (Xz f u rows) f seq x)),vI (stE (Xz f u rows) f seq x),aa,aa,aa,aa,(Zmq seq),aa,aa,aa,aa,aa,aa,aa,aa,aa,aa,aa,aa,aa,aa,vB false,aa,(Zn0 f u rows seq x)],(Zmp f u rows)⟩
end
theorem X1x (f:Int) (u:Int) (rows:List (Yn×Bool)) (seq:Int) (tx:Bool) (nx:Bool) (sx:Bool) (x:List aE) (tb:Bool) (nb:Bool) (b:List UInt8) (hf:0≤f∧f≤2) (hu:0≤u∧u≤8) (hx:X0l x) (hb:b.length≤100000000) (hi:-9223372036854775808≤seq∧seq≤9223372036854775807):Holds Tryz.prog 22 ⟨[pv 0 0,vI seq,slV tx nx (kE sx) x,slV tb nb kU8 b],[.box 130 [dI (3*f+1),dI u,.mref 1],mpK Y0 Yc rows],.tup [.one (dS (s9D (Xz f u rows) f seq x b)),.one (dU (s9S (Xz f u rows) f seq x b)),.one (dI (s9E (Xz f u rows) f seq x b))],[.live (.box 130 [dI (3*f+1),dI u,.mref 1]),.live (mpK Y0 Yc rows)]⟩:=by
 refine Holds.of Tryz.func22 rfl (N:=52) Tryz.ntmps22 rfl fun w0 B0 S0 U0=>?_
 show T _ (Y2 52 2 w0 S0 U0 B0) ⟨[pv 0 0,vI seq,(Zmo tx nx sx x),slV tb nb kU8 b],(Zmp f u rows)⟩ _ _
 have hun:=Xfn (b:=b) (M:=((b.length:Nat):Int)) (M':=1099511627776) (Int.le_refl _) (by omega)
 obtain ⟨hun1,hun2,hun3,hun4⟩:=hun
 refine sR [] ?_
 refine T.seq ?_
 refine sR [] ?_
 by_cases hq1:seq<1
 ·have hx9:=Xfr (C:=(Xz f u rows)) (f:=f) (x:=x) (b:=b) hq1
  refine cT (dT hq1) ?_
  refine sR [] ?_
  refine T.ret (rT ?_)
  refine eN ⟨[pv 0 0,vI seq,(Zmo tx nx sx x),slV tb nb kU8 b,aa,aa,aa,aa,dv (Yh []),dv (.slice none 0 0),vI 2,aa,aa,aa,aa,aa,aa,(Zmq seq)],(Zmp f u rows)⟩ ?_
  refine Xc (s':=⟨[pv 0 0,vI seq,(Zmo tx nx sx x),slV tb nb kU8 b,aa,aa,aa,aa,dv (Yh []),Zmr,vI 2,aa,aa,aa,aa,aa,aa,(Zmq seq)],(Zmp f u rows)⟩) (fun _ _ hG=>Ys (s:=⟨[pv 0 0,vI seq,(Zmo tx nx sx x),slV tb nb kU8 b,aa,aa,aa,aa,dv (Yh []),dv (.slice none 0 0),vI 2,aa,aa,aa,aa,aa,aa,(Zmq seq)],(Zmp f u rows)⟩) ⟨.inl rfl,(kk8 ⟨pZ5,(kk8 trivial)⟩)⟩ (kk2 trivial) hG) ?_
  exact eX [.t 8 (Zms),.t 9 (Zmt),.t 10 (.one (dI 2))] ⟨⟨rfl,by kernel_rfl⟩,⟨⟨rfl,by kernel_rfl⟩,⟨⟨rfl,by kernel_rfl⟩,trivial⟩⟩⟩ [0,1] (cg3 (fun (q1:List UInt8) (q2:List UInt8) (q3:Int)=>(.tup [.one (dS q1),.one (dU q2),.one (dI q3)]:AV)) p2a p3j p3o) (ix (ix trivial))
 have h0:=hq1
 refine cF (dF hq1) ?_
 refine T.skip (nT ?_)
 refine sR [hR 3 rfl rfl (rCa (Xfa f u rows seq tx nx sx x ‹_› ‹_› ‹_›) Tryz.func59 [0,1] [(.tmp 19,pv 0 0),(.tmp 20,vI seq),(.tmp 21,(Zmo tx nx sx x))] 2 2)] ?_
 refine T.seq ?_
 by_cases hq2:(stE (Xz f u rows) f seq x)=0
 rotate_left
 ·have hx9:=s9_st (b:=b) h0 hq2
  refine sR (Xm (hN · true (dF hq2)) [3,4,5,6] (hP 7 (dF hq2)::[])) ?_
  refine cF (b:=false) rfl ?_
  refine T.skip (nT (T.seq ?_))
  refine sR [] ?_
  by_cases hq7:(stE (Xz f u rows) f seq x)≠0
  ·have hx9:=s9_st (b:=b) h0 hq7
   refine cT (dT hq7) ?_
   refine sR [] ?_
   refine T.ret (rT ?_)
   refine eN (Zn3 f u rows seq tx nx sx x tb nb b) ?_
   refine Xc (s':=⟨[pv 0 0,vI seq,(Zmo tx nx sx x),slV tb nb kU8 b,aa,aa,aa,aa,dv (Yh []),Zmr,vI (stE (Xz f u rows) f seq x),dv (Yh (stD (Xz f u rows) f seq x)),vI (stE (Xz f u rows) f seq x),aa,aa,aa,aa,(Zmq seq),aa,aa,aa,aa,aa,aa,aa,aa,aa,aa,aa,aa,aa,aa,vB false,aa,(Zn0 f u rows seq x)],(Zmp f u rows)⟩) (fun _ _ hG=>Ys (s:=(Zn3 f u rows seq tx nx sx x tb nb b)) ⟨.inl rfl,(kk8 ⟨pZ5,⟨.inl rfl,p2w⟩⟩)⟩ (kk2 trivial) hG) ?_
   exact eX [.t 8 (Zms),.t 9 (Zmt),.t 10 (.one (dI (stE (Xz f u rows) f seq x)))] ⟨⟨rfl,by kernel_rfl⟩,⟨⟨rfl,by kernel_rfl⟩,⟨⟨rfl,by kernel_rfl⟩,trivial⟩⟩⟩ [0,1] (cg3 (fun (q1:List UInt8) (q2:List UInt8) (q3:Int)=>(.tup [.one (dS q1),.one (dU q2),.one (dI q3)]:AV)) p2a p3j p3o) (ix (ix trivial))
  exact absurd hq2 hq7
 have h1:¬stE (Xz f u rows) f seq x≠0:=fun w=>w hq2
 refine sR [hY 3 (dT hq2),hY 4 (dT hq2),hS 5 (oY rfl rfl rfl rfl (X3 rfl) (dT hq2) (rCa (Xeg tb nb b (by omega)) Tryz.func60 [] [(.tmp 29,slV tb nb kU8 b)] 0 0)),hY 6 (dT hq2),hP 7 (dT hq2)] ?_
 by_cases hq3:(stD (Xz f u rows) f seq x)≠(ofB 7 [b])
 ·have hx9:=s9_dig h0 h1 hq3
  refine cT (dT hq3) ?_
  refine xK [] ?_
  refine nT (T.seq ?_)
  refine sR [] ?_
  refine cT (b:=true) rfl ?_
  refine sR [] ?_
  refine T.ret (rT ?_)
  refine eN (Zmv f u rows seq tx nx sx x tb nb b) ?_
  refine Xc (s':=⟨[pv 0 0,vI seq,(Zmo tx nx sx x),slV tb nb kU8 b,aa,aa,aa,aa,dv (Yh []),Zmr,vI 132,dv (Yh (stD (Xz f u rows) f seq x)),vI 132,aa,aa,aa,aa,(Zmq seq),aa,aa,aa,aa,aa,aa,aa,aa,aa,aa,aa,aa,aa,aa,(Zmu f u rows seq x b),aa,vB true],(Zmp f u rows)⟩) (fun _ _ hG=>Ys (s:=(Zmv f u rows seq tx nx sx x tb nb b)) ⟨.inl rfl,(kk8 ⟨pZ5,⟨.inl rfl,p2w⟩⟩)⟩ (kk2 trivial) hG) ?_
  exact eX [.t 8 (Zms),.t 9 (Zmt),.t 10 (.one (dI 132))] ⟨⟨rfl,by kernel_rfl⟩,⟨⟨rfl,by kernel_rfl⟩,⟨⟨rfl,by kernel_rfl⟩,trivial⟩⟩⟩ [0,1] (cg3 (fun (q1:List UInt8) (q2:List UInt8) (q3:Int)=>(.tup [.one (dS q1),.one (dU q2),.one (dI q3)]:AV)) p2a p3j p3o) (ix (ix trivial))
 have h2:=hq3
 refine cF (dF hq3) ?_
 refine T.skip (nT (T.seq ?_))
 refine sR [] ?_
 by_cases hq4:(stE (Xz f u rows) f seq x)≠0
 ·exact absurd hq2 hq4
 have h1:=hq4
 refine cF (dF hq4) ?_
 refine T.skip (nT ?_)
 refine sR [hR 1 rfl rfl (rCa (X3c tb nb b ‹_›) Tryz.func50 [] [(.tmp 37,slV tb nb kU8 b)] 0 0)] ?_
 refine T.seq ?_
 by_cases hq5:(unE ((b.length:Nat):Int) b)≠0
 ·have h3:=hq5;have hx9:=X7p h0 h1 h2 (.inl h3)
  refine sR (Xm (hN · false (dT hq5)) [3,4,5] (hP 6 (dT hq5)::[])) ?_
  refine cT (b:=true) rfl ?_
  refine sR [] ?_
  refine T.ret (rT ?_)
  refine eN (Zn1 f u rows seq tx nx sx x tb nb b) ?_
  refine Xc (s':=⟨[pv 0 0,vI seq,(Zmo tx nx sx x),slV tb nb kU8 b,aa,aa,aa,aa,dv (Yh []),Zmr,vI 12,dv (Yh (stD (Xz f u rows) f seq x)),(Zmw b),(Zmx b),(Zmy b),(Zmz b),aa,(Zmq seq),aa,aa,aa,aa,aa,aa,aa,aa,aa,aa,aa,aa,aa,aa,(Zmu f u rows seq x b),aa,(Zn0 f u rows seq x),aa,aa,aa,aa,aa,aa,aa,aa,aa,aa,aa,aa,aa,aa,vB true],(Zmp f u rows)⟩) (fun _ _ hG=>Ys (s:=(Zn1 f u rows seq tx nx sx x tb nb b)) ⟨.inl rfl,(kk8 ⟨pZ5,p3u⟩)⟩ (kk2 trivial) hG) ?_
  exact eX [.t 8 (Zms),.t 9 (Zmt),.t 10 (.one (dI 12))] ⟨⟨rfl,by kernel_rfl⟩,⟨⟨rfl,by kernel_rfl⟩,⟨⟨rfl,by kernel_rfl⟩,trivial⟩⟩⟩ [0,1] (cg3 (fun (q1:List UInt8) (q2:List UInt8) (q3:Int)=>(.tup [.one (dS q1),.one (dU q2),.one (dI q3)]:AV)) p2a p3j p3o) (ix (ix trivial))
 have h3:=hq5; 
 refine sR (Xm (hY · (dF hq5)) [3,4,5] (hP 6 (dF hq5)::[])) ?_
 by_cases hq6:(unH ((b.length:Nat):Int) b)≠seq
 ·have h4:=hq6;have hx9:=X7p h0 h1 h2 (.inr h4)
  refine cT (dT hq6) ?_
  refine sR [] ?_
  refine T.ret (rT ?_)
  refine eN (Zn2 f u rows seq tx nx sx x tb nb b) ?_
  refine Xc (s':=⟨[pv 0 0,vI seq,(Zmo tx nx sx x),slV tb nb kU8 b,aa,aa,aa,aa,dv (Yh []),Zmr,vI 12,dv (Yh (stD (Xz f u rows) f seq x)),(Zmw b),(Zmx b),(Zmy b),(Zmz b),aa,(Zmq seq),aa,aa,aa,aa,aa,aa,aa,aa,aa,aa,aa,aa,aa,aa,(Zmu f u rows seq x b),aa,(Zn0 f u rows seq x),aa,aa,aa,aa,aa,aa,aa,aa,aa,aa,aa,aa,aa,aa,vB (decide ((unH ((b.length:Nat):Int) b)≠seq))],(Zmp f u rows)⟩) (fun _ _ hG=>Ys (s:=(Zn2 f u rows seq tx nx sx x tb nb b)) ⟨.inl rfl,(kk8 ⟨pZ5,p3u⟩)⟩ (kk2 trivial) hG) ?_
  exact eX [.t 8 (Zms),.t 9 (Zmt),.t 10 (.one (dI 12))] ⟨⟨rfl,by kernel_rfl⟩,⟨⟨rfl,by kernel_rfl⟩,⟨⟨rfl,by kernel_rfl⟩,trivial⟩⟩⟩ [0,1] (cg3 (fun (q1:List UInt8) (q2:List UInt8) (q3:Int)=>(.tup [.one (dS q1),.one (dU q2),.one (dI q3)]:AV)) p2a p3j p3o) (ix (ix trivial))
 have h4:=hq6;have hx9:=s9_ok h0 h1 h2 h3 h4
 refine cF (dF hq6) ?_
 refine T.skip (nT ?_)
 refine sR [] ?_
 refine T.ret ?_
 exact eX [.t 8 (.one (dS (unD ((b.length:Nat):Int) b))),.t 9 (.one (dU (unS ((b.length:Nat):Int) b))),.t 10 (.one (dI 0))] ⟨⟨rfl,by kernel_rfl⟩,⟨⟨rfl,by kernel_rfl⟩,⟨⟨rfl,by kernel_rfl⟩,trivial⟩⟩⟩ [0,1] (cg3 (fun (q1:List UInt8) (q2:List UInt8) (q3:Int)=>(.tup [.one (dS q1),.one (dU q2),.one (dI q3)]:AV)) p2a p3j p3o) (ix (ix trivial))
section
variable (f:Int) (u:Int) (l:List aE) (seq:Int) (x:List aE) (b:List UInt8)
abbrev Zn4:AV:=slV false false (kE false) x
abbrev Zn5:List HS:=[.live (.box 135 [dB true,dI f,dI u,.own 1 (kE false).sz 0 l.length]),.live (Xe 43 (kE false) l)]
abbrev Zn6:AV:=vB (decide (seq<1))
abbrev Zn7:List AV:=[pv 0 0,vI seq,(Zn4 x),slV false false kU8 b,aa,aa,aa,aa,dv (Yh []),dv (.slice none 0 0),vI 2,aa,aa,aa,aa,aa,aa,(Zn6 seq)]
abbrev Zn8:AV:=slV false false kU8 ([]:List UInt8)
abbrev Zn9:TV:=.one (dS [])
abbrev Zna:TV:=.one (dU ([]:List UInt8))
abbrev Znb:AV:=vB (decide ((stE (Xu f u l) f seq x)≠0))
abbrev Znc:St:=⟨[pv 0 0,vI seq,(Zn4 x),slV false false kU8 b,aa,aa,aa,aa,dv (Yh []),dv (.slice none 0 0),vI (stE (Xu f u l) f seq x),dv (Yh (stD (Xu f u l) f seq x)),vI (stE (Xu f u l) f seq x),aa,aa,aa,aa,(Zn6 seq),aa,aa,aa,aa,aa,aa,aa,aa,(Znb f u l seq x)],(Zn5 f u l)⟩
abbrev Znd:AV:=vB (decide ((stD (Xu f u l) f seq x)≠(ofB 7 [b])))
abbrev Zne:St:=⟨[pv 0 0,vI seq,(Zn4 x),slV false false kU8 b,aa,aa,aa,aa,dv (Yh []),dv (.slice none 0 0),vI 132,dv (Yh (stD (Xu f u l) f seq x)),vI (stE (Xu f u l) f seq x),aa,aa,aa,aa,(Zn6 seq),aa,aa,aa,aa,aa,aa,aa,aa,(Znb f u l seq x),aa,aa,aa,aa,(Znd f u l seq x b)],(Zn5 f u l)⟩
abbrev Znf:AV:=vI (unE 1099511627776 b)
abbrev Zng:AV:=vI (unH 1099511627776 b)
abbrev Znh:AV:=dv (Yh (unD 1099511627776 b))
abbrev Zni:AV:=slV false false kU8 (unS 1099511627776 b)
abbrev Znj:St:=⟨[pv 0 0,vI seq,(Zn4 x),slV false false kU8 b,aa,aa,aa,aa,dv (Yh []),dv (.slice none 0 0),vI 12,dv (Yh (stD (Xu f u l) f seq x)),(Znf b),(Zng b),(Znh b),(Zni b),aa,(Zn6 seq),aa,aa,aa,aa,aa,aa,aa,aa,(Znb f u l seq x),aa,aa,aa,aa,(Znd f u l seq x b),aa,aa,aa,aa,aa,aa,aa,aa,aa,aa,aa,aa,aa,vB true],(Zn5 f u l)⟩
abbrev Znk:St:=⟨[pv 0 0,vI seq,(Zn4 x),slV false false kU8 b,aa,aa,aa,aa,dv (Yh []),dv (.slice none 0 0),vI 12,dv (Yh (stD (Xu f u l) f seq x)),(Znf b),(Zng b),(Znh b),(Zni b),aa,(Zn6 seq),aa,aa,aa,aa,aa,aa,aa,aa,(Znb f u l seq x),aa,aa,aa,aa,(Znd f u l seq x b),aa,aa,aa,aa,aa,aa,aa,aa,aa,aa,aa,aa,aa,vB (decide ((unH 1099511627776 b)≠seq))],(Zn5 f u l)⟩
end
theorem X1i (f:Int) (u:Int) (l:List aE) (seq:Int) (x:List aE) (b:List UInt8) (hf:0≤f∧f≤2) (hu:0≤u∧u≤8) (hl:l.length≤9223372036854775806) (hx:X0l x) (hb:b.length≤100000000) (hi:-9223372036854775808≤seq∧seq≤9223372036854775807):Holds Tryz.prog 19 ⟨[pv 0 0,vI seq,slV false false (kE false) x,slV false false kU8 b],[.box 135 [dB true,dI f,dI u,.own 1 (kE false).sz 0 l.length],Xe 43 (kE false) l],.tup [.one (dS (s9D (Xu f u l) f seq x b)),.one (dU (s9S (Xu f u l) f seq x b)),.one (dI (s9E (Xu f u l) f seq x b))],[.live (.box 135 [dB true,dI f,dI u,.own 1 (kE false).sz 0 l.length]),.live (Xe 43 (kE false) l)]⟩:=by
 refine Holds.of Tryz.func19 rfl (N:=48) Tryz.ntmps19 rfl fun w0 B0 S0 U0=>?_
 show T _ (Y2 48 2 w0 S0 U0 B0) ⟨[pv 0 0,vI seq,(Zn4 x),slV false false kU8 b],(Zn5 f u l)⟩ _ _
 have hun:=Xfn (b:=b) (M:=((b.length:Nat):Int)) (M':=1099511627776) (Int.le_refl _) (by omega)
 obtain ⟨hun1,hun2,hun3,hun4⟩:=hun
 refine sR [] ?_
 refine T.seq ?_
 refine sR [] ?_
 by_cases hq1:seq<1
 ·have hx9:=Xfr (C:=(Xu f u l)) (f:=f) (x:=x) (b:=b) hq1
  refine cT (dT hq1) ?_
  refine sR [] ?_
  refine T.ret (rT ?_)
  refine eN ⟨(Zn7 seq x b),(Zn5 f u l)⟩ ?_
  refine Xc (s':=⟨[pv 0 0,vI seq,(Zn4 x),slV false false kU8 b,aa,aa,aa,aa,dv (Yh []),Zn8,vI 2,aa,aa,aa,aa,aa,aa,(Zn6 seq)],(Zn5 f u l)⟩) (fun _ _ hG=>Ys (s:=⟨(Zn7 seq x b),(Zn5 f u l)⟩) ⟨.inl rfl,(kk8 ⟨pZ5,(kk8 trivial)⟩)⟩ (kk2 trivial) hG) ?_
  exact eX [.t 8 (Zn9),.t 9 (Zna),.t 10 (.one (dI 2))] ⟨⟨rfl,by kernel_rfl⟩,⟨⟨rfl,by kernel_rfl⟩,⟨⟨rfl,by kernel_rfl⟩,trivial⟩⟩⟩ [0,1] (cg3 (fun (q1:List UInt8) (q2:List UInt8) (q3:Int)=>(.tup [.one (dS q1),.one (dU q2),.one (dI q3)]:AV)) p2a p3j p3o) (ix (ix trivial))
 have h0:=hq1
 refine cF (dF hq1) ?_
 refine T.skip (nT ?_)
 refine sR [hR 3 rfl rfl (rCa (Xbx f u l seq x ‹_› ‹_› ‹_› ‹_›) Tryz.func57 [0,1] [(.tmp 19,pv 0 0),(.tmp 20,vI seq),(.tmp 21,(Zn4 x))] 2 2)] ?_
 refine T.seq ?_
 refine sR [] ?_
 by_cases hq2:(stE (Xu f u l) f seq x)≠0
 ·have hx9:=s9_st (b:=b) h0 hq2
  refine cT (dT hq2) ?_
  refine sR [] ?_
  refine T.ret (rT ?_)
  refine eN (Znc f u l seq x b) ?_
  refine Xc (s':=⟨[pv 0 0,vI seq,(Zn4 x),slV false false kU8 b,aa,aa,aa,aa,dv (Yh []),Zn8,vI (stE (Xu f u l) f seq x),dv (Yh (stD (Xu f u l) f seq x)),vI (stE (Xu f u l) f seq x),aa,aa,aa,aa,(Zn6 seq),aa,aa,aa,aa,aa,aa,aa,aa,(Znb f u l seq x)],(Zn5 f u l)⟩) (fun _ _ hG=>Ys (s:=(Znc f u l seq x b)) ⟨.inl rfl,(kk8 ⟨pZ5,⟨.inl rfl,(Fq trivial)⟩⟩)⟩ (kk2 trivial) hG) ?_
  exact eX [.t 8 (Zn9),.t 9 (Zna),.t 10 (.one (dI (stE (Xu f u l) f seq x)))] ⟨⟨rfl,by kernel_rfl⟩,⟨⟨rfl,by kernel_rfl⟩,⟨⟨rfl,by kernel_rfl⟩,trivial⟩⟩⟩ [0,1] (cg3 (fun (q1:List UInt8) (q2:List UInt8) (q3:Int)=>(.tup [.one (dS q1),.one (dU q2),.one (dI q3)]:AV)) p2a p3j p3o) (ix (ix trivial))
 have h1:=hq2
 refine cF (dF hq2) ?_
 refine T.skip (nT (T.seq ?_))
 refine sR [hR 2 rfl rfl (rCa (X8u false false b (by omega)) Tryz.func42 [] [(.tmp 29,slV false false kU8 b)] 0 0)] ?_
 by_cases hq3:(stD (Xu f u l) f seq x)≠(ofB 7 [b])
 ·have hx9:=s9_dig h0 h1 hq3
  refine cT (dT hq3) ?_
  refine sR [] ?_
  refine T.ret (rT ?_)
  refine eN (Zne f u l seq x b) ?_
  refine Xc (s':=⟨[pv 0 0,vI seq,(Zn4 x),slV false false kU8 b,aa,aa,aa,aa,dv (Yh []),Zn8,vI 132,dv (Yh (stD (Xu f u l) f seq x)),vI (stE (Xu f u l) f seq x),aa,aa,aa,aa,(Zn6 seq),aa,aa,aa,aa,aa,aa,aa,aa,(Znb f u l seq x),aa,aa,aa,aa,(Znd f u l seq x b)],(Zn5 f u l)⟩) (fun _ _ hG=>Ys (s:=(Zne f u l seq x b)) ⟨.inl rfl,(kk8 ⟨pZ5,p3q⟩)⟩ (kk2 trivial) hG) ?_
  exact eX [.t 8 (Zn9),.t 9 (Zna),.t 10 (.one (dI 132))] ⟨⟨rfl,by kernel_rfl⟩,⟨⟨rfl,by kernel_rfl⟩,⟨⟨rfl,by kernel_rfl⟩,trivial⟩⟩⟩ [0,1] (cg3 (fun (q1:List UInt8) (q2:List UInt8) (q3:Int)=>(.tup [.one (dS q1),.one (dU q2),.one (dI q3)]:AV)) p2a p3j p3o) (ix (ix trivial))
 have h2:=hq3
 refine cF (dF hq3) ?_
 refine T.skip (nT ?_)
 refine sR [hR 1 rfl rfl (rCa (X4i b ‹_›) Tryz.func43 [] [(.tmp 33,slV false false kU8 b)] 0 0)] ?_
 refine T.seq ?_
 by_cases hq4:(unE 1099511627776 b)≠0
 ·have h3:=hq4;rw [← hun4] at h3;have hx9:=X7p h0 h1 h2 (.inl h3)
  refine sR (Xm (hN · false (dT hq4)) [3,4,5] (hP 6 (dT hq4)::[])) ?_
  refine cT (b:=true) rfl ?_
  refine sR [] ?_
  refine T.ret (rT ?_)
  refine eN (Znj f u l seq x b) ?_
  refine Xc (s':=⟨[pv 0 0,vI seq,(Zn4 x),slV false false kU8 b,aa,aa,aa,aa,dv (Yh []),Zn8,vI 12,dv (Yh (stD (Xu f u l) f seq x)),(Znf b),(Zng b),(Znh b),(Zni b),aa,(Zn6 seq),aa,aa,aa,aa,aa,aa,aa,aa,(Znb f u l seq x),aa,aa,aa,aa,(Znd f u l seq x b),aa,aa,aa,aa,aa,aa,aa,aa,aa,aa,aa,aa,aa,vB true],(Zn5 f u l)⟩) (fun _ _ hG=>Ys (s:=(Znj f u l seq x b)) ⟨.inl rfl,(kk8 ⟨pZ5,p52⟩)⟩ (kk2 trivial) hG) ?_
  exact eX [.t 8 (Zn9),.t 9 (Zna),.t 10 (.one (dI 12))] ⟨⟨rfl,by kernel_rfl⟩,⟨⟨rfl,by kernel_rfl⟩,⟨⟨rfl,by kernel_rfl⟩,trivial⟩⟩⟩ [0,1] (cg3 (fun (q1:List UInt8) (q2:List UInt8) (q3:Int)=>(.tup [.one (dS q1),.one (dU q2),.one (dI q3)]:AV)) p2a p3j p3o) (ix (ix trivial))
 have h3:=hq4;rw [← hun4] at h3; 
 refine sR (Xm (hY · (dF hq4)) [3,4,5] (hP 6 (dF hq4)::[])) ?_
 by_cases hq5:(unH 1099511627776 b)≠seq
 ·have h4:=hq5;rw [← hun1] at h4;have hx9:=X7p h0 h1 h2 (.inr h4)
  refine cT (dT hq5) ?_
  refine sR [] ?_
  refine T.ret (rT ?_)
  refine eN (Znk f u l seq x b) ?_
  refine Xc (s':=⟨[pv 0 0,vI seq,(Zn4 x),slV false false kU8 b,aa,aa,aa,aa,dv (Yh []),Zn8,vI 12,dv (Yh (stD (Xu f u l) f seq x)),(Znf b),(Zng b),(Znh b),(Zni b),aa,(Zn6 seq),aa,aa,aa,aa,aa,aa,aa,aa,(Znb f u l seq x),aa,aa,aa,aa,(Znd f u l seq x b),aa,aa,aa,aa,aa,aa,aa,aa,aa,aa,aa,aa,aa,vB (decide ((unH 1099511627776 b)≠seq))],(Zn5 f u l)⟩) (fun _ _ hG=>Ys (s:=(Znk f u l seq x b)) ⟨.inl rfl,(kk8 ⟨pZ5,p52⟩)⟩ (kk2 trivial) hG) ?_
  exact eX [.t 8 (Zn9),.t 9 (Zna),.t 10 (.one (dI 12))] ⟨⟨rfl,by kernel_rfl⟩,⟨⟨rfl,by kernel_rfl⟩,⟨⟨rfl,by kernel_rfl⟩,trivial⟩⟩⟩ [0,1] (cg3 (fun (q1:List UInt8) (q2:List UInt8) (q3:Int)=>(.tup [.one (dS q1),.one (dU q2),.one (dI q3)]:AV)) p2a p3j p3o) (ix (ix trivial))
 have h4:=hq5;rw [← hun1] at h4;have hx9:=s9_ok h0 h1 h2 h3 h4
 refine cF (dF hq5) ?_
 refine T.skip (nT ?_)
 refine sR [] ?_
 refine T.ret ?_
 exact eX [.t 8 (.one (dS (unD 1099511627776 b))),.t 9 (.one (dU (unS 1099511627776 b))),.t 10 (.one (dI 0))] ⟨⟨rfl,by kernel_rfl⟩,⟨⟨rfl,by kernel_rfl⟩,⟨⟨rfl,by kernel_rfl⟩,trivial⟩⟩⟩ [0,1] (cg3 (fun (q1:List UInt8) (q2:List UInt8) (q3:Int)=>(.tup [.one (dS q1),.one (dU q2),.one (dI q3)]:AV)) (by exact hx9.1.trans hun2) (by exact hx9.2.1.trans hun3) p3o) (ix (ix trivial))
end Go.Proofs.YtnaopgohccacmaaGreat.Q
