import Derived.Test.YtnaopgohccacmaaGreatC19n44
namespace Go.Proofs.YtnaopgohccacmaaGreat.Q
open Go Go.RowKit
set_option linter.unusedVariables false
set_option linter.unusedSimpArgs false
set_option maxRecDepth 100000
set_option maxHeartbeats 4000000
section
variable (c:Wo) (k:Nat)
end
end Go.Proofs.YtnaopgohccacmaaGreat.Q
namespace Go.Proofs.YtnaopgohccacmaaGreat.Q
set_option linter.unusedVariables false
set_option linter.unusedSimpArgs false
set_option maxRecDepth 100000
section
variable {C:aE→Int} {f:Int} {c:aC} {i:Int} {e:aE}
end
end Go.Proofs.YtnaopgohccacmaaGreat.Q
namespace Go.Proofs.YtnaopgohccacmaaGreat.Q
open Go Go.RowKit
set_option linter.unusedVariables false
set_option linter.unusedSimpArgs false
set_option maxRecDepth 100000
set_option maxHeartbeats 4000000
end Go.Proofs.YtnaopgohccacmaaGreat.Q
namespace Go.Proofs.YtnaopgohccacmaaGreat.Q
set_option linter.unusedVariables false
set_option linter.unusedSimpArgs false
set_option maxRecDepth 100000
def gdB (b:Xq):Prop:=Hm b∧(0≤b.Xg∧b.Xg≤1000)∧b.Y4.length≤1000000∧(∀ e,e∈b.X9→0≤e.X4∧e.X4≤100000)∧∀ r,r∈b.Xl→(0≤r.Xn∧r.Xn≤100000)∧r.Xw=0
theorem gdB_z:gdB Yz:=⟨by decide,by decide,by decide,fun e he=>(by cases he),fun r hr=>(by cases hr)⟩
theorem blk_gd9 {L:List Xq} {i n:Nat} (hn:n≤4) (hi:i≤100) (hL:(atB d9 L L.length).length≤1000000):gdB (I4 L i n):=by
  refine ⟨X6c hn (by omega),⟨?_,?_⟩,hL,fun e he=>?_,fun r hr=>?_⟩
  · show (0:Int)≤((i+1:Nat):Int);omega
  · show ((i+1:Nat):Int)≤1000;omega
  · obtain ⟨k,hk,rfl⟩:=List.mem_map.1 he
    have:=List.mem_range.1 hk
    show (0:Int)≤((1000+k:Nat):Int)∧((1000+k:Nat):Int)≤100000
    omega
  · obtain ⟨k,hk,rfl⟩:=List.mem_map.1 hr
    have:=List.mem_range.1 hk
    refine ⟨?_,rfl⟩
    show (0:Int)≤((i+k:Nat):Int)∧((i+k:Nat):Int)≤100000
    omega
theorem Xia (bs:List Int):∀ i,i≤30→∀ b,b∈W8 bs i→gdB b
  | 0,_=>fun b hb=>by cases hb
  | i+1,hi=>fun b hb=>by
    have hc:=X55 (bs.getD i 0)
    have h1:=(Ed bs i (by omega)).1
    rw [W8] at hb
    rcases List.mem_append.1 hb with hb|hb
    · exact Xia bs i (by omega) b hb
    · rw [List.mem_singleton] at hb;rw [hb];exact blk_gd9 (by omega) (by omega) (by omega)
theorem rblk_gd9 {bs:List Int} {i:Nat} (hi:i≤30) (x:Int):gdB (rblk 0 (W8 bs i) x):=by
  unfold rblk
  split
  · rename_i h
    have h1:=h.1
    have h2:=h.2
    exact Xia bs i hi _ (J5 (by omega))
  · exact gdB_z
def gdH (h:Yf):Prop:=h.Y4.length≤1000000∧h.W2.length≤1000000∧(0≤h.Yg∧h.Yg≤100000)∧X24 h.Xg
theorem gdH_of {b:Xq} (h:gdB b):gdH (Ws b):=by
  have h1:=Jb h.1
  have h2:(W7 (Ya b)).length≤25400:=Ug h1
  have h3:=h1.1
  have h4:=h.2.1
  refine ⟨h.2.2.1,Nat.le_trans h2 (by decide),?_,?_⟩
  · show 0≤(((Ya b).length:Nat):Int)∧(((Ya b).length:Nat):Int)≤100000;omega
  · show X24 b.Xg;unfold X24;omega
def gd9 (c:Wo):Prop:=X0l c.Xv∧c.Xa.length≤1000000∧(c.X0.length≤1000∧∀ h,h∈c.X0→gdH h)∧Jp szS 70 30000 c.Yv∧c.Xs.Xf.length≤500∧(0≤c.Xo∧c.Xo≤1000000)∧(0≤c.J6∧c.J6≤1000000)∧(0≤c.X1.Xn∧c.X1.Xn≤1000000)∧(0≤c.Xs.X4∧c.Xs.X4≤1000000)∧c.X1.Xw=0
theorem gd_z:gd9 I5:=⟨⟨by decide,fun e he=>(by cases he)⟩,by decide,⟨by decide,fun e he=>(by cases he)⟩,⟨by decide,fun e he=>(by cases he)⟩,by decide,by decide,by decide,by decide,by decide,rfl⟩
theorem gd_path {c:Wo} (h:gd9 c):c.Yv.length≤70:=h.2.2.2.1.1
theorem gd_sm {c:Wo} (h:gd9 c):smT9 c:=by
  obtain ⟨h1,h2,⟨h3,h3b⟩,h4,h5,h6,h7,h8,h9,h10⟩:=h
  have h11:=h1.1
  have h41:=h4.1
  exact ⟨by omega,by omega,by omega,by omega,by omega,by omega,⟨by omega,by omega⟩,fun x hx=>Nat.le_trans (h3b x hx).1 (by decide)⟩
theorem gd_hs {l:List Yf} (h:∀ x,x∈l→gdH x):okHs l:=fun x hx=>by
  obtain ⟨h1,h2,h3,h4⟩:=h x hx
  exact ⟨by omega,by omega,by omega,h4⟩
theorem gd_ok {c:Wo} (h:gd9 c):okC9 c:=by
  obtain ⟨h1,h2,⟨h3,h3b⟩,h4,h5,h6,h7,h8,h9,h10⟩:=h
  exact ⟨h1,by omega,gd_hs h3b,by omega,h4,h5,by unfold X24;omega⟩
theorem Xjd {l:List aE} (h:X0l l) (k:Nat):X0l (l.drop k):=⟨by have:=h.1;rw [List.length_drop];omega,fun e he=>h.2 e (List.mem_of_mem_drop he)⟩
theorem hdX_ok {l:List Yf} (h:∀ x,x∈l→gdH x) (j:Nat) (hj:j<l.length):okHs (l.set j (hdX9 (l.getD j Xh))):=fun x hx=>by
  rcases List.mem_or_eq_of_mem_set hx with hx|hx
  · exact gd_hs h x hx
  · obtain ⟨h1,h2,h3,h4⟩:=h _ (J5 (z:=Xh) hj)
    rw [hx]
    refine ⟨?_,Nat.le_trans h2 (by decide),by show (l.getD j Xh).Yg≤_;omega,h4⟩
    show ((l.getD j Xh).Y4++[120]).length≤_
    rw [List.length_append,List.length_singleton];omega
theorem Xcm {c:Wo} (h:gd9 c) (t:Yo):okC9 (Yw c t):=by
  have hk:=gd_ok h
  obtain ⟨h1,h2,⟨h3,h3b⟩,h4,h5,h6,h7,h8,h9,h10⟩:=h
  obtain ⟨k1,k2,k3,k4,k5,k6,k7⟩:=hk
  unfold Yw
  split
  · rename_i q
    refine ⟨h1,by omega,fun x hx=>?_,?_,h4,h5,k7⟩
    · rcases List.mem_append.1 hx with hx|hx
      · exact k3 x (List.mem_of_mem_take hx)
      · exact k3 x (List.mem_of_mem_drop hx)
    · show (c.X0.take _++c.X0.drop _).length≤_
      rw [List.length_append,List.length_take,List.length_drop];omega
  split
  · exact ⟨h1,by omega,k3,k4,h4,h5,k7⟩
  split
  · exact ⟨h1,by omega,k3,k4,h4,h5,k7⟩
  split
  · exact ⟨h1,by omega,k3,k4,h4,h5,by show X24 (c.Xo+1);unfold X24;omega⟩
  split
  · rename_i q
    refine ⟨h1,by omega,hdX_ok h3b _ (X63 q.2).2,?_,h4,h5,k7⟩
    show (c.X0.set _ _).length≤_
    rw [List.length_set];omega
  split
  · refine ⟨h1,?_,k3,k4,h4,h5,k7⟩
    show (c.Xa++[0]).length≤_
    rw [List.length_append,List.length_singleton];omega
  split
  · exact ⟨h1,by omega,k3,k4,h4,h5,k7⟩
  split
  · exact ⟨h1,by omega,k3,k4,Jy h4 1,h5,k7⟩
  split
  · exact ⟨Xjd h1 1,by omega,k3,k4,h4,h5,k7⟩
  · exact ⟨h1,by omega,k3,k4,h4,h5,k7⟩
theorem prv_inv {bf:Int→Xq} {n:Nat} {seq:Int} {b:List UInt8} {h i:Int} (q:X3s bf n seq b h i=0):¬(h<1∨h>seq∨seq-h>999)∧¬seq>((n:Nat):Int)∧Je (bf h) i=0:=by
  unfold X3s at q
  split at q
  · exact absurd q (by decide)
  split at q
  · exact absurd q (by decide)
  rename_i h1
  split at q
  · exact absurd q (by decide)
  rename_i h2
  exact ⟨h1,h2,q⟩
theorem prv_gd {bf:Int→Xq} {n:Nat} {seq:Int} {x:List aE} {b:List UInt8} {h i:Int} (hb:∀ y,gdB (bf y)) (hn:n≤1000) (hx:X0l x) (hd:b.length≤1000000):gd9 (J1 bf n seq x b h i):=by
  unfold J1
  split
  · rename_i q
    obtain ⟨q1,q2,q3⟩:=prv_inv q
    obtain ⟨p1,p2,p3,p4,p5,p6,p7⟩:=Xc7 (hb h).1 q3
    have hf:=(hb h).1
    have hr:=hf.2.1
    obtain ⟨r1,r2,r3,r4,r5⟩:=hb h
    refine ⟨hx,hd,⟨?_,fun y hy=>?_⟩,p6,p7,⟨show (0:Int)≤seq by omega,show seq≤1000000 by omega⟩,⟨show (0:Int)≤i by omega,show i≤1000000 by omega⟩,?_,?_,?_⟩
    · rw [X9m];omega
    · obtain ⟨t,_,rfl⟩:=List.mem_map.1 hy
      exact gdH_of (hb _)
    · have:=r5 _ (J5 (z:=Ym) (show i.toNat<(bf h).Xl.length by omega))
      exact ⟨this.1.1,Int.le_trans this.1.2 (by decide)⟩
    · have:=r4 _ (J5 (z:=zE) (show i.toNat<(bf h).X9.length by omega))
      exact ⟨this.1,Int.le_trans this.2 (by decide)⟩
    · exact (r5 _ (J5 (z:=Ym) (show i.toNat<(bf h).Xl.length by omega))).2
  · exact gd_z
theorem Xeb {c:Y3} (hs:Ux c) (hr:rngW c) (k:Nat) (seq h i:Int):gd9 (J1 (rblk 0 (chL c)) (chL c).length seq (Vq c k) (Ud c) h i):=by
  have h0:=hs.1
  have hd:=X06 hs
  exact prv_gd (fun y=>rblk_gd9 (by omega) y) (by rw [Fx];omega) (X7k hs hr) (by omega)
end Go.Proofs.YtnaopgohccacmaaGreat.Q
