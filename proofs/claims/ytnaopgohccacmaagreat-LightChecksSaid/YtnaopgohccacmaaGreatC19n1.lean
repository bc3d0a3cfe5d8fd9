import Derived.Test.YtnaopgohccacmaaGreatC19n0
namespace Go.Proofs.YtnaopgohccacmaaGreat.Q
set_option linter.unusedVariables false
set_option linter.unusedSimpArgs false
set_option maxRecDepth 100000
abbrev Step:=Y7
abbrev zS:=Yi
def Ev:Nat→Lv→Nat→List Step
  | 0,_,_=>[]
  | f+1,l,i=>if l.length<2 then [] else if i<half l.length then Ev f (l.take (half l.length)) i++[⟨false,W7 (l.drop (half l.length))⟩] else Ev f (l.drop (half l.length)) (i-half l.length)++[⟨true,W7 (l.take (half l.length))⟩]
def Wh (l:Lv) (i:Nat):List Step:=Ev l.length l i
theorem X1s:∀ (f g:Nat) (l:Lv) (i:Nat),l.length≤f→l.length≤g→Ev f l i=Ev g l i
  | 0,0,_,_,_,_=>rfl
  | 0,g+1,l,i,h,_=>by rw [Ev,Ev,if_pos (by omega)]
  | f+1,0,l,i,_,h=>by rw [Ev,Ev,if_pos (by omega)]
  | f+1,g+1,l,i,h1,h2=>by
    rw [Ev,Ev]
    split
    · rfl
    · have hh:=Jo (n:=l.length) (by omega)
      have hp:=J4 l.length
      rw [X1s f g (l.take (half l.length)) i p1z p1z,X1s f g (l.drop (half l.length)) _ p2d p2d]
theorem X3w {l:Lv} (h:l.length<2) (i:Nat):Wh l i=[]:=by
  unfold Wh
  cases hl:l.length with
  | zero=>rfl
  | succ f=>rw [Ev,if_pos h]
theorem path_2 {l:Lv} (h:2≤l.length) (i:Nat):Wh l i=if i<half l.length then Wh (l.take (half l.length)) i++[⟨false,W7 (l.drop (half l.length))⟩] else Wh (l.drop (half l.length)) (i-half l.length)++[⟨true,W7 (l.take (half l.length))⟩]:=by
  have hh:=Jo h
  have hp:=J4 l.length
  obtain ⟨f,hf⟩:∃ f,l.length=f+1:=⟨l.length-1,by omega⟩
  unfold Wh
  rw [X1s l.length (f+1) l i (by omega) (by omega),Ev,if_neg (by omega)]
  rw [X1s f _ (l.take (half l.length)) i p1z (Nat.le_refl _),X1s f _ (l.drop (half l.length)) _ p2d (Nat.le_refl _)]
theorem X3v {l:Lv} (h:2≤l.length) {i:Nat} (hi:i<half l.length):Wh l i=Wh (l.take (half l.length)) i++[⟨false,W7 (l.drop (half l.length))⟩]:=by rw [path_2 h,if_pos hi]
theorem X3t {l:Lv} (h:2≤l.length) {i:Nat} (hi:¬i<half l.length):Wh l i=Wh (l.drop (half l.length)) (i-half l.length)++[⟨true,W7 (l.take (half l.length))⟩]:=by rw [path_2 h,if_neg hi]
def okI (l:Lv) (i:Int):Prop:=0≤i∧i<((l.length:Nat):Int)
instance (l:Lv) (i:Int):Decidable (okI l i):=inferInstanceAs (Decidable (_∧_))
def Hx (l:Lv) (i:Int):List Step:=if okI l i then Wh l i.toNat else []
def X14 (l:Lv) (i:Int):Int:=if okI l i then 0 else 2
theorem X3u:∀ (N:Nat) (l:Lv) (i:Nat),l.length=N→(Wh l i).length≤l.length:=by
  intro N
  induction N using Nat.strongRecOn with
  | _ N ih =>
    intro l i hN
    rcases Nat.lt_or_ge l.length 2 with h2|h2
    · rw [X3w h2];simp
    · have hh:=Jo h2
      have hp:=J4 l.length
      by_cases hi:i<half l.length
      · have h1:=ih (l.take (half l.length)).length p1z (l.take (half l.length)) i rfl
        rw [X3v h2 hi,List.length_append,List.length_singleton]
        rw [List.length_take] at h1
        omega
      · have h1:=ih (l.drop (half l.length)).length p2d (l.drop (half l.length)) (i-half l.length) rfl
        rw [X3t h2 hi,List.length_append,List.length_singleton]
        rw [List.length_drop] at h1
        omega
def Ix:Nat→Nat→Nat→List Bool
  | 0,_,_=>[]
  | f+1,i,n=>if n<2 then [] else if i<half n then Ix f i (half n)++[false] else Ix f (i-half n) (n-half n)++[true]
def Yl (i n:Nat):List Bool:=Ix 64 i n
theorem X2l:∀ (f g i n:Nat),n≤2 ^ f→n≤2 ^ g→Ix f i n=Ix g i n
  | 0,0,_,_,_,_=>rfl
  | 0,g+1,i,n,h,_=>by rw [Ix,Ix,if_pos (by have:n≤1:=h;omega)]
  | f+1,0,i,n,_,h=>by rw [Ix,Ix,if_pos (by have:n≤1:=h;omega)]
  | f+1,g+1,i,n,h1,h2=>by
    rw [Ix,Ix]
    split
    · rfl
    · rename_i hn
      have a1:=X25 h1 (by omega)
      have a2:=X25 h2 (by omega)
      have a3:=Xem (n:=n) (by omega)
      rw [X2l f g i (half n) a1 a2,X2l f g (i-half n) (n-half n) (by omega) (by omega)]
theorem X4d {n:Nat} (h:n<2) (i:Nat):Yl i n=[]:=by unfold Yl;rw [Ix,if_pos h]
theorem Xhc {n:Nat} (h:2≤n) (hn:n≤9223372036854775807) (i:Nat):Yl i n=if i<half n then Yl i (half n)++[false] else Yl (i-half n) (n-half n)++[true]:=by
  unfold Yl
  have hp:(2:Nat) ^ 63=9223372036854775808:=by decide
  have hq:(2:Nat) ^ 64=18446744073709551616:=by decide
  have a1:=X25 (n:=n) (f:=63) (by omega) h
  have a3:=Xem h
  rw [Ix,if_neg (by omega),X2l 63 64 i (half n) a1 (by omega),X2l 63 64 (i-half n) (n-half n) (by omega) (by omega)]
theorem X4c {n i:Nat} (h:2≤n) (hn:n≤9223372036854775807) (hi:i<half n):Yl i n=Yl i (half n)++[false]:=by rw [Xhc h hn,if_pos hi]
theorem X4b {n i:Nat} (h:2≤n) (hn:n≤9223372036854775807) (hi:¬i<half n):Yl i n=Yl (i-half n) (n-half n)++[true]:=by rw [Xhc h hn,if_neg hi]
theorem X3i:∀ (f i n:Nat),(Ix f i n).length≤f
  | 0,_,_=>Nat.le_refl _
  | f+1,i,n=>by
    rw [Ix]
    split
    · simp
    · split
      · rw [List.length_append,List.length_singleton];have:=X3i f i (half n);omega
      · rw [List.length_append,List.length_singleton];have:=X3i f (i-half n) (n-half n);omega
theorem X5m (i n:Nat):(Yl i n).length≤64:=X3i 64 i n
def Fw (d:List UInt8) (s:Step):List UInt8:=if s.Vt=true then ofB 3 [s.X8,d] else ofB 3 [d,s.X8]
def climb (d:List UInt8) (p:List Step):List UInt8:=p.foldl Fw d
def Jc (root leaf:List UInt8) (i n:Int) (p:List Step):Int :=
  if i<0∨i≥n then 2 else if p.map (fun s=>s.Vt)=Yl i.toNat n.toNat then (if climb (ofB 2 [leaf]) p=root then 0 else 90) else 90
def szS (s:Step):Nat:=s.X8.length
theorem Xbk {p:List Step} {m:Nat} (h:∀ s,s∈p→szS s≤m):∀ (d:List UInt8),(climb d p).length≤d.length+(13+m)*p.length:=by
  induction p with
  | nil=>intro d;simp [climb]
  | cons s r ih =>
    intro d
    have h1:=ih (fun x hx=>h x (List.mem_cons_of_mem _ hx)) (Fw d s)
    have h2:s.X8.length≤m:=h s (List.mem_cons_self ..)
    have h3:(Fw d s).length≤d.length+(13+m):=by
      unfold Fw
      split<;>rw [Xe0]<;>omega
    show (climb (Fw d s) r).length≤_
    rw [List.length_cons,Nat.mul_succ]
    omega
theorem X0x {p:List Step} {k:Nat} (d:List UInt8) (hk:k<p.length):climb d (p.take (k+1))=Fw (climb d (p.take k)) (p.getD k zS):=X9o hk
def revI {α:Type} (z:α) (l:List α) (i:Nat) (ys:List α):Prop:=ys.length=l.length∧∀ t,t<l.length→ys.getD t z=if t<i∨l.length≤t+i then l.getD (l.length-1-t) z else l.getD t z
theorem rev_0 {α:Type} (z:α) (l:List α):revI z l 0 l:=⟨rfl,fun t ht=>by rw [if_neg (by omega)]⟩
theorem Xen {α:Type} {z v:α} {l:List α} {i t:Nat} (hi:i<l.length):(l.set i v).getD t z=if t=i then v else l.getD t z:=by
  rw [List.getD_eq_getElem?_getD,List.getElem?_set]
  by_cases h:i=t
  · subst h;simp [hi]
  · rw [if_neg h,if_neg (fun e=>h e.symm),List.getD_eq_getElem?_getD]
theorem Xdl {α:Type} {z:α} {l ys:List α} {i j:Nat} (h:revI z l i ys) (hij:i<j) (hj:j+1+i=l.length):revI z l (i+1) ((ys.set i (ys.getD j z)).set j (ys.getD i z)):=by
  obtain ⟨h1,h2⟩:=h
  refine ⟨by simp [h1],fun t ht=>?_⟩
  rw [Xen (by simp;omega),Xen (by omega)]
  by_cases e1:t=j
  · subst e1
    rw [if_pos rfl,if_pos (by omega),h2 i (by omega),if_neg (by omega)]
    congr 1
    omega
  · rw [if_neg e1]
    by_cases e2:t=i
    · subst e2
      rw [if_pos rfl,if_pos (by omega),h2 j (by omega),if_neg (by omega)]
      congr 1
      omega
    · rw [if_neg e2,h2 t ht]
      by_cases e3:t<i∨l.length≤t+i
      · rw [if_pos e3,if_pos (by omega)]
      · rw [if_neg e3,if_neg (by omega)]
theorem Xhf {α:Type} {z:α} {l ys:List α} {i:Nat} (h:revI z l i ys) (hi:l.length≤2*i+1):ys=l.reverse:=by
  obtain ⟨h1,h2⟩:=h
  refine List.ext_getElem (by simp [h1]) fun t a1 a2=>?_
  have h3:=h2 t (by omega)
  rw [List.getElem_reverse]
  have h4:ys.getD t z=ys[t]:=by rw [List.getD_eq_getElem?_getD,List.getElem?_eq_getElem a1];rfl
  rw [← h4,h3]
  split
  · rw [List.getD_eq_getElem?_getD,List.getElem?_eq_getElem (by omega)];rfl
  · have h5:t=l.length-1-t:=by omega
    rw [List.getD_eq_getElem?_getD,List.getElem?_eq_getElem (by omega)]
    simp only [Option.getD_some]
    congr 1
theorem Xg8 {l X:Lv} {i j:Nat} {D:List Step} (he:Wh l i=Wh X j++D.reverse) (h2:2≤X.length) (hj:j<half X.length):Wh l i=Wh (X.take (half X.length)) j++(D++[Y7.mk false (W7 (X.drop (half X.length)))]).reverse:=by
  rw [he,X3v h2 hj];simp
theorem Xg7 {l X:Lv} {i j:Nat} {D:List Step} (he:Wh l i=Wh X j++D.reverse) (h2:2≤X.length) (hj:¬j<half X.length):Wh l i=Wh (X.drop (half X.length)) (j-half X.length)++(D++[Y7.mk true (W7 (X.take (half X.length)))]).reverse:=by
  rw [he,X3t h2 hj];simp
theorem path_end {l X:Lv} {i j:Nat} {D:List Step} (he:Wh l i=Wh X j++D.reverse) (h:X.length<2):D.reverse=Wh l i:=by rw [he,X3w h];rfl
theorem Xde {i n j m:Nat} {D:List Bool} (he:Yl i n=Yl j m++D.reverse) (h2:2≤m) (hm:m≤9223372036854775807) (hj:j<half m):Yl i n=Yl j (half m)++(D++[false]).reverse:=by
  rw [he,X4c h2 hm hj];simp
theorem Xdd {i n j m:Nat} {D:List Bool} (he:Yl i n=Yl j m++D.reverse) (h2:2≤m) (hm:m≤9223372036854775807) (hj:¬j<half m):Yl i n=Yl (j-half m) (m-half m)++(D++[true]).reverse:=by
  rw [he,X4b h2 hm hj];simp
theorem Xav {i n j m:Nat} {D:List Bool} (he:Yl i n=Yl j m++D.reverse) (h:m<2):D.reverse=Yl i n:=by rw [he,X4d h];rfl
theorem sides_D {i n j m:Nat} {D:List Bool} (he:Yl i n=Yl j m++D.reverse):D.length≤64:=by
  have h1:=congrArg List.length he
  have h2:=X5m i n
  rw [List.length_append,List.length_reverse] at h1
  omega
section
variable {root leaf:List UInt8} {i n:Int} {p:List Step} {k:Nat}
theorem Xjv (h:i<0∨i≥n):Jc root leaf i n p=2:=if_pos h
theorem Xib (h0:¬(i<0∨i≥n)) (h:¬(Yl i.toNat n.toNat).length=p.length):Jc root leaf i n p=90:=by
  rw [Jc,if_neg h0,if_neg fun e=>h (by rw [← e,List.length_map])]
theorem chk_at (h0:¬(i<0∨i≥n)) (hk:k<p.length) (h:(p.getD k zS).Vt≠(Yl i.toNat n.toNat).getD k false):Jc root leaf i n p=90:=by
  rw [Jc,if_neg h0,if_neg fun e=>h ?_]
  rw [← e,List.getD_eq_getElem?_getD,List.getD_eq_getElem?_getD,List.getElem?_map,List.getElem?_eq_getElem hk]
  rfl
theorem chk_end (h0:¬(i<0∨i≥n)) (hl:(Yl i.toNat n.toNat).length=p.length) (hk:p.length≤k) (hb:∀ t,t<k→(p.getD t zS).Vt=(Yl i.toNat n.toNat).getD t false):Jc root leaf i n p=if climb (ofB 2 [leaf]) (p.take k)=root then 0 else 90:=by
  have e:p.map (fun s=>s.Vt)=Yl i.toNat n.toNat:=by
    refine rows_eq (z:=false) (k:=p.length) (by rw [List.length_map,hl]) (by rw [List.length_map];omega) fun j hj=>?_
    rw [← hb j (by omega),List.getD_eq_getElem?_getD,List.getD_eq_getElem?_getD,List.getElem?_map,List.getElem?_eq_getElem hj]
    rfl
  rw [Jc,if_neg h0,if_pos e,List.take_of_length_le hk]
end
end Go.Proofs.YtnaopgohccacmaaGreat.Q
namespace Go.Proofs.YtnaopgohccacmaaGreat.Q
set_option linter.unusedVariables false
set_option linter.unusedSimpArgs false
set_option maxRecDepth 100000
theorem Xbl (d:List UInt8) (p:List Step) (s:Step):climb d (p++[s])=Fw (climb d p) s:=by unfold climb;rw [List.foldl_append];rfl
theorem Xjl {α:Type} {z:α} {l:List α} {j k:Nat} (h:j<k):(l.take k).getD j z=l.getD j z:=by
  rw [List.getD_eq_getElem?_getD,List.getD_eq_getElem?_getD,List.getElem?_take_of_lt h]
theorem Xjm {α:Type} {z:α} {l:List α} {j k:Nat}:(l.drop k).getD j z=l.getD (k+j) z:=by
  rw [List.getD_eq_getElem?_getD,List.getD_eq_getElem?_getD,List.getElem?_drop]
theorem Xdz:∀ (N:Nat) (l:Lv) (j:Nat),l.length=N→N≤9223372036854775807→j<N→(Wh l j).map (fun s=>s.Vt)=Yl j N∧climb (ofB 2 [l.getD j []]) (Wh l j)=W7 l:=by
  intro N
  induction N using Nat.strongRecOn with
  | _ N ih =>
    intro l j hN hN2 hj
    subst hN
    rcases Nat.lt_or_ge l.length 2 with h2|h2
    · obtain rfl:j=0:=by omega
      rw [X3w h2,X4d h2,Xbt (by omega)]
      exact ⟨rfl,rfl⟩
    · have hh:=Jo h2
      have hp:=J4 l.length
      have lt:(l.take (half l.length)).length=half l.length:=by rw [List.length_take];omega
      have ld:(l.drop (half l.length)).length=l.length-half l.length:=List.length_drop
      by_cases hi:j<half l.length
      · obtain ⟨a,b⟩:=ih (half l.length) hh (l.take (half l.length)) j lt (by omega) hi
        rw [X3v h2 hi,X4c h2 hN2 hi,List.map_append,a,Xbl,X8n h2]
        rw [Xjl hi] at b
        rw [b]
        exact ⟨rfl,rfl⟩
      · obtain ⟨a,b⟩:=ih (l.length-half l.length) (by omega) (l.drop (half l.length)) (j-half l.length) ld (by omega) (by omega)
        rw [X3t h2 hi,X4b h2 hN2 hi,List.map_append,a,Xbl,X8n h2]
        rw [Xjm,show half l.length+(j-half l.length)=j by omega] at b
        rw [b]
        exact ⟨rfl,rfl⟩
theorem pathB_ok {l:Lv} {j:Nat} (h:j<l.length):Hx l ((j:Nat):Int)=Wh l j:=by rw [Hx,if_pos ⟨by omega,by omega⟩];rfl
theorem Xja {l:Lv} {j:Nat} (hl:l.length≤40) (h:j<l.length):Jc (W7 l) (l.getD j []) ((j:Nat):Int) ((l.length:Nat):Int) (Hx l ((j:Nat):Int))=0:=by
  obtain ⟨a,b⟩:=Xdz l.length l j rfl (by omega) h
  rw [pathB_ok h,Jc,if_neg (by omega),if_pos (by rw [a];rfl),if_pos b]
theorem few_path {l:Lv} (hf:Jp szL 40 600 l) (i:Int):Jp szS 70 30000 (Hx l i):=by
  have key:∀ (N:Nat) (l:Lv) (j:Nat),l.length=N→Jp szL 40 600 l→∀ s,s∈Wh l j→szS s≤30000:=by
    intro N
    induction N using Nat.strongRecOn with
    | _ N ih =>
      intro l j hN hf s hs
      rcases Nat.lt_or_ge l.length 2 with h2|h2
      · rw [X3w h2] at hs;cases hs
      · have hh:=Jo h2
        have hp:=J4 l.length
        by_cases hi:j<half l.length
        · rw [X3v h2 hi,List.mem_append] at hs
          rcases hs with hs|hs
          · exact ih _ p1z (l.take (half l.length)) j rfl (Ig hf _) s hs
          · obtain rfl:=List.mem_singleton.1 hs
            have:=Ug (Jy hf (half l.length))
            show (W7 (l.drop (half l.length))).length≤30000
            omega
        · rw [X3t h2 hi,List.mem_append] at hs
          rcases hs with hs|hs
          · exact ih _ p2d (l.drop (half l.length)) (j-half l.length) rfl (Jy hf _) s hs
          · obtain rfl:=List.mem_singleton.1 hs
            have:=Ug (Ig hf (half l.length))
            show (W7 (l.take (half l.length))).length≤30000
            omega
  unfold Hx
  split
  · exact ⟨by have:=X3u _ l i.toNat rfl;have:=hf.1;omega,key _ l _ rfl hf⟩
  · exact ⟨by simp,fun s h=>by cases h⟩
end Go.Proofs.YtnaopgohccacmaaGreat.Q
namespace Go.Proofs.YtnaopgohccacmaaGreat.Q
set_option linter.unusedVariables false
set_option linter.unusedSimpArgs false
def fOf (f:Int):Int:=min (max f 0) 2
def cOf (c:Int):Int:=min (max c 0) 8
theorem Xcr (f:Int):0≤fOf f∧fOf f≤2:=by unfold fOf;omega
theorem Xcw (f:Int):0≤cOf f∧cOf f≤8:=by unfold cOf;omega
def V0 (f s:Int):Prop:=s≥0∧s<3*f+1
def Ic (u s:Int):Prop:=s≥1000∧s-1000<u
def Um (f u s:Int):Prop:=V0 f s∨Ic u s
instance (f s:Int):Decidable (V0 f s):=inferInstanceAs (Decidable (_∧_))
instance (f s:Int):Decidable (Ic f s):=inferInstanceAs (Decidable (_∧_))
instance (f u s:Int):Decidable (Um f u s):=inferInstanceAs (Decidable (_∨_))
def primaryA (f v:Int):Int:=if v<0 then 0 else v % (3*f+1)
def orgA (u s:Int):Int:=if Ic u s then (s-1000) % 4 else -1
def Et (f u s:Int) (b:List UInt8):Int:=if Um f u s then (if ((b.length:Nat):Int)>16777216 then 11 else 0) else 30
def Hh (f u s:Int) (b:List UInt8):aE:=if Et f u s b=0 then ⟨s,b⟩ else zE
abbrev Tab:=List (Yn×Bool)
def X6m (f u:Int) (rows:Tab) (s:Int) (b:List UInt8):Tab:=if Et f u s b=0 then mput rows ⟨s,b⟩ true else rows
def Xz (f u:Int) (rows:Tab) (e:aE):Int:=if Um f u e.X4 then (if mhas rows ⟨e.X4,e.Xf⟩=true then 0 else 31) else 30
def putL (l:List aE) (e:aE):List aE:=if e∈l then l else l++[e]
def Hv (f u:Int) (l:List aE) (s:Int) (b:List UInt8):List aE:=if Et f u s b=0 then putL l ⟨s,b⟩ else l
def Xu (f u:Int) (l:List aE) (e:aE):Int:=if Um f u e.X4 then (if e∈l then 0 else 31) else 30
def keyE (e:aE):Yn:=⟨e.X4,e.Xf⟩
theorem X9k {e e':aE}:keyE e=keyE e'↔e=e':=by cases e;cases e';simp [keyE]
def U8 (l:List aE):Tab:=l.map fun e=>(keyE e,true)
theorem mhas_tab (l:List aE) (e:aE):mhas (U8 l) (keyE e)=decide (e∈l):=by
  induction l with
  | nil=>simp [U8,mhas]
  | cons a r ih =>
    simp only [U8,List.map_cons,mhas,X9k] at ih ⊢
    by_cases h:a=e
    · simp [h]
    · have:(e=a)=False:=by simp;exact fun q=>h q.symm
      simp only [if_neg h,List.mem_cons,this,false_or]
      exact ih
theorem mput_tab (l:List aE) (e:aE):mput (U8 l) (keyE e) true=U8 (putL l e):=by
  induction l with
  | nil=>simp [U8,mput,putL]
  | cons a r ih =>
    by_cases h:a=e
    · subst h
      simp [U8,mput,putL,X9k]
    · have h1:mput (U8 (a::r)) (keyE e) true=(keyE a,true)::mput (U8 r) (keyE e) true:=by
        simp only [U8,List.map_cons,mput,X9k,if_neg h]
      rw [h1,ih]
      have h2:¬e=a:=fun q=>h q.symm
      by_cases h3:e∈r
      · simp [putL,h3,U8]
      · simp [putL,h3,h2,U8]
theorem sign_tab (f u:Int) (l:List aE) (s:Int) (b:List UInt8):X6m f u (U8 l) s b=U8 (Hv f u l s b):=by
  unfold X6m Hv
  split
  · exact mput_tab l ⟨s,b⟩
  · rfl
theorem Xjx (f u:Int) (l:List aE) (e:aE):Xz f u (U8 l) e=Xu f u l e:=by
  unfold Xz Xu
  split
  · rw [show (⟨e.X4,e.Xf⟩:Yn)=keyE e from rfl,mhas_tab]
    simp
  · rfl
theorem putL_len (l:List aE) (e:aE):(putL l e).length≤l.length+1:=by unfold putL;split<;>simp
theorem Xiw (f u:Int) (l:List aE) (s:Int) (b:List UInt8):(Hv f u l s b).length≤l.length+1:=by
  unfold Hv;split
  · exact putL_len _ _
  · omega
end Go.Proofs.YtnaopgohccacmaaGreat.Q
namespace Go.Proofs.YtnaopgohccacmaaGreat.Q
set_option linter.unusedVariables false
set_option linter.unusedSimpArgs false
def Uj {α:Type} (z:α) (L:List α) (k:Nat):List α:=L.take k++List.replicate (L.length-k) z
theorem fill_0 {α:Type} (z:α) (L:List α):Uj z L 0=List.replicate L.length z:=by simp [Uj]
theorem X4z {α:Type} (z:α) (L:List α) (k:Nat):(Uj z L k).length=L.length:=by simp [Uj];omega
theorem fill_set {α:Type} {z:α} {L:List α} {k:Nat} (hk:k<L.length):(Uj z L k).set k (L.getD k z)=Uj z L (k+1):=by
  unfold Uj
  rw [Hq (z:=z) hk,List.append_assoc]
  have h1:(L.take k).length=k:=by rw [List.length_take];omega
  rw [List.set_append_right _ _ (by omega),h1,Nat.sub_self]
  obtain ⟨m,hm⟩:∃ m,L.length-k=m+1:=⟨L.length-k-1,by omega⟩
  rw [hm,show L.length-(k+1)=m by omega]
  rfl
theorem Xet {α:Type} {z:α} {L:List α} {k:Nat} (hk:L.length≤k):Uj z L k=L:=by
  unfold Uj
  rw [List.take_of_length_le hk,show L.length-k=0 by omega]
  simp
end Go.Proofs.YtnaopgohccacmaaGreat.Q
namespace Go.Proofs.YtnaopgohccacmaaGreat.Q
set_option linter.unusedVariables false
set_option linter.unusedSimpArgs false
set_option maxRecDepth 100000
def W9 (l:List Int):List UInt8:=l.flatMap Yx
theorem X64 {l:List Int} {k:Nat} (hk:k<l.length):W9 (l.take (k+1))=W9 (l.take k)++Yx (l.getD k 0):=by
  rw [Hq (z:=0) hk];simp [W9]
theorem Xei {l:List Int} (hk:0<l.length):W9 (l.take 1)=Yx (l.getD 0 0):=by rw [X64 hk];simp [W9]
theorem Id (l:List Int):(W9 l).length=8*l.length:=by
  induction l with
  | nil=>rfl
  | cons a r ih =>
    have:W9 (a::r)=Yx a++W9 r:=by simp [W9]
    rw [this,List.length_append,ih,Wq,List.length_cons]
    omega
def V6 (e:aE) (r:Y6):List UInt8:=Yx e.X4++W3 e.Xf++Yx r.Xw++Yx r.Xn
theorem X2s (e:aE) (r:Y6):(V6 e r).length=28+e.Xf.length:=by
  simp only [V6,List.length_append,Wq,Vg];omega
def Vf (b:Xq):Int:=if b.Xg<1∨b.Xg>1099511627776 then 100 else if ¬b.X9.length=b.Xl.length∨4<b.Xl.length then 102 else 0
def Ya (b:Xq):Lv:=List.zipWith V6 b.X9 b.Xl
theorem U6 (b:Xq):(Ya b).length=min b.X9.length b.Xl.length:=by simp [Ya]
theorem Fp {b:Xq} {k:Nat} (h1:k<b.X9.length) (h2:k<b.Xl.length):(Ya b).getD k []=V6 (b.X9.getD k zE) (b.Xl.getD k Ym):=by
  simp only [Ya,List.getD_eq_getElem?_getD,List.getElem?_zipWith,List.getElem?_eq_getElem h1,List.getElem?_eq_getElem h2]
  rfl
def szE (e:aE):Nat:=e.Xf.length
def Hm (b:Xq):Prop:=Jp szE 20 500 b.X9∧b.Xl.length≤20∧b.Y4.length≤10000000
instance (b:Xq):Decidable (Hm b):=inferInstanceAs (Decidable (_∧_∧_))
theorem Jb {b:Xq} (h:Hm b):Jp szL 40 600 (Ya b):=by
  obtain ⟨h1,h2,h3⟩:=h
  refine ⟨by rw [U6];omega,fun x hx=>?_⟩
  obtain ⟨k,hk,rfl⟩:=List.getElem_of_mem hx
  have hl:=U6 b
  have hg:=Fp (b:=b) (k:=k) (by omega) (by omega)
  rw [List.getD_eq_getElem?_getD,List.getElem?_eq_getElem hk] at hg
  simp only [Option.getD_some] at hg
  have hb:(b.X9.getD k zE).Xf.length≤500:=Ie (sz:=szE) h1 (by decide) k
  show ((Ya b)[k]).length≤600
  rw [hg,X2s]
  omega
def Ws (b:Xq):Yf:=⟨b.Xg,b.Y4,(((Ya b).length:Nat):Int),W7 (Ya b)⟩
def Ii (h:Yf):List UInt8:=ofB 5 [Yx h.Xg,h.Y4,Yx h.Yg,h.W2]
def fewW (b:Xq):Prop:=Jp szE 20 20000 b.X9∧b.Xl.length≤20∧b.Y4.length≤10000000
instance (b:Xq):Decidable (fewW b):=inferInstanceAs (Decidable (_∧_∧_))
theorem few_wide {b:Xq} (h:Hm b):fewW b:=⟨⟨h.1.1,fun x hx=>Nat.le_trans (h.1.2 x hx) (by decide)⟩,h.2⟩
theorem Eb {b:Xq} (h:fewW b):Jp szL 40 20100 (Ya b):=by
  obtain ⟨h1,h2,h3⟩:=h
  refine ⟨by rw [U6];omega,fun x hx=>?_⟩
  obtain ⟨k,hk,rfl⟩:=List.getElem_of_mem hx
  have hl:=U6 b
  have hg:=Fp (b:=b) (k:=k) (by omega) (by omega)
  rw [List.getD_eq_getElem?_getD,List.getElem?_eq_getElem hk] at hg
  simp only [Option.getD_some] at hg
  have hb:(b.X9.getD k zE).Xf.length≤20000:=Ie (sz:=szE) h1 (by decide) k
  show ((Ya b)[k]).length≤20100
  rw [hg,X2s]
  omega
theorem sz4 (a b c d:List UInt8):szP [a,b,c,d]=5+(4+a.length)+(4+b.length)+(4+c.length)+(4+d.length):=rfl
theorem Xel {b:Xq} (h:Hm b):(Ws b).Y4.length≤10000000∧(Ws b).W2.length≤10000000∧(Ws b).Yg≤9223372036854775807:=by
  have h1:=h.2.2
  have h2:=Ug (Jb h)
  have h3:=(Jb h).1
  refine ⟨?_,?_,?_⟩
  · show b.Y4.length≤_;omega
  · show (W7 (Ya b)).length≤_;omega
  · show (((Ya b).length:Nat):Int)≤_;omega
theorem Xic {b:Xq} (h:Vf b=0):b.X9.length=b.Xl.length∧b.Xl.length≤4∧1≤b.Xg∧b.Xg≤1099511627776:=by
  unfold Vf at h
  split at h
  · exact absurd h (by decide)
  · split at h
    · exact absurd h (by decide)
    · omega
end Go.Proofs.YtnaopgohccacmaaGreat.Q
namespace Go.Proofs.YtnaopgohccacmaaGreat.Q
set_option linter.unusedVariables false
set_option linter.unusedSimpArgs false
set_option maxRecDepth 100000
def Iz (b:Xq) (i:Int):List Step:=if Vf b=0 then Hx (Ya b) i else []
def Je (b:Xq) (i:Int):Int:=if Vf b=0 then X14 (Ya b) i else Vf b
theorem Xc7 {b:Xq} {i:Int} (hf:Hm b) (h:Je b i=0):Vf b=0∧0≤i∧i<((b.X9.length:Nat):Int)∧i<((b.Xl.length:Nat):Int) ∧
    Jc (Ws b).W2 (V6 (b.X9.getD i.toNat zE) (b.Xl.getD i.toNat Ym)) i (Ws b).Yg (Iz b i)=0∧Jp szS 70 30000 (Iz b i)∧(b.X9.getD i.toNat zE).Xf.length≤500:=by
  have hc:Vf b=0:=by
    apply Classical.byContradiction
    intro hn
    rw [Je,if_neg hn] at h
    exact hn h
  rw [Je,if_pos hc] at h
  have hl:=U6 b
  have ho:okI (Ya b) i:=by
    apply Classical.byContradiction
    intro hn
    rw [X14,if_neg hn] at h
    exact absurd h (by decide)
  obtain ⟨o1,o2⟩:=ho
  have hp:=Xja (l:=Ya b) (j:=i.toNat) (Jb hf).1 (by omega)
  rw [Fp (by omega) (by omega),show ((i.toNat:Nat):Int)=i by omega] at hp
  refine ⟨hc,o1,by omega,by omega,?_,?_,Ie (sz:=szE) hf.1 (by decide) _⟩
  · rw [Iz,if_pos hc];exact hp
  · rw [Iz,if_pos hc];exact few_path (Jb hf) i
end Go.Proofs.YtnaopgohccacmaaGreat.Q
namespace Go.Proofs.YtnaopgohccacmaaGreat.Q
set_option linter.unusedVariables false
set_option linter.unusedSimpArgs false
set_option maxRecDepth 100000
abbrev Links:=List Yq
def lnk (b:Xq):Yq:=⟨b,Ii (Ws b)⟩
def W1 (L:List Xq):Links:=L.map lnk
theorem Jk (L:List Xq):(W1 L).length=L.length:=List.length_map ..
def hdL (d:List UInt8) (l:Links):List UInt8:=if l.length=0 then d else (l.getD (l.length-1) Wk).X29
def X5d (h:Int) (d:List UInt8) (l:Links) (b:Xq):Int:=if Vf b=0 then (if b.Xg-1=h+((l.length:Nat):Int) then (if b.Y4=hdL d l then 0 else 101) else 100) else Vf b
def X12 (h:Int) (d:List UInt8) (l:Links) (b:Xq):Links:=if X5d h d l b=0 then l++[lnk b] else l
def inL (h:Int) (n:Nat) (x:Int):Prop:=h<x∧x≤h+((n:Nat):Int)
instance (h:Int) (n:Nat) (x:Int):Decidable (inL h n x):=inferInstanceAs (Decidable (_∧_))
def W0 (h:Int) (l:Links) (x:Int):Xq:=if inL h l.length x then (l.getD (x-h-1).toNat Wk).Uw else Yz
def X10 (h:Int) (n:Nat) (x:Int):Int:=if inL h n x then 0 else 4
theorem set_same {α:Type} {z:α} {l:List α} {k:Nat} (hk:k<l.length):l.set k (l.getD k z)=l:=by
  rw [List.getD_eq_getElem?_getD,List.getElem?_eq_getElem hk]
  exact List.set_getElem_self hk
def Xbj (l:Links):Prop:=∀ x,x∈l→Hm x.Uw
instance (l:Links):Decidable (Xbj l):=inferInstanceAs (Decidable (∀ x,x∈l→Hm x.Uw))
theorem Xbi {l:Links} (hw:Xbj l) (k:Nat):Hm (l.getD k Wk).Uw:=X5e (p:=fun (x:Yq)=>Hm x.Uw) hw (by decide) k
section
variable {h:Int} {d:List UInt8} {l:Links} {b:Xq}
theorem X81 (hc:Vf b≠0):X5d h d l b=Vf b∧X12 h d l b=l:=by
  have e:X5d h d l b=Vf b:=if_neg hc
  exact ⟨e,if_neg (by rw [e];exact hc)⟩
theorem X80 (hc:¬Vf b≠0) (hh:b.Xg-1≠h+((l.length:Nat):Int)):X5d h d l b=100∧X12 h d l b=l:=by
  have e:X5d h d l b=100:=by rw [X5d,if_pos (Classical.not_not.1 hc),if_neg hh]
  exact ⟨e,if_neg (by rw [e];decide)⟩
theorem X7z (hc:¬Vf b≠0) (hh:¬b.Xg-1≠h+((l.length:Nat):Int)) (hp:b.Y4≠hdL d l):X5d h d l b=101∧X12 h d l b=l:=by
  have e:X5d h d l b=101:=by rw [X5d,if_pos (Classical.not_not.1 hc),if_pos (Classical.not_not.1 hh),if_neg hp]
  exact ⟨e,if_neg (by rw [e];decide)⟩
theorem Xa6 (hc:¬Vf b≠0) (hh:¬b.Xg-1≠h+((l.length:Nat):Int)) (hp:¬b.Y4≠hdL d l):X5d h d l b=0∧X12 h d l b=l++[lnk b]:=by
  have e:X5d h d l b=0:=by rw [X5d,if_pos (Classical.not_not.1 hc),if_pos (Classical.not_not.1 hh),if_pos (Classical.not_not.1 hp)]
  exact ⟨e,if_pos e⟩
end
def X04 (L:List Xq):Prop:=∀ b,b∈L→Hm b
instance (L:List Xq):Decidable (X04 L):=inferInstanceAs (Decidable (∀ b,b∈L→Hm b))
theorem X68 {L:List Xq} (hw:X04 L) (k:Nat):Hm (L.getD k Yz):=X5e (p:=fun (x:Xq)=>Hm x) hw (by decide) k
theorem X2r {L:List Xq} (hw:X04 L):Xbj (W1 L):=fun x hx=>by
  obtain ⟨b,hb,rfl⟩:=List.mem_map.1 hx
  exact hw b hb
def atB (d:List UInt8) (L:List Xq) (n:Nat):List UInt8:=if n=0 then d else Ii (Ws (L.getD (n-1) Yz))
theorem Xb9 {L:List Xq} {k:Nat} (hk:k<L.length):(W1 L).getD k Wk=lnk (L.getD k Yz):=by
  rw [List.getD_eq_getElem?_getD,List.getD_eq_getElem?_getD,W1,List.getElem?_map,List.getElem?_eq_getElem hk]
  rfl
theorem X9n (d:List UInt8) (L:List Xq):hdL d (W1 L)=atB d L L.length:=by
  unfold hdL atB
  rw [Jk]
  by_cases h:L.length=0
  · rw [if_pos h,if_pos h]
  · rw [if_neg h,if_neg h,Xb9 (by omega)]
    rfl
def rblk (h:Int) (L:List Xq) (x:Int):Xq:=if inL h L.length x then L.getD (x-h-1).toNat Yz else Yz
theorem Xk0 (h:Int) (L:List Xq) (x:Int):W0 h (W1 L) x=rblk h L x:=by
  unfold W0 rblk
  rw [Jk]
  by_cases hi:inL h L.length x
  · have:=hi.1;have:=hi.2
    rw [if_pos hi,if_pos hi,Xb9 (by omega)]
    rfl
  · rw [if_neg hi,if_neg hi]
def X39 (h:Int) (d:List UInt8) (L:List Xq) (b:Xq):Int:=X5d h d (W1 L) b
def H9 (h:Int) (d:List UInt8) (L:List Xq) (b:Xq):List Xq:=if X39 h d L b=0 then L++[b] else L
section
variable {h:Int} {d:List UInt8} {L:List Xq} {b:Xq}
theorem X99 (hc:Vf b≠0):X39 h d L b=Vf b∧H9 h d L b=L:=by
  have e:X39 h d L b=Vf b:=(X81 hc).1
  exact ⟨e,if_neg (by rw [e];exact hc)⟩
theorem X98 (hc:¬Vf b≠0) (hh:b.Xg≠h+((L.length:Nat):Int)+1):X39 h d L b=100∧H9 h d L b=L:=by
  have e:X39 h d L b=100:=(X80 (l:=W1 L) hc (by rw [Jk];omega)).1
  exact ⟨e,if_neg (by rw [e];decide)⟩
theorem X97 (hc:¬Vf b≠0) (hh:¬b.Xg≠h+((L.length:Nat):Int)+1) (hp:b.Y4≠atB d L L.length):X39 h d L b=101∧H9 h d L b=L:=by
  have e:X39 h d L b=101:=(X7z (l:=W1 L) hc (by rw [Jk];omega) (by rw [X9n];exact hp)).1
  exact ⟨e,if_neg (by rw [e];decide)⟩
theorem X7s (hc:¬Vf b≠0) (hh:¬b.Xg≠h+((L.length:Nat):Int)+1) (hp:¬b.Y4≠atB d L L.length):X39 h d L b=0∧H9 h d L b=L++[b]:=by
  have e:X39 h d L b=0:=(Xa6 (l:=W1 L) hc (by rw [Jk];omega) (by rw [X9n];exact hp)).1
  exact ⟨e,if_pos e⟩
end
end Go.Proofs.YtnaopgohccacmaaGreat.Q
