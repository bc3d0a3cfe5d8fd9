import Derived.Test.YthnefnknoahbkaaGreatQb
import Derived.Below
import Derived.ChangeOld
import Derived.ChangeArms
import Derived.MapKept
namespace Go.Proofs.YthnefnknoahbkaaGreat.Q
open Go Go.RowKit
set_option linter.unusedVariables false
set_option linter.unusedSimpArgs false
variable {P:Program} {bs:Base}
theorem I4 {α:Type} {s:St} {a:Act} {w:World} (l i j T:Nat) (K:Kd α) {Tb:Nat} {cs:List SV} (hl:hget s.h l=.free) (hi:hget s.h i=.live (.box Tb cs)) (hj:cs[j]?=some (.d (.val (.slice none 0 0)))) (hG:Gs bs s a w):Gs bs ⟨s.t,hset (hset s.h l (.live (Xc T K []))) i (.live (.box Tb (cs.set j (.own l K.sz 0 0))))⟩ a w:=by
  obtain ⟨B,S,U,g⟩:=hG
  have hBl:=g.fr l hl
  have hil:i≠l:=fun h=>by rw [h,hl] at hi;cases hi
  have hB:∀ k p,B k=some p→bset B l none k=some p:=fun k p hp=>by
    unfold bset
    split
    · rename_i h;subst h;rw [hBl] at hp;cases hp
    · exact hp
  have mono:=Iv (B:=B) (B':=bset B l none) (S:=S) (S':=S) (U:=U) (U':=U) (w:=w) (w':=w) hB (fun _ h=>h) (fun _ h=>h) (Pres.refl _ _)
  have monoS:=J3 (B:=B) (B':=bset B l none) (S:=S) (S':=S) (U:=U) (U':=U) (w:=w) (w':=w) hB (fun _ h=>h) (fun _ h=>h) (Pres.refl _ _)
  have hgt:∀ k,hget (hset (hset s.h l (.live (Xc T K []))) i (.live (.box Tb (cs.set j (.own l K.sz 0 0))))) k=if k=i then .live (.box Tb (cs.set j (.own l K.sz 0 0))) else if k=l then .live (Xc T K []) else hget s.h k:=fun k=>by rw [Yd,Yd]
  have hlv:∀ k' o,hget (hset (hset s.h l (.live (Xc T K []))) i (.live (.box Tb (cs.set j (.own l K.sz 0 0))))) k'=.live o→k'≠l→∃ o',hget s.h k'=.live o':=fun k' o e hne=>by
    rw [hgt] at e
    split at e
    · rename_i h;exact ⟨_,h ▸ hi⟩
    · first|exact ⟨o,e⟩|(rw [if_neg hne] at e;exact ⟨o,e⟩)
  refine ⟨bset B l none,S,U,{ df:=g.df,sz:=g.sz,tm:=fun j=>mono _ _ (g.tm j),ob:=fun k' o e=>?_,nj:=fun k1 k2 o o' e e' hne p p' hp hp'=>?_,sp:=fun k' o p e hp=>?_,cf:=fun k' o p e hp=>?_,fr:=fun k' e=>?_,su:=g.su,ub:=g.ub,s0:=g.s0,u0:=g.u0,sn:=g.sn,un:=g.un,ps:=g.ps,hs:=g.hs,os:=g.os,tp:=g.tp,op:=g.op,bl:=fun k' p e=>hB k' p (g.bl k' p e),bk:=g.bk }⟩
  · rw [hgt] at e
    split at e
    · rename_i h
      subst h
      cases e
      obtain ⟨b,κ,cur,h1,h2,h3⟩:=g.ob k' _ hi
      refine ⟨b,κ,cur,hB _ _ h1,h2,?_⟩
      have h4:=Wj (fun a v h=>monoS a v h) h3
      obtain ⟨v,hv,hok⟩:=Uu h3 hj
      have hv':v=.slice none 0 0:=hok
      subst hv'
      have h5:=X2w (R:=V2 (bset B l none) S U w) (a:=.own l K.sz 0 0) (b:=.slice none 0 0) (.inl ⟨by simp [bset],rfl,rfl,rfl⟩) j h4
      have h6:cur.toList.set j (.slice none 0 0)=cur.toList:=by
        apply List.ext_getElem?
        intro x
        rw [List.getElem?_set]
        split
        · rename_i h;subst h;rw [hv];have:=(List.getElem?_eq_some_iff.1 hv).1;simp [show j<cur.size by simpa using this]
        · rfl
      rw [h6] at h5
      exact h5
    · split at e
      · rename_i h
        subst h
        cases e
        exact .inl ⟨by simp [bset],rfl⟩
      · exact Iq hB (fun _ h=>h) (fun _ h=>h) (Pres.refl _ _) (fun _ _=>rfl) (g.ob k' o e)
  · have n1:k1≠l:=fun h=>by rw [h] at hp;simp [bset] at hp
    have n2:k2≠l:=fun h=>by rw [h] at hp';simp [bset] at hp'
    simp only [bset,if_neg n1] at hp
    simp only [bset,if_neg n2] at hp'
    obtain ⟨o1,h1⟩:=hlv _ _ e n1
    obtain ⟨o2,h2⟩:=hlv _ _ e' n2
    exact g.nj k1 k2 o1 o2 h1 h2 hne p p' hp hp'
  · have n1:k'≠l:=fun h=>by rw [h] at hp;simp [bset] at hp
    simp only [bset,if_neg n1] at hp
    obtain ⟨o1,h1⟩:=hlv _ _ e n1
    exact g.sp k' o1 p h1 hp
  · have n1:k'≠l:=fun h=>by rw [h] at hp;simp [bset] at hp
    simp only [bset,if_neg n1] at hp
    obtain ⟨o1,h1⟩:=hlv _ _ e n1
    exact g.cf k' o1 p h1 hp
  · rw [hgt] at e
    split at e
    · cases e
    · split at e
      · cases e
      · rename_i h
        simp only [bset,if_neg h]
        exact g.fr k' e
theorem Xbk {α:Type} {s:St} {a:Act} {w:World} (l T:Nat) (K:Kd α) (xs ys:List α) (n:Nat) (hl:hget s.h l=.live (Xc T K xs)) (hys:xs.take n=ys) (hG:Gs bs s a w):Gs bs ⟨s.t,hset s.h l (.live (Xc T K ys))⟩ a w:=by
  obtain ⟨B,S,U,g⟩:=hG
  have hlv:∀ k o,hget (hset s.h l (.live (Xc T K ys))) k=.live o→∃ o',hget s.h k=.live o':=fun k o e=>by
    rw [Yd] at e
    split at e
    · rename_i h;exact ⟨_,h ▸ hl⟩
    · exact ⟨o,e⟩
  refine ⟨B,S,U,{ g with ob:=fun k o e=>?_,nj:=fun k k' o o' e e'=>?_,sp:=fun k o p e=>?_,cf:=fun k o p e=>?_,fr:=fun k e=>?_ }⟩
  · rw [Yd] at e
    split at e
    · rename_i h
      subst h
      cases e
      subst hys
      have hlen:(xs.take n).length≤xs.length:=by simp;omega
      rcases g.ob k _ hl with ⟨h1,h2⟩|⟨b,κ,cur,h1,h2,h3,h4,h5,h6⟩
      · exact .inl ⟨h1,by omega⟩
      · refine .inr ⟨b,κ,cur,h1,h2,h3,Nat.le_trans hlen h4,h5,fun i hi j hj=>?_⟩
        obtain ⟨u,hu,hd⟩:=h6 i (by omega) j hj
        refine ⟨u,hu,?_⟩
        have:Yu K (xs.take n) i j=Yu K xs i j:=by
          unfold Yu
          congr 1
          simp only [List.length_take] at hi
          simp only [List.getD_eq_getElem?_getD,List.getElem?_take]
          rw [if_pos (by omega)]
        rw [this]
        exact hd
    · exact g.ob k o e
  · obtain ⟨o1,h1⟩:=hlv k o e
    obtain ⟨o2,h2⟩:=hlv k' o' e'
    exact g.nj k k' o1 o2 h1 h2
  · obtain ⟨o1,h1⟩:=hlv k o e
    exact g.sp k o1 p h1
  · obtain ⟨o1,h1⟩:=hlv k o e
    exact g.cf k o1 p h1
  · rw [Yd] at e
    split at e
    · cases e
    · exact g.fr k e
def wkA (x y:AV):Prop:=x=y ∨
  match x,y with
  | .tv (.one x),.tv (.one y)=>weakS x y
  | .tv (.agg x),.tv (.agg y)=>Yr wkS x y
  | _,_=>False
def wkH (x y:HS):Prop:=x=y ∨
  match x,y with
  | .live (.box T x),.live (.box T' y)=>T'=T∧Yr wkS x y
  | _,_=>False
theorem X8h {R:HS→HS→Prop} (h0:R .free .free):∀ {a b:List HS},Yr R a b→∀ i,R (hget a i) (hget b i)
  | [],[],_,_=>h0
  | _::_,_::_,h,0=>h.1
  | _::a,_::b,h,i+1=>X8h h0 (a:=a) (b:=b) h.2 i
  | [],_::_,h,_=>h.elim
  | _::_,[],h,_=>h.elim
theorem We {s s':St} {a:Act} {w:World} (ht:Yr wkA s.t s'.t) (hh:Yr wkH s.h s'.h) (hG:Gs bs s a w):Gs bs s' a w:=by
  obtain ⟨B,S,U,g⟩:=hG
  have hk:∀ k,wkH (hget s.h k) (hget s'.h k):=X8h (.inl rfl) hh
  have hlv:∀ k o',hget s'.h k=.live o'→∃ o,hget s.h k=.live o∧(Ii B S U w k o→Ii B S U w k o'):=by
    intro k o' ho'
    rcases hk k with h|h
    · exact ⟨o',by rw [h];exact ho',id⟩
    · rw [ho'] at h
      match hs:hget s.h k,o',h with
      | .live (.box T x),.box T' y,h =>
        obtain ⟨rfl,h⟩:=h
        exact ⟨_,rfl,fun ⟨b,κ,cur,h1,h2,h3⟩=>⟨b,κ,cur,h1,h2,E1 h h3⟩⟩
  refine ⟨B,S,U,{ g with tm:=fun k=>?_,ob:=fun k o' e=>?_,nj:=fun k k' o o' e e'=>?_,sp:=fun k o' p e=>?_,cf:=fun k o' p e=>?_,fr:=fun k e=>?_ }⟩
  · have h:=g.tm k
    rcases X0j (R:=wkA) (.inl rfl) ht k with e|e
    · rw [← e];exact h
    · match hx:tget s.t k,hy:tget s'.t k with
      | .tv (.one x),.tv (.one y)=>rw [hx,hy] at e;rw [hx] at h;exact X57 (x:=x) (y:=y) e h
      | .tv (.agg x),.tv (.agg y)=>rw [hx,hy] at e;rw [hx] at h;obtain ⟨cs,h1,h2⟩:=h;exact ⟨cs,h1,E1 e h2⟩
      | .tv (.one x),.tv (.agg y)=>rw [hx,hy] at e;exact e.elim
      | .tv (.agg x),.tv (.one y)=>rw [hx,hy] at e;exact e.elim
      | .tv (.one x),.tup y=>rw [hx,hy] at e;exact e.elim
      | .tv (.agg x),.tup y=>rw [hx,hy] at e;exact e.elim
      | .tup x,.tv (.one y)=>rw [hx,hy] at e;exact e.elim
      | .tup x,.tv (.agg y)=>rw [hx,hy] at e;exact e.elim
      | .tup x,.tup y=>rw [hx,hy] at e;exact e.elim
  · obtain ⟨o,ho,f⟩:=hlv k o' e
    exact f (g.ob k o ho)
  · obtain ⟨o1,ho1,_⟩:=hlv k o e
    obtain ⟨o2,ho2,_⟩:=hlv k' o' e'
    exact g.nj k k' o1 o2 ho1 ho2
  · obtain ⟨o,ho,_⟩:=hlv k o' e
    exact g.sp k o p ho
  · obtain ⟨o,ho,_⟩:=hlv k o' e
    exact g.cf k o p ho
  · rcases hk k with h|h
    · exact g.fr k (by rw [h];exact e)
    · rw [e] at h
      match hs:hget s.h k,h with
      | .live (.box T x),h=>exact h.elim
      | .live (.arr ..),h=>exact h.elim
      | .live (.mp ..),h=>exact h.elim
      | .live (.mpr ..),h=>exact h.elim
      | .live (.it ..),h=>exact h.elim
      | .free,h=>exact h.elim
      | .dead,h=>exact h.elim
def mvr (l m k:Nat):Nat:=if k=l then m else k
def mvS (l m:Nat) (x y:SV):Prop:=x=y∨X1h (mvr l m) x=y
def mvA (l m:Nat) (x y:AV):Prop:=x=y ∨
  match x,y with
  | .tv (.one x),.tv (.one y)=>mvS l m x y
  | .tv (.agg x),.tv (.agg y)=>Yr (mvS l m) x y
  | _,_=>False
def mvO (l m:Nat) (x y:HS):Prop:=x=y ∨
  match x,y with
  | .live (.box T x),.live (.box T' y)=>T'=T∧Yr (mvS l m) x y
  | _,_=>False
def mvH (l m:Nat) (o:HObj):Nat→List HS→List HS→Prop
  | _,[],[]=>True
  | i,x::r,y::r'=>((i=l∧y=.dead)∨(i=m∧y=.live o)∨(i≠l∧i≠m∧mvO l m x y))∧mvH l m o (i+1) r r'
  | _,_,_=>False
theorem Xdq {l m:Nat} {o:HObj}:∀ {a b:List HS} {i:Nat},mvH l m o i a b→∀ k,(k<b.length→((i+k=l∧hget b k=.dead)∨(i+k=m∧hget b k=.live o)∨(i+k≠l∧i+k≠m∧mvO l m (hget a k) (hget b k))))∧(b.length≤k→hget a k=.free∧hget b k=.free)
  | [],[],_,_,k=>⟨fun h=>absurd h (Nat.not_lt_zero _),fun _=>⟨rfl,rfl⟩⟩
  | x::r,y::r',i,h,0=>⟨fun _=>h.1,fun h=>absurd h (by simp)⟩
  | x::r,y::r',i,h,k+1=>by
    have:=Xdq h.2 k
    rw [show i+(k+1)=i+1+k from by omega]
    exact ⟨fun hk=>this.1 (by simpa using hk),fun hk=>this.2 (by simpa using hk)⟩
  | [],_::_,_,h,_=>h.elim
  | _::_,[],_,h,_=>h.elim
theorem svOk_ren {B B':Bk} {S U:Nat→Prop} {w:World} {r:Nat→Nat} (h:∀ k p,B k=some p→B' (r k)=some p):∀ {x:SV} {v:Value},V2 B S U w x v→V2 B' S U w (X1h r x) v
  | .d _,_,hv=>hv
  | .ptr l off,v,⟨b,κ,e,hv⟩=>⟨b,κ,h _ _ e,hv⟩
  | .own l sz off n,v,hv=>by
    rcases hv with ⟨e,hv⟩|⟨b,κ,o,cap,e,hv⟩
    · exact .inl ⟨h _ _ e,hv⟩
    · exact .inr ⟨b,κ,o,cap,h _ _ e,hv⟩
  | .ep ..,_,hv=>hv
  | .mref l,v,⟨b,κ,e,hv⟩=>⟨b,κ,h _ _ e,hv⟩
  | .clo f ls,v,hv=>by
    obtain ⟨ps,e,h2⟩:=hv
    exact ⟨ps,e,(X0h r).2 (Wj (R:=fun (l:Nat) (p:Value)=>∃ b κ,B l=some (some (b,κ))∧p=.pointer (some ⟨b,0,none⟩)) (fun l p hq=>by obtain ⟨b,κ,q,hv⟩:=hq;exact ⟨b,κ,h _ _ q,hv⟩) h2)⟩
  | .cl ..,_,hv=>hv
theorem X78 {B B':Bk} {S U:Nat→Prop} {w:World} {R:SV→SV→Prop} (f:∀ x y v,R x y→V2 B S U w x v→V2 B' S U w y v):∀ {x y:List SV} {vs:List Value},Yr R x y→Yr (V2 B S U w) x vs→Yr (V2 B' S U w) y vs
  | [],[],[],_,_=>trivial
  | x::xs,y::ys,v::vs,h,h'=>⟨f _ _ _ h.1 h'.1,X78 f h.2 h'.2⟩
  | [],[],_::_,_,h=>h.elim
  | _::_,_::_,[],_,h=>h.elim
  | [],_::_,_,h,_=>h.elim
  | _::_,[],_,h,_=>h.elim
theorem Gs.move {s s':St} {a:Act} {w:World} (l m:Nat) {o:HObj} (hl:hget s.h l=.live o) (hm:hget s.h m=.free) (hs':hget s'.h m=.live o) (ht:Yr (mvA l m) s.t s'.t) (hh:mvH l m o 0 (s.h++[.free]) s'.h) (hG:Gs bs s a w):Gs bs s' a w:=by
  obtain ⟨B,S,U,g⟩:=hG
  have happ:∀ k,hget (s.h++[.free]) k=hget s.h k:=by
    intro k
    generalize s.h=h
    induction h generalizing k with
    | nil=>cases k with
      | zero=>rfl
      | succ k=>rfl
    | cons x r ih=>cases k with
      | zero=>rfl
      | succ k=>exact ih k
  have hlm:l≠m:=fun e=>by rw [e,hm] at hl;cases hl
  have hBm:=g.fr m hm
  have hBl:∃ q,B l=some q:=by
    match o,g.ob l _ hl with
    | .box ..,⟨b,κ,cur,h,_⟩=>exact ⟨_,h⟩
    | .arr ..,.inl ⟨h,_⟩=>exact ⟨_,h⟩
    | .arr ..,.inr ⟨b,κ,cur,h,_⟩=>exact ⟨_,h⟩
    | .mp ..,⟨b,κ,e,c,h,_⟩=>exact ⟨_,h⟩
    | .mpr ..,⟨b,κ,e,h,_⟩=>exact ⟨_,h⟩
    | .it ..,⟨b,κ,e,c,h,_⟩=>exact ⟨_,h⟩
  obtain ⟨q,hq⟩:=hBl
  have hB:∀ k p,B k=some p→bset B m q k=some p:=fun k p hp=>by
    unfold bset
    split
    · rename_i h;subst h;rw [hBm] at hp;cases hp
    · exact hp
  have hBr:∀ k p,B k=some p→bset B m q (mvr l m k)=some p:=fun k p hp=>by
    unfold mvr
    split
    · rename_i h;subst h;rw [hq] at hp;simp [bset,hp]
    · exact hB k p hp
  have mono:=Iv (B:=B) (B':=bset B m q) (S:=S) (S':=S) (U:=U) (U':=U) (w:=w) (w':=w) hB (fun _ h=>h) (fun _ h=>h) (Pres.refl _ _)
  have monoS:=J3 (B:=B) (B':=bset B m q) (S:=S) (S':=S) (U:=U) (U':=U) (w:=w) (w':=w) hB (fun _ h=>h) (fun _ h=>h) (Pres.refl _ _)
  have hsv:∀ x y v,mvS l m x y→V2 B S U w x v→V2 (bset B m q) S U w y v:=fun x y v h hv=>by
    rcases h with rfl|rfl
    · exact monoS _ _ hv
    · exact svOk_ren hBr hv
  have hk:=fun k=>Xdq hh k
  simp only [Nat.zero_add] at hk
  have hlv:∀ k o',hget s'.h k=.live o'→∃ k0 o0,hget s.h k0=.live o0∧(∀ p,bset B m q k=some p→B k0=some p)∧k0=(if k=m then l else k)∧k≠l∧Ii (bset B m q) S U w k o':=by
    intro k o' e
    rcases Nat.lt_or_ge k s'.h.length with hlt|hge
    · rcases (hk k).1 hlt with ⟨_,h⟩|⟨h1,h2⟩|⟨h1,h2,h3⟩
      · rw [e] at h;cases h
      · subst h1
        have h2':o'=o:=by rw [e] at h2;cases h2;rfl
        rw [h2']
        refine ⟨l,o,hl,fun p hp=>?_,by simp,Ne.symm hlm,?_⟩
        · simp [bset] at hp;rw [hq,hp]
        · have hob:=g.ob l _ hl
          match o,hob with
          | .box T cs,⟨b,κ,cur,h1,h2,h3⟩ =>
            rw [hq] at h1;cases h1
            exact ⟨b,κ,cur,by simp [bset],h2,Wj (fun a v h=>monoS a v h) h3⟩
          | .arr T sz n el,.inl ⟨h1,h2⟩ =>
            rw [hq] at h1;cases h1
            exact .inl ⟨by simp [bset],h2⟩
          | .arr T sz n el,.inr ⟨b,κ,cur,h1,h2⟩ =>
            rw [hq] at h1;cases h1
            exact .inr ⟨b,κ,cur,by simp [bset],h2⟩
          | .mp es,⟨b,κ,en,cl,h1,h2⟩ =>
            rw [hq] at h1;cases h1
            exact ⟨b,κ,en,cl,by simp [bset],h2⟩
          | .mpr es bs clock,⟨b,κ,en,h1,h2⟩ =>
            rw [hq] at h1;cases h1
            exact ⟨b,κ,en,by simp [bset],h2⟩
          | .it m' clock seen,⟨b,κ,mb,mκ,h1,h2,h3⟩ =>
            rw [hq] at h1;cases h1
            exact ⟨b,κ,mb,mκ,by simp [bset],hB _ _ h2,h3⟩
      · have hkm:∀ p,bset B m q k=some p→B k=some p:=fun p hp=>by simpa [bset,if_neg h2] using hp
        rw [happ] at h3
        rcases h3 with h|h
        · exact ⟨k,o',by rw [h];exact e,hkm,(if_neg h2).symm,h1,Iq hB (fun _ h=>h) (fun _ h=>h) (Pres.refl _ _) (fun _ _=>rfl) (g.ob k o' (by rw [h];exact e))⟩
        · rw [e] at h
          match hs:hget s.h k,o',h with
          | .live (.box T x),.box T' y,h =>
            obtain ⟨rfl,h⟩:=h
            obtain ⟨b,κ,cur,e1,e2,e3⟩:=g.ob k _ hs
            exact ⟨k,_,hs,hkm,(if_neg h2).symm,h1,b,κ,cur,hB _ _ e1,e2,X78 hsv h e3⟩
    · rw [((hk k).2 hge).2] at e;cases e
  refine ⟨bset B m q,S,U,{ df:=g.df,sz:=g.sz,tm:=fun k=>?_,ob:=fun k o' e=>?_,nj:=fun k1 k2 o1 o2 e1 e2 hne p p' hp hp'=>?_,sp:=fun k o' p e hp=>?_,cf:=fun k o' p e hp=>?_,fr:=fun k e=>?_,su:=g.su,ub:=g.ub,s0:=g.s0,u0:=g.u0,sn:=g.sn,un:=g.un,ps:=g.ps,hs:=g.hs,os:=g.os,tp:=g.tp,op:=g.op,bl:=fun k' p e=>hB k' p (g.bl k' p e),bk:=g.bk }⟩
  · have h:=g.tm k
    rcases X0j (R:=mvA l m) (.inl rfl) ht k with e|e
    · rw [← e];exact mono _ _ h
    · match hx:tget s.t k,hy:tget s'.t k with
      | .tv (.one x),.tv (.one y)=>rw [hx,hy] at e;rw [hx] at h;exact hsv x y _ e h
      | .tv (.agg x),.tv (.agg y)=>rw [hx,hy] at e;rw [hx] at h;obtain ⟨cs,h1,h2⟩:=h;exact ⟨cs,h1,X78 hsv e h2⟩
      | .tv (.one x),.tv (.agg y)=>rw [hx,hy] at e;exact e.elim
      | .tv (.agg x),.tv (.one y)=>rw [hx,hy] at e;exact e.elim
      | .tv (.one x),.tup y=>rw [hx,hy] at e;exact e.elim
      | .tv (.agg x),.tup y=>rw [hx,hy] at e;exact e.elim
      | .tup x,.tv (.one y)=>rw [hx,hy] at e;exact e.elim
      | .tup x,.tv (.agg y)=>rw [hx,hy] at e;exact e.elim
      | .tup x,.tup y=>rw [hx,hy] at e;exact e.elim
  · obtain ⟨_,_,_,_,_,_,h⟩:=hlv k o' e
    exact h
  · obtain ⟨j1,y1,h1,f1,g1,n1,_⟩:=hlv k1 o1 e1
    obtain ⟨j2,y2,h2,f2,g2,n2,_⟩:=hlv k2 o2 e2
    refine g.nj j1 j2 y1 y2 h1 h2 (fun e=>hne ?_) p p' (f1 _ hp) (f2 _ hp')
    rw [g1,g2] at e
    split at e<;>split at e
    · rename_i a b;rw [a,b]
    · exact absurd e.symm n2
    · exact absurd e n1
    · exact e
  · obtain ⟨j1,y1,h1,f1,_⟩:=hlv k o' e
    exact g.sp j1 y1 p h1 (f1 _ hp)
  · obtain ⟨j1,y1,h1,f1,_⟩:=hlv k o' e
    exact g.cf j1 y1 p h1 (f1 _ hp)
  · rcases Nat.lt_or_ge k s'.h.length with hlt|hge
    · rcases (hk k).1 hlt with ⟨_,h⟩|⟨h1,h2⟩|⟨h1,h2,h3⟩
      · rw [e] at h;cases h
      · rw [e] at h2;cases h2
      · simp only [bset,if_neg h2]
        rw [happ] at h3
        rcases h3 with h|h
        · exact g.fr k (by rw [h];exact e)
        · rw [e] at h
          match hs:hget s.h k,h with
          | .live (.box T x),h=>exact h.elim
          | .live (.arr ..),h=>exact h.elim
          | .live (.mp ..),h=>exact h.elim
          | .live (.mpr ..),h=>exact h.elim
          | .live (.it ..),h=>exact h.elim
          | .free,h=>exact h.elim
          | .dead,h=>exact h.elim
    · have h:=((hk k).2 hge).1
      rw [happ] at h
      have:k≠m:=fun e'=>by
        subst e'
        rw [e] at hs';cases hs'
      simp only [bset,if_neg this]
      exact g.fr k h
def Et (rl:List Nat) (h:List HS):Nat→List HS→List HS
  | _,[]=>[]
  | i,.dead::l=>.dead::Et rl h (i+1) l
  | i,_::l=>hget h (rl.getD i 0)::Et rl h (i+1) l
theorem renS_any {r:Nat→Nat}:∀ {x:SV},X1h r x=.d .any→x=.d .any
  | .d x,h=>h
theorem renA_any {r:Nat→Nat}:∀ {x:AV},Hm r x=.any→x=.any
  | .tv (.one x),h=>by
    have:X1h r x=.d .any:=by injection h with h;injection h
    rw [renS_any this]
  | .tv (.agg l),h=>by injection h with h;cases h
theorem X9x {r:Nat→Nat}:∀ (l:List AV) (i:Nat),i<l.length→tget (l.map (Hm r)) i=Hm r (tget l i)
  | [],_,h=>absurd h (Nat.not_lt_zero _)
  | _::_,0,_=>rfl
  | _::l,i+1,h=>X9x l i (by simpa using h)
theorem X9y:∀ {l:List AV} {i:Nat},l.length≤i→tget l i=.any
  | [],_,_=>rfl
  | _::_,0,h=>absurd h (by simp)
  | _::l,i+1,h=>X9y (l:=l) (by simpa using h)
theorem X9z {p:AV→Bool}:∀ {l:List AV} {i:Nat},l.all p=true→i<l.length→p (tget l i)=true
  | [],_,_,h=>absurd h (Nat.not_lt_zero _)
  | x::l,0,h,_=>by simp only [List.all_cons,Bool.and_eq_true] at h;exact h.1
  | x::l,i+1,h,hi=>by simp only [List.all_cons,Bool.and_eq_true] at h;exact X9z (l:=l) h.2 (by simpa using hi)
theorem X2g {r:Nat→Nat} {rl:List Nat} {h:List HS}:∀ {l:List HS} {i:Nat},l.map (renH r)=Et rl h i l→∀ k o,hget l k=.live o→hget h (rl.getD (i+k) 0)=.live (X0y r o)
  | [],_,_,k,o,e=>by cases e
  | .live x::l,i,hh,0,o,e=>by
    cases e
    simp only [List.map_cons,Et,List.cons.injEq] at hh
    exact hh.1.symm
  | .dead::l,i,hh,0,o,e=>by cases e
  | .free::l,i,hh,0,o,e=>by cases e
  | .live x::l,i,hh,k+1,o,e=>by
    simp only [List.map_cons,Et,List.cons.injEq] at hh
    rw [show i+(k+1)=i+1+k from by omega]
    exact X2g hh.2 k o e
  | .dead::l,i,hh,k+1,o,e=>by
    simp only [List.map_cons,Et,List.cons.injEq] at hh
    rw [show i+(k+1)=i+1+k from by omega]
    exact X2g hh.2 k o e
  | .free::l,i,hh,k+1,o,e=>by
    simp only [List.map_cons,Et,List.cons.injEq] at hh
    rw [show i+(k+1)=i+1+k from by omega]
    exact X2g hh.2 k o e
theorem Xaq {m:Nat}:∀ {l:List HS} {k:Nat} {o:HObj},l.all (idsH m)=true→hget l k=.live o→X2n m o=true
  | [],_,_,_,e=>by cases e
  | x::l,0,o,h,e=>by
    simp only [List.all_cons,Bool.and_eq_true] at h
    have e:x=.live o:=e
    subst e
    exact h.1
  | x::l,k+1,o,h,e=>by
    simp only [List.all_cons,Bool.and_eq_true] at h
    exact Xaq (l:=l) (k:=k) h.2 e
theorem Xbl {N k:Nat} {w0:World} {S0 U0:Nat→Prop} {B0:Bk} {s s':St} {a:Act} {w:World} (rl:List Nat) (m:List Bool) {t1 t2:List AV} {h1 h2:List HS} (et:t1=t2) (eh:h1=h2) (hrl:Nat.beq s'.h.length rl.length=true) (hk:Nat.ble k rl.length=true) (hfix:fixB k (fun i=>rl.getD i 0)=true) (hnd:Jo rl=true)
    (hnf:H2 s'.h=true) (hidt:s'.t.all (X0z rl.length)=true) (hidh:s'.h.all (idsH rl.length)=true)
    (ht1:s'.t.map (Hm fun i=>rl.getD i 0)=t1) (ht2:Il m s.t=t2) (hh1:s'.h.map (renH fun i=>rl.getD i 0)=h1) (hh2:Et rl s.h 0 s'.h=h2)
    (hG:Gs (Y0 N k w0 S0 U0 B0) s a w):Gs (Y0 N k w0 S0 U0 B0) s' a w:=by
  have hrl':s'.h.length=rl.length:=Nat.eq_of_beq_eq_true hrl
  have hT:s'.t.map (Hm fun i=>rl.getD i 0)=Il m s.t:=ht1.trans (et.trans ht2.symm)
  have hH:s'.h.map (renH fun i=>rl.getD i 0)=Et rl s.h 0 s'.h:=hh1.trans (eh.trans hh2.symm)
  refine hG.ren (fun i=>rl.getD i 0) (by rw [hrl'];exact Nat.le_of_ble_eq_true hk) (fun l hl=>?_) (fun l l' h1 h2 e=>Hs hnd l l' (by omega) (by omega) e) (fun l hl=>Ht hnf l hl) (fun l hl=>X9g hl) (fun i=>?_) (fun l o e=>?_)
  · simp only [fixB,List.all_eq_true,List.mem_range] at hfix
    exact Nat.eq_of_beq_eq_true (hfix l hl)
  · rcases Nat.lt_or_ge i s'.t.length with hi|hi
    · have h3:=X9x (r:=fun i=>rl.getD i 0) s'.t i hi
      rw [hT] at h3
      rcases Ft m s.t i with h|h
      · rw [h] at h3
        exact .inl (renA_any h3.symm)
      · rw [h] at h3
        exact .inr ⟨by rw [hrl'];exact X9z hidt hi,h3.symm⟩
    · exact .inl (X9y hi)
  · have:=X2g hH l o e
    rw [Nat.zero_add] at this
    exact ⟨by rw [hrl'];exact Xaq hidh e,this⟩
end Go.Proofs.YthnefnknoahbkaaGreat.Q
namespace Go.Proofs.YthnefnknoahbkaaGreat.Q
open Go Go.RowKit
set_option linter.unusedVariables false
variable {P:Program}
end Go.Proofs.YthnefnknoahbkaaGreat.Q
namespace Go.Proofs.YthnefnknoahbkaaGreat.Q
open Go Go.RowKit
set_option linter.unusedVariables false
variable {P:Program}
def inW (w:World) (b:Nat):Prop:=b<w.heap.size
def X0w {α:Type} (w:World) (K:Kd α) (a:α) (cs:List Value):Prop:=cs.length=K.sz∧∀ j,j<K.sz→∃ u,cs[j]?=some u∧dOk (inW w) (inW w) w (K.cell a j) u
def Rd {α:Type} (P:Program) (t:TypeId) (K:Kd α) (ok:α→Prop):Prop :=
  ∀ (H:Type) (enc:TypeId×Value→H) (w:World) (base:Nat) (sp:Nat→Bool) (held:Bool) (fuel:Nat) (cs:List Value) (x:DataW H×List MemPlace),DataW.trod enc P w base sp held fuel t cs=some x→∃ a:α,ok a∧X0w w K a cs
theorem Ip {t:TypeId} {k:IntKind} (ht:P.underlying t=some (.int k)):Rd P t (Y8 k) (fun n=>(Lit.int k n).wf=true):=fun H enc w base sp held fuel cs x h=>by
  obtain ⟨n,rfl,_,hw⟩:=DataW.trod_int ht h
  refine ⟨n,hw,rfl,fun j hj=>?_⟩
  have hj:j<1:=hj
  obtain rfl:j=0:=by omega
  exact ⟨_,rfl,rfl⟩
theorem rd_bool {t:TypeId} (ht:P.underlying t=some .bool):Rd P t Y6 (fun _=>True):=fun H enc w base sp held fuel cs x h=>by
  obtain ⟨n,rfl,_⟩:=DataW.trod_bool ht h
  refine ⟨n,trivial,rfl,fun j hj=>?_⟩
  have hj:j<1:=hj
  obtain rfl:j=0:=by omega
  exact ⟨_,rfl,rfl⟩
theorem rd_u8 {t:TypeId} (ht:P.underlying t=some (.int .u8)):Rd P t kU8 (fun _=>True):=fun H enc w base sp held fuel cs x h=>by
  obtain ⟨n,rfl,_,hw⟩:=DataW.trod_int ht h
  have hw:0≤n∧n<256:=by
    have h1:IntKind.u8.min≤n∧n≤IntKind.u8.max:=by simpa [Lit.wf] using hw
    have h2:IntKind.u8.min=0:=by decide
    have h3:IntKind.u8.max=255:=by decide
    omega
  refine ⟨UInt8.ofNat n.toNat,trivial,rfl,fun j hj=>?_⟩
  have hj:j<1:=hj
  obtain rfl:j=0:=by omega
  refine ⟨_,rfl,?_⟩
  show Value.int .u8 n=.int .u8 ((UInt8.ofNat n.toNat).toNat:Int)
  congr 1
  rw [UInt8.toNat_ofNat']
  omega
theorem X46 {α:Type} {R:Nat→α→Prop}:∀ (n:Nat),(∀ i,i<n→∃ a,R i a)→∃ xs:List α,xs.length=n∧∀ i a,xs[i]?=some a→R i a
  | 0,_=>⟨[],rfl,fun _ _ h=>by simp at h⟩
  | n+1,h=>by
    obtain ⟨xs,h1,h2⟩:=X46 n fun i hi=>h i (by omega)
    obtain ⟨a,ha⟩:=h n (by omega)
    refine ⟨xs++[a],by simp [h1],fun i b hb=>?_⟩
    rcases Nat.lt_or_ge i n with hi|hi
    · rw [List.getElem?_append_left (by omega)] at hb;exact h2 i b hb
    · have hlt:=(List.getElem?_eq_some_iff.1 hb).1
      simp only [List.length_append,List.length_cons,List.length_nil] at hlt
      obtain rfl:i=n:=by omega
      rw [List.getElem?_append_right (by omega),h1] at hb
      simp at hb
      subst hb
      exact ha
theorem G0 {W:World} {vs:List Value} {l:List AV} (hl:vs.length=l.length) (h:∀ i av,l[i]?=some av→Jh (fun _=>none) (inW W) (inW W) W av (vs.getD i undef)) :
    G (Y0 vs.length 0 W (inW W) (inW W) fun _=>none) (fun _=>none) (inW W) (inW W) ⟨l,[]⟩ ⟨vs.toArray,[]⟩ W :=
  { df:=rfl,sz:=by simp [Y0],tm:=fun k=>by
      rcases Nat.lt_or_ge k l.length with hk|hk
      · have h1:=h k l[k] (List.getElem?_eq_getElem hk)
        have h2:tget l k=l[k]:=by
          clear h h1 hl
          induction l generalizing k with
          | nil=>exact absurd hk (Nat.not_lt_zero _)
          | cons x r ih=>cases k with
            | zero=>rfl
            | succ k=>exact ih k (by simpa using hk)
        show Jh _ _ _ _ (tget l k) (vs.toArray.getD k undef)
        rw [h2]
        simpa using h1
      · show Jh _ _ _ _ (tget l k) _
        rw [X4q l k hk]
        exact trivial,
    ob:=fun l o e=>(by cases l<;>cases e),nj:=fun l l' o o' e=>(by cases l<;>cases e),sp:=fun l o p e=>(by cases l<;>cases e),cf:=fun l o p e=>(by cases l<;>cases e),fr:=fun _ _=>rfl,su:=fun _ h=>h,ub:=fun _ h=>h,s0:=fun _ h=>h,u0:=fun _ h=>h,sn:=fun _ h=>.inl h,un:=fun _ h=>.inl h,ps:=fun _ _ _=>rfl,hs:=Nat.le_refl _,os:=rfl,tp:=rfl,op:=rfl,bl:=fun _ _ h=>h,bk:=fun _ _=>rfl }
theorem lawN {f:Nat} {l:List AV} (h:Holds P f ⟨l,[],dv (.bool true),[]⟩) (W:World) {vs:List Value} (hl:vs.length=l.length) (ha:∀ i av,l[i]?=some av→Jh (fun _=>none) (inW W) (inW W) W av (vs.getD i undef)):Calls P f vs.toArray W fun e w'=>e=.returned (.bool true)∧Below W.heap.size W w':=by
  refine (h W (fun _=>none) (inW W) (inW W) vs hl (G0 hl ha)).mono ?_
  rintro e w' ⟨v,B',S',U',rfl,g⟩
  have hv:v=.bool true:=g.tm 0
  subst hv
  exact ⟨rfl,⟨g.os,g.tp,g.op,g.hs,fun k hk=>g.ps k hk fun ⟨i,κ,hi,_⟩=>absurd hi (Nat.not_lt_zero _)⟩⟩
theorem arg_agg {α:Type} {W:World} {K:Kd α} {a:α} {cs:Array Value} {l:List SV} (h:X0w W K a cs.toList) (hl:(dvs K.sz (K.cell a))=l):Jh (fun _=>none) (inW W) (inW W) W (.tv (.agg l)) (.agg cs):=by
  refine ⟨cs.toList,by simp,?_⟩
  subst hl
  rw [dvs_eq]
  refine Vu (by simp;exact h.1.symm) fun i x y hx hy=>?_
  have hi:i<K.sz:=by have:=(List.getElem?_eq_some_iff.1 hx).1;simpa using this
  rw [List.getElem?_map,List.getElem?_range hi] at hx
  cases hx
  obtain ⟨u,hu,hd⟩:=h.2 i hi
  rw [hu] at hy
  cases hy
  exact hd
theorem arg_one {α:Type} {W:World} {K:Kd α} {a:α} {v:Value} {d:DV} (h:X0w W K a [v]) (hs:K.sz=1) (hd:K.cell a 0=d):Jh (fun _=>none) (inW W) (inW W) W (sv (.d d)) v:=by
  obtain ⟨u,hu,h1⟩:=h.2 0 (by omega)
  cases hu
  subst hd
  exact h1
end Go.Proofs.YthnefnknoahbkaaGreat.Q
namespace Go.Proofs.YthnefnknoahbkaaGreat.Q
open Go Go.RowKit
set_option linter.unusedVariables false
set_option linter.unusedSimpArgs false
section
variable {K V:Type} [DecidableEq K]
def mput:List (K×V)→K→V→List (K×V)
  | [],k,v=>[(k,v)]
  | e::r,k,v=>if e.1=k then (k,v)::r else e::mput r k v
def mget:List (K×V)→K→V→V
  | [],_,z=>z
  | e::r,k,z=>if e.1=k then e.2 else mget r k z
def mhas:List (K×V)→K→Bool
  | [],_=>false
  | e::r,k=>if e.1=k then true else mhas r k
def mdel:List (K×V)→K→List (K×V)
  | [],_=>[]
  | e::r,k=>if e.1=k then r else e::mdel r k
theorem map_none {l:List (K×V)} {k:K} (v:V) (h:∀ e,e∈l→e.1≠k):mput l k v=l++[(k,v)]∧mget l k v=v∧mhas l k=false∧mdel l k=l:=by
  induction l with
  | nil=>exact ⟨rfl,rfl,rfl,rfl⟩
  | cons e r ih =>
    have h1:=h e (List.mem_cons_self ..)
    obtain ⟨i1,i2,i3,i4⟩:=ih fun x hx=>h x (List.mem_cons_of_mem _ hx)
    refine ⟨?_,?_,?_,?_⟩<;>simp only [mput,mget,mhas,mdel,if_neg h1,i1,i2,i3,i4,List.cons_append]
theorem map_some {l:List (K×V)} {k:K} (v:V):∀ {j:Nat} {e:K×V},l[j]?=some e→e.1=k→(∀ i,i<j→∀ e',l[i]?=some e'→e'.1≠k)→mput l k v=l.set j (k,v)∧mget l k v=e.2∧mhas l k=true∧mdel l k=l.eraseIdx j:=by
  induction l with
  | nil=>intro j e h;simp at h
  | cons x r ih =>
    intro j e h hk hf
    cases j with
    | zero =>
      simp only [List.getElem?_cons_zero,Option.some.injEq] at h
      subst h
      refine ⟨?_,?_,?_,?_⟩<;>simp [mput,mget,mhas,mdel,hk]
    | succ j =>
      have h1:x.1≠k:=hf 0 (Nat.succ_pos _) x rfl
      obtain ⟨i1,i2,i3,i4⟩:=ih (j:=j) (e:=e) (by simpa using h) hk (fun i hi e' he'=>hf (i+1) (by omega) e' (by simpa using he'))
      refine ⟨?_,?_,?_,?_⟩<;>simp [mput,mget,mhas,mdel,if_neg h1,i1,i2,i3,i4]
end
structure MKey (P:Program) (kt:TypeId) {K:Type} (f:K→Value):Prop where
  check:∀ (w:World) (em:Bool) (k:K),(Instr.checkKey em 10000 kt (f k)).run P w=.ok () w
  inj:∀ a b,f a=f b→a=b
  find:∀ (w:World) (k:K) (es:List MapEntry),(∀ e,e∈es→∃ k',e.key=f k') →
    ((Instr.findKey kt (f k) es).run P w=.ok none w∧∀ e,e∈es→e.key≠f k) ∨
    ∃ j e,(Instr.findKey kt (f k) es).run P w=.ok (some (j,e.val)) w∧es[j]?=some e∧e.key=f k∧∀ i,i<j→∀ e',es[i]?=some e'→e'.key≠f k
  stays:∀ (w:World) (k:K),(Instr.keyThatStays (f k) (f k)).run P w=.ok (f k) w
theorem X19 {d:TypeDesc} {k:Value} (hk:MapKept.IsKey d k):∀ (l:List MapEntry) (i:Nat),(∀ x∈l,MapKept.IsKey d x.key) →
    (Instr.findNow d k l i=some none∧∀ x∈l,x.key≠k)∨∃ j e,Instr.findNow d k l i=some (some (i+j,e.val))∧l[j]?=some e∧e.key=k∧∀ i',i'<j→∀ e',l[i']?=some e'→e'.key≠k
  | [],_,_=>.inl ⟨rfl,by simp⟩
  | e::es,i,h=>by
    obtain ⟨r,hr,hiff⟩:=MapKept.sameNow_of_keys hk (h e (.head _))
    cases r with
    | true=>exact .inr ⟨0,e,by simp [Instr.findNow,hr],rfl,(hiff.1 rfl).symm,fun i' hi'=>absurd hi' (Nat.not_lt_zero _)⟩
    | false =>
      have hne:e.key≠k:=fun q=>by have:=hiff.2 q.symm;cases this
      rcases X19 hk es (i+1) (fun x hx=>h x (.tail _ hx)) with ⟨h1,h2⟩|⟨j,e',h1,h2,h3,h4⟩
      · exact .inl ⟨by simp [Instr.findNow,hr,h1],fun x hx=>by
          cases hx with
          | head=>exact hne
          | tail _ hx=>exact h2 x hx⟩
      · refine .inr ⟨j+1,e',by simp [Instr.findNow,hr,h1];omega,by simpa using h2,h3,fun i' hi' x hx=>?_⟩
        cases i' with
        | zero=>simp only [List.getElem?_cons_zero,Option.some.injEq] at hx;subst hx;exact hne
        | succ i'=>exact h4 i' (by omega) x (by simpa using hx)
theorem Xcd {P:Program} {kt:TypeId} {d:TypeDesc} {K:Type} {f:K→Value} (hd:P.underlying kt=some d) (hf:∀ k,MapKept.IsKey d (f k)) (hinj:∀ a b,f a=f b→a=b):MKey P kt f where
  check w em k:=MapKept.run_checkKey hd (hf k) em 9999
  inj:=hinj
  find w k es hes:=by
    have hks:∀ x∈es,MapKept.IsKey d x.key:=fun x hx=>by obtain ⟨k',e⟩:=hes x hx;rw [e];exact hf k'
    rcases X19 (hf k) es 0 hks with ⟨h1,h2⟩|⟨j,e0,h1,h2,h3,h4⟩
    · exact .inl ⟨MapKept.run_findKey hd h1,h2⟩
    · exact .inr ⟨j,e0,by simpa using MapKept.run_findKey hd h1,h2,h3,h4⟩
  stays w k:=MapKept.run_keyThatStays (hf k)
abbrev W8 (k:IntKind):Int→Value:=fun n=>.int k n
theorem Xal {P:Program} {kt:TypeId} {k:IntKind} (h:P.underlying kt=some (.int k)):MKey P kt (W8 k) :=
  Xcd h (fun _=>rfl) (fun a b e=>by cases e;rfl)
def Vp {α:Type} (k:Kd α) (x:α):List DV:=(List.range k.sz).map (k.cell x)
def mpK {K V:Type} (f:K→Value) (kd:Kd V) (l:List (K×V)):HObj:=.mp (l.map fun e=>(f e.1,Vp kd e.2))
def mkTV:List DV→TV
  | [c]=>.one (.d c)
  | l=>.agg (l.map .d)
theorem mp_nt {K V:Type} {f:K→Value} {kd:Kd V} {l:List (K×V)} (h:∀ x j,J8 (kd.cell x j)):X9c (mpK f kd l):=by
  have h1:∀ x,E0 J8 (Vp kd x):=fun x=>by
    unfold Vp
    induction List.range kd.sz with
    | nil=>exact trivial
    | cons a r ih=>exact ⟨h x a,ih⟩
  show E0 (fun (e:Value×List DV)=>E0 J8 e.2) (l.map _)
  induction l with
  | nil=>exact trivial
  | cons a r ih=>exact ⟨h1 a.2,ih⟩
def Ey:AV→Value→Prop
  | .tv (.one (.d (.val u))),v=>u=v
  | .tv (.agg l),v=>∃ us:List Value,l=us.map (fun u=>.d (.val u))∧v=.agg us.toArray
  | _,_=>False
theorem I8 {B:Bk} {S U:Nat→Prop} {w:World} {av:AV} {v u:Value} (h:Ey av v) (hv:Jh B S U w av u):u=v:=by
  match av,h with
  | .tv (.one (.d (.val x))),h=>exact (show u=x from hv).trans h
  | .tv (.agg l),h =>
    obtain ⟨us,rfl,rfl⟩:=h
    obtain ⟨cs,rfl,h2⟩:=hv
    have:∀ (us cs:List Value),Yr (V2 B S U w) (us.map fun u=>.d (.val u)) cs→cs=us:=by
      intro us
      induction us with
      | nil=>intro cs h;match cs,h with|[],_=>rfl
      | cons a r ih=>intro cs h;match cs,h with|c::cs,h=>rw [ih cs h.2,show c=a from h.1]
    rw [this us cs h2]
section
variable {P:Program} {bs:Base} {K V:Type} {f:K→Value} {kd:Kd V}
theorem X86 (l:Nat) (f:K→Value) (kd:Kd V) {d:Nat} {t ty:TypeId} {pos:String} {af:Array Edge} {gd:Option (Nat×Bool)} (hN:d<bs.N) :
    ORule P bs ⟨some d,.makeMap t none,ty,pos,af,gd⟩ ⟨[],[(l,.free)],[(d,sv (.mref l))],[(l,.live (mpK f kd []))]⟩ :=
  .heap (l:=[]) rfl hN trivial fun B S U s a w g hh he=>by
    have hl:=hh.1
    refine ⟨.map (some w.heap.size),w.alloc (.map #[] 0),bset B l (some (w.heap.size,0)),S,U,?_,g.alloc hl _ _ 0 ⟨w.heap.size,0,#[],0,by simp [bset],heap_alloc_new w _,trivial,List.nodup_nil,fun _ h=>by cases h⟩,w.heap.size,0,by simp [bset],rfl⟩
    simp [execOp,Instr.makeMap,newObj,Sem.run]
theorem Xdr {B:Bk} {S U:Nat→Prop} {w:World} {l:Nat} {rows:List (K×V)} (h:Ii B S U w l (mpK f kd rows)):∃ b κ ents clock,B l=some (some (b,κ))∧w.heap[b]?=some (.map ents clock)∧ents.size=rows.length ∧
    Yr (X8m S U w) (rows.map fun e=>(f e.1,Vp kd e.2)) ents.toList∧(∀ e,e∈ents.toList→∃ k',e.key=f k')∧∀ (j:Nat) (e:MapEntry),ents.toList[j]?=some e→∃ x:K×V,rows[j]?=some x∧e.key=f x.1∧((Vp kd x.2).length=1→e.val.cells=#[e.val])∧Yr (dOk S U w) (Vp kd x.2) e.val.cells.toList:=by
  obtain ⟨b,κ,ents,clock,h1,h2,h3,_⟩:=h
  have hlen:ents.size=rows.length:=by have:=Vq h3;simpa using this.symm
  have hget:∀ (j:Nat) (e:MapEntry),ents.toList[j]?=some e→∃ x:K×V,rows[j]?=some x∧e.key=f x.1∧((Vp kd x.2).length=1→e.val.cells=#[e.val])∧Yr (dOk S U w) (Vp kd x.2) e.val.cells.toList:=fun j e he=>by
    have hj:j<rows.length:=by have:=(List.getElem?_eq_some_iff.1 he).1;simp at this;omega
    have hr:rows[j]?=some rows[j]:=List.getElem?_eq_getElem hj
    have hm:(rows.map fun e=>(f e.1,Vp kd e.2))[j]?=some (f rows[j].1,Vp kd rows[j].2):=by rw [List.getElem?_map,hr];rfl
    obtain ⟨e',he',h4⟩:=Uu h3 hm
    rw [he] at he'
    cases he'
    exact ⟨rows[j],hr,h4.1,h4.2.1,h4.2.2⟩
  refine ⟨b,κ,ents,clock,h1,h2,hlen,h3,fun e he=>?_,hget⟩
  obtain ⟨j,hj,rfl⟩:=List.getElem_of_mem he
  obtain ⟨x,_,hx,_⟩:=hget j _ (List.getElem?_eq_getElem hj)
  exact ⟨x.1,hx⟩
theorem Xdt {B:Bk} {S U:Nat→Prop} {w:World} {l b κ:Nat} {es:List (Value×List DV)} {ents:Array MapEntry} {clock:Nat} (h:Ii B S U w l (.mp es)) (hb:B l=some (some (b,κ))) (hcur:w.heap[b]?=some (.map ents clock)):H4 (ents.toList.map (·.born)) clock:=by
  obtain ⟨b',κ',ents',clock',h1,h2,_,h3⟩:=h
  rw [hb] at h1;cases h1
  rw [hcur] at h2;cases h2
  exact h3
theorem Xds {kt:TypeId} (M:MKey P kt f) {S U:Nat→Prop} {w:World} {rows:List (K×V)} {ents:Array MapEntry} (hlen:ents.size=rows.length) (hall:∀ e,e∈ents.toList→∃ k',e.key=f k')
    (hget:∀ (j:Nat) (e:MapEntry),ents.toList[j]?=some e→∃ x:K×V,rows[j]?=some x∧e.key=f x.1∧((Vp kd x.2).length=1→e.val.cells=#[e.val])∧Yr (dOk S U w) (Vp kd x.2) e.val.cells.toList) (w':World) (k:K) :
    ((Instr.findKey kt (f k) ents.toList).run P w'=.ok none w'∧∀ e,e∈rows→e.1≠k) ∨
    ∃ j e x,(Instr.findKey kt (f k) ents.toList).run P w'=.ok (some (j,e.val)) w'∧ents[j]?=some e∧e.key=f k∧rows[j]?=some x∧x.1=k∧(∀ i,i<j→∀ e',rows[i]?=some e'→e'.1≠k)∧((Vp kd x.2).length=1→e.val.cells=#[e.val])∧Yr (dOk S U w) (Vp kd x.2) e.val.cells.toList:=by
  have hrow:∀ (j:Nat) (x:K×V),rows[j]?=some x→∃ e,ents.toList[j]?=some e∧e.key=f x.1:=fun j x hx=>by
    have hj:j<ents.toList.length:=by have:=(List.getElem?_eq_some_iff.1 hx).1;simp;omega
    obtain ⟨x',hx',hk,_⟩:=hget j _ (List.getElem?_eq_getElem hj)
    rw [hx] at hx'
    cases hx'
    exact ⟨_,List.getElem?_eq_getElem hj,hk⟩
  rcases M.find w' k ents.toList hall with ⟨h1,h2⟩|⟨j,e,h1,h2,h3,h4⟩
  · left
    refine ⟨h1,fun x hx e=>?_⟩
    obtain ⟨j,hj,rfl⟩:=List.getElem_of_mem hx
    obtain ⟨e',he',hk⟩:=hrow j _ (List.getElem?_eq_getElem hj)
    exact h2 e' (List.mem_of_getElem? he') (by rw [hk,e])
  · right
    obtain ⟨x,hx,hk,hc1,hc2⟩:=hget j e h2
    refine ⟨j,e,x,h1,by simpa using h2,h3,hx,M.inj _ _ (hk.symm.trans h3),fun i hi e' he' e1=>?_,hc1,hc2⟩
    obtain ⟨e2,he2,hk2⟩:=hrow i _ he'
    exact h4 i hi e2 he2 (by rw [hk2,e1])
theorem ORule.unitV {o:Oper} {l:List (Operand×AV)} {rh wh:List (Nat×HS)} (hd:o.dst=none) (hc:cOk l)
    (h:∀ B S U s a w,G bs B S U s a w→H5 rh s.h→evs B S U a w l→∃ v w' B' S' U',(execOp a.eval o).run P w=.ok (.value v) w'∧G bs B' S' U' ⟨s.t,hsets s.h wh⟩ a w') :
    ORule P bs o ⟨Yv l,rh,[],wh⟩:=by
  intro Q K s a w hG hs hK
  obtain ⟨B,S,U,g⟩:=hG
  obtain ⟨v,w',B',S',U',hr,g'⟩:=h B S U s a w g hs.2 (evals g hs.1 hc)
  unfold Oper.wp
  rw [hr,Oper.upon_value,hd]
  exact hK _ _ ⟨B',S',U',g'⟩
theorem Xg2 {ents:Array MapEntry} {clock:Nat} {k v:Value} (h:H4 (ents.toList.map (·.born)) clock):H4 ((ents.push { key:=k,val:=v,born:=clock }).toList.map (·.born)) (clock+1):=by
  rw [Array.toList_push,List.map_append]
  refine ⟨List.nodup_append.2 ⟨h.1,by simp,fun a ha b hb=>?_⟩,fun x hx=>?_⟩
  · have:=h.2 a ha;simp at hb;omega
  · rcases List.mem_append.1 hx with hx|hx
    · have:=h.2 x hx;omega
    · simp at hx;omega
theorem Xbf {ents:Array MapEntry} {clock j:Nat} {k v:Value} (h:H4 (ents.toList.map (·.born)) clock):H4 ((ents.modify j fun e=>{ e with key:=k,val:=v }).toList.map (·.born)) clock:=by
  have:(ents.modify j fun e=>{ e with key:=k,val:=v }).toList.map (·.born)=ents.toList.map (·.born):=by
    refine List.ext_getElem? fun i=>?_
    simp only [List.getElem?_map,Array.getElem?_toList,Array.getElem?_modify]
    split
    · cases ents[i]?<;>rfl
    · rfl
  rw [this];exact h
theorem G.setMap {B:Bk} {S U:Nat→Prop} {s:St} {a:Act} {w:World} (g:G bs B S U s a w) {l b κ:Nat} {x:HObj} {ents ents':Array MapEntry} {clock clock':Nat} {es:List (Value×List DV)} (hl:hget s.h l=.live x) (hb:B l=some (some (b,κ))) (hcur:w.heap[b]?=some (.map ents clock))
    (hnew:∀ w',Pres (fun b=>S b∨U b) w w'→Yr (X8m S U w') es ents'.toList) (hborn:H4 (ents'.toList.map (·.born)) clock') :
    G bs B S U ⟨s.t,hset s.h l (.live (.mp es))⟩ a { w with heap:=w.heap.setIfInBounds b (.map ents' clock') }:=by
  have hblt:b<w.heap.size:=(Array.getElem?_eq_some_iff.1 hcur).1
  have hP:Pres (fun b=>S b∨U b) w { w with heap:=w.heap.setIfInBounds b (.map ents' clock') }:=fun c hc'=>by
    have hU:U c:=hc'.elim (g.su c) id
    have:c≠b:=fun e=>g.sp l _ (b,κ) hl hb (e ▸ hU)
    simp [Array.getElem?_setIfInBounds,Ne.symm this]
  refine g.upd (fun k=>k=l) _ (fun k hk=>by simp [Yd,hk]) (fun _ _ h=>h) (fun _ _=>rfl) (fun _ h=>h) (fun _ h=>h) g.su (fun b hb=>by simpa using g.ub b hb) (fun _ h=>.inl h) (fun _ h=>.inl h)
    (fun k y hk hy=>?_) (fun k k' _ _ _ _ h h' _ _ hne=>absurd (h.trans h'.symm) hne) (fun c hc hne=>?_) (fun k hk h=>?_) (fun k y q _ hk hq=>g.sp k y q hk hq) (by simp) rfl rfl rfl
  · subst hk
    simp only [Yd,if_true] at hy
    cases hy
    refine ⟨⟨b,κ,ents',clock',hb,by simp [hblt],hnew _ hP,hborn⟩,?_⟩
    exact (fun p hp=>⟨g.sp k _ p hl hp,g.cf k _ p hl hp,fun k' o' q hk' ho hq=>g.nj k' k o' _ ho hl hk' q p hq hp⟩)
  · have:c≠b:=hne l _ (b,κ) rfl hl hb
    simp [Array.getElem?_setIfInBounds,Ne.symm this]
  · subst hk;simp [Yd] at h
def shapeB:TV→Bool
  | .one s=>Fi s
  | .agg l=>!(l.length == 1)
theorem Xd2 {B:Bk} {S U:Nat→Prop} {w:World}:∀ {cs:List DV} {vs:List Value},Yr (V2 B S U w) (cs.map .d) vs→Yr (dOk S U w) cs vs
  | [],[],_=>trivial
  | _::_,_::_,h=>⟨h.1,Xd2 h.2⟩
  | [],_::_,h=>h.elim
  | _::_,[],h=>h.elim
theorem X2q {S U:Nat→Prop} {w w':World} (hP:Pres (fun b=>S b∨U b) w w') (e:Value×List DV) (x:MapEntry) (h:X8m S U w e x):X8m S U w' e x :=
  ⟨h.1,h.2.1,Wj (Ug (fun _ h=>h) (fun _ h=>h) hP) h.2.2⟩
theorem Es [DecidableEq K] (l:Nat) (rows:List (K×V)) (key:K) (v:V) {m kx x:Operand} {ak:AV} {tv:TV} {t kt et ty:TypeId} {pos:String} {af:Array Edge} {gd:Option (Nat×Bool)}
    (ht:P.underlying t=some (.map kt et)) (M:MKey P kt f) (hka:Ey ak (f key)) (hsh:shapeB tv=true) (hw:Yr wkS (Wo tv) ((Vp kd v).map .d)) (hc:cOk [(m,sv (.mref l)),(kx,ak),(x,.tv tv)]) :
    ORule P bs ⟨none,.mapUpdate t m kx x,ty,pos,af,gd⟩ ⟨Yv [(m,sv (.mref l)),(kx,ak),(x,.tv tv)],[(l,.live (mpK f kd rows))],[],[(l,.live (mpK f kd (mput rows key v)))]⟩ :=
  .unit rfl hc fun B S U s a w g hh he=>by
    obtain ⟨b,κ,hb,h1⟩:=he.1
    have h2:a.eval kx=f key:=I8 hka he.2.1
    obtain ⟨b',κ',ents,clock,hb',hcur,hlen,hall2,hall,hget⟩:=Xdr (g.ob l _ hh.1)
    rw [hb] at hb'
    cases hb'
    have hcells:Yr (dOk S U w) (Vp kd v) (a.eval x).cells.toList:=Xd2 (E1 hw (Ef he.2.2.1 (fun s e=>by subst e;exact hsh)))
    have hone:(Vp kd v).length=1→(a.eval x).cells=#[a.eval x]:=fun h=>by
      cases tv with
      | one s=>exact X09 (Hl hsh he.2.2.1)
      | agg q =>
        exfalso
        have e1:q.length=((Vp kd v).map SV.d).length:=by have:=Vq hw;simpa [Wo] using this
        rw [List.length_map,h] at e1
        simp [shapeB,e1] at hsh
    rcases Xds M hlen hall hget w key with ⟨f1,f2⟩|⟨j,e,x0,f1,f2,f3,f4,f5,f6,_,_⟩
    · refine ⟨{ w with heap:=w.heap.setIfInBounds b (.map (ents.push { key:=f key,val:=a.eval x,born:=clock }) (clock+1)) },B,S,U,?_,?_⟩
      · simp [execOp,h1,h2,Instr.mapUpdate,run_underlying ht,MapKept.run_getObj_map hcur,M.check w false key,f1,MapKept.run_setObj_map _ hcur,Result.andThen]
      · refine G.setMap g hh.1 hb hcur (fun w' hP=>?_) ?_
        rotate_left
        · exact Xg2 (Xdt (g.ob l _ hh.1) hb hcur)
        rw [(map_none v f2).1,List.map_append,Array.toList_push]
        exact Hx (Wj (X2q hP) hall2) ⟨X2q hP _ _ ⟨rfl,hone,hcells⟩,trivial⟩
    · refine ⟨{ w with heap:=w.heap.setIfInBounds b (.map (ents.modify j fun e=>{ e with key:=f key,val:=a.eval x }) clock) },B,S,U,?_,?_⟩
      · simp [execOp,h1,h2,Instr.mapUpdate,run_underlying ht,MapKept.run_getObj_map hcur,M.check w false key,f1,f2,f3,M.stays w key,MapKept.run_setObj_map _ hcur,Result.andThen]
      · refine G.setMap g hh.1 hb hcur (fun w' hP=>?_) ?_
        rotate_left
        · exact Xbf (Xdt (g.ob l _ hh.1) hb hcur)
        rw [(map_some v f4 f5 f6).1,List.map_set]
        refine Vu ?_ fun i p q hp hq=>?_
        · have:=Vq hall2;simpa using this
        · rw [List.getElem?_set] at hp
          simp only [Array.getElem?_toList,Array.getElem?_modify] at hq
          by_cases hij:j=i
          · subst hij
            rw [if_pos rfl,f2] at hq
            simp only [Option.map_some,Option.some.injEq] at hq
            subst hq
            rw [if_pos rfl] at hp
            split at hp
            · cases hp
              exact X2q hP _ _ ⟨rfl,hone,hcells⟩
            · cases hp
          · rw [if_neg hij] at hp hq
            obtain ⟨q',hq',hr⟩:=Uu hall2 hp
            rw [Array.getElem?_toList,hq] at hq'
            cases hq'
            exact X2q hP _ _ hr
def ZeroM (P:Program) (T:TypeId) (zs:List Value):Prop:=∃ i z,P.info? T=some i∧i.zero=some z∧z.cells.toList=zs∧(zs.length=1→z.cells=#[z])
theorem X9d {B:Bk} {S U:Nat→Prop} {w:World} {cs:List DV} {v:Value} (h:Yr (dOk S U w) cs v.cells.toList) (h1:cs.length=1→v.cells=#[v]):F0 B S U w (mkTV cs) v:=by
  have ag:∀ {v:Value},v.cells.toList.length≠1→∃ c,v=.agg c:=fun {v} h=>by cases v<;>first|exact ⟨_,rfl⟩|simp [Value.cells] at h
  have hd:∀ {cs:List DV} {vs:List Value},Yr (dOk S U w) cs vs→Yr (V2 B S U w) (cs.map .d) vs:=by
    intro cs
    induction cs with
    | nil=>intro vs h;match vs,h with|[],_=>exact trivial
    | cons c r ih=>intro vs h;match vs,h with|u::vs,h=>exact ⟨h.1,ih h.2⟩
  have hlen:=Vq h
  match cs,h,h1,hlen with
  | [c],h,h1,_ =>
    rw [h1 rfl] at h
    exact h.1
  | [],h,_,hlen =>
    obtain ⟨c,rfl⟩:=ag (v:=v) (by rw [← hlen];simp)
    exact ⟨c.toList,by simp,hd h⟩
  | c1::c2::r,h,_,hlen =>
    obtain ⟨c,rfl⟩:=ag (v:=v) (by rw [← hlen];simp)
    exact ⟨c.toList,by simp,hd h⟩
theorem look_run [DecidableEq K] {l:Nat} {rows:List (K×V)} {key:K} {m kx:Operand} {ak:AV} {t kt et:TypeId} {zs:List Value}
    (ht:P.underlying t=some (.map kt et)) (M:MKey P kt f) (hka:Ey ak (f key)) (hz:ZeroM P et zs) (hzw:Yr wkS (zs.map fun u=>.d (.val u)) ((Vp kd kd.z).map .d)) {B:Bk} {S U:Nat→Prop} {s:St} {a:Act} {w:World} (g:G bs B S U s a w) (hh:hget s.h l=.live (mpK f kd rows))
    (he:evs B S U a w [(m,sv (.mref l)),(kx,ak)]) :
    ∃ v,(∀ c,(Instr.lookup t (a.eval m) (a.eval kx) c).run P w=.ok (if c then .tuple #[v,.bool (mhas rows key)] else v) w)∧F0 B S U w (mkTV (Vp kd (mget rows key kd.z))) v:=by
  obtain ⟨b,κ,hb,h1⟩:=he.1
  have h2:a.eval kx=f key:=I8 hka he.2.1
  obtain ⟨b',κ',ents,clock,hb',hcur,hlen,hall2,hall,hget⟩:=Xdr (g.ob l _ hh)
  rw [hb] at hb'
  cases hb'
  rcases Xds M hlen hall hget w key with ⟨f1,f2⟩|⟨j,e,x0,f1,f2,f3,f4,f5,f6,f7,f8⟩
  · obtain ⟨i,z,z1,z2,z3,z4⟩:=hz
    obtain ⟨_,m2,m3,_⟩:=map_none kd.z f2
    refine ⟨z,fun c=>?_,?_⟩
    · rw [m3]
      cases c<;>simp [h1,h2,Instr.lookup,run_underlying ht,MapKept.run_getObj_map hcur,M.check w _ key,f1,Iw z1 z2,Result.andThen]
    · rw [m2]
      have hv:Yr (V2 B S U w) (zs.map fun u=>.d (.val u)) z.cells.toList:=by
        rw [z3,X0h]
        refine Vu rfl fun i a b hi hj=>?_
        rw [hi] at hj
        cases hj
        exact rfl
      have hd:=Xd2 (E1 hzw hv)
      exact X9d hd fun h=>z4 (by have:=Vq hd;rw [z3] at this;omega)
  · obtain ⟨_,m2,m3,_⟩:=map_some kd.z f4 f5 f6
    refine ⟨e.val,fun c=>?_,?_⟩
    · rw [m3]
      cases c<;>simp [h1,h2,Instr.lookup,run_underlying ht,MapKept.run_getObj_map hcur,M.check w _ key,f1,Result.andThen]
    · rw [m2]
      exact X9d f8 f7
theorem Xfc [DecidableEq K] (l:Nat) (rows:List (K×V)) (key:K) (tv:TV) {d:Nat} {m kx:Operand} {ak:AV} {t kt et ty:TypeId} {zs:List Value} {pos:String} {af:Array Edge} {gd:Option (Nat×Bool)}
    (ht:P.underlying t=some (.map kt et)) (M:MKey P kt f) (hka:Ey ak (f key)) (hz:ZeroM P et zs) (hzw:Yr wkS (zs.map fun u=>.d (.val u)) ((Vp kd kd.z).map .d)) (htv:mkTV (Vp kd (mget rows key kd.z))=tv) (hN:d<bs.N) (hc:cOk [(m,sv (.mref l)),(kx,ak)]) :
    ORule P bs ⟨some d,.lookup t m kx true,ty,pos,af,gd⟩ ⟨Yv [(m,sv (.mref l)),(kx,ak)],[(l,.live (mpK f kd rows))],[(d,.tup [tv,.one (.d (.val (.bool (mhas rows key))))])],[]⟩ :=
  .val rfl hN hc fun B S U s a w g hh he=>by
    obtain ⟨v,h1,h2⟩:=look_run ht M hka hz hzw g hh.1 he
    exact ⟨_,by have h3:=h1 true;simp only [if_true] at h3;simp [execOp,h3,Result.andThen],[v,.bool (mhas rows key)],rfl,htv ▸ h2,rfl,trivial⟩
end
end Go.Proofs.YthnefnknoahbkaaGreat.Q
namespace Go.Proofs.YthnefnknoahbkaaGreat.Q
open Go Go.RowKit
set_option linter.unusedVariables false
set_option linter.unusedSimpArgs false
section
variable {P:Program} {bs:Base}
theorem X2e {d:Nat} {x y:Operand} {k:IntKind} {a b:Int} {t t' ty:TypeId} {pos:String} {af:Array Edge} {gd:Option (Nat×Bool)} (hN:d<bs.N) (hc:cOk [(x,dv (.int k a)),(y,dv (.int k b))]) :
    ORule P bs ⟨some d,.call { callee:=.builtin .max,args:=#[x,y],argTypes:=#[t,t'] },ty,pos,af,gd⟩ ⟨Yv [(x,dv (.int k a)),(y,dv (.int k b))],[],[(d,dv (.int k (max a b)))],[]⟩ :=
  .val rfl hN hc fun B S U s a' w g _ he=>by
    have h1:a'.eval x=.int k a:=he.1
    have h2:a'.eval y=.int k b:=he.2.1
    refine ⟨.int k (max a b),?_,rfl⟩
    have:(if b>a then b else a)=max a b:=by rw [Int.max_def];split<;>split<;>omega
    simp [execOp,resolve,invoke,builtin,Builtin.max_,Builtin.max2,h1,h2,Sem.run_bind,this]
theorem X85 {d:Nat} {x y:Operand} {k:IntKind} {a b:Int} {t t' ty:TypeId} {pos:String} {af:Array Edge} {gd:Option (Nat×Bool)} (hN:d<bs.N) (hc:cOk [(x,dv (.int k a)),(y,dv (.int k b))]) :
    ORule P bs ⟨some d,.call { callee:=.builtin .min,args:=#[x,y],argTypes:=#[t,t'] },ty,pos,af,gd⟩ ⟨Yv [(x,dv (.int k a)),(y,dv (.int k b))],[],[(d,dv (.int k (min a b)))],[]⟩ :=
  .val rfl hN hc fun B S U s a' w g _ he=>by
    have h1:a'.eval x=.int k a:=he.1
    have h2:a'.eval y=.int k b:=he.2.1
    refine ⟨.int k (min a b),?_,rfl⟩
    have:(if b<a then b else a)=min a b:=by rw [Int.min_def];split<;>split<;>omega
    simp [execOp,resolve,invoke,builtin,Builtin.min_,Builtin.min2,h1,h2,Sem.run_bind,this]
theorem b_quoP {k:IntKind} {t:TypeId} {a b:Int} (h1:0≤a) (h0:0<b) (h:k.wrap (a / b)=a / b):Jv P .quo t (.int k a) (.int k b) (.int k (a / b)) :=
  b_quo (by omega) (by rw [Int.tdiv_eq_ediv_of_nonneg h1];exact h)
theorem b_remP {k:IntKind} {t:TypeId} {a b:Int} (h1:0≤a) (h0:0<b):Jv P .rem t (.int k a) (.int k b) (.int k (a % b)) :=
  b_rem (by omega) (Int.tmod_eq_emod_of_nonneg h1)
end
theorem Ff {P:Program} {kt:TypeId} {K:Type} [DecidableEq K] {f:K→Value} {w:World} {k:K} (heq:∀ k',(Op.equal kt (f k) (f k')).run P w=.ok (decide (k=k')) w) (hinj:∀ a b,f a=f b→a=b):∀ (l:List MapEntry) (i:Nat),(∀ x∈l,∃ k',x.key=f k') →
    ((Instr.findAsking kt (f k) l i).run P w=.ok none w∧∀ x∈l,x.key≠f k)∨∃ j e,(Instr.findAsking kt (f k) l i).run P w=.ok (some (i+j,e.val)) w∧l[j]?=some e∧e.key=f k∧∀ i',i'<j→∀ e',l[i']?=some e'→e'.key≠f k
  | [],_,_=>.inl ⟨rfl,by simp⟩
  | e::es,i,h=>by
    obtain ⟨k',hk'⟩:=h e (.head _)
    by_cases hkk:k=k'
    · subst hkk
      refine .inr ⟨0,e,?_,rfl,hk',fun i' hi'=>absurd hi' (Nat.not_lt_zero _)⟩
      simp [Instr.findAsking,hk',heq k,Sem.run_bind]
    · have hne:e.key≠f k:=fun q=>hkk (hinj _ _ (q.symm.trans hk'))
      have hf:(Instr.findAsking kt (f k) (e::es) i).run P w=(Instr.findAsking kt (f k) es (i+1)).run P w:=by
        simp [Instr.findAsking,hk',heq k',hkk,Sem.run_bind]
      rw [hf]
      rcases Ff heq hinj es (i+1) (fun x hx=>h x (.tail _ hx)) with ⟨h1,h2⟩|⟨j,e',h1,h2,h3,h4⟩
      · exact .inl ⟨h1,fun x hx=>by
          cases hx with
          | head=>exact hne
          | tail _ hx=>exact h2 x hx⟩
      · refine .inr ⟨j+1,e',by rw [h1,Nat.add_assoc,Nat.add_comm 1 j],by simpa using h2,h3,fun i' hi' x hx=>?_⟩
        cases i' with
        | zero=>simp only [List.getElem?_cons_zero,Option.some.injEq] at hx;subst hx;exact hne
        | succ i'=>exact h4 i' (by omega) x (by simpa using hx)
theorem Xfo {P:Program} {kt:TypeId} {fs:Array Field} {K:Type} [DecidableEq K] {f:K→Value} (hd:P.underlying kt=some (.struct fs)) (hinj:∀ a b,f a=f b→a=b) (hcheck:∀ (w:World) (em:Bool) (k:K),(Instr.checkKey em 10000 kt (f k)).run P w=.ok () w)
    (heq:∀ (w:World) (k k':K),(Op.equal kt (f k) (f k')).run P w=.ok (decide (k=k')) w) (hbits:∀ k,Instr.sameBits 10000 (f k) (f k)=true):MKey P kt f where
  check:=hcheck
  inj:=hinj
  find w k es hes:=by
    have key:(Instr.findKey kt (f k) es).run P w=(Instr.findAsking kt (f k) es 0).run P w:=by
      have hn:Instr.findNow (.struct fs) (f k) es 0=none∨es=[]:=by
        cases es with
        | nil=>exact .inr rfl
        | cons e r=>left;simp [Instr.findNow,Instr.sameNow]
      rcases hn with hn|rfl
      · simp [Instr.findKey,MapKept.run_setObj_map,Xu hd,hn,Sem.run_bind]
      · simp [Instr.findKey,Xu hd,Instr.findNow,Instr.findAsking,Sem.run_bind]
    rw [key]
    rcases Ff (heq w k) hinj es 0 hes with h|⟨j,e,h1,h2⟩
    · exact .inl h
    · exact .inr ⟨j,e,by simpa using h1,h2⟩
  stays w k:=by simp [Instr.keyThatStays,hbits]
theorem X1u (l l':List UInt8):((⟨l.toArray⟩:ByteArray) == (⟨l'.toArray⟩:ByteArray))=decide (l=l'):=by
  rw [Bool.eq_iff_iff,MapKept.bytes_beq]
  simp
section
variable {P:Program} {kt:TypeId} {f0 f1:Field} {k:IntKind}
theorem check_is {em : Bool} {n : Nat} {w : World} {x : Int} {y : Value} (hd : P.underlying kt = some (.struct #[f0, f1])) (h0 : f0.name ≠ "_") (h1 : f1.name ≠ "_") (o0 : f0.offset = 0) (o1 : f1.offset = 1) (ha : P.underlying f0.type = some (.int k)) (hb : P.underlying f1.type = some .string) :
    (Instr.checkKey em (n+1+1) kt (.agg #[.int k x,y])).run P w=.ok () w:=by
  have e0:∀ v,(Instr.checkKey em (n+1) f0.type v).run P w=.ok () w:=fun v=>by
    simp only [Instr.checkKey,Sem.run_bind,Xu ha,Result.andThen_ok]
    cases v<;>rfl
  have e1:∀ v,(Instr.checkKey em (n+1) f1.type v).run P w=.ok () w:=fun v=>by
    simp only [Instr.checkKey,Sem.run_bind,Xu hb,Result.andThen_ok]
    cases v<;>rfl
  rw [Instr.checkKey]
  simp [Xu hd,Xu ha,Xu hb,h0,h1,o0,o1,part,isAgg,e0,e1,Sem.run_bind]
theorem equal_is {n : Nat} {w : World} {x x' : Int} {y y' : ByteArray} (hd : P.underlying kt = some (.struct #[f0, f1])) (h0 : f0.name ≠ "_") (h1 : f1.name ≠ "_") (o0 : f0.offset = 0) (o1 : f1.offset = 1) (ha : P.underlying f0.type = some (.int k)) (hb : P.underlying f1.type = some .string) (hst : P.stoodInHeld kt = false) :
    (Op.equalIn (n+1+1) kt (.agg #[.int k x,.string y]) (.agg #[.int k x',.string y'])).run P w=.ok (x == x' && y == y') w:=by
  have e0:(Op.equalIn (n+1) f0.type (.int k x) (.int k x')).run P w=.ok (x == x') w:=by
    simp only [Op.equalIn,Sem.run_bind,Xu ha,Result.andThen_ok,if_true]
    rfl
  have e1:(Op.equalIn (n+1) f1.type (.string y) (.string y')).run P w=.ok (y == y') w:=by
    simp only [Op.equalIn,Sem.run_bind,Xu hb,Result.andThen_ok]
    rfl
  rw [Op.equalIn]
  by_cases hx:x=x'
  · subst hx
    simp only [beq_self_eq_true] at e0
    by_cases hy:(y == y')=true
    · simp [Xu hd,Xu ha,Xu hb,h0,h1,o0,o1,part,isAgg,e0,e1,Sem.run_bind,hst,hy]
    · simp [Xu hd,Xu ha,Xu hb,h0,h1,o0,o1,part,isAgg,e0,e1,Sem.run_bind,hst,hy]
  · simp [Xu hd,Xu ha,Xu hb,h0,h1,o0,o1,part,isAgg,e0,e1,Sem.run_bind,hst,hx]
theorem bits_is {n:Nat} {x:Int} {y:List UInt8}:Instr.sameBits (n+1+1) (.agg #[.int k x,J9 y]) (.agg #[.int k x,J9 y])=true:=by
  have:((⟨y.toArray⟩:ByteArray) == (⟨y.toArray⟩:ByteArray))=true:=by rw [X1u];simp
  simp [Instr.sameBits,J9,this]
theorem mkey_is {K:Type} [DecidableEq K] (a:K→Int) (b:K→List UInt8) (hk:∀ x y,a x=a y→b x=b y→x=y)
    (hd : P.underlying kt = some (.struct #[f0, f1])) (h0 : f0.name ≠ "_") (h1 : f1.name ≠ "_") (o0 : f0.offset = 0) (o1 : f1.offset = 1) (ha : P.underlying f0.type = some (.int k)) (hb : P.underlying f1.type = some .string) (hst : P.stoodInHeld kt = false) :
    MKey P kt (fun x:K=>.agg #[.int k (a x),J9 (b x)]):=by
  refine Xfo hd (fun x y e=>?_) (fun w em x=>check_is (n:=9998) hd h0 h1 o0 o1 ha hb) (fun w x y=>?_) (fun x=>bits_is (n:=9998))
  · simp [J9] at e
    exact hk x y e.1 e.2
  · have hxy:decide (x=y)=(a x == a y && decide (b x=b y)):=by
      rw [Bool.eq_iff_iff]
      simp
      exact ⟨fun h=>by rw [h];exact ⟨rfl,rfl⟩,fun h=>hk x y h.1 h.2⟩
    rw [hxy,← X1u]
    exact equal_is (n:=9998) hd h0 h1 o0 o1 ha hb hst
end
theorem X33 {n:Int} (h:(Lit.int .i64 n).wf=true):-9223372036854775808≤n∧n≤9223372036854775807:=by
  simp only [Lit.wf,Bool.and_eq_true,decide_eq_true_eq] at h
  exact ⟨Int.le_trans (by decide) h.1,Int.le_trans h.2 (by decide)⟩
end Go.Proofs.YthnefnknoahbkaaGreat.Q
namespace Go.Proofs.YthnefnknoahbkaaGreat.Q
open Go Go.RowKit
set_option linter.unusedVariables false
set_option linter.unusedSimpArgs false
section
variable {P:Program} {bs:Base}
theorem X87 {α:Type} (l T:Nat) (K:Kd α) (xs:List α) {d:Nat} {x:Operand} {t e ty:TypeId} {pos:String} {af:Array Edge} {gd:Option (Nat×Bool)} (ht:P.underlying t=some (.slice e)) (he':P.underlying e=some (.int .u8)) (hpos:0<xs.length) (hN:d<bs.N) (hc:cOk [(x,Xx l K 0 xs.length)]) :
    ORule P bs ⟨some d,.convert t t x,ty,pos,af,gd⟩ ⟨Yv [(x,Xx l K 0 xs.length)],[(l,.live (Xc T K xs))],[(d,slV false true K xs)],[(l,.dead)]⟩ :=
  .heap rfl hN hc fun B S U s a w g hh he=>by
    have hl:=hh.1
    rcases he.1 with ⟨_,_,hn0,_⟩|⟨b,κ,o,cap,hb,hv,hcap,hle,ho⟩
    · omega
    · rcases g.ob l _ hl with ⟨hob,_⟩|⟨b',κ',cur,hb',hcur,hsz,hnk,hkm',hel⟩
      · rw [hb] at hob;cases hob
      · rw [hb] at hb'
        cases hb'
        have ho0:o=0:=by have:=ho (.inr rfl);omega
        subst ho0
        have hblt:b<w.heap.size:=(Array.getElem?_eq_some_iff.1 hcur).1
        let F:Nat→Prop:=fun c=>c=b
        let w':World:={ w with heap:=w.heap.setIfInBounds b (.cells cur T (cur.size,cur.size+1)) }
        have hw':w'.heap[b]?=some (.cells cur T (cur.size,cur.size+1)):=by simp [w',hblt]
        have hwne:∀ c,c≠b→w'.heap[c]?=w.heap[c]?:=fun c hc=>by simp [w',Array.getElem?_setIfInBounds,Ne.symm hc]
        have hshape:w.shape? b=some (T,cur.size):=by simp [World.shape?,hcur]
        have hfreeze:w.freeze ⟨b,cur.size,none⟩ 1=w':=by
          unfold World.freeze
          rw [if_neg (by decide)]
          have hm:∀ f:Obj→Obj,f (.cells cur T (0,0))=.cells cur T (cur.size,cur.size+1)→w.heap.modify b f=w.heap.setIfInBounds b (.cells cur T (cur.size,cur.size+1)):=fun f hf=>by
            apply Array.ext
            · simp
            · intro i h1 h2
              have hcur':=(Array.getElem?_eq_some_iff.1 hcur).2
              rw [Array.getElem_modify,Array.getElem_setIfInBounds (by simpa using h1)]
              by_cases h:b=i
              · subst h;simp [hcur',hf]
              · simp [h]
          show ({ w with heap:=w.heap.modify b _ }:World)=_
          rw [hm _ rfl]
        refine ⟨.slice (some ⟨b,0,none⟩) xs.length cap,w',B,fun c=>S c∨F c,fun c=>U c∨F c,?_,?_,?_⟩
        · have hv':a.eval x=.slice (some ⟨b,0,none⟩) xs.length cap:=hv
          simp [execOp,hv',convert,Xu ht,Xu he',markStringish,hshape,Sem.run_bind,hfreeze]
        · have hF:bs.C b∨bs.w0.heap.size≤b:=g.cf l _ (b,κ) hl hb
          refine g.upd (fun k=>k=l) _ (fun k hk=>by simp [hsets,Yd,hk]) (fun _ _ h=>h) (fun _ _=>rfl) (fun _ h=>.inl h) (fun _ h=>.inl h) (fun c h=>h.imp (g.su c) id) (fun c h=>?_) (fun c h=>?_) (fun c h=>?_)
            (fun k y hk hy=>?_) (fun k k' _ _ _ _ h h' _ _ hne=>absurd (h.trans h'.symm) hne) (fun c hc hne=>?_) (fun k hk h=>?_) (fun k y q hk hk' hq h=>?_) (by simp [w']) rfl rfl rfl
          · rcases h with h|h
            · simpa [w'] using g.ub c h
            · have h:c=b:=h
              subst h;simpa [w'] using hblt
          · rcases h with h|h
            · exact .inl h
            · have h:c=b:=h
              subst h;exact .inr hF
          · rcases h with h|h
            · exact .inl h
            · have h:c=b:=h
              subst h;exact .inr hF
          · subst hk
            simp [hsets,Yd] at hy
          · exact hwne c (hne l _ (b,κ) rfl hl hb)
          · subst hk;simp [hsets,Yd] at h
          · rcases h with h|h
            · exact g.sp k y q hk' hq h
            · exact g.nj k l y _ hk' hl hk q (b,κ) hq hb h
        · refine ⟨some ⟨b,0,none⟩,cap,rfl,hle,by simp,by simp,fun i hi=>⟨⟨b,0,none⟩,rfl,rfl,.inr rfl,fun j hj=>?_⟩⟩
          obtain ⟨u,hu,hd⟩:=hel i hi j hj
          refine ⟨u,?_,?_⟩
          · simp only [World.cell?,hw']
            simpa using hu
          · refine Ug (w:=w) (fun _ h=>.inl h) (fun _ h=>.inl h) (fun c hc=>hwne c fun e=>?_) _ _ hd
            subst e
            exact g.sp l _ (c,κ) hl hb (hc.elim (g.su c) id)
end
theorem X3f {K V:Type} {f:K→Value} {kd:Kd V} {l:List (K×V)} (h:∀ x j,J8 (kd.cell x j)):X1l (.live (mpK f kd l)):=mp_nt h
end Go.Proofs.YthnefnknoahbkaaGreat.Q
namespace Go.Proofs.YthnefnknoahbkaaGreat.Q
open Go Go.RowKit
set_option linter.unusedVariables false
set_option linter.unusedSimpArgs false
section
variable {P:Program} {bs:Base}
def TL (P:Program) (bs:Base) (s:St) (c:Code) (Q:Exit→Act→World→Prop):Prop:=∀ a w,Gs bs s a w→∀ (b:Frame) (k:List Item) (cs:List Frame),
  ∃ e a' w',Q e a' w'∧Arrives P (lone (b.at a (.code c::.inLoop c::k)) cs w) b k cs e a' w'
theorem TL.turn {s s':St} {c:Code} {Q:Exit→Act→World→Prop} (h:∀ a w,Gs bs s a w→Gs bs s' a w) (h':TL P bs s' c Q):TL P bs s c Q:=fun a w hG=>h' a w (h a w hG)
theorem TL.loop {s:St} {c:Code} {Q:Exit→Act→World→Prop} {ι:Type} (st:ι→St) (pre:ι→Prop) (μ:ι→Nat) (x0:ι) (h0:pre x0) (hs:∀ a w,Gs bs s a w→Gs bs (st x0) a w)
    (round:∀ x,pre x→T P bs (st x) c (Exit.then (fun a w=>∃ x',pre x'∧μ x'<μ x∧Gs bs (st x') a w) Q)):TL P bs s c Q:=by
  intro a w hG
  have key:∀ n x a w,μ x=n→pre x→Gs bs (st x) a w→∀ (b:Frame) (k:List Item) (cs:List Frame),
      ∃ e a' w',Q e a' w'∧Arrives P (lone (b.at a (.code c::.inLoop c::k)) cs w) b k cs e a' w':=by
    intro n
    induction n using Nat.strongRecOn with
    | _ n ih =>
      intro x a w hn hx hG b k cs
      obtain ⟨e,a₁,w₁,hq,harr⟩:=round x hx a w hG b (.inLoop c::k) cs
      cases e with
      | normal =>
        obtain ⟨x',hx',hlt,hG'⟩:=hq
        obtain ⟨e₂,a₂,w₂,hq₂,harr₂⟩:=ih (μ x') (hn ▸ hlt) x' a₁ w₁ rfl hx' hG' b k cs
        exact ⟨e₂,a₂,w₂,hq₂,.of_steps (Steps.trans harr (.one step_inLoop)) harr₂⟩
      | exit id=>exact ⟨_,a₁,w₁,hq,.pass (x:=.inLoop c) rfl (fun _ _=>.inl (by simp)) harr⟩
      | goto l=>exact ⟨_,a₁,w₁,hq,.pass (x:=.inLoop c) rfl (fun _ _=>.inl (by simp)) harr⟩
      | ret=>exact ⟨_,a₁,w₁,hq,.pass (x:=.inLoop c) rfl (fun _ _=>.inl (by simp)) harr⟩
      | panic ch=>exact ⟨_,a₁,w₁,hq,.pass (x:=.inLoop c) rfl (fun _ _=>.inl (by simp)) harr⟩
      | outgrown=>exact ⟨_,a₁,w₁,hq,.pass (x:=.inLoop c) rfl (fun _ _=>.inl (by simp)) harr⟩
  exact key _ x0 a w rfl h0 (hs a w hG)
def LR (P:Program) (c:Code) (Q:Exit→Act→World→Prop) (a:Act) (w:World):Prop:=∀ (b:Frame) (k:List Item) (cs:List Frame),∃ e a' w',Q e a' w'∧Arrives P (lone (b.at a (.code c::.inLoop c::k)) cs w) b k cs e a' w'
theorem TL.peel {s:St} {c:Code} {Q:Exit→Act→World→Prop} (h:T P bs s c (Exit.then (LR P c Q) Q)):TL P bs s c Q:=by
  intro a w hG b k cs
  obtain ⟨e,a₁,w₁,hq,harr⟩:=h a w hG b (.inLoop c::k) cs
  cases e with
  | normal =>
    obtain ⟨e₂,a₂,w₂,hq₂,harr₂⟩:=hq b k cs
    exact ⟨e₂,a₂,w₂,hq₂,.of_steps (Steps.trans harr (.one step_inLoop)) harr₂⟩
  | exit id=>exact ⟨_,a₁,w₁,hq,.pass (x:=.inLoop c) rfl (fun _ _=>.inl (by simp)) harr⟩
  | goto l=>exact ⟨_,a₁,w₁,hq,.pass (x:=.inLoop c) rfl (fun _ _=>.inl (by simp)) harr⟩
  | ret=>exact ⟨_,a₁,w₁,hq,.pass (x:=.inLoop c) rfl (fun _ _=>.inl (by simp)) harr⟩
  | panic ch=>exact ⟨_,a₁,w₁,hq,.pass (x:=.inLoop c) rfl (fun _ _=>.inl (by simp)) harr⟩
  | outgrown=>exact ⟨_,a₁,w₁,hq,.pass (x:=.inLoop c) rfl (fun _ _=>.inl (by simp)) harr⟩
theorem T.ofTL {s:St} {c:Code} {Q:Exit→Act→World→Prop} (h:TL P bs s c Q):T P bs s (.loop c) Q:=by
  intro a w hG b k cs
  obtain ⟨e,a',w',hq,harr⟩:=h a w hG b k cs
  exact ⟨e,a',w',hq,.of_steps (.one step_loop) harr⟩
theorem nP {s:St} {c:Code} {Q Q':Exit→Act→World→Prop} (h:TL P bs s c Q):Ends bs s .normal (Exit.then (LR P c Q) Q'):=h
end
section
variable {P:Program} {bs:Base}
theorem b_orU {t:TypeId} {a b:Nat} (ha:a<18446744073709551616) (hb:b<18446744073709551616):Jv P .or t (.int .u64 (a:Int)) (.int .u64 (b:Int)) (.int .u64 ((a ||| b:Nat):Int)):=Vs (.inl fun _=>by simp) (.inl (by simp)) fun w=>by
  have e1:(BitVec.ofInt 64 (a:Int)).toNat=a:=by rw [BitVec.ofInt_natCast,BitVec.toNat_ofNat];exact Nat.mod_eq_of_lt ha
  have e2:(BitVec.ofInt 64 (b:Int)).toNat=b:=by rw [BitVec.ofInt_natCast,BitVec.toNat_ofNat];exact Nat.mod_eq_of_lt hb
  have h:(BitVec.ofInt 64 (a:Int) ||| BitVec.ofInt 64 (b:Int)).toNat=a ||| b:=by rw [BitVec.toNat_or,e1,e2]
  have hl:a ||| b<18446744073709551616:=by rw [← h];exact (BitVec.ofInt 64 (a:Int) ||| BitVec.ofInt 64 (b:Int)).isLt
  have hw:IntKind.u64.wrap ((a ||| b:Nat):Int)=((a ||| b:Nat):Int):=by rw [IntKind.wrap_u64];omega
  show (Op.intBits .or .u64 a b).run P w=_
  unfold Op.intBits
  simp only [IntKind.bits] at *
  show Result.ok (Value.int .u64 (IntKind.u64.wrap ((BitVec.ofInt 64 (a:Int) ||| BitVec.ofInt 64 (b:Int)).toNat:Int))) w=_
  rw [h,hw]
theorem Xd0 {k k':IntKind} {t:TypeId} {a n:Nat} {b:Int} (hb:b=n) (hn:n≤k.bits):Jv P .shr t (.int k (a:Int)) (.int k' b) (.int k ((a / 2 ^ n:Nat):Int)) :=
  b_shr hb hn (by
    have:((2:Int) ^ n)=((2 ^ n:Nat):Int):=by simp
    rw [this,Int.fdiv_eq_ediv_of_nonneg _ (Int.natCast_nonneg _)]
    rfl)
theorem Ud {k k':IntKind} {t:TypeId} {a n:Nat} {b:Int} (hb:b=n) (hn:n≤k.bits) (h:k.wrap ((a*2 ^ n:Nat):Int)=((a*2 ^ n:Nat):Int)):Jv P .shl t (.int k (a:Int)) (.int k' b) (.int k ((a*2 ^ n:Nat):Int)) :=
  b_shl hb hn (by simpa using h)
theorem Xeo (n:Nat):IntKind.u8.wrap (n:Int)=((UInt8.ofNat n).toNat:Int):=by
  rw [IntKind.wrap_u8]
  simp
theorem Xcu {s d:TypeId} {ds:TypeDesc} {k':IntKind} {n:Nat} (hs:P.underlying s=some ds) (hd:P.underlying d=some (.int .u8)):Xbm P s d (.int k' (n:Int)) (.int .u8 ((UInt8.ofNat n).toNat:Int)):=X0c hs hd (Xeo n)
def u64 (n:Int):Nat:=(n % 18446744073709551616).toNat
theorem c_u64 {s d:TypeId} {ds:TypeDesc} {k':IntKind} {n:Int} (hs:P.underlying s=some ds) (hd:P.underlying d=some (.int .u64)):Xbm P s d (.int k' n) (.int .u64 ((u64 n:Nat):Int)):=X0c hs hd (by rw [IntKind.wrap_u64];unfold u64;omega)
def X1y (n:Nat):Int:=if n<9223372036854775808 then (n:Int) else (n:Int)-18446744073709551616
theorem c_i64 {s d:TypeId} {ds:TypeDesc} {k':IntKind} {n:Nat} (h:n<18446744073709551616) (hs:P.underlying s=some ds) (hd:P.underlying d=some (.int .i64)):Xbm P s d (.int k' (n:Int)) (.int .i64 (X1y n)):=X0c hs hd (by rw [IntKind.wrap_i64];unfold X1y;split<;>omega)
theorem u64_lt (n:Int):u64 n<18446744073709551616:=by unfold u64;omega
end
end Go.Proofs.YthnefnknoahbkaaGreat.Q
