import Derived.Test.YtnaopgohccacmaaGreatC19n40
namespace Go.Proofs.YtnaopgohccacmaaGreat.Q
set_option linter.unusedVariables false
set_option linter.unusedSimpArgs false
set_option maxRecDepth 100000
abbrev d9:List UInt8:=ofB 6 ([]:List (List UInt8))
theorem dig_len9 {b:Xq} (h:Hm b):(Ii (Ws b)).length≤b.Y4.length+26000:=by
  have h2:=Ug (Jb h)
  have h3:(Ws b).W2.length≤25400:=h2
  have h4:(Ws b).Y4=b.Y4:=rfl
  unfold Ii
  rw [X2p,sz4,Wq,Wq,h4]
  omega
theorem at_snoc9 (d:List UInt8) (L:List Xq) (b:Xq):atB d (L++[b]) (L++[b]).length=Ii (Ws b):=by
  unfold atB
  rw [if_neg (by simp),List.length_append,List.getD_eq_getElem?_getD,List.getElem?_append_right (by simp)]
  simp
def Im (i n:Nat):List aE:=(List.range n).map fun (k:Nat)=>⟨((1000+k:Nat):Int),[UInt8.ofNat i,UInt8.ofNat k]⟩
def Il (i n:Nat):List Y6:=(List.range n).map fun (k:Nat)=>⟨0,((i+k:Nat):Int)⟩
theorem X8q (i n:Nat):Im i (n+1)=Im i n++[⟨((1000+n:Nat):Int),[UInt8.ofNat i,UInt8.ofNat n]⟩]:=by unfold Im;rw [List.range_succ,List.map_append];rfl
theorem X8p (i n:Nat):Il i (n+1)=Il i n++[⟨0,((i+n:Nat):Int)⟩]:=by unfold Il;rw [List.range_succ,List.map_append];rfl
theorem X5q (i n:Nat):(Im i n).length=n:=by unfold Im;rw [List.length_map,List.length_range]
theorem X5p (i n:Nat):(Il i n).length=n:=by unfold Il;rw [List.length_map,List.length_range]
def Jz (b:Int):Int:=(Int.tmod b 5+5) % 5
theorem X55 (b:Int):0≤Jz b∧Jz b≤4:=by
  unfold Jz
  have h1:=Int.emod_nonneg (Int.tmod b 5+5) (b:=5) (by decide)
  have h2:=Int.emod_lt_of_pos (Int.tmod b 5+5) (b:=5) (by decide)
  omega
theorem tmod5 (a:Int):-5<a.tmod 5∧a.tmod 5<5:=by
  rcases Int.le_total 0 a with h|h
  · rw [Int.tmod_eq_emod_of_nonneg h];omega
  · have e:a.tmod 5=-((-a).tmod 5):=by rw [Int.neg_tmod,Int.neg_neg]
    rw [e,Int.tmod_eq_emod_of_nonneg (by omega)];omega
def I4 (L:List Xq) (i n:Nat):Xq:=⟨((i+1:Nat):Int),atB d9 L L.length,Im i n,Il i n⟩
def W8 (bs:List Int):Nat→List Xq
  | 0=>[]
  | i+1=>W8 bs i++[I4 (W8 bs i) i (Jz (bs.getD i 0)).toNat]
theorem Fx (bs:List Int):∀ i,(W8 bs i).length=i
  | 0=>rfl
  | i+1=>by rw [W8,List.length_append,Fx bs i];rfl
theorem X6c {L:List Xq} {i n:Nat} (hn:n≤4) (hL:(atB d9 L L.length).length≤10000000):Hm (I4 L i n):=by
  refine ⟨⟨by rw [show (I4 L i n).X9=Im i n from rfl,X5q];omega,fun e he=>?_⟩,by rw [show (I4 L i n).Xl=Il i n from rfl,X5p];omega,hL⟩
  obtain ⟨k,_,rfl⟩:=List.mem_map.1 he
  show (2:Nat)≤500
  decide
theorem blk_chk9 {L:List Xq} {i n:Nat} (hn:n≤4) (hi:i≤1000000):Vf (I4 L i n)=0:=by
  have h1:(I4 L i n).X9.length=n:=X5q i n
  have h2:(I4 L i n).Xl.length=n:=X5p i n
  have h3:(I4 L i n).Xg=((i+1:Nat):Int):=rfl
  unfold Vf
  rw [h1,h2,h3,if_neg (by omega),if_neg (by omega)]
theorem Ed (bs:List Int):∀ i,i≤100→(atB d9 (W8 bs i) (W8 bs i).length).length≤5000+26000*i∧X04 (W8 bs i)
  | 0,_=>⟨by show (ofB 6 ([]:List (List UInt8))).length≤_;decide +kernel,fun b hb=>by cases hb⟩
  | i+1,hi=>by
    obtain ⟨h1,h2⟩:=Ed bs i (by omega)
    have hc:=X55 (bs.getD i 0)
    have hf:Hm (I4 (W8 bs i) i (Jz (bs.getD i 0)).toNat):=X6c (by omega) (by omega)
    refine ⟨?_,fun b hb=>?_⟩
    · rw [W8,at_snoc9]
      have h3:=dig_len9 hf
      have h4:(I4 (W8 bs i) i (Jz (bs.getD i 0)).toNat).Y4=atB d9 (W8 bs i) (W8 bs i).length:=rfl
      rw [h4] at h3
      omega
    · rw [W8] at hb
      rcases List.mem_append.1 hb with hb|hb
      · exact h2 b hb
      · rw [List.mem_singleton] at hb;rw [hb];exact hf
theorem Xgk (L:List Xq) (b:Xq):W1 (L++[b])=W1 L++[lnk b]:=by unfold W1;rw [List.map_append];rfl
theorem app_chn9 {bs:List Int} {i:Nat} (hi:i≤100):X12 0 d9 (W1 (W8 bs i)) (I4 (W8 bs i) i (Jz (bs.getD i 0)).toNat)=W1 (W8 bs (i+1))∧H9 0 d9 (W8 bs i) (I4 (W8 bs i) i (Jz (bs.getD i 0)).toNat)=W8 bs (i+1):=by
  have hc:=X55 (bs.getD i 0)
  have hl:=Fx bs i
  have h1:¬Vf (I4 (W8 bs i) i (Jz (bs.getD i 0)).toNat)≠0:=fun q=>q (blk_chk9 (by omega) (by omega))
  have h2:(I4 (W8 bs i) i (Jz (bs.getD i 0)).toNat).Xg=((i+1:Nat):Int):=rfl
  refine ⟨?_,(X7s h1 (by rw [h2,hl];omega) (fun q=>q rfl)).2⟩
  rw [(Xa6 h1 (by rw [h2,Jk,hl];omega) (by rw [X9n];exact fun q=>q rfl)).2,W8,Xgk]
abbrev chL (c:Y3):List Xq:=W8 c.X6 c.X6.length
def Ud (c:Y3):List UInt8:=X3a ((c.X6.length:Nat):Int) (atB d9 (chL c) (chL c).length) c.U4
def Xhn:List UInt8:=[97,110,111,116,104,101,114,32,111,110,101]
def ckD9 (c:Y3):List UInt8:=if c.I2=true then Xhn else ofB 7 [Ud c]
def Un (c:Y3):aM:=⟨5,0,max 1 ((c.X6.length:Nat):Int),0,0,ckD9 c,[],Ym,[],[],[]⟩
def votE9 (c:Y3) (s:Int):aE:=⟨s,F5 (Un c)⟩
def Vq (c:Y3) (k:Nat):List aE:=(c.Xt.take k).map (votE9 c)
def Uh (f u:Int) (c:Y3):Nat→List aE
  | 0=>[]
  | k+1=>Hv f u (Uh f u c k) (c.Xt.getD k 0) (F5 (Un c))
theorem Xaq {c:Y3} {k:Nat} (hk:k<c.Xt.length):Vq c (k+1)=Vq c k++[votE9 c (c.Xt.getD k 0)]:=by unfold Vq;rw [Hq (z:=0) hk,List.map_append];rfl
theorem X87 {c:Y3} {k:Nat} (hk:k≤c.Xt.length):(Vq c k).length=k:=by unfold Vq;rw [List.length_map,List.length_take];omega
theorem X5b (f u:Int) (c:Y3):∀ k,(Uh f u c k).length≤k
  | 0=>Nat.le_refl _
  | k+1=>by have:=Xiw f u (Uh f u c k) (c.Xt.getD k 0) (F5 (Un c));have:=X5b f u c k;rw [Uh];omega
def Ux (c:Y3):Prop:=c.X6.length≤20∧c.U4.length≤500∧c.Xt.length≤12
instance (c:Y3):Decidable (Ux c):=inferInstanceAs (Decidable (_∧_∧_))
theorem X06 {c:Y3} (h:Ux c):(Ud c).length≤600000:=by
  have h1:(atB d9 (chL c) (chL c).length).length≤5000+26000*c.X6.length:=(Ed c.X6 c.X6.length (by have:=h.1;omega)).1
  have h2:=h.1
  have h3:=h.2.1
  unfold Ud
  rw [pack_len]
  omega
theorem Xf7 {c:Y3} (h:Ux c):(ckD9 c).length≤700000:=by
  unfold ckD9
  split
  · decide
  · rw [X2p]
    have h1:=X06 h
    show 5+(4+(Ud c).length)≤_
    omega
theorem Xf6 {c:Y3} (h:Ux c):(Yb (Un c) 9).length≤800000:=by
  have e:=Xgs (Un c)
  have e1:(Un c).X8=ckD9 c:=rfl
  have e2:(Un c).Xa=[]:=rfl
  have e3:(Vo (Un c).Xp).length=4:=rfl
  have e4:(Vo (Un c).Y5).length=4:=rfl
  have e5:(Ep (Un c).X5).length=4:=rfl
  rw [e1,e2,e3,e4,e5,List.length_nil] at e
  have:=Xf7 h
  omega
theorem Xf8 {c:Y3} (h:Ux c):(F5 (Un c)).length≤800000:=by
  unfold F5
  split
  · exact Xf6 h
  · simp
def rngW (c:Y3):Prop:=∀ s,s∈c.Xt→X24 s
theorem X7k {c:Y3} (h:Ux c) (hr:rngW c) {k:Nat}:X0l (Vq c k):=⟨by
  unfold Vq;rw [List.length_map,List.length_take];have:=h.2.2;omega,fun e he=>by
  obtain ⟨s,hs,rfl⟩:=List.mem_map.1 he
  exact ⟨hr s (List.mem_of_mem_take hs),Nat.le_trans (Xf8 h) (by decide)⟩⟩
end Go.Proofs.YtnaopgohccacmaaGreat.Q
namespace Go.Proofs.YtnaopgohccacmaaGreat.Q
open Go Go.RowKit
set_option linter.unusedVariables false
set_option linter.unusedSimpArgs false
set_option maxRecDepth 100000
set_option maxHeartbeats 4000000
theorem Xba (c:Y3) (h0:c.X6.length≤9223372036854775807) (h1:c.U4.length≤9223372036854775807) (h2:c.Xt.length≤9223372036854775807):Holds Tryz.prog 9 ⟨[.tv (.agg [.d (dsl false false (Vi .i64) c.X6),dU c.U4,.d (dsl false false (Vi .i64) c.Xt),dB c.I2])],[],vB (decide (Ux c)),[]⟩:=by
 refine Holds.of Tryz.func9 rfl (N:=19) Tryz.ntmps9 rfl fun w0 B0 S0 U0=>?_
 show T _ (Y2 19 0 w0 S0 U0 B0) ⟨[.tv (.agg [.d (dsl false false (Vi .i64) c.X6),dU c.U4,.d (dsl false false (Vi .i64) c.Xt),dB c.I2])],[]⟩ _ _
 refine sR [] ?_
 by_cases hq1:((c.X6.length:Nat):Int)≤20
 ·by_cases hq2:((c.U4.length:Nat):Int)≤500
  ·refine sR (Xm (hY · (dT hq1)) [5,6,7,8] (hP 9 (dT hq1)::(Xm (hY · (dT hq2)) [11,12,13,14] (hP 15 (dT hq2)::[])))) ?_
   refine T.ret ?_
   exact eRt 2 (.one (dB (decide (((c.Xt.length:Nat):Int)≤12)))) [] (cB (by exact decide_eq_decide.2 (by unfold Ux;omega))) trivial
  refine sR (Xm (hY · (dT hq1)) [5,6,7,8] (hP 9 (dT hq1)::(Xm (hN · true (dF hq2)) [11,12,13,14] (hP 15 (dF hq2)::[])))) ?_
  refine T.ret ?_
  exact eRt 2 (.one (dB false)) [] (cB (by exact dF (by unfold Ux;omega))) trivial
 refine sR (Xm (hN · true (dF hq1)) [5,6,7,8] (hP 9 (dF hq1)::(Xm hN1 [11,12,13,14] (hP0 15::[])))) ?_
 refine T.ret ?_
 exact eRt 2 (.one (dB false)) [] (cB (by exact dF (by unfold Ux;omega))) trivial
end Go.Proofs.YtnaopgohccacmaaGreat.Q
