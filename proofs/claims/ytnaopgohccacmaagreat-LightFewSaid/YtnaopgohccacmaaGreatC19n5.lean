import Derived.Test.YtnaopgohccacmaaGreatC19n2
import Derived.Shelf.Sort.Plain
import Derived.Shelf.Slices.In.SortNone
namespace Go.Proofs.YtnaopgohccacmaaGreat.Q
open Go Go.RowKit
set_option linter.unusedVariables false
set_option linter.unusedSimpArgs false
set_option maxRecDepth 100000
set_option maxHeartbeats 4000000
section
variable (f:Int) (u:Int) (rows:List (Yg×Bool)) (s:Int) (tb:Bool) (nb:Bool) (b:List UInt8)
abbrev Z4:HS:=.live (.box 130 [dI (3*f+1),dI u,.mref 1])
abbrev Z5:HS:=.live (mpK Xp Yc rows)
abbrev Z6:List AV:=[pv 0 0,vI s,slV tb nb kU8 b,aa,aa,aa,pv 2 0,vI 11,vB (!(decide (Uq f u s))),aa,aa,aa,aa,aa,vB (decide (((b.length:Nat):Int)>16777216))]
abbrev Z7:HS:=.live (.box 43 [dI 0,.d (.val (.slice none 0 0))])
abbrev Z8:SV:=dU ([]:List UInt8)
abbrev Z9:List SV:=[dI 0,Z8]
abbrev Za:List AV:=[pv 0 0,vI s,slV tb nb kU8 b,aa,aa,aa,pv 2 0,vI 0,vB (!(decide (Uq f u s))),aa,aa,aa,aa,aa,vB (decide (((b.length:Nat):Int)>16777216))]
abbrev Zb:List AV:=[pv 0 0,vI s,slV tb nb kU8 b,aa,aa,aa,pv 2 0,vI 30,vB (!(decide (Uq f u s)))]
end
theorem Xic (f:Int) (u:Int) (rows:List (Yg×Bool)) (s:Int) (tb:Bool) (nb:Bool) (b:List UInt8) (hf:0≤f∧f≤2) (hu:0≤u∧u≤8) (hs:-9223372036854775808≤s∧s≤9223372036854775807) (hb:b.length≤140737488355328):Holds Tryz.prog 26 ⟨[pv 0 0,vI s,slV tb nb kU8 b],[.box 130 [dI (3*f+1),dI u,.mref 1],mpK Xp Yc rows],.tup [.agg [dI (Hx f u s b).f_Signer,dU (Hx f u s b).Xh],.one (dI (X01 f u s b))],[.live (.box 130 [dI (3*f+1),dI u,.mref 1]),.live (mpK Xp Yc (X6i f u rows s b))]⟩:=by
 refine Holds.of Tryz.func26 rfl (N:=31) Tryz.ntmps26 rfl fun w0 B0 S0 U0=>?_
 show T _ (Y2 31 2 w0 S0 U0 B0) ⟨[pv 0 0,vI s,slV tb nb kU8 b],[(Z4 f u),(Z5 rows)]⟩ _ _
 refine sR [] (T.seq (T.block (sR [hR 2 rfl rfl (rCa (X6y f u rows s ‹_› ‹_› ‹_›) Tryz.func68 [0,1] [(.tmp 9,pv 0 0),(.tmp 10,vI s)] 2 2)] ?_)))
 by_cases hq1:Uq f u s
 ·refine cF (cn (dT hq1)) (sR [] ?_)
  by_cases hq2:((b.length:Nat):Int)>16777216
  ·refine cT (dT hq2) (sR [] (T.ret (rB (rT ?_))))
   refine eN ⟨(Z6 f u s tb nb b),[(Z4 f u),(Z5 rows),Z7]⟩ ?_
   refine Xa (s':=⟨(Z6 f u s tb nb b),[(Z4 f u),(Z5 rows),.live (.box 43 Z9)]⟩) (fun _ _ hG=>W1 (s:=⟨(Z6 f u s tb nb b),[(Z4 f u),(Z5 rows),Z7]⟩) ⟨.inl rfl,(kk2 p3x)⟩ (kk2 ⟨p3b,trivial⟩) hG) ?_
   exact eX [.c 6 2 43 0 43 [dI 0,Z8] (.agg Z9),.t 7 (.one (dI 11))] ⟨⟨rfl,rfl,by kernel_rfl,by kernel_rfl,.inl ⟨2,E9,rfl,Nat.le_of_ble_eq_true rfl⟩⟩,⟨⟨rfl,by kernel_rfl⟩,trivial⟩⟩ [0,1] (by have e1:((Hx f u s b).f_Signer:Int)=0:=X9f;have e2:((Hx f u s b).Xh:List UInt8)=([]:List UInt8):=X9f;have e3:((X01 f u s b):Int)=11:=X9f;have hE:=congr pz e3;exact hE) (ix ⟨⟨rfl,p2p⟩,trivial⟩)
  refine cF (dF hq2) (T.skip (nB (nT ?_)))
  refine sD [[],[0],[0,1],[0,1,2],[],[],[5],[4,5,6],[0,1,2,3,4,5,6,7]] [hR 6 rfl rfl (Fj () b (ys:=(.d (dsl tb nb kU8 b))) (rhs:=[]) Tryz.underlying25 Tryz.underlying5 Tryz.underlying9 (Uv tb nb kU8 b) (X2 rfl) trivial),hR 8 rfl rfl (X6r 1 rows (Yg.mk s b) true (kd:=Yc) (ak:=.tv (.agg [dI s,dS b])) (tv:=.one (dB true)) Tryz.underlying128 X0y ⟨[.int .i64 s,Yn b],rfl,rfl⟩ rfl ⟨.inl rfl,trivial⟩ ⟨rfl,trivial⟩)] (sR [hR 2 rfl rfl (rCa (E4 tb nb b ‹_›) Tryz.func51 [3] [(.tmp 28,slV tb nb kU8 b)] 0 1)] (T.ret ?_))
  refine eN ⟨(Za f u s tb nb b),[(Z4 f u),.live (mpK Xp Yc (mput rows (Yg.mk s b) true)),.live (.box 43 [dI s,.own 3 kU8.sz 0 b.length]),.live (Xc 5 kU8 b)]⟩ ?_
  refine Xa (s':=⟨(Za f u s tb nb b),[(Z4 f u),.live (mpK Xp Yc (mput rows (Yg.mk s b) true)),.live (.box 43 [dI s,dU b]),.dead]⟩) (fun _ _ hG=>Gs.freeze (s:=⟨(Za f u s tb nb b),[(Z4 f u),.live (mpK Xp Yc (mput rows (Yg.mk s b) true)),.live (.box 43 [dI s,.own 3 kU8.sz 0 b.length]),.live (Xc 5 kU8 b)]⟩) 3 (el:=W5 kU8 b) (sz:=kU8.sz) (n:=b.length) rfl ⟨.inl rfl,(kk2 p3x)⟩ ⟨pZ7,⟨pZ7,⟨p3e,⟨(.inl ⟨rfl,rfl⟩),trivial⟩⟩⟩⟩ hG) ?_
  exact eX [.c 6 2 43 0 43 [dI s,dU b] (.agg [dI s,dU b]),.t 7 (.one (dI 0))] ⟨⟨rfl,rfl,by kernel_rfl,by kernel_rfl,.inl ⟨2,E9,rfl,Nat.le_of_ble_eq_true rfl⟩⟩,⟨⟨rfl,by kernel_rfl⟩,trivial⟩⟩ [0,1] (by have e1:((Hx f u s b).f_Signer:Int)=s:=X9f;have e2:((Hx f u s b).Xh:List UInt8)=b:=X9f;have e3:((X01 f u s b):Int)=0:=X9f;have hE:=congr pz e3;exact hE) (ix ⟨⟨rfl,(by have e1:((mput rows (Yg.mk s b) true):List (Yg×Bool))=(X6i f u rows s b):=X9f;have hE:=congrArg (fun (q1:List (Yg×Bool))=>(.live (mpK Xp Yc q1):HS)) e1;exact Eq.trans pZ4 hE)⟩,trivial⟩)
 refine cT (cn (dF hq1)) (sR [] (T.ret (rB (rT ?_))))
 refine eN ⟨(Zb f u s tb nb b),[(Z4 f u),(Z5 rows),Z7]⟩ ?_
 refine Xa (s':=⟨(Zb f u s tb nb b),[(Z4 f u),(Z5 rows),.live (.box 43 Z9)]⟩) (fun _ _ hG=>W1 (s:=⟨(Zb f u s tb nb b),[(Z4 f u),(Z5 rows),Z7]⟩) ⟨.inl rfl,(kk8 trivial)⟩ (kk2 ⟨p3b,trivial⟩) hG) ?_
 exact eX [.c 6 2 43 0 43 [dI 0,Z8] (.agg Z9),.t 7 (.one (dI 30))] ⟨⟨rfl,rfl,by kernel_rfl,by kernel_rfl,.inl ⟨2,E9,rfl,Nat.le_of_ble_eq_true rfl⟩⟩,⟨⟨rfl,by kernel_rfl⟩,trivial⟩⟩ [0,1] (by have e1:((Hx f u s b).f_Signer:Int)=0:=X9f;have e2:((Hx f u s b).Xh:List UInt8)=([]:List UInt8):=X9f;have e3:((X01 f u s b):Int)=30:=X9f;have hE:=congr pz e3;exact hE) (ix ⟨⟨rfl,p2p⟩,trivial⟩)
theorem Xii:Wide Tryz.prog 25 none:=⟨_,Tryz.underlying25,(fun _ h=>by cases h),(fun _ _ h=>by cases h)⟩
theorem X24:Tryz.prog.info? 4=some Tryz.t4:=by kernel_rfl
theorem Xif:ZeroM Tryz.prog 4 [.bool false]:=⟨_,_,X24,rfl,rfl,fun _=>rfl⟩
theorem Xgi (f:Int) (u:Int) (rows:List (Yg×Bool)) (te:Bool) (e:aE) (hf:0≤f∧f≤2) (hu:0≤u∧u≤8) (hs:-9223372036854775808≤e.f_Signer∧e.f_Signer≤9223372036854775807):Holds Tryz.prog 186 ⟨[pv 0 0,.tv (.agg [dI e.f_Signer,.d (dsl te false kU8 e.Xh)])],[.box 130 [dI (3*f+1),dI u,.mref 1],mpK Xp Yc rows],vI (Xz f u rows e),[.live (.box 130 [dI (3*f+1),dI u,.mref 1]),.live (mpK Xp Yc rows)]⟩:=by
 refine Holds.of Tryz.func186 rfl (N:=28) Tryz.ntmps186 rfl fun w0 B0 S0 U0=>?_
 show T _ (Y2 28 2 w0 S0 U0 B0) ⟨[pv 0 0,.tv (.agg [dI e.f_Signer,.d (dsl te false kU8 e.Xh)])],[.live (.box 130 [dI (3*f+1),dI u,.mref 1]),.live (mpK Xp Yc rows)]⟩ _ _
 refine sR [] (T.seq (sR [hR 3 rfl rfl (rCa (X6y f u rows e.f_Signer ‹_› ‹_› ‹_›) Tryz.func68 [0,1] [(.tmp 7,pv 0 0),(.tmp 9,vI e.f_Signer)] 2 2)] ?_))
 by_cases hq1:Uq f u e.f_Signer
 ·refine cF (cn (dT hq1)) (T.skip (nT (T.seq ?_)))
  refine sD [[],[0],[0,1],[0,1,2],[],[4],[],[6],[6,7],[4,5,6,7,8],[0,1,2,3,4,5,6,7,8,9],[0,1,2,3,4,5,6,7,8,9,10],[0,1,2,3,4,5,6,7,8,9,10,11],[0,1,2,3,4,5,6,7,8,9,10,11],[0,1,2,3,4,5,6,7,8,9,10,11,12],[0,1,2,3,4,5,6,7,8,9,10,11,12,13,14]] [hR 8 rfl rfl (Fj () e.Xh (ys:=(.d (dsl te false kU8 e.Xh))) (rhs:=[]) Tryz.underlying25 Tryz.underlying5 Tryz.underlying9 (Uv te false kU8 e.Xh) (X2 rfl) trivial),hR 10 rfl rfl (Xko 1 rows (Yg.mk e.f_Signer e.Xh) (.one (dB (mget rows (Yg.mk e.f_Signer e.Xh) false))) (ak:=.tv (.agg [dI e.f_Signer,dS e.Xh])) (kd:=Yc) Tryz.underlying128 X0y ⟨[.int .i64 e.f_Signer,Yn e.Xh],rfl,rfl⟩ Xif ⟨.inl rfl,trivial⟩ rfl (X2 rfl) trivial)] (sR [] ?_)
  by_cases hq2:(mhas rows (Yg.mk e.f_Signer e.Xh))=true
  ·refine cF (cn hq2) (T.skip (nT (sR [] (T.ret ?_))))
   exact eRt 4 (.one (dI 0)) [0,1] (by have e1:((Xz f u rows e):Int)=0:=(by (simp [Xz, *];done));have hE:=cI e1;exact hE) (ix (ix trivial))
  replace hq2:=Bool.eq_false_iff.2 hq2
  refine cT (cn hq2) (sR [] (T.ret (rT ?_)))
  exact eRt 4 (.one (dI 31)) [0,1] (by have e1:((Xz f u rows e):Int)=31:=(by (simp [Xz, *];done));have hE:=cI e1;exact hE) (ix (ix trivial))
 refine cT (cn (dF hq1)) (sR [] (T.ret (rT ?_)))
 exact eRt 4 (.one (dI 30)) [0,1] (by have e1:((Xz f u rows e):Int)=30:=(by (simp [Xz, *];done));have hE:=cI e1;exact hE) (ix (ix trivial))
end Go.Proofs.YtnaopgohccacmaaGreat.Q
namespace Go.Proofs.YtnaopgohccacmaaGreat.Q
set_option linter.unusedVariables false
set_option linter.unusedSimpArgs false
set_option maxRecDepth 100000
def Ju (xs:List Int):List Int:=xs.mergeSort fun x y=>decide (x≤y)
theorem X4f (xs:List Int):(Ju xs).length=xs.length:=List.length_mergeSort _
theorem put_get (d:Array Int) (cur:Array Value) {j:Nat} (hj:j<d.size) (hc:j<cur.size):(Go.Sort.putCells (Value.int .i64) 0 d cur)[j]?=some (.int .i64 d[j]!):=by
  simp only [Go.Sort.putCells,Array.getElem?_mapIdx,Array.getElem?_eq_getElem hc,Option.map_some,Nat.sub_zero]
  rw [if_pos ⟨Nat.zero_le _,by omega⟩]
theorem row_at {w:World} {b n:Nat} {d:Array Int} {cur:Array Value} {T:Nat} {fr:Nat×Nat} {os:Array Obj} (h:w.heap[b]?=some (.cells cur T fr)):(Go.Sort.grow (Go.Sort.putRow (Value.int .i64) (Go.Sort.ahead w n) b 0 d) os).heap[b]?=some (.cells (Go.Sort.putCells (Value.int .i64) 0 d cur) T fr):=by
  have hb:b<w.heap.size:=by
    rcases Nat.lt_or_ge b w.heap.size with q|q
    · exact q
    · rw [Array.getElem?_eq_none (by omega)] at h;cases h
  rw [Go.Sort.heap_grow_old _ _ (by simpa [Go.Sort.ahead] using hb)]
  simp only [Go.Sort.putRow,Go.Sort.mapBlock,Go.Sort.ahead,Array.getElem?_modify,if_true,h,Option.map_some,Go.Sort.onCells]
theorem Xkf {w:World} {b n k:Nat} {d:Array Int} {os:Array Obj} (hk:k<w.heap.size) (hne:k≠b):(Go.Sort.grow (Go.Sort.putRow (Value.int .i64) (Go.Sort.ahead w n) b 0 d) os).heap[k]?=w.heap[k]?:=by
  rw [Go.Sort.heap_grow_old _ _ (by simpa [Go.Sort.ahead] using hk)]
  simp only [Go.Sort.putRow,Go.Sort.mapBlock,Go.Sort.ahead,Array.getElem?_modify]
  rw [if_neg (Ne.symm hne)]
theorem Xgx {P:Program} {ρ:Go.Shelf.Ren} (L:Go.Proofs.Lays.n189 P ρ) (T:Nat) (xs:List Int) (hx:xs.length≤1000000000):Holds P (ρ.f 189) ⟨[Xx 0 (Yf .i64) 0 xs.length],[Xc T (Yf .i64) xs],.tup [],[.live (Xc T (Yf .i64) (Ju xs))]⟩:=by
  intro w B S U vs hl g
  obtain ⟨v,rfl⟩:∃ v,vs=[v]:=by
    match vs,hl with
    | [v],_=>exact ⟨v,rfl⟩
  have h0:Ve B S U w (.own 0 1 0 xs.length) v:=g.tm 0
  have ho:Fk B S U w 0 (Xc T (Yf .i64) xs):=g.ob 0 _ rfl
  have hone:∀ {l:Nat} {o:HObj} {h:HS},hget [h] l=.live o→l=0∧h=.live o:=fun {l o h} e=>by
    cases l with
    | zero=>exact ⟨rfl,e⟩
    | succ l=>cases e
  rcases h0 with ⟨hB,_,hn,rfl⟩|⟨b,κ,o,cap,hB,rfl,hoc,hcap,hoo⟩
  · have hx:xs=[]:=List.eq_nil_of_length_eq_zero hn
    subst hx
    rw [show Ju []=[] from List.mergeSort_nil ..]
    refine (Go.Proofs.Any.slices_Sort_int_none L none 0 w).mono fun e w' ⟨he,hw⟩=>?_
    subst he hw
    refine ⟨_,B,S,U,rfl,?_⟩
    exact { g with
      df:=rfl
      sz:=rfl
      tm:=fun k=>by
        cases k with
        | zero=>exact ⟨[],rfl,trivial⟩
        | succ k=>exact trivial
      ob:=fun l o e=>g.ob l o e }
  · rcases ho with ⟨h,_⟩|⟨b',κ',cur,hB',hheap,hcs,hnκ,hκm,hel⟩
    · rw [hB] at h;cases h
    · rw [hB] at hB'
      obtain ⟨rfl,rfl⟩:b=b'∧κ=κ':=by
        simp only [Option.some.injEq,Prod.mk.injEq] at hB';exact hB'
      have ho:o=0:=by rw [hoo (.inr rfl)]
      subst ho
      have hcs:cur.size=κ:=by rw [hcs];exact Nat.mul_one _
      have hb:b<w.heap.size:=by
        rcases Nat.lt_or_ge b w.heap.size with q|q
        · exact q
        · rw [Array.getElem?_eq_none (by omega)] at hheap;cases hheap
      have hH:Go.Sort.Holds (Value.int .i64) w b 0 xs.toArray:=fun j hj=>by
        have hj:j<xs.length:=by simpa using hj
        obtain ⟨u,hu,hd⟩:=hel j hj 0 (by decide)
        have hu:cur[j]?=some u:=by rw [← hu];rw [show j*(Yf .i64).sz+0=j from Nat.mul_one j]
        have hd:u=.int .i64 (xs.getD j 0):=hd
        refine ⟨?_,by simp [World.frozen?,hheap]⟩
        rw [show (⟨b,0+j,none⟩:Addr)=⟨b,j,none⟩ by rw [Nat.zero_add]]
        have:w.cell? ⟨b,j,none⟩=cur[j]?:=by simp [World.cell?,hheap]
        rw [this,hu,hd]
        simp [List.getElem!_eq_getElem?_getD,List.getD_eq_getElem?_getD]
      refine (Go.Proofs.Any.slices_Sort_int L b 0 cap xs w hH hb (by omega)).mono fun e w' ⟨he,n,os,hw⟩=>?_
      have hw:w'=Go.Sort.grow (Go.Sort.putRow (Value.int .i64) (Go.Sort.ahead w n) b 0 (Ju xs).toArray) os:=hw
      subst he hw
      have hat:=row_at (n:=n) (d:=(Ju xs).toArray) (os:=os) hheap
      have hC:Cs 1 B b:=⟨0,κ,by decide,hB⟩
      have hsz:(Go.Sort.grow (Go.Sort.putRow (Value.int .i64) (Go.Sort.ahead w n) b 0 (Ju xs).toArray) os).heap.size=w.heap.size+os.size:=by
        rw [Go.Sort.size_grow,Go.Sort.size_putRow];rfl
      refine ⟨_,B,S,U,rfl,?_⟩
      exact { g with
        df:=rfl
        sz:=rfl
        tm:=fun k=>by
          cases k with
          | zero=>exact ⟨[],rfl,trivial⟩
          | succ k=>exact trivial
        ob:=fun l o e=>by
          obtain ⟨rfl,e⟩:=hone e
          cases e
          refine .inr ⟨b,κ,_,hB,hat,?_,?_,hκm,fun i hi j hj=>?_⟩
          · simp [Go.Sort.putCells,hcs];exact (Nat.mul_one κ).symm
          · rw [X4f];exact hnκ
          · have hj:j<1:=hj
            have hi:i<(Ju xs).length:=hi
            have hi2:=hi
            rw [X4f] at hi2
            refine ⟨.int .i64 ((Ju xs).getD i 0),?_,?_⟩
            · rw [show i*(Yf .i64).sz+j=i by rw [show (Yf .i64).sz=1 from rfl];omega,put_get _ _ (by simpa using hi) (by omega)]
              simp [List.getElem!_eq_getElem?_getD,List.getD_eq_getElem?_getD]
            · exact rfl
        nj:=fun l l' o o' e e' hne=>absurd ((hone e).1.trans (hone e').1.symm) hne
        sp:=fun l o p e hp=>by
          obtain ⟨rfl,_⟩:=hone e
          exact g.sp 0 _ p rfl hp
        cf:=fun l o p e hp=>by
          obtain ⟨rfl,_⟩:=hone e
          exact g.cf 0 _ p rfl hp
        fr:=fun l e=>by
          cases l with
          | zero=>cases e
          | succ l=>exact g.fr (l+1) rfl
        ub:=fun k hk=>by rw [hsz];exact Nat.lt_of_lt_of_le (g.ub k hk) (Nat.le_add_right _ _)
        ps:=fun k hk hc=>by
          have hne:k≠b:=fun q=>hc (q ▸ hC)
          have hk:k<w.heap.size:=hk
          exact Xkf hk hne
        hs:=by rw [hsz];exact Nat.le_add_right _ _
        os:=rfl
        tp:=rfl
        op:=rfl }
end Go.Proofs.YtnaopgohccacmaaGreat.Q
namespace Go.Proofs.YtnaopgohccacmaaGreat.Q
open Go.Shelf
def Xfh:Go.Shelf.Ren:=⟨fun|189=>80|125=>130|257=>129|128=>165|129=>166|294=>156|295=>157|296=>158|297=>159|298=>160|299=>161|216=>162|300=>163|301=>164|328=>178|329=>179|330=>180|331=>181|332=>182|215=>183|343=>191|n=>n,fun|28=>24|3=>3|46=>185|0=>0|51=>214|53=>179|4=>4|183=>206|182=>205|131=>211|5=>5|9=>9|218=>222|222=>226|228=>234|229=>174|n=>n,fun|n=>n⟩
theorem lays189:Go.Proofs.Lays.n189 Tryz.prog Xfh:={
  mixed:=by kernel_rfl
  f125:=Tryz.func130.trans p1t
  f128:=Tryz.func165.trans p1t
  f129:=Tryz.func166.trans p1t
  f189:=Tryz.func80.trans p1t
  f215:=Tryz.func183.trans p1t
  f216:=Tryz.func162.trans p1t
  f257:=Tryz.func129.trans p1t
  f294:=Tryz.func156.trans p1t
  f295:=Tryz.func157.trans p1t
  f296:=Tryz.func158.trans p1t
  f297:=Tryz.func159.trans p1t
  f298:=Tryz.func160.trans p1t
  f299:=Tryz.func161.trans p1t
  f300:=Tryz.func163.trans p1t
  f301:=Tryz.func164.trans p1t
  f328:=Tryz.func178.trans p1t
  f329:=Tryz.func179.trans p1t
  f330:=Tryz.func180.trans p1t
  f331:=Tryz.func181.trans p1t
  f332:=Tryz.func182.trans p1t
  f343:=Tryz.func191.trans p1t
  t0:=Tryz.underlying0
  a0:=Tryz.isAgg0
  z0:=Tryz.sizeOf0
  v0:=Tryz.zeroValue0
  t3:=Tryz.underlying3
  a3:=Tryz.isAgg3
  z3:=Tryz.sizeOf3
  v3:=Tryz.zeroValue3
  t4:=Tryz.underlying4
  a4:=Tryz.isAgg4
  z4:=Tryz.sizeOf4
  v4:=Tryz.zeroValue4
  t5:=Tryz.underlying5
  a5:=Tryz.isAgg5
  z5:=Tryz.sizeOf5
  v5:=Tryz.zeroValue5
  t9:=Tryz.underlying9
  a9:=Tryz.isAgg9
  z9:=Tryz.sizeOf9
  v9:=Tryz.zeroValue9
  t28:=Tryz.underlying24
  a28:=Tryz.isAgg24
  z28:=Tryz.sizeOf24
  v28:=Tryz.zeroValue24
  t46:=Tryz.underlying185
  a46:=Tryz.isAgg185
  z46:=Tryz.sizeOf185
  v46:=Tryz.zeroValue185
  t51:=Tryz.underlying214
  a51:=Tryz.isAgg214
  z51:=Tryz.sizeOf214
  v51:=Tryz.zeroValue214
  t53:=Tryz.underlying179
  a53:=Tryz.isAgg179
  z53:=Tryz.sizeOf179
  v53:=Tryz.zeroValue179
  t131:=Tryz.underlying211
  a131:=Tryz.isAgg211
  z131:=Tryz.sizeOf211
  v131:=Tryz.zeroValue211
  t182:=Tryz.underlying205
  a182:=Tryz.isAgg205
  z182:=Tryz.sizeOf205
  v182:=Tryz.zeroValue205
  t183:=Tryz.underlying206
  a183:=Tryz.isAgg206
  z183:=Tryz.sizeOf206
  v183:=Tryz.zeroValue206
  t218:=Tryz.underlying222
  a218:=Tryz.isAgg222
  z218:=Tryz.sizeOf222
  v218:=Tryz.zeroValue222
  t222:=Tryz.underlying226
  a222:=Tryz.isAgg226
  z222:=Tryz.sizeOf226
  v222:=Tryz.zeroValue226
  t228:=Tryz.underlying234
  a228:=Tryz.isAgg234
  z228:=Tryz.sizeOf234
  v228:=Tryz.zeroValue234
  t229:=Tryz.underlying174
  a229:=Tryz.isAgg174
  z229:=Tryz.sizeOf174
  v229:=Tryz.zeroValue174 }
end Go.Proofs.YtnaopgohccacmaaGreat.Q
namespace Go.Proofs.YtnaopgohccacmaaGreat.Q
set_option linter.unusedVariables false
set_option linter.unusedSimpArgs false
set_option maxRecDepth 100000
theorem Xai (n:Nat):(Builtin.zeroCells #[.int .i64 0] n).toList=List.replicate n (Value.int .i64 0):=by
  have e:(fun i:Nat=>(#[Value.int .i64 0]:Array Value)[i % (#[Value.int .i64 0]:Array Value).size]!)=fun _=>Value.int .i64 0:=funext fun i=>by
    rw [show (#[Value.int .i64 0]:Array Value).size=1 from rfl,Nat.mod_one];rfl
  unfold Builtin.zeroCells
  rw [e,Array.toList_map,List.map_const',Array.length_toList]
  simp
section
variable {P:Program} {bs:Base}
theorem Xeo (l T:Nat) (xs ys:List Int) (d0 dn:Nat) {x:Operand} {t e bytes ty:TypeId} {pos:String} {af:Array Edge} {gd:Option (Nat×Bool)} (hE:Elem P t e 1 bytes) (hz:Zero P e [.int .i64 0]) (hd:d0+dn≤xs.length) (hys:xs.take d0++List.replicate dn 0++xs.drop (d0+dn)=ys) (hc:cOk [(x,Xx l (Yf .i64) d0 dn)]) :
    ORule P bs ⟨none,.call { callee:=.builtin .clear,args:=#[x],argTypes:=#[t] },ty,pos,af,gd⟩
      ⟨Wg [(x,Xx l (Yf .i64) d0 dn)],[(l,.live (Xc T (Yf .i64) xs))],[],[(l,.live (Xc T (Yf .i64) ys))]⟩ :=
  .unitV rfl hc fun B S U s a w g hh he=>by
    have hylen:ys.length=xs.length:=by rw [← hys];simp;omega
    obtain ⟨ht,inf,z,hi,hzo,_,_,_,_⟩:=hE
    obtain ⟨inf',z',hi',hzo',hzc⟩:=hz
    rw [hi] at hi'
    cases hi'
    rw [hzo] at hzo'
    cases hzo'
    have hzc:z.cells=#[.int .i64 0]:=by rw [← Array.toList_inj];exact hzc
    have elY:∀ i,i<xs.length→ys.getD i 0=if d0≤i∧i<d0+dn then 0 else xs.getD i 0:=by
      intro i hi
      rw [← hys]
      simp only [List.getD_eq_getElem?_getD,List.append_assoc]
      by_cases h1:i<d0
      · rw [if_neg (by omega),List.getElem?_append_left p48,List.getElem?_take,if_pos h1]
      · by_cases h2:i<d0+dn
        · rw [if_pos (by omega),List.getElem?_append_right p48,List.getElem?_append_left p48]
          simp only [List.length_take,List.getElem?_replicate]
          rw [if_pos (by omega)];rfl
        · rw [if_neg (by omega),List.getElem?_append_right p48,List.getElem?_append_right p48]
          simp only [List.length_take,List.length_replicate,List.getElem?_drop]
          congr 2
          omega
    have g0:∀ (w':World) (b κ:Nat) (cur':Array Value),B l=some (some (b,κ))→(∀ c,c≠b→w'.heap[c]?=w.heap[c]?)→w'.heap.size=w.heap.size→w'.heap[b]?=some (.cells cur' T (0,0))→cur'.size=κ→xs.length≤κ→κ≤maxLen→w'.os=w.os→w'.tape=w.tape→w'.output=w.output →
        (∀ i,i<ys.length→cur'[i]?=some (.int .i64 (ys.getD i 0)))→G bs B S U ⟨s.t,hset s.h l (.live (Xc T (Yf .i64) ys))⟩ a w':=by
      intro w' b κ cur' hb hoth hsz' hcur' hcs hxk hkm hos htp hop hel
      have hP:Pres (fun b=>S b∨U b) w w':=fun c hc'=>by
        have hU:U c:=hc'.elim (g.su c) id
        exact hoth c fun e=>g.sp l _ (b,κ) hh.1 hb (e ▸ hU)
      refine g.upd (fun k=>k=l) _ (fun k hk=>by simp [W6,hk]) (fun _ _ h=>h) (fun _ _=>rfl) (fun _ h=>h) (fun _ h=>h) g.su (fun b hb=>by rw [hsz'];exact g.ub b hb) (fun _ h=>.inl h) (fun _ h=>.inl h)
        (fun k y' hk hy'=>?_) (fun k k' _ _ _ _ h h' _ _ hne=>absurd (h.trans h'.symm) hne) (fun c hc hne=>hoth c (hne l _ (b,κ) rfl hh.1 hb)) (fun k hk h=>?_) (fun k y q _ hk hq=>g.sp k y q hk hq) (by omega) hos htp hop
      · subst hk
        rw [W6,if_pos rfl] at hy'
        cases hy'
        refine ⟨.inr ⟨b,κ,cur',hb,hcur',by rw [hcs];exact (Nat.mul_one κ).symm,by omega,hkm,fun i hi j hj=>?_⟩,fun p hp=>⟨g.sp k _ p hh.1 hp,g.cf k _ p hh.1 hp,fun k' o' q hk' ho' hq=>g.nj k' k o' _ ho' hh.1 hk' q p hq hp⟩⟩
        have hj:j<1:=hj
        refine ⟨_,?_,(rfl:Value.int .i64 (ys.getD i 0)=_)⟩
        rw [show i*(Yf .i64).sz+j=i by rw [show (Yf .i64).sz=1 from rfl];omega]
        exact hel i hi
      · subst hk;rw [W6,if_pos rfl] at h;cases h
    have hx:Ve B S U w (.own l 1 d0 dn) (a.eval x):=he.1
    have gsame:ys=xs→G bs B S U ⟨s.t,hset s.h l (.live (Xc T (Yf .i64) ys))⟩ a w:=fun hysx=>by
      rw [hysx]
      have hsame:∀ k,hget (hsets s.h [(l,.live (Xc T (Yf .i64) xs))]) k=hget s.h k:=fun k=>by
        show hget (hset s.h l (.live (Xc T (Yf .i64) xs))) k=_
        rw [W6]
        split
        · rename_i h;rw [h];exact hh.1.symm
        · rfl
      exact { g with ob:=fun k o' e=>g.ob k o' p42,nj:=fun k k' o1 o2 e e'=>g.nj k k' o1 o2 p42 (by rw [← hsame k'];exact e'),sp:=fun k o' p e=>g.sp k o' p p42,cf:=fun k o' p e=>g.cf k o' p p42,fr:=fun k e=>g.fr k p42 }
    rcases hx with ⟨hb,h0,hn0,hv⟩|⟨b,κ,o,cap,hb,hv,hcap,hle,ho⟩
    · have hysx:ys=xs:=by rw [← hys,h0,hn0];simp
      refine ⟨.tuple #[],w,B,S,U,?_,gsame hysx⟩
      simp [execOp,resolve,invoke,builtin,hv,Builtin.clear_,Xv ht,Sem.run_bind]
    · by_cases hd0:dn=0
      · have hysx:ys=xs:=by rw [← hys,hd0];simp
        refine ⟨.tuple #[],w,B,S,U,?_,gsame hysx⟩
        subst hd0
        simp [execOp,resolve,invoke,builtin,hv,Builtin.clear_,Xv ht,Sem.run_bind]
      · rcases g.ob l _ hh.1 with ⟨hob,_⟩|⟨b',κ',cur,hb',hcur,hcsz,hnk,hkm,hel⟩
        · rw [hb] at hob;cases hob
        · rw [hb] at hb'
          cases hb'
          have hblt:b<w.heap.size:=(Array.getElem?_eq_some_iff.1 hcur).1
          have hcsz:cur.size=κ:=by rw [hcsz];exact Nat.mul_one κ
          have hod:o=d0:=by rw [ho (.inl (by omega))];exact Nat.mul_one d0
          subst hod
          obtain ⟨cur',hrun,hsz',hget⟩:=Hd (P:=P) (b:=b) (T:=T) (List.replicate dn (Value.int .i64 0)) cur o 0 w hcur p48 (fun v hv=>by rw [List.mem_replicate] at hv;rw [hv.2];rfl)
          refine ⟨.tuple #[],{ w with heap:=w.heap.setIfInBounds b (.cells cur' T (0,0)) },B,S,U,?_,g0 _ b κ cur' hb (fun c hc=>by simp [Array.getElem?_setIfInBounds,Ne.symm hc]) (by simp) (by simp [hblt]) (by rw [hsz',hcsz]) hnk hkm rfl rfl rfl (fun i hi=>?_)⟩
          · obtain ⟨dm,rfl⟩:∃ dm,dn=dm+1:=⟨dn-1,by omega⟩
            have hclr:(Builtin.clear_ #[t] ty #[.slice (some ⟨b,o,none⟩) (dm+1) cap]).run P w=.ok (.tuple #[]) { w with heap:=w.heap.setIfInBounds b (.cells cur' T (0,0)) }:=by
              simp [Builtin.clear_,Xv ht,Sem.run_bind,F8 hi hzo,hzc,Xai,hrun]
            simp only [execOp,resolve,hv,invoke,builtin,Sem.run_bind,Sem.run_pure,Result.andThen_ok,List.map_toArray,List.map_cons,List.map_nil]
            rw [hclr]
            rfl
          · rw [hget,elY i (by omega)]
            simp only [List.length_replicate,Nat.add_zero]
            by_cases hcase:o≤i∧i<o+dn
            · rw [if_pos hcase,if_pos hcase,List.getElem?_replicate,if_pos (by omega)]
            · rw [if_neg hcase,if_neg hcase]
              obtain ⟨u,hu,hdd⟩:=hel i (by omega) 0 (by decide)
              have hdd:u=.int .i64 (xs.getD i 0):=hdd
              rw [← hdd,← hu,show i*(Yf .i64).sz+0=i from Nat.mul_one i]
end
end Go.Proofs.YtnaopgohccacmaaGreat.Q
namespace Go.Proofs.YtnaopgohccacmaaGreat.Q
set_option linter.unusedVariables false
set_option linter.unusedSimpArgs false
set_option maxRecDepth 100000
def J8 (f:Int) (l:List Int):List Int:=l.filter fun s=>decide (Yz f s)
def allR (f:Int) (l:List Int):Prop:=∀ s,s∈l→Yz f s
instance (f:Int) (l:List Int):Decidable (allR f l):=inferInstanceAs (Decidable (∀ s,s∈l→_))
def Fz (f:Int) (l:List Int):Nat:=l.findIdx fun s=>decide (¬Yz f s)
def X50 (f:Int) (l:List Int):Int:=if allR f l then -1 else ((Fz f l:Nat):Int)
section
variable {f:Int} {l xs ys:List Int} {i j k p q:Nat}
theorem getI {l:List Int} {j:Nat} (hj:j<l.length):l.getD j 0=l[j]:=by rw [List.getD_eq_getElem?_getD,List.getElem?_eq_getElem hj];rfl
theorem idxR_no (hb:∀ j,j<k→Yz f (l.getD j 0)) (hk:l.length≤k):X50 f l=-1:=if_pos fun s hs=>by
  obtain ⟨j,hj,rfl⟩:=List.getElem_of_mem hs
  rw [← getI hj];exact hb j (by omega)
theorem idxR_at (hb:∀ j,j<k→Yz f (l.getD j 0)) (hk:k<l.length) (h:¬Yz f (l.getD k 0)):X50 f l=((k:Nat):Int):=by
  have hn:¬allR f l:=fun w=>h (w _ (Vc (z:=0) hk))
  rw [X50,if_neg hn,Fz,(List.findIdx_eq hk).2 ⟨?_,fun j hj=>?_⟩]
  · rw [getI hk] at h;exact decide_eq_true h
  · have:=hb j hj
    rw [getI (by omega)] at this
    exact decide_eq_false (fun w=>w this)
theorem idxR_all (h:X50 f l=-1):J8 f l=l:=by
  unfold X50 at h
  split at h
  · rename_i w;exact List.filter_eq_self.2 fun s hs=>decide_eq_true (w s hs)
  · omega
theorem idxR_is (h:¬X50 f l=-1):X50 f l=((Fz f l:Nat):Int)∧Fz f l<l.length∧l.take (Fz f l)=J8 f (l.take (Fz f l+1)):=by
  unfold X50 at h ⊢
  split at h
  · exact absurd rfl h
  · rename_i w
    rw [if_neg w]
    have hx:∃ s,s∈l∧¬Yz f s:=Classical.byContradiction fun v=>w fun s hs=>Classical.byContradiction fun u=>v ⟨s,hs,u⟩
    have hlt:Fz f l<l.length:=List.findIdx_lt_length_of_exists (by obtain ⟨s,h1,h2⟩:=hx;exact ⟨s,h1,decide_eq_true h2⟩)
    refine ⟨rfl,hlt,?_⟩
    have h1:decide (¬Yz f (l[Fz f l]'hlt))=true:=List.findIdx_getElem (w:=hlt)
    have h1:¬Yz f (l[Fz f l]'hlt):=by simpa using h1
    rw [Uf (z:=0) hlt,J8,List.filter_append,getI hlt,List.filter_cons_of_neg (by simpa using h1),List.filter_nil,List.append_nil]
    refine (List.filter_eq_self.2 fun s hs=>?_).symm
    obtain ⟨m,hm,rfl⟩:=List.getElem_of_mem hs
    have hm2:m<Fz f l:=by rw [List.length_take] at hm;omega
    have:=List.not_of_lt_findIdx (p:=fun s=>decide (¬Yz f s)) (xs:=l) hm2
    rw [List.getElem_take]
    simpa using this
theorem Xea (hi:i<ys.length) (v:Int):(ys.set i v).take (i+1)=ys.take i++[v]:=by
  rw [Uf (z:=0) (by rw [List.length_set];exact hi),List.take_set_of_le (Nat.le_refl _),List.getD_eq_getElem?_getD,List.getElem?_set_self hi];rfl
theorem Xip {m:Nat} (v:Int) (h:m≠i):(ys.set i v).getD m 0=ys.getD m 0:=by rw [List.getD_eq_getElem?_getD,List.getD_eq_getElem?_getD,List.getElem?_set_ne (Ne.symm h)]
theorem del_yes (hij:i<j) (hj:j<xs.length) (hl:ys.length=xs.length) (h:ys.take i=J8 f (xs.take j)) (hd:∀ m,j≤m→ys.getD m 0=xs.getD m 0) (hr:Yz f (ys.getD j 0)):(ys.set i (ys.getD j 0)).take (i+1)=J8 f (xs.take (j+1))∧∀ m,j+1≤m→(ys.set i (ys.getD j 0)).getD m 0=xs.getD m 0:=by
  refine ⟨?_,fun m hm=>by rw [Xip _ (by omega)];exact hd m (by omega)⟩
  have e:=hd j (Nat.le_refl _)
  rw [e] at hr ⊢
  rw [Xea (by omega),h,Uf (z:=0) hj,J8,J8,List.filter_append,List.filter_cons_of_pos (by simpa using hr),List.filter_nil]
theorem del_no (hj:j<xs.length) (h:ys.take i=J8 f (xs.take j)) (hd:∀ m,j≤m→ys.getD m 0=xs.getD m 0) (hr:¬Yz f (ys.getD j 0)):ys.take i=J8 f (xs.take (j+1))∧∀ m,j+1≤m→ys.getD m 0=xs.getD m 0:=by
  refine ⟨?_,fun m hm=>hd m (by omega)⟩
  have e:=hd j (Nat.le_refl _)
  rw [e] at hr
  rw [h,Uf (z:=0) hj,J8,J8,List.filter_append,List.filter_cons_of_neg (by simpa using hr),List.filter_nil,List.append_nil]
theorem Xjq {z:List Int} {n:Nat} (hi:i≤ys.length):(ys.take i++List.replicate n 0++z).take i=ys.take i:=by
  rw [List.append_assoc,List.take_append_of_le_length p1d,List.take_of_length_le p1d]
theorem Xjo (hj:xs.length≤j) (h:ys.take i=J8 f (xs.take j)):ys.take i=J8 f xs:=by rw [h,List.take_of_length_le hj]
theorem fil_len (f:Int) (l:List Int):(J8 f l).length≤l.length:=List.length_filter_le _ _
def E3 (xs:List Int):Nat→List Int
  | 0=>[]
  | n+1=>if 0<n∧xs.getD n 0=xs.getD (n-1) 0 then E3 xs n else E3 xs n++[xs.getD n 0]
def X2b (xs:List Int):List Int:=E3 xs xs.length
theorem Xa1:∀ {n:Nat},n≤xs.length→(∀ m,1≤m→m<n→¬xs.getD m 0=xs.getD (m-1) 0)→E3 xs n=xs.take n
  | 0,_,_=>rfl
  | n+1,hn,h=>by
    rw [E3,if_neg (fun w=>h n w.1 (by omega) w.2),Xa1 (by omega) fun m h1 h2=>h m h1 (by omega),Uf (z:=0) (by omega)]
theorem Xg6 (hk:xs.length≤k) (h:∀ m,1≤m→m<k→¬xs.getD m 0=xs.getD (m-1) 0):X2b xs=xs:=by
  unfold X2b
  rw [Xa1 (Nat.le_refl _) fun m h1 h2=>h m h1 (by omega),List.take_of_length_le (Nat.le_refl _)]
theorem Xlb (h:((xs.length:Nat):Int)<2):X2b xs=xs:=Xg6 (k:=xs.length) (Nat.le_refl _) fun m h1 h2=>by omega
theorem Xla (hk1:1≤k) (hk:k<xs.length) (h:∀ m,1≤m→m<k→¬xs.getD m 0=xs.getD (m-1) 0) (he:xs.getD k 0=xs.getD (k-1) 0):xs.take k=E3 xs (k+1):=by
  rw [E3,if_pos ⟨by omega,he⟩,Xa1 (by omega) h]
theorem cpt_yes (hp:p<k+q) (hq:1≤q) (hl:ys.length=xs.length) (hk:k+q<xs.length) (h:ys.take p=E3 xs (k+q)) (hd:∀ m,k+q-1≤m→ys.getD m 0=xs.getD m 0) (hne:ys.getD (k+q) 0≠ys.getD (k+(q-1)) 0):(ys.set p (ys.getD (k+q) 0)).take (p+1)=E3 xs (k+(q+1))∧∀ m,k+(q+1)-1≤m→(ys.set p (ys.getD (k+q) 0)).getD m 0=xs.getD m 0:=by
  refine ⟨?_,fun m hm=>by rw [Xip _ (by omega)];exact hd m (by omega)⟩
  rw [hd (k+q) (by omega),hd (k+(q-1)) (by omega)] at hne
  rw [hd (k+q) (by omega),Xea (by omega),h,← Nat.add_assoc,E3,if_neg (fun w=>hne (by rw [w.2];congr 1;omega))]
theorem cpt_no (hp:p<k+q) (hq:1≤q) (hk:k+q<xs.length) (h:ys.take p=E3 xs (k+q)) (hd:∀ m,k+q-1≤m→ys.getD m 0=xs.getD m 0) (hne:¬ys.getD (k+q) 0≠ys.getD (k+(q-1)) 0):ys.take p=E3 xs (k+(q+1))∧∀ m,k+(q+1)-1≤m→ys.getD m 0=xs.getD m 0:=by
  refine ⟨?_,fun m hm=>hd m (by omega)⟩
  have hne:=Classical.not_not.1 hne
  rw [hd (k+q) (by omega),hd (k+(q-1)) (by omega)] at hne
  rw [h,← Nat.add_assoc,E3,if_pos ⟨by omega,by rw [hne];congr 1;omega⟩]
theorem Xjr (hk:xs.length≤k+q) (hk2:k+q≤xs.length) (h:ys.take p=E3 xs (k+q)):ys.take p=X2b xs:=by rw [h,show k+q=xs.length by omega];rfl
end
def cntR (f:Int) (l:List Int):Nat:=((List.range (3*f+1).toNat).filter fun (i:Nat)=>decide (((i:Nat):Int)∈l)).length
theorem X81 {xs:List Int} {s:Int}:∀ {n:Nat},n≤xs.length→(s∈E3 xs n↔∃ m,m<n∧xs.getD m 0=s)
  | 0,_=>⟨pZs,fun ⟨m,h,_⟩=>absurd h (Nat.not_lt_zero _)⟩
  | n+1,hn=>by
    rw [E3]
    split
    · rename_i h
      rw [X81 (n:=n) (by omega)]
      exact ⟨fun ⟨m,h1,h2⟩=>⟨m,by omega,h2⟩,fun ⟨m,h1,h2⟩=>by
        rcases Nat.lt_or_ge m n with q|q
        · exact ⟨m,q,h2⟩
        · exact ⟨n-1,by omega,by rw [← h.2,show n=m by omega];exact h2⟩⟩
    · rw [List.mem_append,List.mem_singleton,X81 (n:=n) (by omega)]
      exact ⟨fun w=>w.elim (fun ⟨m,h1,h2⟩=>⟨m,by omega,h2⟩) fun w=>⟨n,by omega,w.symm⟩,fun ⟨m,h1,h2⟩=>by
        rcases Nat.lt_or_ge m n with q|q
        · exact .inl ⟨m,q,h2⟩
        · exact .inr (by rw [← h2,show m=n by omega])⟩
theorem Xc1 {xs:List Int} (hs:∀ i j,i≤j→j<xs.length→xs.getD i 0≤xs.getD j 0):∀ {n:Nat},n≤xs.length→(E3 xs n).Nodup
  | 0,_=>List.nodup_nil
  | n+1,hn=>by
    have ih:=Xc1 hs (n:=n) (by omega)
    rw [E3]
    split
    · exact ih
    · rename_i h
      rw [List.nodup_append]
      refine ⟨ih,by simp,fun a ha b hb=>?_⟩
      rw [List.mem_singleton] at hb
      subst hb
      obtain ⟨m,h1,h2⟩:=(X81 (by omega)).1 ha
      intro e
      have hn1:xs.getD n 0≤xs.getD (n-1) 0:=by rw [← e,← h2];exact hs m (n-1) (by omega) (by omega)
      have hn2:=hs (n-1) n (by omega) (by omega)
      exact h ⟨by omega,by omega⟩
theorem sort_le {xs:List Int}:∀ i j,i≤j→j<(Ju xs).length→(Ju xs).getD i 0≤(Ju xs).getD j 0:=fun i j hij hj=>by
  rcases Nat.lt_or_ge i j with q|q
  · have h:(Ju xs).Pairwise (fun x y=>decide (x≤y)=true):=List.pairwise_mergeSort (fun a b c h1 h2=>by simp at h1 h2 ⊢;omega) (fun a b=>by simp;omega) xs
    have:=List.pairwise_iff_getElem.1 h i j (by omega) hj q
    rw [getI (by omega),getI hj]
    simpa using this
  · rw [show i=j by omega];exact Int.le_refl _
theorem cnt_is {f:Int} (hf:0≤f∧f≤2) (l:List Int):(X2b (Ju (J8 f l))).length=cntR f l:=by
  have h1:(X2b (Ju (J8 f l))).Nodup:=Xc1 sort_le (Nat.le_refl _)
  have h2:(((List.range (3*f+1).toNat).filter fun (i:Nat)=>decide (((i:Nat):Int)∈l)).map Int.ofNat).Nodup:=List.pairwise_map.2 ((List.nodup_range.sublist List.filter_sublist).imp fun hab e=>hab (Int.ofNat.inj e))
  have hm:∀ s,s∈X2b (Ju (J8 f l))↔s∈((List.range (3*f+1).toNat).filter fun (i:Nat)=>decide (((i:Nat):Int)∈l)).map Int.ofNat:=fun s=>by
    have e1:s∈X2b (Ju (J8 f l))↔s∈Ju (J8 f l):=by
      unfold X2b
      rw [X81 (Nat.le_refl _)]
      constructor
      · rintro ⟨m,h,rfl⟩;exact Vc h
      · intro h
        obtain ⟨m,hm,rfl⟩:=List.getElem_of_mem h
        exact ⟨m,hm,getI hm⟩
    rw [e1,Ju,List.mem_mergeSort,J8,List.mem_filter,List.mem_map]
    constructor
    · rintro ⟨h3,h4⟩
      have h4:Yz f s:=by simpa using h4
      refine ⟨s.toNat,List.mem_filter.2 ⟨List.mem_range.2 (by have:=h4.1;have:=h4.2;omega),decide_eq_true ?_⟩,?_⟩
      · rw [show ((s.toNat:Nat):Int)=s by have:=h4.1;omega];exact h3
      · show ((s.toNat:Nat):Int)=s;have:=h4.1;omega
    · rintro ⟨i,h3,rfl⟩
      obtain ⟨h4,h5⟩:=List.mem_filter.1 h3
      have h4:=List.mem_range.1 h4
      exact ⟨by simpa using h5,decide_eq_true ⟨Int.natCast_nonneg _,by show ((i:Nat):Int)<_;omega⟩⟩
  have:=((List.perm_ext_iff_of_nodup h1 h2).2 hm).length_eq
  rw [this,List.length_map];rfl
end Go.Proofs.YtnaopgohccacmaaGreat.Q
namespace Go.Proofs.YtnaopgohccacmaaGreat.Q
open Go Go.RowKit
set_option linter.unusedVariables false
set_option linter.unusedSimpArgs false
set_option maxRecDepth 100000
set_option maxHeartbeats 4000000
theorem Xc2 (f:Int) (u:Int) (rows:List (Yg×Bool)) (s:Int) (hf:0≤f∧f≤2) (hu:0≤u∧u≤8):Holds Tryz.prog 78 ⟨[vI s,pv 0 0],[.box 33 [.ptr 1 0],.box 130 [dI (3*f+1),dI u,.mref 2],mpK Xp Yc rows],vB (decide (¬Yz f s)),[.live (.box 33 [.ptr 1 0]),.live (.box 130 [dI (3*f+1),dI u,.mref 2]),.live (mpK Xp Yc rows)]⟩:=by
 refine Holds.of Tryz.func78 rfl (N:=8) Tryz.ntmps78 rfl fun w0 B0 S0 U0=>?_
 show T _ (Y2 8 3 w0 S0 U0 B0) ⟨[vI s,pv 0 0],[.live (.box 33 [.ptr 1 0]),.live (.box 130 [dI (3*f+1),dI u,.mref 2]),.live (mpK Xp Yc rows)]⟩ _ _
 refine sR [] (sR [hR 2 rfl rfl (rCa (I6 f u rows s ‹_› ‹_›) Tryz.func79 [1,2] [(.tmp 4,pv 1 0),(.tmp 5,vI s)] 2 2)] (T.ret ?_))
 exact eRt 3 (.one (dB (!(decide (Yz f s))))) [0,1,2] (cB (by exact decide_not)) (ix (ix (ix trivial)))
theorem Fs:Zero Tryz.prog 3 [.int .i64 0]:=⟨_,_,Ut,rfl,rfl⟩
theorem X57:Elem Tryz.prog 24 3 1 8:=⟨Tryz.underlying24,_,_,Ut,rfl,rfl,rfl,rfl,by decide⟩
theorem Xlc (tx:Bool) (nx:Bool) (x:List Int) (hx:x.length≤1000000):Holds Tryz.prog 77 ⟨[slV tx nx (Yf .i64) x],[],Xx 0 (Yf .i64) 0 x.length,[.live (Xc 3 (Yf .i64) x)]⟩:=by
 refine Holds.of Tryz.func77 rfl (N:=8) Tryz.ntmps77 rfl fun w0 B0 S0 U0=>?_
 show T _ (Y2 8 0 w0 S0 U0 B0) ⟨[slV tx nx (Yf .i64) x],[]⟩ _ _
 cases nx
 ·refine X86 (k:=0) rfl (fun h0=>?_) ?_
  ·have h0:=List.eq_nil_of_length_eq_zero h0
   subst h0
   show T _ _ ⟨[dv (.slice none 0 0)],[]⟩ _ _
   refine sR [] (T.seq (sR [hR 1 rfl rfl (Yb (u1:=.slice none 0 0) (u2:=.slice none 0 0) (v:=.bool true) (X30 Tryz.underlying24) (X2 rfl) ⟨rfl,trivial⟩)] (cT (b:=true) rfl (sR [] (T.ret (rT ?_))))))
   refine eN ⟨[dv (.slice none 0 0),aa,dv (.slice none 0 0),aa,vB true],[]⟩ ?_
   refine Xa (s':=⟨[dv (.slice none 0 0),aa,Xx 0 (Yf .i64) 0 0,aa,vB true],[.live (Xc 3 (Yf .i64) ([]:List Int))]⟩) (fun _ _ hG=>Vs 0 2 3 (Yf .i64) rfl rfl hG) ?_
   exact eRt 2 (.one (.own 0 (Yf .i64).sz 0 0)) [0] (congrArg (fun (q1:Nat)=>(Xx 0 (Yf .i64) 0 q1:AV)) (by rfl)) (ix trivial)
  show T _ _ ⟨[slV tx true (Yf .i64) x],[]⟩ _ _
  refine sR [] (T.seq (sR [hR 1 rfl rfl (Ef (s:=.d (dsl tx true (Yf .i64) x)) Tryz.underlying24 (.inl rfl) (X2 rfl) ⟨rfl,trivial⟩)] (cF (b:=false) rfl (T.skip (nT ?_)))))
  refine sR [hR 0 rfl rfl (Y7 0 3 (Yf .i64) (H2 .i64) ([]:List Int) [] (cs:=[]) Tryz.underlying24 Ut rfl Fs rfl rfl rfl pb W3 pZ4 (V2 pZ4) (X2 rfl) trivial),hR 2 rfl rfl (Yv 0 1 3 8 (Yf .i64) (H2 .i64) ([]:List Int) x x ([]:List Int).length (sy:=(.d (dsl tx true (Yf .i64) x))) (rhs:=[]) X57 (by omega) (Uv tx true (Yf .i64) x) (by simp) (by (simp [maxLen,-List.getD_eq_getElem?_getD]<;>omega)) (by (simp [maxLen,-List.getD_eq_getElem?_getD]<;>omega)) (X2 rfl) trivial)] ?_
  refine T.ret ?_
  exact eRt 2 (.one (.own 1 (Yf .i64).sz 0 x.length)) [1] rfl (ix trivial)
 refine sR [] (T.seq (sR [hR 1 rfl rfl (Ef (s:=.d (dsl tx true (Yf .i64) x)) Tryz.underlying24 (.inl rfl) (X2 rfl) ⟨rfl,trivial⟩)] (cF (b:=false) rfl (T.skip (nT ?_)))))
 refine sR [hR 0 rfl rfl (Y7 0 3 (Yf .i64) (H2 .i64) ([]:List Int) [] (cs:=[]) Tryz.underlying24 Ut rfl Fs rfl rfl rfl pb W3 pZ4 (V2 pZ4) (X2 rfl) trivial),hR 2 rfl rfl (Yv 0 1 3 8 (Yf .i64) (H2 .i64) ([]:List Int) x x ([]:List Int).length (sy:=(.d (dsl tx true (Yf .i64) x))) (rhs:=[]) X57 (by omega) (Uv tx true (Yf .i64) x) (by simp) (by (simp [maxLen,-List.getD_eq_getElem?_getD]<;>omega)) (by (simp [maxLen,-List.getD_eq_getElem?_getD]<;>omega)) (X2 rfl) trivial)] ?_
 refine T.ret ?_
 exact eRt 2 (.one (.own 1 (Yf .i64).sz 0 x.length)) [1] rfl (ix trivial)
section
variable (f:Int) (u:Int) (rows:List (Yg×Bool)) (tx:Bool) (nx:Bool) (x:List Int) (k:Nat)
abbrev Zc:List HS:=[.live (.box 33 [.ptr 1 0]),.live (.box 130 [dI (3*f+1),dI u,.mref 2]),.live (mpK Xp Yc rows)]
abbrev Zd:AV:=vI ((x.length:Nat):Int)
end
theorem Xl3 (f:Int) (u:Int) (rows:List (Yg×Bool)) (tx:Bool) (nx:Bool) (x:List Int) (hf:0≤f∧f≤2) (hu:0≤u∧u≤8) (hx:x.length≤1000000):Holds Tryz.prog 128 ⟨[slV tx nx (Yf .i64) x,sv (.clo 78 [0])],[.box 33 [.ptr 1 0],.box 130 [dI (3*f+1),dI u,.mref 2],mpK Xp Yc rows],vI (X50 f x),[.live (.box 33 [.ptr 1 0]),.live (.box 130 [dI (3*f+1),dI u,.mref 2]),.live (mpK Xp Yc rows)]⟩:=by
 refine Holds.of Tryz.func128 rfl (N:=19) Tryz.ntmps128 rfl fun w0 B0 S0 U0=>?_
 show T _ (Y2 19 3 w0 S0 U0 B0) ⟨[slV tx nx (Yf .i64) x,sv (.clo 78 [0])],(Zc f u rows)⟩ _ _
 refine sR [] (T.seq (sR [] (T.block ?_)))
 refine T.loop (ι:=Nat) (fun (k:Nat)=>⟨[slV tx nx (Yf .i64) x,sv (.clo 78 [0]),aa,aa,vI 0,aa,aa,(Zd x),vI ((k:Nat):Int)],(Zc f u rows)⟩) (fun (k:Nat)=>(k≤x.length)∧(∀ j,j<k→Yz f (x.getD j 0))) (fun (k:Nat)=>x.length-k) (0) ⟨(Nat.zero_le _),(fun j hj=>absurd hj (Nat.not_lt_zero _))⟩ (fun _ _ hG=>Yu [0,1,2] (bm 9 403) rfl rfl hG) ?_
 rintro k ⟨hk,hb⟩
 show T _ _ ⟨[slV tx nx (Yf .i64) x,sv (.clo 78 [0]),aa,aa,vI 0,aa,aa,(Zd x),vI ((k:Nat):Int)],(Zc f u rows)⟩ _ _
 replace hk:k≤x.length:=hk
 replace hb:∀ j,j<k→Yz f (x.getD j 0):=hb
 refine sR [] (T.seq ?_)
 by_cases hq1:((k:Nat):Int)<((x.length:Nat):Int)
 ·refine cT (dT hq1) (T.skip (nT (T.seq (T.block (sR [] (sR [hR 3 rfl rfl (Wi tx nx (Yf .i64) x k (k:=.i64) (i:=((k:Nat):Int)) Tryz.underlying24 Ut rfl rfl (by omega) (X2 rfl) trivial),hR 5 rfl rfl (Xcq (ls:=[0]) (Xc2 f u rows (x.getD k 0) ‹_› ‹_›) Tryz.func78 rfl (by decide) [0,1,2] [] (l:=[(.tmp 15,vI (x.getD k 0))]) [] rfl 3 3 rfl rfl rfl rfl rfl rfl rfl rfl rfl ⟨.inl ⟨rfl,rfl⟩,⟨.inl ⟨rfl,rfl⟩,trivial⟩⟩ rfl p3k (.inl rfl) (X2 rfl) trivial)] ?_))))))
  by_cases hq2:¬Yz f (x.getD k 0)
  ·refine cT (dT hq2) (sR [] (T.ret (rB (rT (rT (rB (rT ?_)))))))
   exact eRt 4 (.one (dI ((k:Nat):Int))) [0,1,2] (cI (by exact idxR_at hb (by omega) ‹_›)) (ix (ix (ix trivial)))
  refine cF (dF hq2) (T.skip (nB (nT (xK [hR 0 rfl rfl (Yb (u1:=.int .i64 ((k:Nat):Int)) (u2:=.int .i64 1) (v:=.int .i64 ((k+1:Nat):Int)) (Wb pZ9) (X2 rfl) ⟨rfl,trivial⟩)] ?_))))
  refine nL (k+1) ⟨(show (k+1)≤x.length from (by omega)),(show ∀ j,j<(k+1)→Yz f (x.getD j 0) from (Im hb (Classical.not_not.1 ‹_›)))⟩ (show (x.length-(k+1):Nat)<x.length-k from (by omega)) (fun _ _ hG=>Yu [0,1,2] (bm 9 403) rfl rfl hG)
 refine cF (dF hq1) (T.exit (xT (xT (xH (nT (sR [] (T.ret ?_)))))))
 exact eRt 4 (.one (dI (-1))) [0,1,2] (cI (by exact idxR_no hb (by omega))) (ix (ix (ix trivial)))
theorem Xjv:Cells Tryz.prog 3 1:=⟨_,Ut,rfl⟩
section
variable (f:Int) (u:Int) (rows:List (Yg×Bool)) (xs:List Int) (i:Nat) (j:Nat)
abbrev Zg:AV:=Xx 0 (Yf .i64) 0 xs.length
abbrev Zh:HS:=.live (.box 33 [.ptr 2 0])
abbrev Zi:HS:=.live (.box 130 [dI (3*f+1),dI u,.mref 3])
abbrev Zj:HS:=.live (mpK Xp Yc rows)
abbrev Zk:List HS:=[.live (Xc 3 (Yf .i64) xs),Zh,(Zi f u),(Zj rows)]
abbrev Zl:List AV:=[(Zg xs),sv (.clo 78 [1]),aa,aa,dv (.slice none 0 0),vI (X50 f xs),aa,aa,aa,aa,aa,aa,vB (decide ((X50 f xs)=(-1)))]
abbrev Zm:List AV:=[(Zg xs),sv (.clo 78 [1]),aa,aa,dv (.slice none 0 0),vI ((Fz f xs:Nat):Int),aa,aa,aa,aa,aa,aa,vB (decide ((X50 f xs)=(-1)))]
abbrev Zq:List AV:=[(Zg xs),sv (.clo 78 [1]),aa,aa,Xx 0 (Yf .i64) 0 i,vI ((i:Nat):Int),vI ((j:Nat):Int),aa,aa,aa,aa,aa,aa,aa,aa,aa,aa,aa,aa,vB (decide (((j:Nat):Int)<((xs.length:Nat):Int)))]
end
theorem Xi1 (f:Int) (u:Int) (rows:List (Yg×Bool)) (xs:List Int) (hf:0≤f∧f≤2) (hu:0≤u∧u≤8) (hx:xs.length≤1000000):Holds Tryz.prog 76 ⟨[Xx 0 (Yf .i64) 0 xs.length,sv (.clo 78 [1])],[Xc 3 (Yf .i64) xs,.box 33 [.ptr 2 0],.box 130 [dI (3*f+1),dI u,.mref 3],mpK Xp Yc rows],Xx 0 (Yf .i64) 0 (J8 f xs).length,[.live (Xc 3 (Yf .i64) (J8 f xs)),.live (.box 33 [.ptr 2 0]),.live (.box 130 [dI (3*f+1),dI u,.mref 3]),.live (mpK Xp Yc rows)]⟩:=by
 refine Holds.of Tryz.func76 rfl (N:=42) Tryz.ntmps76 rfl fun w0 B0 S0 U0=>?_
 show T _ (Y2 42 4 w0 S0 U0 B0) ⟨[(Zg xs),sv (.clo 78 [1])],(Zk f u rows xs)⟩ _ _
 refine sR [] (sR [hR 2 rfl rfl (Wt (Xl3 f u rows true false xs ‹_› ‹_› ‹_›) Tryz.func128 rfl (by decide) [1,2,3] [0] (l:=[(.tmp 8,(Zg xs)),(.tmp 9,sv (.clo 78 [1]))]) [(0,.live (Xc 3 (Yf .i64) xs))] rfl 3 3 rfl rfl rfl rfl rfl rfl rfl rfl rfl ⟨.inr (.inl ⟨rfl,pZs,rfl,rfl,by simp,3,xs.length,W5 (Yf .i64) xs,List.Mem.head _,pf,fun i j=>by rw [Nat.zero_add]⟩),⟨.inl ⟨rfl,rfl⟩,trivial⟩⟩ rfl pZ3 (.inr ⟨trivial,(And.intro (And.intro trivial trivial) (And.intro (And.intro trivial (And.intro trivial (And.intro trivial trivial))) (And.intro (mp_ntH Xfi) trivial)))⟩) (X2 rfl) trivial)] (T.seq (sR [] ?_)))
 by_cases hq1:(X50 f xs)=(-1)
 ·have hid:=idxR_all hq1
  refine cT (dT hq1) (sR [] (T.ret (rT ?_)))
  exact eRt 4 (.one (.own 0 (Yf .i64).sz 0 xs.length)) [0,1,2,3] (by have e1:((J8 f xs).length:Nat)=xs.length:=(by (rw [hid]));have hE:=congrArg (fun (q1:Nat)=>(Xx 0 (Yf .i64) 0 q1:AV)) e1;exact hE) ⟨⟨rfl,(by have e1:(xs:List Int)=(J8 f xs):=(by exact hid.symm);have hE:=congrArg (fun (q1:List Int)=>(.live (Xc 3 (Yf .i64) q1):HS)) e1;exact Eq.trans pZ4 hE)⟩,(ix (ix (ix trivial)))⟩
 have hid:=idxR_is hq1;have hid1:=hid.1;have hid2:=hid.2.1;have hid3:=hid.2.2
 refine cF (dF hq1) (T.skip (nT (T.seq ?_)))
 refine tN ⟨(Zl f xs),(Zk f u rows xs)⟩ ?_
 refine Wy (s':=⟨(Zm f xs),(Zk f u rows xs)⟩) (fun _ _ hG=>Yu [0,1,2,3] (bm 13 4147) (t2:=(Zl f xs)) (congrArg (fun (q1:Int)=>([(Zg xs),sv (.clo 78 [1]),aa,aa,dv (.slice none 0 0),vI q1,aa,aa,aa,aa,aa,aa,vB (decide ((X50 f xs)=(-1)))]:List AV)) (by exact hid1.symm)) rfl hG) (sR [hR 1 rfl rfl (Yb (u1:=.int .i64 ((Fz f xs:Nat):Int)) (u2:=.int .i64 1) (v:=.int .i64 (((Fz f xs)+1:Nat):Int)) (Wb pZ9) (X2 rfl) ⟨rfl,trivial⟩)] (T.block ?_))
 refine T.loop (ι:=Nat×Nat×(List Int)) (fun (x_:Nat×Nat×(List Int))=>⟨[(Zg xs),sv (.clo 78 [1]),aa,aa,aa,vI ((x_.1:Nat):Int),vI ((x_.2.1:Nat):Int)],[.live (Xc 3 (Yf .i64) x_.2.2),Zh,(Zi f u),(Zj rows)]⟩) (fun (x_:Nat×Nat×(List Int))=>(x_.2.1≤xs.length)∧(x_.1<x_.2.1)∧(x_.2.2.length=xs.length)∧(x_.2.2.take x_.1=J8 f (xs.take x_.2.1))∧(∀ m,x_.2.1≤m→x_.2.2.getD m 0=xs.getD m 0)) (fun (x_:Nat×Nat×(List Int))=>xs.length-x_.2.1) ((Fz f xs),((Fz f xs)+1),xs) ⟨(show ((Fz f xs)+1)≤xs.length from (by omega)),(show (Fz f xs)<((Fz f xs)+1) from (by omega)),(show xs.length=xs.length from rfl),(show xs.take (Fz f xs)=J8 f (xs.take ((Fz f xs)+1)) from hid3),(show ∀ m,((Fz f xs)+1)≤m→xs.getD m 0=xs.getD m 0 from (fun _ _=>rfl))⟩ (fun _ _ hG=>Yu [0,1,2,3] (bm 7 99) (t2:=[(Zg xs),sv (.clo 78 [1]),aa,aa,aa,vI ((Fz f xs:Nat):Int),vI (((Fz f xs)+1:Nat):Int)]) (cg2 (fun (q1:Int) (q2:Int)=>([(Zg xs),sv (.clo 78 [1]),aa,aa,aa,vI q1,vI q2]:List AV)) (by rfl) (by rfl)) rfl hG) ?_
 rintro ⟨i,j,ys⟩ ⟨hj,hij,hyl,hys,hyd⟩
 show T _ _ ⟨[(Zg xs),sv (.clo 78 [1]),aa,aa,aa,vI ((i:Nat):Int),vI ((j:Nat):Int)],[.live (Xc 3 (Yf .i64) ys),Zh,(Zi f u),(Zj rows)]⟩ _ _
 replace hj:j≤xs.length:=hj
 replace hij:i<j:=hij
 replace hyl:ys.length=xs.length:=hyl
 replace hys:ys.take i=J8 f (xs.take j):=hys
 replace hyd:∀ m,j≤m→ys.getD m 0=xs.getD m 0:=hyd
 refine T.seq (sR [] ?_)
 by_cases hq2:((j:Nat):Int)<((xs.length:Nat):Int)
 ·refine cT (dT hq2) (T.skip (nT (T.seq (T.block (sR [hR 2 rfl rfl (Ww (k:=.i64) (l:=0) (sz:=(Yf .i64).sz) (off:=0) (n:=xs.length) (i:=((j:Nat):Int)) (m:=j) (o':=j*(Yf .i64).sz+0) Tryz.underlying24 Ut rfl rfl (by omega) (by simp) (X2 rfl) trivial),hR 3 rfl rfl (Jo (l:=0) (off:=j*(Yf .i64).sz+0) (i:=j) (j:=0) (T:=3) (sz:=(Yf .i64).sz) (n:=ys.length) (el:=W5 (Yf .i64) ys) (c:=.val (.int .i64 (ys.getD j 0))) X1a rfl (by omega) (by decide) rfl (X2 rfl) trivial)] (sR [hR 2 rfl rfl (Xcq (ls:=[1]) (Xc2 f u rows (ys.getD j 0) ‹_› ‹_›) Tryz.func78 rfl (by decide) [1,2,3] [] (l:=[(.tmp 27,vI (ys.getD j 0))]) [] rfl 3 3 rfl rfl rfl rfl rfl rfl rfl rfl rfl ⟨.inl ⟨rfl,rfl⟩,⟨.inl ⟨rfl,rfl⟩,trivial⟩⟩ rfl p3k (.inl rfl) (X2 rfl) trivial)] ?_))))))
  by_cases hq3:¬Yz f (ys.getD j 0)
  ·have hdn:=del_no (by omega) hys hyd hq3;have hdn1:=hdn.1;have hdn2:=hdn.2
   refine cF (cn (dT hq3)) (T.skip (nB (nT (xK [hR 1 rfl rfl (Yb (u1:=.int .i64 ((j:Nat):Int)) (u2:=.int .i64 1) (v:=.int .i64 ((j+1:Nat):Int)) (Wb pZ9) (X2 rfl) ⟨rfl,trivial⟩)] ?_))))
   refine nL (i,j+1,ys) ⟨(show (j+1)≤xs.length from (by omega)),(show i<(j+1) from (by omega)),(show ys.length=xs.length from ‹_›),(show ys.take i=J8 f (xs.take (j+1)) from hdn1),(show ∀ m,(j+1)≤m→ys.getD m 0=xs.getD m 0 from hdn2)⟩ (show (xs.length-(j+1):Nat)<xs.length-j from (by omega)) (fun _ _ hG=>Yu [0,1,2,3] (bm 7 99) rfl rfl hG)
  have hdn:=del_yes hij (by omega) hyl hys hyd (Classical.not_not.1 hq3);have hdn1:=hdn.1;have hdn2:=hdn.2
  refine cT (cn (dF hq3)) (sR [hR 3 rfl rfl (Ww (k:=.i64) (l:=0) (sz:=(Yf .i64).sz) (off:=0) (n:=xs.length) (i:=((i:Nat):Int)) (m:=i) (o':=i*(Yf .i64).sz+0) Tryz.underlying24 Ut rfl rfl (by omega) (by simp) (X2 rfl) trivial),hR 4 rfl rfl (Hj 0 3 (Yf .i64) ys (ys.getD j 0) i 0 1 [.val (.int .i64 (ys.getD j 0))] (tv:=.one (dI (ys.getD j 0))) (off:=i*(Yf .i64).sz+0) Xjv ⟨.inl rfl,trivial⟩ rfl rfl (by omega) (by decide) rfl (by intro j hj;replace hj:j<1:=hj;rcases j with _|j<;>first|rfl|omega) trivial)] ?_)
  refine xK [hR 1 rfl rfl (Yb (u1:=.int .i64 ((i:Nat):Int)) (u2:=.int .i64 1) (v:=.int .i64 ((i+1:Nat):Int)) (Wb pZ9) (X2 rfl) ⟨rfl,trivial⟩)] (nB (nT (xK [hR 1 rfl rfl (Yb (u1:=.int .i64 ((j:Nat):Int)) (u2:=.int .i64 1) (v:=.int .i64 ((j+1:Nat):Int)) (Wb pZ9) (X2 rfl) ⟨rfl,trivial⟩)] ?_)))
  refine nL (i+1,j+1,(ys.set i (ys.getD j 0))) ⟨(show (j+1)≤xs.length from (by omega)),(show (i+1)<(j+1) from (by omega)),(show (ys.set i (ys.getD j 0)).length=xs.length from (by (rw [List.length_set];assumption))),(show (ys.set i (ys.getD j 0)).take (i+1)=J8 f (xs.take (j+1)) from hdn1),(show ∀ m,(j+1)≤m→(ys.set i (ys.getD j 0)).getD m 0=xs.getD m 0 from hdn2)⟩ (show (xs.length-(j+1):Nat)<xs.length-j from (by omega)) (fun _ _ hG=>Yu [0,1,2,3] (bm 7 99) rfl rfl hG)
 refine cF (dF hq2) (T.exit (xT (xT (xH (nT (sR [hR 2 rfl rfl (Ft (lo0:=0) (sz:=(Yf .i64).sz) (off:=0) (n:=xs.length) (l:=i) (h:=xs.length) (off':=i) (n':=(xs.length-i)) (lo:=some (.tmp 37,((i:Nat):Int))) (hi:=none) Tryz.underlying24 Ut rfl rfl rfl rfl rfl (by omega) (by omega) (by omega) (by omega) (X2 rfl) trivial),hR 3 rfl rfl (Xeo 0 3 ys (ys.take i++List.replicate (xs.length-i) 0++ys.drop (i+(xs.length-i)):List Int) i (xs.length-i) X57 Fs (by omega) rfl trivial)] (sR [hR 2 rfl rfl (Ft (lo0:=0) (sz:=(Yf .i64).sz) (off:=0) (n:=xs.length) (l:=0) (h:=i) (off':=0) (n':=i) (lo:=none) (hi:=some (.tmp 40,((i:Nat):Int))) Tryz.underlying24 Ut rfl rfl rfl rfl rfl (by omega) (by omega) (by omega) (by omega) (X2 rfl) trivial)] (T.ret ?_))))))))
 refine eN ⟨(Zq xs i j),[.live (Xc 3 (Yf .i64) (ys.take i++List.replicate (xs.length-i) 0++ys.drop (i+(xs.length-i)):List Int)),Zh,(Zi f u),(Zj rows)]⟩ ?_
 refine Xa (s':=⟨(Zq xs i j),[.live (Xc 3 (Yf .i64) ((ys.take i++List.replicate (xs.length-i) 0++ys.drop (i+(xs.length-i)):List Int).take i)),Zh,(Zi f u),(Zj rows)]⟩) (fun _ _ hG=>Xah 0 3 (Yf .i64) (ys.take i++List.replicate (xs.length-i) 0++ys.drop (i+(xs.length-i)):List Int) ((ys.take i++List.replicate (xs.length-i) 0++ys.drop (i+(xs.length-i)):List Int).take i) i rfl rfl hG) ?_
 exact eRt 4 (.one (.own 0 (Yf .i64).sz 0 i)) [0,1,2,3] (by have e1:((J8 f xs).length:Nat)=i:=(by (have h9:=congrArg List.length (Xjo (by omega) hys);rw [List.length_take] at h9;omega));have hE:=congrArg (fun (q1:Nat)=>(Xx 0 (Yf .i64) 0 q1:AV)) e1;exact hE) ⟨⟨rfl,(by have e1:(((ys.take i++List.replicate (xs.length-i) 0++ys.drop (i+(xs.length-i)):List Int).take i):List Int)=(J8 f xs):=(by (rw [Xjq (by omega),Xjo (by omega) hys]));have hE:=congrArg (fun (q1:List Int)=>(.live (Xc 3 (Yf .i64) q1):HS)) e1;exact Eq.trans pZ4 hE)⟩,(ix (ix (ix trivial)))⟩
theorem sort_int (xs:List Int) (hx:xs.length≤1000000000):Holds Tryz.prog 80 ⟨[Xx 0 (Yf .i64) 0 xs.length],[Xc 3 (Yf .i64) xs],.tup [],[.live (Xc 3 (Yf .i64) (Ju xs))]⟩:=Xgx lays189 3 xs hx
section
variable (xs:List Int) (k:Nat) (p:Nat) (q:Nat)
abbrev Zr:AV:=Xx 0 (Yf .i64) 0 xs.length
abbrev Zs:List HS:=[.live (Xc 3 (Yf .i64) xs)]
abbrev Zt:AV:=vB (decide (((xs.length:Nat):Int)<2))
abbrev Zu:List AV:=[(Zr xs),aa,dv (.slice none 0 0),vI ((k:Nat):Int),aa,aa,aa,aa,(Zt xs)]
abbrev Zw:AV:=Xx 0 (Yf .i64) k (xs.length-k)
abbrev Zy:List AV:=[(Zr xs),aa,Xx 0 (Yf .i64) 0 p,vI ((p:Nat):Int),(Zw xs k),vI ((q:Nat):Int),aa,aa,aa,aa,aa,aa,aa,aa,aa,aa,aa,aa,aa,aa,aa,aa,aa,aa,aa,aa,aa,aa,aa,aa,aa,aa,vB (decide (((q:Nat):Int)<((xs.length-k:Nat):Int)))]
end
theorem Xg7 (xs:List Int) (hx:xs.length≤1000000):Holds Tryz.prog 81 ⟨[Xx 0 (Yf .i64) 0 xs.length],[Xc 3 (Yf .i64) xs],Xx 0 (Yf .i64) 0 (X2b xs).length,[.live (Xc 3 (Yf .i64) (X2b xs))]⟩:=by
 refine Holds.of Tryz.func81 rfl (N:=61) Tryz.ntmps81 rfl fun w0 B0 S0 U0=>?_
 show T _ (Y2 61 1 w0 S0 U0 B0) ⟨[(Zr xs)],(Zs xs)⟩ _ _
 refine sR [] (T.seq (sR [] ?_))
 by_cases hq1:((xs.length:Nat):Int)<2
 ·have hsh:=Xlb hq1
  refine cT (dT hq1) (sR [] (T.ret (rT ?_)))
  exact eRt 2 (.one (.own 0 (Yf .i64).sz 0 xs.length)) [0] p3a ⟨⟨rfl,p34⟩,trivial⟩
 refine cF (dF hq1) (T.skip (nT (T.seq (sR [] (T.block ?_)))))
 refine T.loop (ι:=Nat) (fun (k:Nat)=>⟨(Zu xs k),(Zs xs)⟩) (fun (k:Nat)=>(k≤xs.length)∧(1≤k)∧(∀ m,1≤m→m<k→¬xs.getD m 0=xs.getD (m-1) 0)) (fun (k:Nat)=>xs.length-k) (1) ⟨(by omega),(Nat.le_refl _),(fun m h1 h2=>by omega)⟩ (fun _ _ hG=>Yu [0] (bm 9 269) rfl rfl hG) ?_
 rintro k ⟨hk,hk1,hb⟩
 show T _ _ ⟨(Zu xs k),(Zs xs)⟩ _ _
 replace hk:k≤xs.length:=hk
 replace hk1:1≤k:=hk1
 replace hb:∀ m,1≤m→m<k→¬xs.getD m 0=xs.getD (m-1) 0:=hb
 refine T.seq (sR [] ?_)
 by_cases hq2:((k:Nat):Int)<((xs.length:Nat):Int)
 rotate_left
 ·have hsh:=Xg6 (k:=k) (by omega) hb
  refine cF (dF hq2) (T.exit (xT (xT (xH (nT (sR [] (T.ret ?_)))))))
  exact eRt 2 (.one (.own 0 (Yf .i64).sz 0 xs.length)) [0] p3a ⟨⟨rfl,p34⟩,trivial⟩
 refine cT (dT hq2) (T.skip (nT (T.seq (T.block ?_))))
 refine sD [[],[],[0,1],[0,1,2],[],[],[5],[4,5,6],[4,5,6,7],[0,1,2,3,4,5,6,7,8]] [hR 2 rfl rfl (Ww (k:=.i64) (l:=0) (sz:=(Yf .i64).sz) (off:=0) (n:=xs.length) (i:=((k:Nat):Int)) (m:=k) (o':=k*(Yf .i64).sz+0) Tryz.underlying24 Ut rfl rfl (by omega) (by simp) (X2 rfl) trivial),hR 3 rfl rfl (Jo (l:=0) (off:=k*(Yf .i64).sz+0) (i:=k) (j:=0) (T:=3) (sz:=(Yf .i64).sz) (n:=xs.length) (el:=W5 (Yf .i64) xs) (c:=.val (.int .i64 (xs.getD k 0))) X1a rfl (by omega) (by decide) rfl (X2 rfl) trivial),hR 6 rfl rfl (Yb (u1:=.int .i64 ((k:Nat):Int)) (u2:=.int .i64 1) (v:=.int .i64 ((k-1:Nat):Int)) (Vy pZ9) (X2 rfl) ⟨rfl,trivial⟩),hR 7 rfl rfl (Ww (k:=.i64) (l:=0) (sz:=(Yf .i64).sz) (off:=0) (n:=xs.length) (i:=((k-1:Nat):Int)) (m:=(k-1)) (o':=(k-1)*(Yf .i64).sz+0) Tryz.underlying24 Ut rfl rfl (by omega) (by simp) (X2 rfl) trivial),hR 8 rfl rfl (Jo (l:=0) (off:=(k-1)*(Yf .i64).sz+0) (i:=k-1) (j:=0) (T:=3) (sz:=(Yf .i64).sz) (n:=xs.length) (el:=W5 (Yf .i64) xs) (c:=.val (.int .i64 (xs.getD (k-1) 0))) X1a rfl (by omega) (by decide) rfl (X2 rfl) trivial)] ?_
 by_cases hq3:(xs.getD k 0)=(xs.getD (k-1) 0)
 rotate_left
 ·refine cF (dF hq3) (T.skip (nB (nT (xK [hR 1 rfl rfl (Yb (u1:=.int .i64 ((k:Nat):Int)) (u2:=.int .i64 1) (v:=.int .i64 ((k+1:Nat):Int)) (Wb pZ9) (X2 rfl) ⟨rfl,trivial⟩)] ?_))))
  refine nL (k+1) ⟨(show (k+1)≤xs.length from (by omega)),(show 1≤(k+1) from (by omega)),(show ∀ m,1≤m→m<(k+1)→¬xs.getD m 0=xs.getD (m-1) 0 from (fun m h1 h2=>by rcases Nat.lt_or_ge m k with h9|h9;exact hb m h1 h9;have h8:m=k:=(by omega);subst h8;assumption))⟩ (show (xs.length-(k+1):Nat)<xs.length-k from (by omega)) (fun _ _ hG=>Yu [0] (bm 9 269) rfl rfl hG)
 have hst:=Xla hk1 (by omega) hb hq3
 refine cT (dT hq3) (sR [hR 2 rfl rfl (Ft (lo0:=0) (sz:=(Yf .i64).sz) (off:=0) (n:=xs.length) (l:=k) (h:=xs.length) (off':=k) (n':=(xs.length-k)) (lo:=some (.tmp 27,((k:Nat):Int))) (hi:=none) Tryz.underlying24 Ut rfl rfl rfl rfl rfl ‹_› (by omega) (by omega) (by omega) (X2 rfl) trivial)] (T.seq (sR [] (T.block ?_))))
 refine T.loop (ι:=Nat×Nat×(List Int)) (fun (x_:Nat×Nat×(List Int))=>⟨[(Zr xs),aa,aa,vI ((x_.1:Nat):Int),(Zw xs k),vI ((x_.2.1:Nat):Int)],[.live (Xc 3 (Yf .i64) x_.2.2)]⟩) (fun (x_:Nat×Nat×(List Int))=>(x_.1<k+x_.2.1)∧(1≤x_.2.1)∧(k+x_.2.1≤xs.length)∧(x_.2.2.length=xs.length)∧(x_.2.2.take x_.1=E3 xs (k+x_.2.1))∧(∀ m,k+x_.2.1-1≤m→x_.2.2.getD m 0=xs.getD m 0)) (fun (x_:Nat×Nat×(List Int))=>xs.length-k-x_.2.1) (k,1,xs) ⟨(show k<k+1 from (by omega)),(show 1≤1 from (Nat.le_refl _)),(show k+1≤xs.length from (by omega)),(show xs.length=xs.length from rfl),(show xs.take k=E3 xs (k+1) from hst),(show ∀ m,k+1-1≤m→xs.getD m 0=xs.getD m 0 from (fun _ _=>rfl))⟩ (fun _ _ hG=>Yu [0] (bm 6 57) rfl rfl hG) ?_
 rintro ⟨p,q,ys⟩ ⟨hp,hq1,hkq,hyl,hys,hyd⟩
 show T _ _ ⟨[(Zr xs),aa,aa,vI ((p:Nat):Int),(Zw xs k),vI ((q:Nat):Int)],[.live (Xc 3 (Yf .i64) ys)]⟩ _ _
 replace hp:p<k+q:=hp
 replace hq1:1≤q:=hq1
 replace hkq:k+q≤xs.length:=hkq
 replace hyl:ys.length=xs.length:=hyl
 replace hys:ys.take p=E3 xs (k+q):=hys
 replace hyd:∀ m,k+q-1≤m→ys.getD m 0=xs.getD m 0:=hyd
 refine T.seq (sR [] ?_)
 by_cases hq4:((q:Nat):Int)<((xs.length-k:Nat):Int)
 ·refine cT (dT hq4) (T.skip (nT (T.seq (T.block ?_))))
  refine sD [[],[],[0,1],[0,1,2],[],[],[5],[4,5,6],[4,5,6,7],[0,1,2,3,4,5,6,7,8]] [hR 2 rfl rfl (Ww (k:=.i64) (l:=0) (sz:=(Yf .i64).sz) (off:=k) (n:=(xs.length-k)) (i:=((q:Nat):Int)) (m:=q) (o':=(k+q)*(Yf .i64).sz+0) Tryz.underlying24 Ut rfl rfl (by omega) (by rfl) (X2 rfl) trivial),hR 3 rfl rfl (Jo (l:=0) (off:=(k+q)*(Yf .i64).sz+0) (i:=k+q) (j:=0) (T:=3) (sz:=(Yf .i64).sz) (n:=ys.length) (el:=W5 (Yf .i64) ys) (c:=.val (.int .i64 (ys.getD (k+q) 0))) X1a rfl (by omega) (by decide) rfl (X2 rfl) trivial),hR 6 rfl rfl (Yb (u1:=.int .i64 ((q:Nat):Int)) (u2:=.int .i64 1) (v:=.int .i64 ((q-1:Nat):Int)) (Vy pZ9) (X2 rfl) ⟨rfl,trivial⟩),hR 7 rfl rfl (Ww (k:=.i64) (l:=0) (sz:=(Yf .i64).sz) (off:=k) (n:=(xs.length-k)) (i:=((q-1:Nat):Int)) (m:=(q-1)) (o':=(k+(q-1))*(Yf .i64).sz+0) Tryz.underlying24 Ut rfl rfl (by omega) (by rfl) (X2 rfl) trivial),hR 8 rfl rfl (Jo (l:=0) (off:=(k+(q-1))*(Yf .i64).sz+0) (i:=k+(q-1)) (j:=0) (T:=3) (sz:=(Yf .i64).sz) (n:=ys.length) (el:=W5 (Yf .i64) ys) (c:=.val (.int .i64 (ys.getD (k+(q-1)) 0))) X1a rfl (by omega) (by decide) rfl (X2 rfl) trivial)] ?_
  by_cases hq5:(ys.getD (k+q) 0)≠(ys.getD (k+(q-1)) 0)
  ·have hcn:=cpt_yes hp hq1 hyl (by omega) hys hyd hq5;have hcn1:=hcn.1;have hcn2:=hcn.2
   refine cT (dT hq5) ?_
   refine sR [hR 4 rfl rfl (Ww (k:=.i64) (l:=0) (sz:=(Yf .i64).sz) (off:=k) (n:=(xs.length-k)) (i:=((q:Nat):Int)) (m:=q) (o':=(k+q)*(Yf .i64).sz+0) Tryz.underlying24 Ut rfl rfl (by omega) (by rfl) (X2 rfl) trivial),hR 5 rfl rfl (Jo (l:=0) (off:=(k+q)*(Yf .i64).sz+0) (i:=k+q) (j:=0) (T:=3) (sz:=(Yf .i64).sz) (n:=ys.length) (el:=W5 (Yf .i64) ys) (c:=.val (.int .i64 (ys.getD (k+q) 0))) X1a rfl (by omega) (by decide) rfl (X2 rfl) trivial),hR 6 rfl rfl (Ww (k:=.i64) (l:=0) (sz:=(Yf .i64).sz) (off:=0) (n:=xs.length) (i:=((p:Nat):Int)) (m:=p) (o':=p*(Yf .i64).sz+0) Tryz.underlying24 Ut rfl rfl (by omega) (by simp) (X2 rfl) trivial),hR 7 rfl rfl (Hj 0 3 (Yf .i64) ys (ys.getD (k+q) 0) p 0 1 [.val (.int .i64 (ys.getD (k+q) 0))] (tv:=.one (dI (ys.getD (k+q) 0))) (off:=p*(Yf .i64).sz+0) Xjv ⟨.inl rfl,trivial⟩ rfl rfl (by omega) (by decide) rfl (by intro j hj;replace hj:j<1:=hj;rcases j with _|j<;>first|rfl|omega) trivial)] ?_
   refine xK [hR 1 rfl rfl (Yb (u1:=.int .i64 ((p:Nat):Int)) (u2:=.int .i64 1) (v:=.int .i64 ((p+1:Nat):Int)) (Wb pZ9) (X2 rfl) ⟨rfl,trivial⟩)] (nB (nT (xK [hR 1 rfl rfl (Yb (u1:=.int .i64 ((q:Nat):Int)) (u2:=.int .i64 1) (v:=.int .i64 ((q+1:Nat):Int)) (Wb pZ9) (X2 rfl) ⟨rfl,trivial⟩)] ?_)))
   refine nL (p+1,q+1,(ys.set p (ys.getD (k+q) 0))) ⟨(show (p+1)<k+(q+1) from (by omega)),(show 1≤(q+1) from (by omega)),(show k+(q+1)≤xs.length from (by omega)),(show (ys.set p (ys.getD (k+q) 0)).length=xs.length from (by (rw [List.length_set];assumption))),(show (ys.set p (ys.getD (k+q) 0)).take (p+1)=E3 xs (k+(q+1)) from hcn1),(show ∀ m,k+(q+1)-1≤m→(ys.set p (ys.getD (k+q) 0)).getD m 0=xs.getD m 0 from hcn2)⟩ (show (xs.length-k-(q+1):Nat)<xs.length-k-q from (by omega)) (fun _ _ hG=>Yu [0] (bm 6 57) rfl rfl hG)
  have hcn:=cpt_no hp hq1 (by omega) hys hyd hq5;have hcn1:=hcn.1;have hcn2:=hcn.2
  refine cF (dF hq5) (T.skip (nB (nT (xK [hR 1 rfl rfl (Yb (u1:=.int .i64 ((q:Nat):Int)) (u2:=.int .i64 1) (v:=.int .i64 ((q+1:Nat):Int)) (Wb pZ9) (X2 rfl) ⟨rfl,trivial⟩)] ?_))))
  refine nL (p,q+1,ys) ⟨(show p<k+(q+1) from (by omega)),(show 1≤(q+1) from (by omega)),(show k+(q+1)≤xs.length from (by omega)),(show ys.length=xs.length from ‹_›),(show ys.take p=E3 xs (k+(q+1)) from hcn1),(show ∀ m,k+(q+1)-1≤m→ys.getD m 0=xs.getD m 0 from hcn2)⟩ (show (xs.length-k-(q+1):Nat)<xs.length-k-q from (by omega)) (fun _ _ hG=>Yu [0] (bm 6 57) rfl rfl hG)
 refine cF (dF hq4) (T.exit (xT (xT (xH (nT (sR [hR 2 rfl rfl (Ft (lo0:=0) (sz:=(Yf .i64).sz) (off:=0) (n:=xs.length) (l:=p) (h:=xs.length) (off':=p) (n':=(xs.length-p)) (lo:=some (.tmp 55,((p:Nat):Int))) (hi:=none) Tryz.underlying24 Ut rfl rfl rfl rfl rfl (by omega) (by omega) (by omega) (by omega) (X2 rfl) trivial),hR 3 rfl rfl (Xeo 0 3 ys (ys.take p++List.replicate (xs.length-p) 0++ys.drop (p+(xs.length-p)):List Int) p (xs.length-p) X57 Fs (by omega) rfl trivial)] (sR [hR 2 rfl rfl (Ft (lo0:=0) (sz:=(Yf .i64).sz) (off:=0) (n:=xs.length) (l:=0) (h:=p) (off':=0) (n':=p) (lo:=none) (hi:=some (.tmp 58,((p:Nat):Int))) Tryz.underlying24 Ut rfl rfl rfl rfl rfl (by omega) (by omega) (by omega) (by omega) (X2 rfl) trivial)] (T.ret (rB (rT (rT (rB (rT ?_)))))))))))))
 refine eN ⟨(Zy xs k p q),[.live (Xc 3 (Yf .i64) (ys.take p++List.replicate (xs.length-p) 0++ys.drop (p+(xs.length-p)):List Int))]⟩ ?_
 refine Xa (s':=⟨(Zy xs k p q),[.live (Xc 3 (Yf .i64) ((ys.take p++List.replicate (xs.length-p) 0++ys.drop (p+(xs.length-p)):List Int).take p))]⟩) (fun _ _ hG=>Xah 0 3 (Yf .i64) (ys.take p++List.replicate (xs.length-p) 0++ys.drop (p+(xs.length-p)):List Int) ((ys.take p++List.replicate (xs.length-p) 0++ys.drop (p+(xs.length-p)):List Int).take p) p rfl rfl hG) ?_
 exact eRt 2 (.one (.own 0 (Yf .i64).sz 0 p)) [0] (by have e1:((X2b xs).length:Nat)=p:=(by (have h9:=congrArg List.length (Xjr (by omega) hkq hys);rw [List.length_take] at h9;omega));have hE:=congrArg (fun (q1:Nat)=>(Xx 0 (Yf .i64) 0 q1:AV)) e1;exact hE) ⟨⟨rfl,(by have e1:(((ys.take p++List.replicate (xs.length-p) 0++ys.drop (p+(xs.length-p)):List Int).take p):List Int)=(X2b xs):=(by (rw [Xjq (by omega),Xjr (by omega) hkq hys]));have hE:=congrArg (fun (q1:List Int)=>(.live (Xc 3 (Yf .i64) q1):HS)) e1;exact Eq.trans pZ4 hE)⟩,trivial⟩
abbrev Z10 (f:Int) (u:Int) (rows:List (Yg×Bool)) (x:List Int):List HS:=[.live (.box 130 [dI (3*f+1),dI u,.mref 1]),.live (mpK Xp Yc rows),.live (.box 33 [.ptr 0 0]),.live (Xc 3 (Yf .i64) (Ju (J8 f x)))]
abbrev Z11 (f:Int) (tx:Bool) (nx:Bool) (x:List Int):List AV:=[pv 0 0,slV tx nx (Yf .i64) x,pv 2 0,aa,vI 0,Xx 3 (Yf .i64) 0 (Ju (J8 f x)).length]
theorem X6z (f:Int) (u:Int) (rows:List (Yg×Bool)) (tx:Bool) (nx:Bool) (x:List Int) (hf:0≤f∧f≤2) (hu:0≤u∧u≤8) (hx:x.length≤1000000):Holds Tryz.prog 32 ⟨[pv 0 0,slV tx nx (Yf .i64) x],[.box 130 [dI (3*f+1),dI u,.mref 1],mpK Xp Yc rows],vI ((cntR f x:Nat):Int),[.live (.box 130 [dI (3*f+1),dI u,.mref 1]),.live (mpK Xp Yc rows)]⟩:=by
 refine Holds.of Tryz.func32 rfl (N:=15) Tryz.ntmps32 rfl fun w0 B0 S0 U0=>?_
 show T _ (Y2 15 2 w0 S0 U0 B0) ⟨[pv 0 0,slV tx nx (Yf .i64) x],[.live (.box 130 [dI (3*f+1),dI u,.mref 1]),.live (mpK Xp Yc rows)]⟩ _ _
 have hfl:=fil_len f x
 have hsl:=X4f (J8 f x)
 have hci:=cnt_is hf x
 refine sR [] (sR [hR 1 rfl rfl (rCa (Xlc tx nx x ‹_›) Tryz.func77 [3] [(.tmp 6,slV tx nx (Yf .i64) x)] 0 1),hR 2 rfl rfl (Xbj (f:=78) (ls:=[(.tmp 2,2)]) rfl (X2 rfl) trivial),hR 3 rfl rfl (rCa (Xi1 f u rows x ‹_› ‹_› ‹_›) Tryz.func76 [3,2,0,1] [(.tmp 7,Xx 3 (Yf .i64) 0 x.length),(.tmp 8,sv (.clo 78 [2]))] 4 4)] (sR [hR 1 rfl rfl (rCa (sort_int (J8 f x) (by omega)) Tryz.func80 [3] [(.tmp 10,Xx 3 (Yf .i64) 0 (J8 f x).length)] 1 1)] ?_))
 refine tN ⟨[pv 0 0,slV tx nx (Yf .i64) x,pv 2 0,aa,vI 0,Xx 3 (Yf .i64) 0 (J8 f x).length],(Z10 f u rows x)⟩ ?_
 refine Wy (s':=⟨(Z11 f tx nx x),(Z10 f u rows x)⟩) (fun _ _ hG=>Yu [0,1,2,3] (bm 6 55) (t2:=[pv 0 0,slV tx nx (Yf .i64) x,pv 2 0,aa,vI 0,Xx 3 (Yf .i64) 0 (J8 f x).length]) (congrArg (fun (q1:Nat)=>([pv 0 0,slV tx nx (Yf .i64) x,pv 2 0,aa,vI 0,Xx 3 (Yf .i64) 0 q1]:List AV)) (by exact X4f _)) rfl hG) (sR [hR 1 rfl rfl (rCa (Xg7 (Ju (J8 f x)) (by omega)) Tryz.func81 [3] [(.tmp 12,Xx 3 (Yf .i64) 0 (Ju (J8 f x)).length)] 1 1)] (T.ret ?_))
 exact eRt 4 (.one (dI (((X2b (Ju (J8 f x))).length:Nat):Int))) [0,1] (by have e1:(((cntR f x:Nat):Int):Int)=(((X2b (Ju (J8 f x))).length:Nat):Int):=(by (rw [hci]));have hE:=cI e1;exact hE) (ix (ix trivial))
end Go.Proofs.YtnaopgohccacmaaGreat.Q
namespace Go.Proofs.YtnaopgohccacmaaGreat.Q
set_option linter.unusedVariables false
set_option linter.unusedSimpArgs false
set_option maxRecDepth 100000
theorem Xi2 {f:Int} (hf:0≤f∧f≤2) {l r:List Int} (h1:r.Nodup) (hm:∀ s,s∈r↔Yz f s∧s∈l):r.length=cntR f l:=by
  have h2:(((List.range (3*f+1).toNat).filter fun (i:Nat)=>decide (((i:Nat):Int)∈l)).map Int.ofNat).Nodup:=List.pairwise_map.2 ((List.nodup_range.sublist List.filter_sublist).imp fun hab e=>hab (Int.ofNat.inj e))
  have hm2:∀ s,s∈r↔s∈((List.range (3*f+1).toNat).filter fun (i:Nat)=>decide (((i:Nat):Int)∈l)).map Int.ofNat:=fun s=>by
    rw [hm,List.mem_map]
    constructor
    · rintro ⟨h4,h3⟩
      refine ⟨s.toNat,List.mem_filter.2 ⟨List.mem_range.2 (by have:=h4.1;have:=h4.2;omega),decide_eq_true ?_⟩,?_⟩
      · rw [show ((s.toNat:Nat):Int)=s by have:=h4.1;omega];exact h3
      · show ((s.toNat:Nat):Int)=s;have:=h4.1;omega
    · rintro ⟨i,h3,rfl⟩
      obtain ⟨h4,h5⟩:=List.mem_filter.1 h3
      have h4:=List.mem_range.1 h4
      exact ⟨⟨Int.natCast_nonneg _,by show ((i:Nat):Int)<_;omega⟩,by simpa using h5⟩
  have:=((List.perm_ext_iff_of_nodup h1 h2).2 hm2).length_eq
  rw [this,List.length_map];rfl
section
variable {f:Int} {l:List aE} {k:Nat}
def sgn (l:List aE) (k:Nat):List Int:=(l.take k).map (·.f_Signer)
theorem Xe9 (hk:k<l.length):sgn l (k+1)=sgn l k++[(l.getD k zE).f_Signer]:=by unfold sgn;rw [Uf (z:=zE) hk,List.map_append];rfl
theorem Xce (hk:k≤l.length):(sgn l k).length=k:=by unfold sgn;rw [List.length_map,List.length_take];omega
end
section
variable {P:Program}
end
end Go.Proofs.YtnaopgohccacmaaGreat.Q
namespace Go.Proofs.YtnaopgohccacmaaGreat.Q
open Go Go.RowKit
set_option linter.unusedVariables false
set_option linter.unusedSimpArgs false
set_option maxRecDepth 100000
set_option maxHeartbeats 4000000
theorem Xh8 (ta:Bool) (tb:Bool) (a:aE) (b:aE):Holds Tryz.prog 21 ⟨[.tv (.agg [dI a.f_Signer,.d (dsl ta false kU8 a.Xh)]),.tv (.agg [dI b.f_Signer,.d (dsl tb false kU8 b.Xh)])],[],vB (decide (a=b)),[]⟩:=by
 refine Holds.of Tryz.func21 rfl (N:=17) Tryz.ntmps21 rfl fun w0 B0 S0 U0=>?_
 show T _ (Y2 17 0 w0 S0 U0 B0) ⟨[.tv (.agg [dI a.f_Signer,.d (dsl ta false kU8 a.Xh)]),.tv (.agg [dI b.f_Signer,.d (dsl tb false kU8 b.Xh)])],[]⟩ _ _
 refine sR [] ?_
 by_cases hq1:a.f_Signer=b.f_Signer
 ·refine sR (Xl (hY · (dT hq1)) [6,7,8,9] (hS 10 (oY rfl rfl rfl rfl (X2 rfl) (dT hq1) (rCa (X93 ta false tb false a.Xh b.Xh ) Tryz.func23 [] [(.tmp 12,slV ta false kU8 a.Xh),(.tmp 14,slV tb false kU8 b.Xh)] 0 0))::(hP 11 (dT hq1)::[]))) (T.ret ?_)
  exact eRt 4 (.one (dB (decide (a.Xh=b.Xh)))) [] (by have e1:((decide (a=b)):Bool)=(decide (a.Xh=b.Xh)):=(by simp [Um, *]);have hE:=cB e1;exact hE) trivial
 refine sR (Xl (hN · true (dF hq1)) [6,7,8,9,10] (hP 11 (dF hq1)::[])) (T.ret ?_)
 exact eRt 4 (.one (dB false)) [] (by have e1:((decide (a=b)):Bool)=false:=(by simp [Um, *]);have hE:=cB e1;exact hE) trivial
theorem Xkj (f:Int) (u:Int):Holds Tryz.prog 35 ⟨[vI f,vI u],[],pv 0 0,[.live (.box 135 [dB true,dI (fOf f),dI (cOf u),.own 1 (kE false).sz 0 ([]:List aE).length]),.live (Xc 43 (kE false) ([]:List aE))]⟩:=by
 refine Holds.of Tryz.func35 rfl (N:=13) Tryz.ntmps35 rfl fun w0 B0 S0 U0=>?_
 show T _ (Y2 13 0 w0 S0 U0 B0) ⟨[vI f,vI u],[]⟩ _ _
 refine sR [] (sR [hR 1 rfl rfl (X9b (k:=.i64) (a:=f) (b:=2) (X2 rfl) ⟨rfl,trivial⟩),hR 2 rfl rfl (X3h (k:=.i64) (a:=0) (b:=min f 2) (X2 rfl) ⟨rfl,trivial⟩),hR 4 rfl rfl (X9b (k:=.i64) (a:=u) (b:=8) (X2 rfl) ⟨rfl,trivial⟩),hR 5 rfl rfl (X3h (k:=.i64) (a:=0) (b:=min u 8) (X2 rfl) ⟨rfl,trivial⟩)] (T.ret ?_))
 refine eN ⟨[vI f,vI u,aa,aa,pv 0 0],[.live (.box 135 [dB true,dI (max 0 (min f 2)),dI (max 0 (min u 8)),.d (.val (.slice none 0 0))])]⟩ ?_
 refine Xa (s':=⟨[vI f,vI u,aa,aa,pv 0 0],[.live (.box 135 [dB true,dI (max 0 (min f 2)),dI (max 0 (min u 8)),.own 1 (kE false).sz 0 0]),.live (Xc 43 (kE false) ([]:List aE))]⟩) (fun _ _ hG=>Jr 1 0 3 43 (kE false) (Tb:=135) (cs:=[dB true,dI (max 0 (min f 2)),dI (max 0 (min u 8)),.d (.val (.slice none 0 0))]) rfl rfl rfl hG) ?_
 exact eRt 4 (.one (.ptr 0 0)) [0,1] rfl ⟨⟨rfl,(by have e1:(max 0 (min f 2):Int)=(fOf f):=(by (simp only [fOf,cOf];omega));have e2:(max 0 (min u 8):Int)=(cOf u):=(by (simp only [fOf,cOf];omega));have e3:(0:Nat)=([]:List aE).length:=(by rfl);have hE:=congr (congr (congrArg (fun (q1:Int) (q2:Int) (q3:Nat)=>(.live (.box 135 [dB true,dI q1,dI q2,.own 1 (kE false).sz 0 q3]):HS)) e1) e2) e3;exact Eq.trans pZ4 hE)⟩,(ix trivial)⟩
theorem Xgq:Wide Tryz.prog 4 none:=⟨_,Tryz.underlying4,(fun _ h=>by cases h),(fun _ _ h=>by cases h)⟩
theorem ref03_N (f:Int) (u:Int) (l:List aE) (hf:0≤f∧f≤2) (hu:0≤u∧u≤8):Holds Tryz.prog 72 ⟨[pv 0 0],[.box 135 [dB true,dI f,dI u,.own 1 (kE false).sz 0 l.length],Xc 43 (kE false) l],vI (3*f+1),[.live (.box 135 [dB true,dI f,dI u,.own 1 (kE false).sz 0 l.length]),.live (Xc 43 (kE false) l)]⟩:=by
 refine Holds.of Tryz.func72 rfl (N:=14) Tryz.ntmps72 rfl fun w0 B0 S0 U0=>?_
 show T _ (Y2 14 2 w0 S0 U0 B0) ⟨[pv 0 0],[.live (.box 135 [dB true,dI f,dI u,.own 1 (kE false).sz 0 l.length]),.live (Xc 43 (kE false) l)]⟩ _ _
 refine sR [] (T.seq (sR [] (cF (b:=(!true)) rfl (T.skip (nT (sR [hR 4 rfl rfl (Yb (u1:=.int .i64 3) (u2:=.int .i64 f) (v:=.int .i64 (3*f)) (Xc8 pZ9) (X2 rfl) ⟨rfl,trivial⟩),hR 5 rfl rfl (Yb (u1:=.int .i64 (3*f)) (u2:=.int .i64 1) (v:=.int .i64 ((3*f)+1)) (Wb pZ9) (X2 rfl) ⟨rfl,trivial⟩)] (T.ret ?_)))))))
 exact eRt 2 (.one (dI ((3*f)+1))) [0,1] (cI (by rfl)) (ix (ix trivial))
theorem Xcm (f:Int) (u:Int) (l:List aE) (s:Int) (hf:0≤f∧f≤2) (hu:0≤u∧u≤8) (hs:-9223372036854775808≤s∧s≤9223372036854775807):Holds Tryz.prog 125 ⟨[pv 0 0,vI s],[.box 135 [dB true,dI f,dI u,.own 1 (kE false).sz 0 l.length],Xc 43 (kE false) l],vB (decide (Ii u s)),[.live (.box 135 [dB true,dI f,dI u,.own 1 (kE false).sz 0 l.length]),.live (Xc 43 (kE false) l)]⟩:=by
 refine Holds.of Tryz.func125 rfl (N:=16) Tryz.ntmps125 rfl fun w0 B0 S0 U0=>?_
 show T _ (Y2 16 2 w0 S0 U0 B0) ⟨[pv 0 0,vI s],[.live (.box 135 [dB true,dI f,dI u,.own 1 (kE false).sz 0 l.length]),.live (Xc 43 (kE false) l)]⟩ _ _
 refine sR [] ?_
 by_cases hq1:s≥1000
 ·refine sR (hY 3 (dT hq1)::(hS 4 (oY rfl rfl rfl rfl (X2 rfl) (dT hq1) (Yb (u1:=.int .i64 s) (u2:=.int .i64 1000) (v:=.int .i64 (s-1000)) (Vy pZ9) (X2 rfl) ⟨rfl,trivial⟩))::(Xl (hY · (dT hq1)) [5,6,7,8,9] (hP 10 (dT hq1)::[])))) (T.ret ?_)
  exact eRt 4 (.one (dB (decide ((s-1000)<u)))) [0,1] p45 (ix (ix trivial))
 refine sR (Xl (hN · true (dF hq1)) [3,4,5,6,7,8,9] (hP 10 (dF hq1)::[])) (T.ret ?_)
 exact eRt 4 (.one (dB false)) [0,1] p4m (ix (ix trivial))
theorem X3f (f:Int) (u:Int) (l:List aE) (s:Int) (hf:0≤f∧f≤2) (hu:0≤u∧u≤8):Holds Tryz.prog 124 ⟨[pv 0 0,vI s],[.box 135 [dB true,dI f,dI u,.own 1 (kE false).sz 0 l.length],Xc 43 (kE false) l],vB (decide (Yz f s)),[.live (.box 135 [dB true,dI f,dI u,.own 1 (kE false).sz 0 l.length]),.live (Xc 43 (kE false) l)]⟩:=by
 refine Holds.of Tryz.func124 rfl (N:=13) Tryz.ntmps124 rfl fun w0 B0 S0 U0=>?_
 show T _ (Y2 13 2 w0 S0 U0 B0) ⟨[pv 0 0,vI s],[.live (.box 135 [dB true,dI f,dI u,.own 1 (kE false).sz 0 l.length]),.live (Xc 43 (kE false) l)]⟩ _ _
 refine sR [] ?_
 by_cases hq1:s≥0
 ·refine sR [hY 3 (dT hq1),hY 4 (dT hq1),hS 5 (oY rfl rfl rfl rfl (X2 rfl) (dT hq1) (rCa (ref03_N f u l ‹_› ‹_›) Tryz.func72 [0,1] [(.tmp 9,pv 0 0)] 2 2)),hY 6 (dT hq1),hP 7 (dT hq1)] (T.ret ?_)
  exact eRt 4 (.one (dB (decide (s<(3*f+1))))) [0,1] p41 (ix (ix trivial))
 refine sR (Xl (hN · true (dF hq1)) [3,4,5,6] (hP 7 (dF hq1)::[])) (T.ret ?_)
 exact eRt 4 (.one (dB false)) [0,1] p4l (ix (ix trivial))
theorem Xel (f:Int) (u:Int) (l:List aE) (s:Int) (hf:0≤f∧f≤2) (hu:0≤u∧u≤8) (hs:-9223372036854775808≤s∧s≤9223372036854775807):Holds Tryz.prog 69 ⟨[pv 0 0,vI s],[.box 135 [dB true,dI f,dI u,.own 1 (kE false).sz 0 l.length],Xc 43 (kE false) l],vB (decide (Uq f u s)),[.live (.box 135 [dB true,dI f,dI u,.own 1 (kE false).sz 0 l.length]),.live (Xc 43 (kE false) l)]⟩:=by
 refine Holds.of Tryz.func69 rfl (N:=13) Tryz.ntmps69 rfl fun w0 B0 S0 U0=>?_
 show T _ (Y2 13 2 w0 S0 U0 B0) ⟨[pv 0 0,vI s],[.live (.box 135 [dB true,dI f,dI u,.own 1 (kE false).sz 0 l.length]),.live (Xc 43 (kE false) l)]⟩ _ _
 refine sR [] ?_
 by_cases hq1:Yz f s
 ·refine sR (hR 2 rfl rfl (rCa (X3f f u l s ‹_› ‹_›) Tryz.func124 [0,1] [(.tmp 5,pv 0 0),(.tmp 6,vI s)] 2 2)::(Xl (hN · false (dT hq1)) [4,5,6] (hP 7 (dT hq1)::[]))) (T.ret ?_)
  exact eRt 4 (.one (dB true)) [0,1] p3p (ix (ix trivial))
 refine sR [hR 2 rfl rfl (rCa (X3f f u l s ‹_› ‹_›) Tryz.func124 [0,1] [(.tmp 5,pv 0 0),(.tmp 6,vI s)] 2 2),hY 4 (dF hq1),hY 5 (dF hq1),hS 6 (oY rfl rfl rfl rfl (X2 rfl) (dF hq1) (rCa (Xcm f u l s ‹_› ‹_› ‹_›) Tryz.func125 [0,1] [(.tmp 9,pv 0 0),(.tmp 10,vI s)] 2 2)),hP 7 (dF hq1)] (T.ret ?_)
 exact eRt 4 (.one (dB (decide (Ii u s)))) [0,1] p3g (ix (ix trivial))
section
variable (f:Int) (u:Int) (l:List aE) (te:Bool) (e:aE) (k:Nat)
abbrev Z12:AV:=.tv (.agg [dI e.f_Signer,.d (dsl te false kU8 e.Xh)])
abbrev Z13:HS:=.live (.box 135 [dB true,dI f,dI u,.own 1 (kE false).sz 0 l.length])
abbrev Z14:List HS:=[(Z13 f u l),.live (Xc 43 (kE false) l),.live (.box 43 [dI e.f_Signer,.d (dsl te false kU8 e.Xh)])]
end
theorem Xkk (f:Int) (u:Int) (l:List aE) (te:Bool) (e:aE) (hl:l.length≤9223372036854775806):Holds Tryz.prog 70 ⟨[pv 0 0,.tv (.agg [dI e.f_Signer,.d (dsl te false kU8 e.Xh)])],[.box 135 [dB true,dI f,dI u,.own 1 (kE false).sz 0 l.length],Xc 43 (kE false) l],vB (decide (e∈l)),[.live (.box 135 [dB true,dI f,dI u,.own 1 (kE false).sz 0 l.length]),.live (Xc 43 (kE false) l)]⟩:=by
 refine Holds.of Tryz.func70 rfl (N:=39) Tryz.ntmps70 rfl fun w0 B0 S0 U0=>?_
 show T _ (Y2 39 2 w0 S0 U0 B0) ⟨[pv 0 0,(Z12 te e)],[(Z13 f u l),.live (Xc 43 (kE false) l)]⟩ _ _
 refine sR [] (T.seq (sR [] (T.block ?_)))
 refine T.loop (ι:=Nat) (fun (k:Nat)=>⟨[pv 0 0,(Z12 te e),aa,pv 2 0,vB false,vI ((k:Nat):Int)],(Z14 f u l te e)⟩) (fun (k:Nat)=>(k≤l.length)∧(∀ j,j<k→¬l.getD j zE=e)) (fun (k:Nat)=>l.length-k) (0) ⟨(Nat.zero_le _),(fun j hj=>absurd hj (Nat.not_lt_zero _))⟩ (fun _ _ hG=>Yu [0,1,2] (bm 6 59) rfl rfl hG) ?_
 rintro k ⟨hk,hb⟩
 show T _ _ ⟨[pv 0 0,(Z12 te e),aa,pv 2 0,vB false,vI ((k:Nat):Int)],(Z14 f u l te e)⟩ _ _
 replace hk:k≤l.length:=hk
 replace hb:∀ j,j<k→¬l.getD j zE=e:=hb
 refine T.seq (sR [] ?_)
 by_cases hq1:((k:Nat):Int)<((l.length:Nat):Int)
 ·refine cT (dT hq1) (T.skip (nT (T.seq (T.block ?_))))
  by_cases hq2:(l.getD k zE).f_Signer=e.f_Signer
  ·refine sD [[],[0],[0,1],[0,1,2],[],[0,1,2,3,4],[0,1,2,3,4,5],[0,1,2,3,4,5,6],[],[8],[0,1,2,3,4,5,6,7,8,9],[0,1,2,3,4,5,6,7,8,9,10],[0,1,2,3,4,5,6,7,8,9,10,11],[0,1,2,3,4,5,6,7,8,9,10,11,12],[0,1,2,3,4,5,6,7,8,9,10,11,12,13],[0,1,2,3,4,5,6,7,8,9,10,11,12,13,14],[0,1,2,3,4,5,6,7,8,9,10,11],[0,1,2,3,4,5,6,7,8,9,10,11,12,13,14,15,16],[0,1,2,3,4,5,6,7,8,9,10,11,12,13,14,15,16,17],[0,1,2,3,4,5,6,7,8,9,10,11,12,13,14,15,16,17,18],[0,1,2,3,4,5,6,7,8,9,10,11],[0,1,2,3,4,5,6,7,8,9,10,11,20],[0,1,2,3,4,5,6,7,8,9,10,11,12,13,14,15,16,17,18,19,20,21],[0,1,2,3,4,5,6,7,8,9,10,11,12,13,14,15,16,17,18,19,20,21,22]] (hR 5 rfl rfl (Ww (k:=.i64) (l:=1) (sz:=(kE false).sz) (off:=0) (n:=l.length) (i:=((k:Nat):Int)) (m:=k) (o':=k*(kE false).sz+0) Tryz.underlying37 Vv rfl rfl (by omega) (by simp) (X2 rfl) trivial)::(hR 7 rfl rfl (Jo (l:=1) (off:=k*(kE false).sz+0) (i:=k) (j:=0) (T:=43) (sz:=(kE false).sz) (n:=l.length) (el:=W5 (kE false) l) (c:=.val (.int .i64 (l.getD k zE).f_Signer)) X1a rfl (by omega) (by decide) rfl (X2 rfl) trivial)::(Xl (hY · (dT hq2)) [12,13,14,15,16] (hS 17 (oY rfl rfl rfl rfl (X2 rfl) (dT hq2) (Ww (k:=.i64) (l:=1) (sz:=(kE false).sz) (off:=0) (n:=l.length) (i:=((k:Nat):Int)) (m:=k) (o':=k*(kE false).sz+0) Tryz.underlying37 Vv rfl rfl (by omega) (by simp) (X2 rfl) p1h))::(hY 18 (dT hq2)::(hS 19 (oY rfl rfl rfl rfl (X2 rfl) (dT hq2) (Jo (l:=1) (off:=k*(kE false).sz+1) (i:=k) (j:=1) (T:=43) (sz:=(kE false).sz) (n:=l.length) (el:=W5 (kE false) l) (c:=dsl false false kU8 (l.getD k zE).Xh) Xii rfl (by omega) (by decide) rfl (X2 rfl) p1h))::(hY 20 (dT hq2)::(hY 21 (dT hq2)::(hS 22 (oY rfl rfl rfl rfl (X2 rfl) (dT hq2) (rCa (X93 false false te false (l.getD k zE).Xh e.Xh ) Tryz.func23 [] [(.tmp 34,slV false false kU8 (l.getD k zE).Xh),(.tmp 36,slV te false kU8 e.Xh)] 0 0))::(hP 23 (dT hq2)::[])))))))))) ?_
   by_cases hq3:(l.getD k zE).Xh=e.Xh
   ·refine cT (dT hq3) (sR [] (T.ret (rB (rT (rT (rB (rT ?_)))))))
    exact eRt 4 (.one (dB true)) [0,1] (by have e1:((decide (e∈l)):Bool)=true:=(by exact dT (mem_get (z:=zE) (k:=k) (by omega) (by rw [Um];exact ⟨by assumption,by assumption⟩)));have hE:=cB e1;exact hE) (ix (ix trivial))
   refine cF (dF hq3) (T.skip (nB (nT (xK [hR 1 rfl rfl (Yb (u1:=.int .i64 ((k:Nat):Int)) (u2:=.int .i64 1) (v:=.int .i64 ((k+1:Nat):Int)) (Wb pZ9) (X2 rfl) ⟨rfl,trivial⟩)] ?_))))
   refine nL (k+1) ⟨(show (k+1)≤l.length from (by omega)),(show ∀ j,j<(k+1)→¬l.getD j zE=e from (Im hb (by rw [Um];intro h1;exact absurd h1.2 ‹_›)))⟩ (show (l.length-(k+1):Nat)<l.length-k from (by omega)) (fun _ _ hG=>Yu [0,1,2] (bm 6 59) rfl rfl hG)
  refine sD [[],[0],[0,1],[0,1,2],[],[0,1,2,3,4],[0,1,2,3,4,5],[0,1,2,3,4,5,6],[],[8],[0,1,2,3,4,5,6,7,8,9],[0,1,2,3,4,5,6,7,8,9,10],[0,1,2,3,4,5,6,7,8,9,10,11],[0,1,2,3,4,5,6,7,8,9,10,11,12],[0,1,2,3,4,5,6,7,8,9,10,11,12,13],[0,1,2,3,4,5,6,7,8,9,10,11,12,13,14],[0,1,2,3,4,5,6,7,8,9,10,11],[0,1,2,3,4,5,6,7,8,9,10,11,12,13,14,15,16],[0,1,2,3,4,5,6,7,8,9,10,11,12,13,14,15,16,17],[0,1,2,3,4,5,6,7,8,9,10,11,12,13,14,15,16,17,18],[0,1,2,3,4,5,6,7,8,9,10,11],[0,1,2,3,4,5,6,7,8,9,10,11,20],[0,1,2,3,4,5,6,7,8,9,10,11,12,13,14,15,16,17,18,19,20,21],[0,1,2,3,4,5,6,7,8,9,10,11,12,13,14,15,16,17,18,19,20,21,22]] (hR 5 rfl rfl (Ww (k:=.i64) (l:=1) (sz:=(kE false).sz) (off:=0) (n:=l.length) (i:=((k:Nat):Int)) (m:=k) (o':=k*(kE false).sz+0) Tryz.underlying37 Vv rfl rfl (by omega) (by simp) (X2 rfl) trivial)::(hR 7 rfl rfl (Jo (l:=1) (off:=k*(kE false).sz+0) (i:=k) (j:=0) (T:=43) (sz:=(kE false).sz) (n:=l.length) (el:=W5 (kE false) l) (c:=.val (.int .i64 (l.getD k zE).f_Signer)) X1a rfl (by omega) (by decide) rfl (X2 rfl) trivial)::(Xl (hN · true (dF hq2)) [12,13,14,15,16,17,18,19,20,21,22] (hP 23 (dF hq2)::[])))) ?_
  refine cF (b:=false) rfl (T.skip (nB (nT (xK [hR 1 rfl rfl (Yb (u1:=.int .i64 ((k:Nat):Int)) (u2:=.int .i64 1) (v:=.int .i64 ((k+1:Nat):Int)) (Wb pZ9) (X2 rfl) ⟨rfl,trivial⟩)] ?_))))
  refine nL (k+1) ⟨(show (k+1)≤l.length from (by omega)),(show ∀ j,j<(k+1)→¬l.getD j zE=e from (Im hb (by rw [Um];intro h1;exact absurd h1.1 ‹_›)))⟩ (show (l.length-(k+1):Nat)<l.length-k from (by omega)) (fun _ _ hG=>Yu [0,1,2] (bm 6 59) rfl rfl hG)
 refine cF (dF hq1) (T.exit (xT (xT (xH (nT (sR [] (T.ret ?_)))))))
 exact eRt 4 (.one (dB false)) [0,1] (cB (by exact dF (Xf5 (z:=zE) (k:=k) (by omega) hb))) (ix (ix trivial))
theorem En:Elem Tryz.prog 37 43 2 32:=⟨Tryz.underlying37,_,_,Vv,rfl,rfl,rfl,rfl,by decide⟩
section
variable (f:Int) (u:Int) (l:List aE) (s:Int) (tb:Bool) (nb:Bool) (b:List UInt8)
abbrev Z16:HS:=.live (.box 135 [dB true,dI f,dI u,.own 1 (kE false).sz 0 l.length])
abbrev Z17:HObj:=Xc 43 (kE false) l
abbrev Z18:HS:=.live ((Z17 l))
abbrev Z19:AV:=vB (!(decide (Uq f u s)))
abbrev Z1a:AV:=vB (decide (((b.length:Nat):Int)>16777216))
abbrev Z1b:List AV:=[pv 0 0,vI s,slV tb nb kU8 b,aa,aa,aa,pv 2 0,vI 11,aa,aa,aa,aa,(Z19 f u s),aa,aa,aa,(Z1a b)]
abbrev Z1c:HS:=.live (.box 43 [dI 0,.d (.val (.slice none 0 0))])
abbrev Z1d:HS:=.live (.box 135 [dB true,dI f,dI u,.own 3 (kE false).sz 0 l.length])
abbrev Z1e:List HS:=[(Z1d f u l),.dead,Z1c,(Z18 l)]
abbrev Z1f:SV:=dU ([]:List UInt8)
abbrev Z1g:List SV:=[dI 0,Z1f]
abbrev Z1h:List AV:=[pv 0 0,vI s,slV tb nb kU8 b,aa,aa,aa,pv 2 0,vI 0,pv 5 0,aa,aa,aa,(Z19 f u s),aa,aa,aa,(Z1a b)]
abbrev Z1i:List SV:=[dI s,dU b]
abbrev Z1j:HS:=.live (.box 43 (Z1i s b))
abbrev Z1k:List AV:=[pv 0 0,vI s,slV tb nb kU8 b,aa,aa,aa,pv 2 0,vI 0,pv 5 0,aa,aa,aa,(Z19 f u s),aa,aa,aa,(Z1a b),aa,aa,aa,aa,aa,aa,aa,aa,aa,vB (!(decide ((aE.mk s b)∈l)))]
abbrev Z1l:List AV:=[pv 0 0,vI s,slV tb nb kU8 b,aa,aa,aa,pv 2 0,vI 30,aa,aa,aa,aa,(Z19 f u s)]
end
theorem Xh7 (f:Int) (u:Int) (l:List aE) (s:Int) (tb:Bool) (nb:Bool) (b:List UInt8) (hf:0≤f∧f≤2) (hu:0≤u∧u≤8) (hs:-9223372036854775808≤s∧s≤9223372036854775807) (hb:b.length≤140737488355328) (hl:l.length≤2147483648):Holds Tryz.prog 27 ⟨[pv 0 0,vI s,slV tb nb kU8 b],[.box 135 [dB true,dI f,dI u,.own 1 (kE false).sz 0 l.length],Xc 43 (kE false) l],.tup [.agg [dI (Hx f u s b).f_Signer,dU (Hx f u s b).Xh],.one (dI (X01 f u s b))],[.live (.box 135 [dB true,dI f,dI u,.own 2 (kE false).sz 0 (Hy f u l s b).length]),.dead,.live (Xc 43 (kE false) (Hy f u l s b))]⟩:=by
 refine Holds.of Tryz.func27 rfl (N:=38) Tryz.ntmps27 rfl fun w0 B0 S0 U0=>?_
 show T _ (Y2 38 2 w0 S0 U0 B0) ⟨[pv 0 0,vI s,slV tb nb kU8 b],[(Z16 f u l),(Z18 l)]⟩ _ _
 refine sR [] (T.seq (sR [hR 2 rfl rfl (rCa (Xel f u l s ‹_› ‹_› ‹_›) Tryz.func69 [0,1] [(.tmp 9,pv 0 0),(.tmp 10,vI s)] 2 2)] ?_))
 by_cases hq1:Uq f u s
 rotate_left
 ·refine cT (cn (dF hq1)) (sR [] (T.ret (rT ?_)))
  refine eN ⟨(Z1l f u s tb nb b),[(Z16 f u l),(Z18 l),Z1c]⟩ ?_
  refine Xa (s':=⟨(Z1l f u s tb nb b),(Z1e f u l)⟩) (fun _ _ hG=>Gs.move (s:=⟨(Z1l f u s tb nb b),[(Z16 f u l),(Z18 l),Z1c]⟩) 1 3 (o:=(Z17 l)) rfl rfl rfl ⟨.inl rfl,p3x⟩ ⟨(.inr py),⟨(.inl ⟨rfl,rfl⟩),⟨(.inr p1a),⟨(.inr (.inl ⟨rfl,rfl⟩)),trivial⟩⟩⟩⟩ hG) ?_
  refine eN ⟨(Z1l f u s tb nb b),(Z1e f u l)⟩ ?_
  refine Xa (s':=⟨(Z1l f u s tb nb b),[(Z1d f u l),.dead,.live (.box 43 Z1g),(Z18 l)]⟩) (fun _ _ hG=>W1 (s:=⟨(Z1l f u s tb nb b),(Z1e f u l)⟩) ⟨.inl rfl,p3x⟩ (kk2 ⟨p3b,⟨.inl rfl,trivial⟩⟩) hG) ?_
  exact eX [.c 6 2 43 0 43 [dI 0,Z1f] (.agg Z1g),.t 7 (.one (dI 30))] ⟨⟨rfl,rfl,by kernel_rfl,by kernel_rfl,.inl ⟨2,E9,rfl,Nat.le_of_ble_eq_true rfl⟩⟩,⟨⟨rfl,by kernel_rfl⟩,trivial⟩⟩ [0,1,3] (by have e1:((Hx f u s b).f_Signer:Int)=0:=pZv;have e2:((Hx f u s b).Xh:List UInt8)=([]:List UInt8):=pZv;have e3:((X01 f u s b):Int)=30:=pZv;have hE:=congr pz e3;exact hE) ⟨⟨rfl,p2s⟩,⟨⟨rfl,p1u⟩,trivial⟩⟩
 refine cF (cn (dT hq1)) (T.skip (nT (T.seq (sR [] ?_))))
 by_cases hq2:((b.length:Nat):Int)>16777216
 ·refine cT (dT hq2) (sR [] (T.ret (rT ?_)))
  refine eN ⟨(Z1b f u s tb nb b),[(Z16 f u l),(Z18 l),Z1c]⟩ ?_
  refine Xa (s':=⟨(Z1b f u s tb nb b),(Z1e f u l)⟩) (fun _ _ hG=>Gs.move (s:=⟨(Z1b f u s tb nb b),[(Z16 f u l),(Z18 l),Z1c]⟩) 1 3 (o:=(Z17 l)) rfl rfl rfl ⟨.inl rfl,(X1z trivial)⟩ ⟨(.inr py),⟨(.inl ⟨rfl,rfl⟩),⟨(.inr p1a),⟨(.inr (.inl ⟨rfl,rfl⟩)),trivial⟩⟩⟩⟩ hG) ?_
  refine eN ⟨(Z1b f u s tb nb b),(Z1e f u l)⟩ ?_
  refine Xa (s':=⟨(Z1b f u s tb nb b),[(Z1d f u l),.dead,.live (.box 43 Z1g),(Z18 l)]⟩) (fun _ _ hG=>W1 (s:=⟨(Z1b f u s tb nb b),(Z1e f u l)⟩) ⟨.inl rfl,(X1z trivial)⟩ (kk2 ⟨p3b,⟨.inl rfl,trivial⟩⟩) hG) ?_
  exact eX [.c 6 2 43 0 43 [dI 0,Z1f] (.agg Z1g),.t 7 (.one (dI 11))] ⟨⟨rfl,rfl,by kernel_rfl,by kernel_rfl,.inl ⟨2,E9,rfl,Nat.le_of_ble_eq_true rfl⟩⟩,⟨⟨rfl,by kernel_rfl⟩,trivial⟩⟩ [0,1,3] (by have e1:((Hx f u s b).f_Signer:Int)=0:=pZv;have e2:((Hx f u s b).Xh:List UInt8)=([]:List UInt8):=pZv;have e3:((X01 f u s b):Int)=11:=pZv;have hE:=congr pz e3;exact hE) ⟨⟨rfl,p2s⟩,⟨⟨rfl,p1u⟩,trivial⟩⟩
 refine cF (dF hq2) (T.skip (nT ?_))
 refine sR [hR 1 rfl rfl (Y7 3 5 kU8 Vk ([]:List UInt8) [] (cs:=[]) Tryz.underlying25 Jh rfl Iu rfl rfl rfl pb W3 pZ4 (V2 pZ4) (X2 rfl) trivial),hR 3 rfl rfl (Yv 3 4 5 1 kU8 Vk ([]:List UInt8) b b ([]:List UInt8).length (sy:=(.d (dsl tb nb kU8 b))) (rhs:=[]) Jb (by omega) (Uv tb nb kU8 b) (by simp) (by (simp [maxLen,-List.getD_eq_getElem?_getD]<;>omega)) (by (simp [maxLen,-List.getD_eq_getElem?_getD]<;>omega)) (X2 rfl) trivial)] ?_
 refine T.seq ?_
 refine tN ⟨(Z1h f u s tb nb b),[(Z16 f u l),(Z18 l),Z1c,.dead,.live (Xc 5 kU8 b),.live (.box 43 [dI s,.own 4 kU8.sz 0 b.length])]⟩ ?_
 refine Wy (s':=⟨(Z1h f u s tb nb b),[(Z16 f u l),(Z18 l),Z1c,.dead,.dead,(Z1j s b)]⟩) (fun _ _ hG=>Gs.freeze (s:=⟨(Z1h f u s tb nb b),[(Z16 f u l),(Z18 l),Z1c,.dead,.live (Xc 5 kU8 b),.live (.box 43 [dI s,.own 4 kU8.sz 0 b.length])]⟩) 4 (el:=W5 kU8 b) (sz:=kU8.sz) (n:=b.length) rfl ⟨.inl rfl,(X1z trivial)⟩ ⟨pZ7,⟨pZ7,⟨pZ7,⟨pZ7,⟨(.inl ⟨rfl,rfl⟩),⟨p3e,trivial⟩⟩⟩⟩⟩⟩ hG) (sR [hR 2 rfl rfl (rCa (Xkk f u l false (aE.mk s b) (by omega)) Tryz.func70 [0,1] [(.tmp 23,pv 0 0),(.tmp 24,.tv (.agg (Z1i s b)))] 2 2)] ?_)
 by_cases hq3:(aE.mk s b)∈l
 ·refine cF (cn (dT hq3)) (T.skip (nT (sR [] (T.ret ?_))))
  refine eN ⟨(Z1k f u l s tb nb b),[(Z16 f u l),(Z18 l),(Z1j s b),.dead,.dead,(Z1j s b)]⟩ ?_
  refine Xa (s':=⟨(Z1k f u l s tb nb b),[.live (.box 135 [dB true,dI f,dI u,.own 6 (kE false).sz 0 l.length]),.dead,(Z1j s b),.dead,.dead,(Z1j s b),(Z18 l)]⟩) (fun _ _ hG=>Gs.move (s:=⟨(Z1k f u l s tb nb b),[(Z16 f u l),(Z18 l),(Z1j s b),.dead,.dead,(Z1j s b)]⟩) 1 6 (o:=(Z17 l)) rfl rfl rfl ⟨.inl rfl,(kk2 p2r)⟩ ⟨(.inr py),⟨(.inl ⟨rfl,rfl⟩),⟨(.inr p1a),⟨(.inr p1a),⟨(.inr p1a),⟨(.inr p1a),⟨(.inr (.inl ⟨rfl,rfl⟩)),trivial⟩⟩⟩⟩⟩⟩⟩ hG) ?_
  exact eX [.c 6 2 43 0 43 [dI s,dU b] (.agg (Z1i s b)),.t 7 (.one (dI 0))] ⟨⟨rfl,rfl,by kernel_rfl,by kernel_rfl,.inl ⟨2,E9,rfl,Nat.le_of_ble_eq_true rfl⟩⟩,⟨⟨rfl,by kernel_rfl⟩,trivial⟩⟩ [0,1,6] p2v ⟨⟨rfl,(by have e1:(l.length:Nat)=(Hy f u l s b).length:=pZv;have hE:=congrArg (fun (q1:Nat)=>(.live (.box 135 [dB true,dI f,dI u,.own 6 (kE false).sz 0 q1]):HS)) e1;exact Eq.trans pZ4 hE)⟩,⟨⟨rfl,p1u⟩,trivial⟩⟩
 refine cT (cn (dF hq3)) ?_
 refine xD [[],[],[1],[1,2],[1,2,3],[],[5],[1,2,3,4,5,6],[0,1,2,3,4,5,6,7],[0,1,2,3,4,5,6,7,8],[0,1,2,3,4,5,6,7,8,9]] [hR 6 rfl rfl (Y7 6 43 (kE false) (W9 false) [(aE.mk s b)] [⟨0,.tmp 32,.agg (Z1i s b),0⟩] (cs:=[dI s,dU b]) Tryz.underlying37 Vv rfl E7 rfl rfl rfl pb (Ym rfl rfl pb W3) pZ4 (V2 pZ4) (X2 rfl) trivial),hR 7 rfl rfl (Yv 1 7 43 32 (kE false) (W9 false) l [(aE.mk s b)] (l++[(aE.mk s b)]) l.length (sy:=(.own 6 (kE false).sz 0 [(aE.mk s b)].length)) (rhs:=[(6,.live (Xc 43 (kE false) [(aE.mk s b)]))]) En (by omega) (V0 6 43 (kE false) [(aE.mk s b)]) px (by (simp [maxLen,-List.getD_eq_getElem?_getD]<;>omega)) (by (simp [maxLen,-List.getD_eq_getElem?_getD]<;>omega)) (X2 rfl) trivial)] pZ4 pZ4 pZ4 pZ4 pZ4 pZ4 ?_
 refine nT (sR [] (T.ret ?_))
 exact eX [.c 6 2 43 0 43 [dI s,dU b] (.agg (Z1i s b)),.t 7 (.one (dI 0))] ⟨⟨rfl,rfl,by kernel_rfl,by kernel_rfl,.inl ⟨2,E9,rfl,Nat.le_of_ble_eq_true rfl⟩⟩,⟨⟨rfl,by kernel_rfl⟩,trivial⟩⟩ [0,1,7] p2v ⟨⟨rfl,(by have e1:((l++[(aE.mk s b)]).length:Nat)=(Hy f u l s b).length:=pZv;have hE:=congrArg (fun (q1:Nat)=>(.live (.box 135 [dB true,dI f,dI u,.own 7 (kE false).sz 0 q1]):HS)) e1;exact Eq.trans pZ4 hE)⟩,⟨⟨rfl,(by have e1:(l++[(aE.mk s b)]:List aE)=(Hy f u l s b):=pZv;have hE:=congrArg (fun (q1:List aE)=>(.live (Xc 43 (kE false) q1):HS)) e1;exact Eq.trans pZ4 hE)⟩,trivial⟩⟩
theorem clip_u8 (tb:Bool) (nb:Bool) (b:List UInt8):Holds Tryz.prog 184 ⟨[slV tb nb kU8 b],[],clV tb nb kU8 b,[]⟩:=by
 refine Holds.of Tryz.func184 rfl (N:=9) Tryz.ntmps184 rfl fun w0 B0 S0 U0=>?_
 show T _ (Y2 9 0 w0 S0 U0 B0) ⟨[slV tb nb kU8 b],[]⟩ _ _
 refine sR [] (sR [hR 5 rfl rfl (q_clip tb nb kU8 b (p:=((b.length:Nat):Int)) (q:=((b.length:Nat):Int)) Tryz.underlying25 Jh rfl (by omega) (by omega) (X2 rfl) trivial)] (T.ret ?_))
 exact eRt 2 (.one (.cl tb nb kU8.sz b.length (W5 kU8 b))) [] rfl trivial
abbrev Z1m (n:Nat):AV:=dv (.int .u64 ((n:Nat):Int))
abbrev Z1n (m:Nat):AV:=vI ((m:Nat):Int)
abbrev Z1o (j:Nat):AV:=vI ((j-1:Nat):Int)
theorem X88 (tb:Bool) (nb:Bool) (b:List UInt8) (n:Nat) (m:Nat) (hb:b.length≤140737488355000) (hn:n<18446744073709551616) (hm:m≤7):Holds Tryz.prog 167 ⟨[slV tb nb kU8 b,dv (.int .u64 ((n:Nat):Int)),vI ((m+1:Nat):Int)],[],Xx 0 kU8 0 (b++(Wh n (m+1))).length,[.live (Xc 5 kU8 (b++(Wh n (m+1))))]⟩:=by
 refine Holds.of Tryz.func167 rfl (N:=22) Tryz.ntmps167 rfl fun w0 B0 S0 U0=>?_
 show T _ (Y2 22 0 w0 S0 U0 B0) ⟨[slV tb nb kU8 b,(Z1m n),vI ((m+1:Nat):Int)],[]⟩ _ _
 refine sR [] (sR [hR 1 rfl rfl (rCa (clip_u8 tb nb b ) Tryz.func184 [] [(.tmp 7,slV tb nb kU8 b)] 0 0)] (T.seq (T.block ?_)))
 refine Xpr ?_
 refine Xk1 (T.seq (sR [] ?_))
 by_cases hq1:((m+1:Nat):Int)>0
 rotate_left
 ·exact absurd (by omega) hq1
 refine cT (dT hq1) (T.skip (nT (T.block (sR [hR 1 rfl rfl (Yb (u1:=.int .i64 ((m+1:Nat):Int)) (u2:=.int .i64 1) (v:=.int .i64 ((m:Nat):Int)) (Vy pZ9) (X2 rfl) ⟨rfl,trivial⟩)] ?_))))
 refine xR [hR 3 rfl rfl (Yb (u1:=.int .i64 8) (u2:=.int .i64 ((m:Nat):Int)) (v:=.int .i64 ((8*m:Nat):Int)) (Xc8 pZ9) (X2 rfl) ⟨rfl,trivial⟩),hR 4 rfl rfl (Yb (u1:=.int .u64 ((n:Nat):Int)) (u2:=.int .i64 ((8*m:Nat):Int)) (v:=.int .u64 ((n / 2 ^ (8*m):Nat):Int)) (Ez (n:=8*m) rfl pn) (X2 rfl) trivial),hR 5 rfl rfl (Vb (u:=.int .u64 ((n / 2 ^ (8*m):Nat):Int)) (v:=.int .u8 (((UInt8.ofNat (n / 2 ^ (8*m))).toNat:Nat):Int)) (F6 Tryz.underlying179 Tryz.underlying5) (X2 rfl) trivial),hR 6 rfl rfl (Y7 0 5 kU8 Vk [(UInt8.ofNat (n / 2 ^ (8*m)))] [⟨0,.tmp 18,.one (.d (.val (.int .u8 (((UInt8.ofNat (n / 2 ^ (8*m))).toNat:Nat):Int)))),0⟩] (cs:=[.d (.val (.int .u8 (((UInt8.ofNat (n / 2 ^ (8*m))).toNat:Nat):Int)))]) Tryz.underlying25 Jh rfl Iu rfl rfl rfl pb (Ym rfl rfl pb W3) pZ4 (V2 pZ4) (X2 rfl) trivial),hR 7 rfl rfl (Xks 1 5 1 tb nb kU8 Vk b [(UInt8.ofNat (n / 2 ^ (8*m)))] (b++[(UInt8.ofNat (n / 2 ^ (8*m)))]) (sy:=(.own 0 kU8.sz 0 [(UInt8.ofNat (n / 2 ^ (8*m)))].length)) (rhs:=[(0,.live (Xc 5 kU8 [(UInt8.ofNat (n / 2 ^ (8*m)))]))]) Jb (by (simp [maxLen,-List.getD_eq_getElem?_getD]<;>omega)) (V0 0 5 kU8 [(UInt8.ofNat (n / 2 ^ (8*m)))]) rfl (by (simp [maxLen,-List.getD_eq_getElem?_getD]<;>omega)) (by (simp [maxLen,-List.getD_eq_getElem?_getD]<;>omega)) (X2 rfl) trivial)] pZ4 pZ4 ?_
 refine nB ?_
 refine nP ?_
 refine TL.loop (ι:=Nat×(List UInt8)) (fun (x_:Nat×(List UInt8))=>⟨[Xx 0 kU8 0 x_.2.length,(Z1m n),vI ((x_.1:Nat):Int)],[.live (Xc 5 kU8 x_.2)]⟩) (fun (x_:Nat×(List UInt8))=>(x_.1≤m)∧(x_.2++Wh n x_.1=b++Wh n (m+1))) (fun (x_:Nat×(List UInt8))=>x_.1) (m,b++[UInt8.ofNat (n / 2 ^ (8*m))]) ⟨(Nat.le_refl _),(by rw [List.append_assoc];rfl)⟩ (fun _ _ hG=>Wf [1] [true,true,true] (t1:=[Xx 1 kU8 0 (b++[UInt8.ofNat (n / 2 ^ (8*m))]).length,(Z1m n),(Z1n m)]) (t2:=[Xx 1 kU8 0 (b++[(UInt8.ofNat (n / 2 ^ (8*m)))]).length,(Z1m n),(Z1n m)]) (h1:=[.live (Xc 5 kU8 (b++[UInt8.ofNat (n / 2 ^ (8*m))]))]) (h2:=[.live (Xc 5 kU8 (b++[(UInt8.ofNat (n / 2 ^ (8*m)))]))]) (congrArg (fun (q1:Nat)=>([Xx 1 kU8 0 q1,(Z1m n),(Z1n m)]:List AV)) (by rfl)) p1v hG) ?_
 rintro ⟨j,acc⟩ ⟨hj,he⟩
 show T _ _ ⟨[Xx 0 kU8 0 acc.length,(Z1m n),vI ((j:Nat):Int)],[.live (Xc 5 kU8 acc)]⟩ _ _
 replace hj:j≤m:=hj
 replace he:acc++Wh n j=b++Wh n (m+1):=he
 have hacc:=X8h he
 refine T.seq (sR [] ?_)
 by_cases hq2:((j:Nat):Int)>0
 ·refine cT (dT hq2) (T.skip (nT (T.block (sR [hR 1 rfl rfl (Yb (u1:=.int .i64 ((j:Nat):Int)) (u2:=.int .i64 1) (v:=.int .i64 ((j-1:Nat):Int)) (Vy pZ9) (X2 rfl) ⟨rfl,trivial⟩)] ?_))))
  refine xR [hR 3 rfl rfl (Yb (u1:=.int .i64 8) (u2:=.int .i64 ((j-1:Nat):Int)) (v:=.int .i64 ((8*(j-1):Nat):Int)) (Xc8 pZ9) (X2 rfl) ⟨rfl,trivial⟩),hR 4 rfl rfl (Yb (u1:=.int .u64 ((n:Nat):Int)) (u2:=.int .i64 ((8*(j-1):Nat):Int)) (v:=.int .u64 ((n / 2 ^ (8*(j-1)):Nat):Int)) (Ez (n:=8*(j-1)) rfl pn) (X2 rfl) trivial),hR 5 rfl rfl (Vb (u:=.int .u64 ((n / 2 ^ (8*(j-1)):Nat):Int)) (v:=.int .u8 (((UInt8.ofNat (n / 2 ^ (8*(j-1)))).toNat:Nat):Int)) (F6 Tryz.underlying179 Tryz.underlying5) (X2 rfl) trivial),hR 6 rfl rfl (Y7 1 5 kU8 Vk [(UInt8.ofNat (n / 2 ^ (8*(j-1))))] [⟨0,.tmp 18,.one (.d (.val (.int .u8 (((UInt8.ofNat (n / 2 ^ (8*(j-1)))).toNat:Nat):Int)))),0⟩] (cs:=[.d (.val (.int .u8 (((UInt8.ofNat (n / 2 ^ (8*(j-1)))).toNat:Nat):Int)))]) Tryz.underlying25 Jh rfl Iu rfl rfl rfl pb (Ym rfl rfl pb W3) pZ4 (V2 pZ4) (X2 rfl) trivial),hR 7 rfl rfl (Yv 0 2 5 1 kU8 Vk acc [(UInt8.ofNat (n / 2 ^ (8*(j-1))))] (acc++[(UInt8.ofNat (n / 2 ^ (8*(j-1))))]) acc.length (sy:=(.own 1 kU8.sz 0 [(UInt8.ofNat (n / 2 ^ (8*(j-1))))].length)) (rhs:=[(1,.live (Xc 5 kU8 [(UInt8.ofNat (n / 2 ^ (8*(j-1))))]))]) Jb (by omega) (V0 1 5 kU8 [(UInt8.ofNat (n / 2 ^ (8*(j-1))))]) px (by (simp [maxLen,-List.getD_eq_getElem?_getD]<;>omega)) (by (simp [maxLen,-List.getD_eq_getElem?_getD]<;>omega)) (X2 rfl) trivial)] pZ4 pZ4 ?_
  refine nB ?_
  refine nL (j-1,acc++[UInt8.ofNat (n / 2 ^ (8*(j-1)))]) ⟨(show (j-1)≤m from (by omega)),(show (acc++[UInt8.ofNat (n / 2 ^ (8*(j-1)))])++Wh n (j-1)=b++Wh n (m+1) from (X8g he (by omega)))⟩ (show ((j-1):Nat)<j from (by omega)) (fun _ _ hG=>Wf [2] [true,true,true] (t1:=[Xx 2 kU8 0 (acc++[UInt8.ofNat (n / 2 ^ (8*(j-1)))]).length,(Z1m n),(Z1o j)]) (t2:=[Xx 2 kU8 0 (acc++[(UInt8.ofNat (n / 2 ^ (8*(j-1))))]).length,(Z1m n),(Z1o j)]) (h1:=[.live (Xc 5 kU8 (acc++[UInt8.ofNat (n / 2 ^ (8*(j-1)))]))]) (h2:=[.live (Xc 5 kU8 (acc++[(UInt8.ofNat (n / 2 ^ (8*(j-1))))]))]) (congrArg (fun (q1:Nat)=>([Xx 2 kU8 0 q1,(Z1m n),(Z1o j)]:List AV)) (by rfl)) p1v hG)
 refine cF (dF hq2) (T.exit (xT (xT (xH (nT (sR [] (T.ret ?_)))))))
 exact eRt 6 (.one (.own 0 kU8.sz 0 acc.length)) [0] (by have e1:((b++(Wh n (m+1))).length:Nat)=acc.length:=p4g;have hE:=congrArg (fun (q1:Nat)=>(Xx 0 kU8 0 q1:AV)) e1;exact hE) ⟨⟨rfl,(by have e1:(acc:List UInt8)=b++(Wh n (m+1)):=p4g;have hE:=congrArg (fun (q1:List UInt8)=>(.live (Xc 5 kU8 q1):HS)) e1;exact Eq.trans pZ4 hE)⟩,trivial⟩
end Go.Proofs.YtnaopgohccacmaaGreat.Q
