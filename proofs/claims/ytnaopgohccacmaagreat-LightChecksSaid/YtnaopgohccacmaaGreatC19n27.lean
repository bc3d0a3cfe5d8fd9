import Derived.Test.YtnaopgohccacmaaGreatC19n26
namespace Go.Proofs.YtnaopgohccacmaaGreat.Q
open Go Go.RowKit
set_option linter.unusedVariables false
set_option linter.unusedSimpArgs false
set_option maxRecDepth 100000
set_option maxHeartbeats 4000000
section
variable (b:List UInt8)
abbrev Zfu:AV:=vB (decide (((b.length:Nat):Int)>16777216))
abbrev Zfv:List AV:=[slV false false kU8 b,aa,pv 0 0,vI 11,aa,aa,aa,aa,aa,aa,aa,(Zfu b)]
abbrev Zfw:SV:=.d (.val (.slice none 0 0))
abbrev Zfx:HS:=.live (.box 78 [dI 0,dI 0,dI 0,dI 0,dI 0,dS [],Zfw,dI 0,dI 0,Zfw,Zfw,Zfw])
abbrev Zfy:SV:=dU ([]:List UInt8)
abbrev Zfz:SV:=.d (dsl false false (kE false) ([]:List aE))
abbrev Zg0:SV:=.d (dsl false false (kC false) ([]:List aC))
abbrev Zg1:List SV:=[dI 0,dI 0,dI 0,dI 0,dI 0,dS [],Zfy,dI 0,dI 0,Zfz,Zfz,Zg0]
abbrev Zg2:List AV:=[slV false false kU8 b,aa,pv 0 0,vI 0,pv 1 0,aa,aa,aa,aa,aa,aa,(Zfu b)]
abbrev Zg3:List HS:=[Zfx,.live (.box 156 [dU b,dI 0,dI 0])]
abbrev Zg4:List HS:=[Zfx,.live (.box 156 [dU b,dI ((V8 b b:Nat):Int),dI 0])]
abbrev Zg5:List SV:=[dB (Xj (rdI b 0)).Y1,dB (Xj (rdI b 0)).Xo,dB (Xj (rdI b 0)).Xi,dB (Xj (rdI b 0)).X8,dB (Xj (rdI b 0)).Xa,dB (Xj (rdI b 0)).X1,dB (Xj (rdI b 0)).Xp,dB (Xj (rdI b 0)).Y5,dB (Xj (rdI b 0)).X5]
abbrev Zg6:List AV:=[slV false false kU8 b,aa,pv 0 0,vI 12,pv 1 0,vI (rdI b 0),pv 2 0,vB (decide (okK (rdI b 0))),pv 3 0,aa,aa,(Zfu b),aa,aa,aa,aa,aa,aa,aa,aa,aa,aa,aa,aa,aa,aa,aa,aa,aa,aa,aa,aa,aa,aa,aa,aa,aa,aa,aa,aa,aa,aa,aa,vB true]
abbrev Zg7:=(Xx 1099511627776 1099511627776 (rdR b 0 8 0) (rdE b 0 8 0) (rdI b 0) 9)
abbrev Zg8:HS:=.live (.box 156 [dU b,dI ((V8 b (Zg7 b).rest:Nat):Int),dI (rdX (Zg7 b).rest (Zg7 b).e)])
abbrev Zg9:List SV:=[dI (Zg7 b).m.X2,dI (Zg7 b).m.Y1,dI (Zg7 b).m.Xo,dI (Zg7 b).m.Xi,dI (Zg7 b).m.Yj,dS (Zg7 b).m.X8,dU (Zg7 b).m.Xa,dI (Zg7 b).m.X1.Xw,dI (Zg7 b).m.X1.Xn,.d (dsl false false (kE false) (Zg7 b).m.Xp),.d (dsl false false (kE false) (Zg7 b).m.Y5),.d (dsl false false (kC false) (Zg7 b).m.X5)]
abbrev Zga:List HS:=[Zfx,(Zg8 b),.live (.box 119 (Zg5 b)),.live (.box 78 (Zg9 b))]
abbrev Zgb:List HS:=[.live (.box 78 Zg1),(Zg8 b),.live (.box 119 (Zg5 b)),.live (.box 78 (Zg9 b))]
abbrev Zgc:List AV:=[slV false false kU8 b,aa,pv 0 0,vI 12,pv 1 0,vI (rdI b 0),pv 2 0,vB (decide (okK (rdI b 0))),pv 3 0,aa,aa,(Zfu b),aa,aa,aa,aa,aa,aa,aa,aa,aa,aa,aa,aa,aa,aa,aa,aa,aa,aa,aa,aa,aa,aa,aa,aa,aa,aa,aa,aa,aa,aa,aa,vB (decide ((X7f (Zg7 b).m)≠0))]
end
theorem Xc0 (b:List UInt8) (hb:b.length≤140737488350000):Holds Tryz.prog 172 ⟨[slV false false kU8 b],[],.tup [.agg [dI (Wl b).X2,dI (Wl b).Y1,dI (Wl b).Xo,dI (Wl b).Xi,dI (Wl b).Yj,dS (Wl b).X8,dU (Wl b).Xa,dI (Wl b).X1.Xw,dI (Wl b).X1.Xn,.d (dsl false false (kE false) (Wl b).Xp),.d (dsl false false (kE false) (Wl b).Y5),.d (dsl false false (kC false) (Wl b).X5)],.one (dI (X0w b))],[]⟩:=by
 refine Holds.of Tryz.func172 rfl (N:=46) Tryz.ntmps172 rfl fun w0 B0 S0 U0=>?_
 show T _ (Y2 46 0 w0 S0 U0 B0) ⟨[slV false false kU8 b],[]⟩ _ _
 obtain ⟨hf1,hf2,hf3,hf4,hf5⟩:=X4f 1099511627776 1099511627776 (rdR b 0 8 0) (rdE b 0 8 0) (rdI b 0) 9
 have hr1:=U3 b 0 8 0
 refine sR [] ?_
 refine T.seq ?_
 refine sR [] ?_
 by_cases hq1:((b.length:Nat):Int)>16777216
 ·have hd9:=Xf2 (M:=((b.length:Nat):Int)) (N:=16777216) (b:=b) (by omega)
  refine cT (dT hq1) ?_
  refine sR [] ?_
  refine T.ret (rT ?_)
  refine eN ⟨(Zfv b),[Zfx]⟩ ?_
  refine Xc (s':=⟨(Zfv b),[.live (.box 78 Zg1)]⟩) (fun _ _ hG=>Ys (s:=⟨(Zfv b),[Zfx]⟩) p3w ⟨pq,trivial⟩ hG) ?_
  exact eX [.c 2 0 78 0 78 [dI 0,dI 0,dI 0,dI 0,dI 0,dS [],Zfy,dI 0,dI 0,Zfz,Zfz,Zg0] (.agg Zg1),.t 3 (.one (dI 11))] ⟨⟨rfl,rfl,by kernel_rfl,by kernel_rfl,.inl ⟨12,Wp,rfl,Nat.le_of_ble_eq_true rfl⟩⟩,⟨⟨rfl,by kernel_rfl⟩,trivial⟩⟩ [] pi trivial
 have hbl:¬b.length>16777216:=(by omega)
 refine cF (dF hq1) ?_
 refine T.skip (nT ?_)
 refine sR [] ?_
 refine tN ⟨(Zg2 b),(Zg3 b)⟩ ?_
 refine Wv (s':=⟨(Zg2 b),(Zg4 b)⟩) (fun _ _ hG=>Yt [0,1] (bm 12 2077) (h2:=(Zg3 b)) rfl (by have e1:(((V8 b b:Nat):Int):Int)=0:=(by (rw [pos_0];rfl));have hE:=congrArg (fun (q1:Int)=>([Zfx,.live (.box 156 [dU b,dI q1,dI 0])]:List HS)) e1;exact hE) hG) ?_
 refine sR [hR 1 rfl rfl (rCa (I8 b b 0 (by repeat exact List.suffix_refl _) ‹_›) Tryz.func94 [1] [(.tmp 16,pv 1 0)] 1 1)] ?_
 refine sR [hR 1 rfl rfl (rCa (X0c (rdI b 0) ) Tryz.func62 [] [(.tmp 19,vI (rdI b 0))] 0 0)] ?_
 refine sR [hR 4 rfl rfl (rCa (Xiy b (rdR b 0 8 0) (rdE b 0 8 0) (rdI b 0) (aH.mk (Xj (rdI b 0)).Y1 (Xj (rdI b 0)).Xo (Xj (rdI b 0)).Xi (Xj (rdI b 0)).X8 (Xj (rdI b 0)).Xa (Xj (rdI b 0)).X1 (Xj (rdI b 0)).Xp (Xj (rdI b 0)).Y5 (Xj (rdI b 0)).X5) pe (by omega) rfl) Tryz.func185 [1] [(.tmp 23,pv 1 0),(.tmp 25,.tv (.agg [dI (rdI b 0),dI 0,dI 0,dI 0,dI 0,dS [],Zfw,dI 0,dI 0,Zfw,Zfw,Zfw])),(.tmp 26,.tv (.agg (Zg5 b)))] 1 1)] ?_
 refine sR [hR 1 rfl rfl (rCa (Xg2 b (Xx 1099511627776 1099511627776 (rdR b 0 8 0) (rdE b 0 8 0) (rdI b 0) 9).rest (Xx 1099511627776 1099511627776 (rdR b 0 8 0) (rdE b 0 8 0) (rdI b 0) 9).e pe ‹_›) Tryz.func96 [1] [(.tmp 28,pv 1 0)] 1 1)] ?_
 refine T.seq ?_
 by_cases hq2:okK (rdI b 0)
 rotate_left
 ·have hd9:=X6a (M:=((b.length:Nat):Int)) (N:=16777216) (fun q=>hq2 q.2.1) hbl
  refine sR (Xm (hN · false (cn (dF hq2))) [3,4,5,6,7] (hP 8 (cn (dF hq2))::(Xm hN0 [10,11,12] (hP1 13::[])))) ?_
  refine cT (b:=true) rfl ?_
  refine sR [] ?_
  refine T.ret (rT ?_)
  refine eN ⟨(Zg6 b),(Zga b)⟩ ?_
  refine Xc (s':=⟨(Zg6 b),(Zgb b)⟩) (fun _ _ hG=>Ys (s:=⟨(Zg6 b),(Zga b)⟩) (kk4 p3u) ⟨pq,⟨.inl rfl,(kk2 trivial)⟩⟩ hG) ?_
  exact eX [.c 2 0 78 0 78 [dI 0,dI 0,dI 0,dI 0,dI 0,dS [],Zfy,dI 0,dI 0,Zfz,Zfz,Zg0] (.agg Zg1),.t 3 (.one (dI 12))] ⟨⟨rfl,rfl,by kernel_rfl,by kernel_rfl,.inl ⟨12,Wp,rfl,Nat.le_of_ble_eq_true rfl⟩⟩,⟨⟨rfl,by kernel_rfl⟩,trivial⟩⟩ [] pi trivial
 by_cases hq3:(rdX (Xx 1099511627776 1099511627776 (rdR b 0 8 0) (rdE b 0 8 0) (rdI b 0) 9).rest (Xx 1099511627776 1099511627776 (rdR b 0 8 0) (rdE b 0 8 0) (rdI b 0) 9).e)≠0
 ·have hd9:=X9w (b:=b) (fun q=>hq3 q.2.2.1) hbl
  refine sR (Xm (hY · (cn (dT hq2))) [3,4,5,6,7] (hP 8 (cn (dT hq2))::(Xm (hN · false (dT hq3)) [10,11,12] (hP 13 (dT hq3)::[])))) ?_
  refine cT (b:=true) rfl ?_
  refine sR [] ?_
  refine T.ret (rT ?_)
  refine eN ⟨(Zg6 b),(Zga b)⟩ ?_
  refine Xc (s':=⟨(Zg6 b),(Zgb b)⟩) (fun _ _ hG=>Ys (s:=⟨(Zg6 b),(Zga b)⟩) (kk4 p3u) ⟨pq,⟨.inl rfl,(kk2 trivial)⟩⟩ hG) ?_
  exact eX [.c 2 0 78 0 78 [dI 0,dI 0,dI 0,dI 0,dI 0,dS [],Zfy,dI 0,dI 0,Zfz,Zfz,Zg0] (.agg Zg1),.t 3 (.one (dI 12))] ⟨⟨rfl,rfl,by kernel_rfl,by kernel_rfl,.inl ⟨12,Wp,rfl,Nat.le_of_ble_eq_true rfl⟩⟩,⟨⟨rfl,by kernel_rfl⟩,trivial⟩⟩ [] pi trivial
 refine sR (Xm (hY · (cn (dT hq2))) [3,4,5,6,7] (hP 8 (cn (dT hq2))::(hY 10 (dF hq3)::(hS 11 (oY rfl rfl rfl rfl (X3 rfl) (dF hq3) (rCa (X6u false (Xx 1099511627776 1099511627776 (rdR b 0 8 0) (rdE b 0 8 0) (rdI b 0) 9).m (by omega) (by omega) (by omega) (by omega) (by omega)) Tryz.func61 [] [(.tmp 40,.tv (.agg (Zg9 b)))] 0 0))::(hY 12 (dF hq3)::(hP 13 (dF hq3)::[])))))) ?_
 by_cases hq4:(X7f (Xx 1099511627776 1099511627776 (rdR b 0 8 0) (rdE b 0 8 0) (rdI b 0) 9).m)≠0
 ·have hd9:=X9w (b:=b) (fun q=>hq4 (chk0.2 q.2.2.2)) hbl
  refine cT (dT hq4) ?_
  refine sR [] ?_
  refine T.ret (rT ?_)
  refine eN ⟨(Zgc b),(Zga b)⟩ ?_
  refine Xc (s':=⟨(Zgc b),(Zgb b)⟩) (fun _ _ hG=>Ys (s:=⟨(Zgc b),(Zga b)⟩) (kk4 p3u) ⟨pq,⟨.inl rfl,(kk2 trivial)⟩⟩ hG) ?_
  exact eX [.c 2 0 78 0 78 [dI 0,dI 0,dI 0,dI 0,dI 0,dS [],Zfy,dI 0,dI 0,Zfz,Zfz,Zg0] (.agg Zg1),.t 3 (.one (dI 12))] ⟨⟨rfl,rfl,by kernel_rfl,by kernel_rfl,.inl ⟨12,Wp,rfl,Nat.le_of_ble_eq_true rfl⟩⟩,⟨⟨rfl,by kernel_rfl⟩,trivial⟩⟩ [] pi trivial
 have hd9:=Xf3 (b:=b) ⟨by omega,by assumption,Classical.not_not.1 ‹_›,chk0.1 (Classical.not_not.1 hq4)⟩
 refine cF (dF hq4) ?_
 refine T.skip (nT ?_)
 refine sR [] ?_
 refine T.ret ?_
 exact eX [.c 2 0 78 0 78 [dI (Zg7 b).m.X2,dI (Zg7 b).m.Y1,dI (Zg7 b).m.Xo,dI (Zg7 b).m.Xi,dI (Zg7 b).m.Yj,dS (Zg7 b).m.X8,dU (Zg7 b).m.Xa,dI (Zg7 b).m.X1.Xw,dI (Zg7 b).m.X1.Xn,.d (dsl false false (kE false) (Zg7 b).m.Xp),.d (dsl false false (kE false) (Zg7 b).m.Y5),.d (dsl false false (kC false) (Zg7 b).m.X5)] (.agg (Zg9 b)),.t 3 (.one (dI 0))] ⟨⟨rfl,rfl,by kernel_rfl,by kernel_rfl,.inl ⟨12,Wp,rfl,Nat.le_of_ble_eq_true rfl⟩⟩,⟨⟨rfl,by kernel_rfl⟩,trivial⟩⟩ [] pi trivial
end Go.Proofs.YtnaopgohccacmaaGreat.Q
namespace Go.Proofs.YtnaopgohccacmaaGreat.Q
set_option linter.unusedVariables false
set_option linter.unusedSimpArgs false
set_option maxRecDepth 100000
theorem Xgs (m:aM):(Yb m 9).length≤80+m.X8.length+m.Xa.length+(Vo m.Xp).length+(Vo m.Y5).length+(Ep m.X5).length:=by
  have s:∀ j,(Yb m (j+1)).length≤(Yb m j).length+(Fa m j).length:=fun j=>by
    rw [Yb,List.length_append]
    split
    · exact Nat.le_refl _
    · simp
  have h0:(Yb m 0).length=8:=Wq _
  have f0:(Fa m 0).length=8:=Wq _
  have f1:(Fa m 1).length=8:=Wq _
  have f2:(Fa m 2).length=16:=by simp only [Fa,List.length_append,Wq]
  have f3:(Fa m 3).length=4+m.X8.length:=(Vg _).trans (Nat.add_comm _ _)
  have f4:(Fa m 4).length=4+m.Xa.length:=(Vg _).trans (Nat.add_comm _ _)
  have f5:(Fa m 5).length=16:=by simp only [Fa,List.length_append,Wq]
  have f6:(Fa m 6).length=(Vo m.Xp).length:=rfl
  have f7:(Fa m 7).length=(Vo m.Y5).length:=rfl
  have f8:(Fa m 8).length=(Ep m.X5).length:=rfl
  have s0:=s 0
  have s1:=s 1
  have s2:=s 2
  have s3:=s 3
  have s4:=s 4
  have s5:=s 5
  have s6:=s 6
  have s7:=s 7
  have s8:=s 8
  simp only [Nat.reduceAdd] at s0 s1 s2 s3 s4 s5 s6 s7 s8
  omega
end Go.Proofs.YtnaopgohccacmaaGreat.Q
