import Derived.Test.YthnefnknoahbkaaGreatC18n2
namespace Go.Proofs.YthnefnknoahbkaaGreat.Q
open Go Go.RowKit
set_option linter.unusedVariables false
set_option linter.unusedSimpArgs false
set_option maxRecDepth 100000
set_option maxHeartbeats 4000000
abbrev Z10 (f:Int) (u:Int) (rows:List (Xv×Bool)) (x:List Int):List HS:=[.live (.box 99 [dI (3*f+1),dI u,.mref 1]),.live (mpK X9 Y6 rows),.live (.box 26 [.ptr 0 0]),.live (Xc 3 (Y8 .i64) (J2 (Ul f x)))]
abbrev Z11 (f:Int) (tx:Bool) (nx:Bool) (x:List Int):List AV:=[pv 0 0,slV tx nx (Y8 .i64) x,pv 2 0,aa,vI 0,Xx 3 (Y8 .i64) 0 (J2 (Ul f x)).length]
theorem X4d (f:Int) (u:Int) (rows:List (Xv×Bool)) (tx:Bool) (nx:Bool) (x:List Int) (hf:0≤f∧f≤2) (hu:0≤u∧u≤8) (hx:x.length≤1000000):Holds Tryz.prog 9 ⟨[pv 0 0,slV tx nx (Y8 .i64) x],[.box 99 [dI (3*f+1),dI u,.mref 1],mpK X9 Y6 rows],vI ((X3l f x:Nat):Int),[.live (.box 99 [dI (3*f+1),dI u,.mref 1]),.live (mpK X9 Y6 rows)]⟩:=by
 refine Holds.of Tryz.func9 rfl (N:=15) Tryz.ntmps9 rfl fun w0 B0 S0 U0=>?_
 show T _ (Y0 15 2 w0 S0 U0 B0) ⟨[pv 0 0,slV tx nx (Y8 .i64) x],[.live (.box 99 [dI (3*f+1),dI u,.mref 1]),.live (mpK X9 Y6 rows)]⟩ _ _
 have hfl:=fil_len f x
 have hsl:=X22 (Ul f x)
 have hci:=cnt_is hf x
 refine sR [] (sR [hR 1 rfl rfl (rCa (Xg0 tx nx x ‹_›) Tryz.func33 [3] [(.tmp 6,slV tx nx (Y8 .i64) x)] 0 1),hR 2 rfl rfl (Xfb (f:=34) (ls:=[(.tmp 2,2)]) rfl (X4 rfl) trivial),hR 3 rfl rfl (rCa (Xco f u rows x ‹_› ‹_› ‹_›) Tryz.func32 [3,2,0,1] [(.tmp 7,Xx 3 (Y8 .i64) 0 x.length),(.tmp 8,sv (.clo 34 [2]))] 4 4)] (sR [hR 1 rfl rfl (rCa (sort_int (Ul f x) (by omega)) Tryz.func36 [3] [(.tmp 10,Xx 3 (Y8 .i64) 0 (Ul f x).length)] 1 1)] ?_))
 refine tN ⟨[pv 0 0,slV tx nx (Y8 .i64) x,pv 2 0,aa,vI 0,Xx 3 (Y8 .i64) 0 (Ul f x).length],(Z10 f u rows x)⟩ ?_
 refine Wv (s':=⟨(Z11 f tx nx x),(Z10 f u rows x)⟩) (fun _ _ hG=>Y9 [0,1,2,3] (bm 6 55) (t2:=[pv 0 0,slV tx nx (Y8 .i64) x,pv 2 0,aa,vI 0,Xx 3 (Y8 .i64) 0 (Ul f x).length]) (congrArg (fun (q1:Nat)=>([pv 0 0,slV tx nx (Y8 .i64) x,pv 2 0,aa,vI 0,Xx 3 (Y8 .i64) 0 q1]:List AV)) (by exact X22 _)) rfl hG) (sR [hR 1 rfl rfl (rCa (Xb8 (J2 (Ul f x)) (by omega)) Tryz.func37 [3] [(.tmp 12,Xx 3 (Y8 .i64) 0 (J2 (Ul f x)).length)] 1 1)] (T.ret ?_))
 exact eRt 4 (.one (dI (((X06 (J2 (Ul f x))).length:Nat):Int))) [0,1] (by have e1:(((X3l f x:Nat):Int):Int)=(((X06 (J2 (Ul f x))).length:Nat):Int):=(by (rw [hci]));have hE:=cI e1;exact hE) (ix (ix trivial))
end Go.Proofs.YthnefnknoahbkaaGreat.Q
namespace Go.Proofs.YthnefnknoahbkaaGreat.Q
set_option linter.unusedVariables false
set_option linter.unusedSimpArgs false
set_option maxRecDepth 100000
def accR (f:Int) (l:List Int):Nat→List Int
  | 0=>[]
  | k+1=>if Yg f (l.getD k 0)∧¬l.getD k 0∈accR f l k then accR f l k++[l.getD k 0] else accR f l k
theorem X3p (f:Int) (l:List Int):∀ k,(accR f l k).Nodup
  | 0=>List.nodup_nil
  | k+1=>by
    have ih:=X3p f l k
    rw [accR];split
    · rename_i h
      rw [List.nodup_append]
      exact ⟨ih,by simp,fun a ha b hb=>by rw [List.mem_singleton] at hb;subst hb;exact fun e=>h.2 (e ▸ ha)⟩
    · exact ih
theorem X0x {f:Int} {l:List Int} {s:Int}:∀ {k:Nat},(s∈accR f l k↔Yg f s∧∃ m,m<k∧l.getD m 0=s)
  | 0=>⟨p1b,fun ⟨_,m,h,_⟩=>absurd h (Nat.not_lt_zero _)⟩
  | k+1=>by
    rw [accR];split
    · rename_i h
      rw [List.mem_append,List.mem_singleton,X0x (k:=k)]
      exact ⟨fun w=>w.elim (fun ⟨h0,m,h1,h2⟩=>⟨h0,m,by omega,h2⟩) fun w=>⟨w ▸ h.1,k,by omega,w.symm⟩,fun ⟨h0,m,h1,h2⟩=>by
        rcases Nat.lt_or_ge m k with q|q
        · exact .inl ⟨h0,m,q,h2⟩
        · exact .inr (by rw [← h2,show m=k by omega])⟩
    · rename_i h
      rw [X0x (k:=k)]
      exact ⟨fun ⟨h0,m,h1,h2⟩=>⟨h0,m,by omega,h2⟩,fun ⟨h0,m,h1,h2⟩=>by
        rcases Nat.lt_or_ge m k with q|q
        · exact ⟨h0,m,q,h2⟩
        · have e:l.getD k 0=s:=by rw [← h2,show m=k by omega]
          have:=Classical.not_not.1 fun w=>h ⟨e ▸ h0,w⟩
          rw [e] at this
          obtain ⟨_,h3⟩:=X0x.1 this
          exact ⟨h0,h3⟩⟩
theorem Xcp {f:Int} (hf:0≤f∧f≤2) {l r:List Int} (h1:r.Nodup) (hm:∀ s,s∈r↔Yg f s∧s∈l):r.length=X3l f l:=by
  have h2:(((List.range (3*f+1).toNat).filter fun (i:Nat)=>decide (((i:Nat):Int)∈l)).map Int.ofNat).Nodup:=List.pairwise_map.2 ((List.nodup_range.sublist List.filter_sublist).imp fun hab e=>hab (Int.ofNat.inj e))
  have hm2:∀ s,s∈r↔s∈((List.range (3*f+1).toNat).filter fun (i:Nat)=>decide (((i:Nat):Int)∈l)).map Int.ofNat:=fun s=>by
    rw [hm,List.mem_map]
    constructor
    · rintro ⟨h4,h3⟩
      refine ⟨s.toNat,List.mem_filter.2 ⟨List.mem_range.2 (by have:=h4.1;have:=h4.2;omega),decide_eq_true ?_⟩,?_⟩
      · rw [show ((s.toNat:Nat):Int)=s by have:=h4.1;omega];exact h3
      · show ((s.toNat:Nat):Int)=s;have:=h4.1;omega
    · rintro ⟨i,h3,rfl⟩
      obtain ⟨h4,h5⟩:=List.mem_filter.1 h3
      have h4:=List.mem_range.1 h4
      exact ⟨⟨Int.natCast_nonneg _,by show ((i:Nat):Int)<_;omega⟩,by simpa using h5⟩
  have:=((List.perm_ext_iff_of_nodup h1 h2).2 hm2).length_eq
  rw [this,List.length_map];rfl
theorem Xek {f:Int} (hf:0≤f∧f≤2) (l:List Int):(accR f l l.length).length=X3l f l:=Xcp hf (X3p f l _) fun s=>by
  rw [X0x]
  refine and_congr Iff.rfl ⟨fun ⟨m,h1,h2⟩=>h2 ▸ Vn h1,fun h=>?_⟩
  obtain ⟨m,hm,rfl⟩:=List.getElem_of_mem h
  exact ⟨m,hm,getI hm⟩
section
variable {f:Int} {l:List aE} {k:Nat}
end
section
variable {P:Program}
end
end Go.Proofs.YthnefnknoahbkaaGreat.Q
namespace Go.Proofs.YthnefnknoahbkaaGreat.Q
open Go Go.RowKit
set_option linter.unusedVariables false
set_option linter.unusedSimpArgs false
set_option maxRecDepth 100000
set_option maxHeartbeats 4000000
theorem Xbw (ta:Bool) (tb:Bool) (a:aE) (b:aE):Holds Tryz.prog 42 ⟨[.tv (.agg [dI a.f_Signer,.d (dsl ta false kU8 a.X7)]),.tv (.agg [dI b.f_Signer,.d (dsl tb false kU8 b.X7)])],[],vB (decide (a=b)),[]⟩:=by
 refine Holds.of Tryz.func42 rfl (N:=17) Tryz.ntmps42 rfl fun w0 B0 S0 U0=>?_
 show T _ (Y0 17 0 w0 S0 U0 B0) ⟨[.tv (.agg [dI a.f_Signer,.d (dsl ta false kU8 a.X7)]),.tv (.agg [dI b.f_Signer,.d (dsl tb false kU8 b.X7)])],[]⟩ _ _
 refine sR [] ?_
 by_cases hq1:a.f_Signer=b.f_Signer
 ·refine sR (Xf (hY · (dT hq1)) [6,7,8,9] (hS 10 (oY rfl rfl rfl rfl (X4 rfl) (dT hq1) (rCa (X5z ta false tb false a.X7 b.X7 ) Tryz.func77 [] [(.tmp 12,slV ta false kU8 a.X7),(.tmp 14,slV tb false kU8 b.X7)] 0 0))::(hP 11 (dT hq1)::[]))) (T.ret ?_)
  exact eRt 4 (.one (dB (decide (a.X7=b.X7)))) [] (by have e1:((decide (a=b)):Bool)=(decide (a.X7=b.X7)):=(by simp [Ut, *]);have hE:=cB e1;exact hE) trivial
 refine sR (Xf (hN · true (dF hq1)) [6,7,8,9,10] (hP 11 (dF hq1)::[])) (T.ret ?_)
 exact eRt 4 (.one (dB false)) [] (by have e1:((decide (a=b)):Bool)=false:=(by simp [Ut, *]);have hE:=cB e1;exact hE) trivial
theorem Xf6 (f:Int) (u:Int):Holds Tryz.prog 13 ⟨[vI f,vI u],[],pv 0 0,[.live (.box 49 [dB true,dI (fOf f),dI (cOf u),.own 1 (kE false).sz 0 ([]:List aE).length]),.live (Xc 53 (kE false) ([]:List aE))]⟩:=by
 refine Holds.of Tryz.func13 rfl (N:=13) Tryz.ntmps13 rfl fun w0 B0 S0 U0=>?_
 show T _ (Y0 13 0 w0 S0 U0 B0) ⟨[vI f,vI u],[]⟩ _ _
 refine sR [] (sR [hR 1 rfl rfl (X85 (k:=.i64) (a:=f) (b:=2) (X4 rfl) ⟨rfl,trivial⟩),hR 2 rfl rfl (X2e (k:=.i64) (a:=0) (b:=min f 2) (X4 rfl) ⟨rfl,trivial⟩),hR 4 rfl rfl (X85 (k:=.i64) (a:=u) (b:=8) (X4 rfl) ⟨rfl,trivial⟩),hR 5 rfl rfl (X2e (k:=.i64) (a:=0) (b:=min u 8) (X4 rfl) ⟨rfl,trivial⟩)] (T.ret ?_))
 refine eN ⟨[vI f,vI u,aa,aa,pv 0 0],[.live (.box 49 [dB true,dI (max 0 (min f 2)),dI (max 0 (min u 8)),.d (.val (.slice none 0 0))])]⟩ ?_
 refine Xh (s':=⟨[vI f,vI u,aa,aa,pv 0 0],[.live (.box 49 [dB true,dI (max 0 (min f 2)),dI (max 0 (min u 8)),.own 1 (kE false).sz 0 0]),.live (Xc 53 (kE false) ([]:List aE))]⟩) (fun _ _ hG=>I4 1 0 3 53 (kE false) (Tb:=49) (cs:=[dB true,dI (max 0 (min f 2)),dI (max 0 (min u 8)),.d (.val (.slice none 0 0))]) rfl rfl rfl hG) ?_
 exact eRt 4 (.one (.ptr 0 0)) [0,1] rfl ⟨⟨rfl,(by have e1:(max 0 (min f 2):Int)=(fOf f):=(by (simp only [fOf,cOf];omega));have e2:(max 0 (min u 8):Int)=(cOf u):=(by (simp only [fOf,cOf];omega));have e3:(0:Nat)=([]:List aE).length:=(by rfl);have hE:=congr (congr (congrArg (fun (q1:Int) (q2:Int) (q3:Nat)=>(.live (.box 49 [dB true,dI q1,dI q2,.own 1 (kE false).sz 0 q3]):HS)) e1) e2) e3;exact Eq.trans pZ2 hE)⟩,(ix trivial)⟩
theorem ref03_N (f:Int) (u:Int) (l:List aE) (hf:0≤f∧f≤2) (hu:0≤u∧u≤8):Holds Tryz.prog 86 ⟨[pv 0 0],[.box 49 [dB true,dI f,dI u,.own 1 (kE false).sz 0 l.length],Xc 53 (kE false) l],vI (3*f+1),[.live (.box 49 [dB true,dI f,dI u,.own 1 (kE false).sz 0 l.length]),.live (Xc 53 (kE false) l)]⟩:=by
 refine Holds.of Tryz.func86 rfl (N:=14) Tryz.ntmps86 rfl fun w0 B0 S0 U0=>?_
 show T _ (Y0 14 2 w0 S0 U0 B0) ⟨[pv 0 0],[.live (.box 49 [dB true,dI f,dI u,.own 1 (kE false).sz 0 l.length]),.live (Xc 53 (kE false) l)]⟩ _ _
 refine sR [] (T.seq (sR [] (cF (b:=(!true)) rfl (T.skip (nT (sR [hR 4 rfl rfl (Y4 (u1:=.int .i64 3) (u2:=.int .i64 f) (v:=.int .i64 (3*f)) (Xbh pZ5) (X4 rfl) ⟨rfl,trivial⟩),hR 5 rfl rfl (Y4 (u1:=.int .i64 (3*f)) (u2:=.int .i64 1) (v:=.int .i64 ((3*f)+1)) (Yn pZ5) (X4 rfl) ⟨rfl,trivial⟩)] (T.ret ?_)))))))
 exact eRt 2 (.one (dI ((3*f)+1))) [0,1] (cI (by rfl)) (ix (ix trivial))
theorem X5x (f:Int) (u:Int) (l:List aE) (hf:0≤f∧f≤2) (hu:0≤u∧u≤8):Holds Tryz.prog 57 ⟨[pv 0 0],[.box 49 [dB true,dI f,dI u,.own 1 (kE false).sz 0 l.length],Xc 53 (kE false) l],vI (f+1),[.live (.box 49 [dB true,dI f,dI u,.own 1 (kE false).sz 0 l.length]),.live (Xc 53 (kE false) l)]⟩:=by
 refine Holds.of Tryz.func57 rfl (N:=13) Tryz.ntmps57 rfl fun w0 B0 S0 U0=>?_
 show T _ (Y0 13 2 w0 S0 U0 B0) ⟨[pv 0 0],[.live (.box 49 [dB true,dI f,dI u,.own 1 (kE false).sz 0 l.length]),.live (Xc 53 (kE false) l)]⟩ _ _
 refine sR [] (T.seq (sR [] (cF (b:=(!true)) rfl (T.skip (nT (sR [hR 4 rfl rfl (Y4 (u1:=.int .i64 f) (u2:=.int .i64 1) (v:=.int .i64 (f+1)) (Yn pZ5) (X4 rfl) ⟨rfl,trivial⟩)] (T.ret ?_)))))))
 exact eRt 2 (.one (dI (f+1))) [0,1] rfl (ix (ix trivial))
theorem X2a (f:Int) (u:Int) (l:List aE) (s:Int) (hf:0≤f∧f≤2) (hu:0≤u∧u≤8) (hs:-9223372036854775808≤s∧s≤9223372036854775807):Holds Tryz.prog 40 ⟨[pv 0 0,vI s],[.box 49 [dB true,dI f,dI u,.own 1 (kE false).sz 0 l.length],Xc 53 (kE false) l],vB (decide (Wb u s)),[.live (.box 49 [dB true,dI f,dI u,.own 1 (kE false).sz 0 l.length]),.live (Xc 53 (kE false) l)]⟩:=by
 refine Holds.of Tryz.func40 rfl (N:=16) Tryz.ntmps40 rfl fun w0 B0 S0 U0=>?_
 show T _ (Y0 16 2 w0 S0 U0 B0) ⟨[pv 0 0,vI s],[.live (.box 49 [dB true,dI f,dI u,.own 1 (kE false).sz 0 l.length]),.live (Xc 53 (kE false) l)]⟩ _ _
 refine sR [] ?_
 by_cases hq1:s≥1000
 ·refine sR (hY 3 (dT hq1)::(hS 4 (oY rfl rfl rfl rfl (X4 rfl) (dT hq1) (Y4 (u1:=.int .i64 s) (u2:=.int .i64 1000) (v:=.int .i64 (s-1000)) (X0e pZ5) (X4 rfl) ⟨rfl,trivial⟩))::(Xf (hY · (dT hq1)) [5,6,7,8,9] (hP 10 (dT hq1)::[])))) (T.ret ?_)
  exact eRt 4 (.one (dB (decide ((s-1000)<u)))) [0,1] p3z (ix (ix trivial))
 refine sR (Xf (hN · true (dF hq1)) [3,4,5,6,7,8,9] (hP 10 (dF hq1)::[])) (T.ret ?_)
 exact eRt 4 (.one (dB false)) [0,1] p4k (ix (ix trivial))
theorem Ui (f:Int) (u:Int) (l:List aE) (s:Int) (hf:0≤f∧f≤2) (hu:0≤u∧u≤8):Holds Tryz.prog 56 ⟨[pv 0 0,vI s],[.box 49 [dB true,dI f,dI u,.own 1 (kE false).sz 0 l.length],Xc 53 (kE false) l],vB (decide (Yg f s)),[.live (.box 49 [dB true,dI f,dI u,.own 1 (kE false).sz 0 l.length]),.live (Xc 53 (kE false) l)]⟩:=by
 refine Holds.of Tryz.func56 rfl (N:=13) Tryz.ntmps56 rfl fun w0 B0 S0 U0=>?_
 show T _ (Y0 13 2 w0 S0 U0 B0) ⟨[pv 0 0,vI s],[.live (.box 49 [dB true,dI f,dI u,.own 1 (kE false).sz 0 l.length]),.live (Xc 53 (kE false) l)]⟩ _ _
 refine sR [] ?_
 by_cases hq1:s≥0
 ·refine sR [hY 3 (dT hq1),hY 4 (dT hq1),hS 5 (oY rfl rfl rfl rfl (X4 rfl) (dT hq1) (rCa (ref03_N f u l ‹_› ‹_›) Tryz.func86 [0,1] [(.tmp 9,pv 0 0)] 2 2)),hY 6 (dT hq1),hP 7 (dT hq1)] (T.ret ?_)
  exact eRt 4 (.one (dB (decide (s<(3*f+1))))) [0,1] p3x (ix (ix trivial))
 refine sR (Xf (hN · true (dF hq1)) [3,4,5,6] (hP 7 (dF hq1)::[])) (T.ret ?_)
 exact eRt 4 (.one (dB false)) [0,1] p4h (ix (ix trivial))
theorem X42 (f:Int) (u:Int) (l:List aE) (s:Int) (hf:0≤f∧f≤2) (hu:0≤u∧u≤8) (hs:-9223372036854775808≤s∧s≤9223372036854775807):Holds Tryz.prog 51 ⟨[pv 0 0,vI s],[.box 49 [dB true,dI f,dI u,.own 1 (kE false).sz 0 l.length],Xc 53 (kE false) l],vB (decide (U7 f u s)),[.live (.box 49 [dB true,dI f,dI u,.own 1 (kE false).sz 0 l.length]),.live (Xc 53 (kE false) l)]⟩:=by
 refine Holds.of Tryz.func51 rfl (N:=13) Tryz.ntmps51 rfl fun w0 B0 S0 U0=>?_
 show T _ (Y0 13 2 w0 S0 U0 B0) ⟨[pv 0 0,vI s],[.live (.box 49 [dB true,dI f,dI u,.own 1 (kE false).sz 0 l.length]),.live (Xc 53 (kE false) l)]⟩ _ _
 refine sR [] ?_
 by_cases hq1:Yg f s
 ·refine sR (hR 2 rfl rfl (rCa (Ui f u l s ‹_› ‹_›) Tryz.func56 [0,1] [(.tmp 5,pv 0 0),(.tmp 6,vI s)] 2 2)::(Xf (hN · false (dT hq1)) [4,5,6] (hP 7 (dT hq1)::[]))) (T.ret ?_)
  exact eRt 4 (.one (dB true)) [0,1] p4j (ix (ix trivial))
 refine sR [hR 2 rfl rfl (rCa (Ui f u l s ‹_› ‹_›) Tryz.func56 [0,1] [(.tmp 5,pv 0 0),(.tmp 6,vI s)] 2 2),hY 4 (dF hq1),hY 5 (dF hq1),hS 6 (oY rfl rfl rfl rfl (X4 rfl) (dF hq1) (rCa (X2a f u l s ‹_› ‹_› ‹_›) Tryz.func40 [0,1] [(.tmp 9,pv 0 0),(.tmp 10,vI s)] 2 2)),hP 7 (dF hq1)] (T.ret ?_)
 exact eRt 4 (.one (dB (decide (Wb u s)))) [0,1] p42 (ix (ix trivial))
section
variable (f:Int) (u:Int) (l:List aE) (te:Bool) (e:aE) (k:Nat)
abbrev Z12:AV:=.tv (.agg [dI e.f_Signer,.d (dsl te false kU8 e.X7)])
abbrev Z13:HS:=.live (.box 49 [dB true,dI f,dI u,.own 1 (kE false).sz 0 l.length])
abbrev Z14:List HS:=[(Z13 f u l),.live (Xc 53 (kE false) l),.live (.box 53 [dI e.f_Signer,.d (dsl te false kU8 e.X7)])]
end
theorem X84 (f:Int) (u:Int) (l:List aE) (te:Bool) (e:aE) (hl:l.length≤9223372036854775806):Holds Tryz.prog 52 ⟨[pv 0 0,.tv (.agg [dI e.f_Signer,.d (dsl te false kU8 e.X7)])],[.box 49 [dB true,dI f,dI u,.own 1 (kE false).sz 0 l.length],Xc 53 (kE false) l],vB (decide (e∈l)),[.live (.box 49 [dB true,dI f,dI u,.own 1 (kE false).sz 0 l.length]),.live (Xc 53 (kE false) l)]⟩:=by
 refine Holds.of Tryz.func52 rfl (N:=39) Tryz.ntmps52 rfl fun w0 B0 S0 U0=>?_
 show T _ (Y0 39 2 w0 S0 U0 B0) ⟨[pv 0 0,(Z12 te e)],[(Z13 f u l),.live (Xc 53 (kE false) l)]⟩ _ _
 refine sR [] (T.seq (sR [] (T.block ?_)))
 refine T.loop (ι:=Nat) (fun (k:Nat)=>⟨[pv 0 0,(Z12 te e),aa,pv 2 0,vB false,vI ((k:Nat):Int)],(Z14 f u l te e)⟩) (fun (k:Nat)=>(k≤l.length)∧(∀ j,j<k→¬l.getD j zE=e)) (fun (k:Nat)=>l.length-k) (0) ⟨(Nat.zero_le _),(fun j hj=>absurd hj (Nat.not_lt_zero _))⟩ (fun _ _ hG=>Y9 [0,1,2] (bm 6 59) rfl rfl hG) ?_
 rintro k ⟨hk,hb⟩
 show T _ _ ⟨[pv 0 0,(Z12 te e),aa,pv 2 0,vB false,vI ((k:Nat):Int)],(Z14 f u l te e)⟩ _ _
 replace hk:k≤l.length:=hk
 replace hb:∀ j,j<k→¬l.getD j zE=e:=hb
 refine T.seq (sR [] ?_)
 by_cases hq1:((k:Nat):Int)<((l.length:Nat):Int)
 ·refine cT (dT hq1) (T.skip (nT (T.seq (T.block ?_))))
  by_cases hq2:(l.getD k zE).f_Signer=e.f_Signer
  ·refine sD [[],[0],[0,1],[0,1,2],[],[0,1,2,3,4],[0,1,2,3,4,5],[0,1,2,3,4,5,6],[],[8],[0,1,2,3,4,5,6,7,8,9],[0,1,2,3,4,5,6,7,8,9,10],[0,1,2,3,4,5,6,7,8,9,10,11],[0,1,2,3,4,5,6,7,8,9,10,11,12],[0,1,2,3,4,5,6,7,8,9,10,11,12,13],[0,1,2,3,4,5,6,7,8,9,10,11,12,13,14],[0,1,2,3,4,5,6,7,8,9,10,11],[0,1,2,3,4,5,6,7,8,9,10,11,12,13,14,15,16],[0,1,2,3,4,5,6,7,8,9,10,11,12,13,14,15,16,17],[0,1,2,3,4,5,6,7,8,9,10,11,12,13,14,15,16,17,18],[0,1,2,3,4,5,6,7,8,9,10,11],[0,1,2,3,4,5,6,7,8,9,10,11,20],[0,1,2,3,4,5,6,7,8,9,10,11,12,13,14,15,16,17,18,19,20,21],[0,1,2,3,4,5,6,7,8,9,10,11,12,13,14,15,16,17,18,19,20,21,22]] (hR 5 rfl rfl (V3 (k:=.i64) (l:=1) (sz:=(kE false).sz) (off:=0) (n:=l.length) (i:=((k:Nat):Int)) (m:=k) (o':=k*(kE false).sz+0) Tryz.underlying39 I3 rfl rfl (by omega) (by simp) (X4 rfl) trivial)::(hR 7 rfl rfl (Uy (l:=1) (off:=k*(kE false).sz+0) (i:=k) (j:=0) (T:=53) (sz:=(kE false).sz) (n:=l.length) (el:=Yu (kE false) l) (c:=.val (.int .i64 (l.getD k zE).f_Signer)) H1 rfl (by omega) (by decide) rfl (X4 rfl) trivial)::(Xf (hY · (dT hq2)) [12,13,14,15,16] (hS 17 (oY rfl rfl rfl rfl (X4 rfl) (dT hq2) (V3 (k:=.i64) (l:=1) (sz:=(kE false).sz) (off:=0) (n:=l.length) (i:=((k:Nat):Int)) (m:=k) (o':=k*(kE false).sz+0) Tryz.underlying39 I3 rfl rfl (by omega) (by simp) (X4 rfl) py))::(hY 18 (dT hq2)::(hS 19 (oY rfl rfl rfl rfl (X4 rfl) (dT hq2) (Uy (l:=1) (off:=k*(kE false).sz+1) (i:=k) (j:=1) (T:=53) (sz:=(kE false).sz) (n:=l.length) (el:=Yu (kE false) l) (c:=dsl false false kU8 (l.getD k zE).X7) X8u rfl (by omega) (by decide) rfl (X4 rfl) py))::(hY 20 (dT hq2)::(hY 21 (dT hq2)::(hS 22 (oY rfl rfl rfl rfl (X4 rfl) (dT hq2) (rCa (X5z false false te false (l.getD k zE).X7 e.X7 ) Tryz.func77 [] [(.tmp 34,slV false false kU8 (l.getD k zE).X7),(.tmp 36,slV te false kU8 e.X7)] 0 0))::(hP 23 (dT hq2)::[])))))))))) ?_
   by_cases hq3:(l.getD k zE).X7=e.X7
   ·refine cT (dT hq3) (sR [] (T.ret (rB (rT (rT (rB (rT ?_)))))))
    exact eRt 4 (.one (dB true)) [0,1] (by have e1:((decide (e∈l)):Bool)=true:=(by exact dT (mem_get (z:=zE) (k:=k) (by omega) (by rw [Ut];exact ⟨by assumption,by assumption⟩)));have hE:=cB e1;exact hE) (ix (ix trivial))
   refine cF (dF hq3) (T.skip (nB (nT (xK [hR 1 rfl rfl (Y4 (u1:=.int .i64 ((k:Nat):Int)) (u2:=.int .i64 1) (v:=.int .i64 ((k+1:Nat):Int)) (Yn pZ5) (X4 rfl) ⟨rfl,trivial⟩)] ?_))))
   refine nL (k+1) ⟨(show (k+1)≤l.length from (by omega)),(show ∀ j,j<(k+1)→¬l.getD j zE=e from (Ju hb (by rw [Ut];intro h1;exact absurd h1.2 ‹_›)))⟩ (show (l.length-(k+1):Nat)<l.length-k from (by omega)) (fun _ _ hG=>Y9 [0,1,2] (bm 6 59) rfl rfl hG)
  refine sD [[],[0],[0,1],[0,1,2],[],[0,1,2,3,4],[0,1,2,3,4,5],[0,1,2,3,4,5,6],[],[8],[0,1,2,3,4,5,6,7,8,9],[0,1,2,3,4,5,6,7,8,9,10],[0,1,2,3,4,5,6,7,8,9,10,11],[0,1,2,3,4,5,6,7,8,9,10,11,12],[0,1,2,3,4,5,6,7,8,9,10,11,12,13],[0,1,2,3,4,5,6,7,8,9,10,11,12,13,14],[0,1,2,3,4,5,6,7,8,9,10,11],[0,1,2,3,4,5,6,7,8,9,10,11,12,13,14,15,16],[0,1,2,3,4,5,6,7,8,9,10,11,12,13,14,15,16,17],[0,1,2,3,4,5,6,7,8,9,10,11,12,13,14,15,16,17,18],[0,1,2,3,4,5,6,7,8,9,10,11],[0,1,2,3,4,5,6,7,8,9,10,11,20],[0,1,2,3,4,5,6,7,8,9,10,11,12,13,14,15,16,17,18,19,20,21],[0,1,2,3,4,5,6,7,8,9,10,11,12,13,14,15,16,17,18,19,20,21,22]] (hR 5 rfl rfl (V3 (k:=.i64) (l:=1) (sz:=(kE false).sz) (off:=0) (n:=l.length) (i:=((k:Nat):Int)) (m:=k) (o':=k*(kE false).sz+0) Tryz.underlying39 I3 rfl rfl (by omega) (by simp) (X4 rfl) trivial)::(hR 7 rfl rfl (Uy (l:=1) (off:=k*(kE false).sz+0) (i:=k) (j:=0) (T:=53) (sz:=(kE false).sz) (n:=l.length) (el:=Yu (kE false) l) (c:=.val (.int .i64 (l.getD k zE).f_Signer)) H1 rfl (by omega) (by decide) rfl (X4 rfl) trivial)::(Xf (hN · true (dF hq2)) [12,13,14,15,16,17,18,19,20,21,22] (hP 23 (dF hq2)::[])))) ?_
  refine cF (b:=false) rfl (T.skip (nB (nT (xK [hR 1 rfl rfl (Y4 (u1:=.int .i64 ((k:Nat):Int)) (u2:=.int .i64 1) (v:=.int .i64 ((k+1:Nat):Int)) (Yn pZ5) (X4 rfl) ⟨rfl,trivial⟩)] ?_))))
  refine nL (k+1) ⟨(show (k+1)≤l.length from (by omega)),(show ∀ j,j<(k+1)→¬l.getD j zE=e from (Ju hb (by rw [Ut];intro h1;exact absurd h1.1 ‹_›)))⟩ (show (l.length-(k+1):Nat)<l.length-k from (by omega)) (fun _ _ hG=>Y9 [0,1,2] (bm 6 59) rfl rfl hG)
 refine cF (dF hq1) (T.exit (xT (xT (xH (nT (sR [] (T.ret ?_)))))))
 exact eRt 4 (.one (dB false)) [0,1] (cB (by exact dF (Xaj (z:=zE) (k:=k) (by omega) hb))) (ix (ix trivial))
theorem X9n:Elem Tryz.prog 39 53 2 32:=⟨Tryz.underlying39,_,_,I3,rfl,rfl,rfl,rfl,by decide⟩
section
variable (f:Int) (u:Int) (l:List aE) (s:Int) (tb:Bool) (nb:Bool) (b:List UInt8)
abbrev Z16:HS:=.live (.box 49 [dB true,dI f,dI u,.own 1 (kE false).sz 0 l.length])
abbrev Z17:HObj:=Xc 53 (kE false) l
abbrev Z18:HS:=.live ((Z17 l))
abbrev Z19:AV:=vB (!(decide (U7 f u s)))
abbrev Z1a:AV:=vB (decide (((b.length:Nat):Int)>16777216))
abbrev Z1b:List AV:=[pv 0 0,vI s,slV tb nb kU8 b,aa,aa,aa,pv 2 0,vI 11,aa,aa,aa,aa,(Z19 f u s),aa,aa,aa,(Z1a b)]
abbrev Z1c:HS:=.live (.box 53 [dI 0,.d (.val (.slice none 0 0))])
abbrev Z1d:HS:=.live (.box 49 [dB true,dI f,dI u,.own 3 (kE false).sz 0 l.length])
abbrev Z1e:List HS:=[(Z1d f u l),.dead,Z1c,(Z18 l)]
abbrev Z1f:SV:=dU ([]:List UInt8)
abbrev Z1g:List SV:=[dI 0,Z1f]
abbrev Z1h:List AV:=[pv 0 0,vI s,slV tb nb kU8 b,aa,aa,aa,pv 2 0,vI 0,pv 5 0,aa,aa,aa,(Z19 f u s),aa,aa,aa,(Z1a b)]
abbrev Z1i:List SV:=[dI s,dU b]
abbrev Z1j:HS:=.live (.box 53 (Z1i s b))
abbrev Z1k:List AV:=[pv 0 0,vI s,slV tb nb kU8 b,aa,aa,aa,pv 2 0,vI 0,pv 5 0,aa,aa,aa,(Z19 f u s),aa,aa,aa,(Z1a b),aa,aa,aa,aa,aa,aa,aa,aa,aa,vB (!(decide ((aE.mk s b)∈l)))]
abbrev Z1l:List AV:=[pv 0 0,vI s,slV tb nb kU8 b,aa,aa,aa,pv 2 0,vI 30,aa,aa,aa,aa,(Z19 f u s)]
end
theorem Fm (f:Int) (u:Int) (l:List aE) (s:Int) (tb:Bool) (nb:Bool) (b:List UInt8) (hf:0≤f∧f≤2) (hu:0≤u∧u≤8) (hs:-9223372036854775808≤s∧s≤9223372036854775807) (hb:b.length≤140737488355328) (hl:l.length≤2147483648):Holds Tryz.prog 23 ⟨[pv 0 0,vI s,slV tb nb kU8 b],[.box 49 [dB true,dI f,dI u,.own 1 (kE false).sz 0 l.length],Xc 53 (kE false) l],.tup [.agg [dI (W1 f u s b).f_Signer,dU (W1 f u s b).X7],.one (dI (Hb f u s b))],[.live (.box 49 [dB true,dI f,dI u,.own 2 (kE false).sz 0 (Wx f u l s b).length]),.dead,.live (Xc 53 (kE false) (Wx f u l s b))]⟩:=by
 refine Holds.of Tryz.func23 rfl (N:=38) Tryz.ntmps23 rfl fun w0 B0 S0 U0=>?_
 show T _ (Y0 38 2 w0 S0 U0 B0) ⟨[pv 0 0,vI s,slV tb nb kU8 b],[(Z16 f u l),(Z18 l)]⟩ _ _
 refine sR [] (T.seq (sR [hR 2 rfl rfl (rCa (X42 f u l s ‹_› ‹_› ‹_›) Tryz.func51 [0,1] [(.tmp 9,pv 0 0),(.tmp 10,vI s)] 2 2)] ?_))
 by_cases hq1:U7 f u s
 rotate_left
 ·refine cT (cn (dF hq1)) (sR [] (T.ret (rT ?_)))
  refine eN ⟨(Z1l f u s tb nb b),[(Z16 f u l),(Z18 l),Z1c]⟩ ?_
  refine Xh (s':=⟨(Z1l f u s tb nb b),(Z1e f u l)⟩) (fun _ _ hG=>Gs.move (s:=⟨(Z1l f u s tb nb b),[(Z16 f u l),(Z18 l),Z1c]⟩) 1 3 (o:=(Z17 l)) rfl rfl rfl ⟨.inl rfl,p39⟩ ⟨(.inr pZl),⟨(.inl ⟨rfl,rfl⟩),⟨(.inr pZ1),⟨(.inr (.inl ⟨rfl,rfl⟩)),trivial⟩⟩⟩⟩ hG) ?_
  refine eN ⟨(Z1l f u s tb nb b),(Z1e f u l)⟩ ?_
  refine Xh (s':=⟨(Z1l f u s tb nb b),[(Z1d f u l),.dead,.live (.box 53 Z1g),(Z18 l)]⟩) (fun _ _ hG=>We (s:=⟨(Z1l f u s tb nb b),(Z1e f u l)⟩) ⟨.inl rfl,p39⟩ (kk2 ⟨pZ31,⟨.inl rfl,trivial⟩⟩) hG) ?_
  exact eX [.c 6 2 53 0 53 [dI 0,Z1f] (.agg Z1g),.t 7 (.one (dI 30))] ⟨⟨rfl,rfl,by kernel_rfl,by kernel_rfl,.inl ⟨2,Ib,rfl,Nat.le_of_ble_eq_true rfl⟩⟩,⟨⟨rfl,by kernel_rfl⟩,trivial⟩⟩ [0,1,3] (by have e1:((W1 f u s b).f_Signer:Int)=0:=po;have e2:((W1 f u s b).X7:List UInt8)=([]:List UInt8):=po;have e3:((Hb f u s b):Int)=30:=po;have hE:=congr pr e3;exact hE) ⟨⟨rfl,p2y⟩,⟨⟨rfl,pZ24⟩,trivial⟩⟩
 refine cF (cn (dT hq1)) (T.skip (nT (T.seq (sR [] ?_))))
 by_cases hq2:((b.length:Nat):Int)>16777216
 ·refine cT (dT hq2) (sR [] (T.ret (rT ?_)))
  refine eN ⟨(Z1b f u s tb nb b),[(Z16 f u l),(Z18 l),Z1c]⟩ ?_
  refine Xh (s':=⟨(Z1b f u s tb nb b),(Z1e f u l)⟩) (fun _ _ hG=>Gs.move (s:=⟨(Z1b f u s tb nb b),[(Z16 f u l),(Z18 l),Z1c]⟩) 1 3 (o:=(Z17 l)) rfl rfl rfl ⟨.inl rfl,(X6j trivial)⟩ ⟨(.inr pZl),⟨(.inl ⟨rfl,rfl⟩),⟨(.inr pZ1),⟨(.inr (.inl ⟨rfl,rfl⟩)),trivial⟩⟩⟩⟩ hG) ?_
  refine eN ⟨(Z1b f u s tb nb b),(Z1e f u l)⟩ ?_
  refine Xh (s':=⟨(Z1b f u s tb nb b),[(Z1d f u l),.dead,.live (.box 53 Z1g),(Z18 l)]⟩) (fun _ _ hG=>We (s:=⟨(Z1b f u s tb nb b),(Z1e f u l)⟩) ⟨.inl rfl,(X6j trivial)⟩ (kk2 ⟨pZ31,⟨.inl rfl,trivial⟩⟩) hG) ?_
  exact eX [.c 6 2 53 0 53 [dI 0,Z1f] (.agg Z1g),.t 7 (.one (dI 11))] ⟨⟨rfl,rfl,by kernel_rfl,by kernel_rfl,.inl ⟨2,Ib,rfl,Nat.le_of_ble_eq_true rfl⟩⟩,⟨⟨rfl,by kernel_rfl⟩,trivial⟩⟩ [0,1,3] (by have e1:((W1 f u s b).f_Signer:Int)=0:=po;have e2:((W1 f u s b).X7:List UInt8)=([]:List UInt8):=po;have e3:((Hb f u s b):Int)=11:=po;have hE:=congr pr e3;exact hE) ⟨⟨rfl,p2y⟩,⟨⟨rfl,pZ24⟩,trivial⟩⟩
 refine cF (dF hq2) (T.skip (nT ?_))
 refine sR [hR 1 rfl rfl (Yb 3 5 kU8 V9 ([]:List UInt8) [] (cs:=[]) Tryz.underlying34 Ur rfl I1 rfl rfl rfl pf Wa pZ2 (Vk pZ2) (X4 rfl) trivial),hR 3 rfl rfl (Yq 3 4 5 1 kU8 V9 ([]:List UInt8) b b ([]:List UInt8).length (sy:=(.d (dsl tb nb kU8 b))) (rhs:=[]) Uz (by omega) (Up tb nb kU8 b) (by simp) (by (simp [maxLen,-List.getD_eq_getElem?_getD]<;>omega)) (by (simp [maxLen,-List.getD_eq_getElem?_getD]<;>omega)) (X4 rfl) trivial)] ?_
 refine T.seq ?_
 refine tN ⟨(Z1h f u s tb nb b),[(Z16 f u l),(Z18 l),Z1c,.dead,.live (Xc 5 kU8 b),.live (.box 53 [dI s,.own 4 kU8.sz 0 b.length])]⟩ ?_
 refine Wv (s':=⟨(Z1h f u s tb nb b),[(Z16 f u l),(Z18 l),Z1c,.dead,.dead,(Z1j s b)]⟩) (fun _ _ hG=>Gs.freeze (s:=⟨(Z1h f u s tb nb b),[(Z16 f u l),(Z18 l),Z1c,.dead,.live (Xc 5 kU8 b),.live (.box 53 [dI s,.own 4 kU8.sz 0 b.length])]⟩) 4 (el:=Yu kU8 b) (sz:=kU8.sz) (n:=b.length) rfl ⟨.inl rfl,(X6j trivial)⟩ ⟨pd,⟨pd,⟨pd,⟨pd,⟨(.inl ⟨rfl,rfl⟩),⟨pZ27,trivial⟩⟩⟩⟩⟩⟩ hG) (sR [hR 2 rfl rfl (rCa (X84 f u l false (aE.mk s b) (by omega)) Tryz.func52 [0,1] [(.tmp 23,pv 0 0),(.tmp 24,.tv (.agg (Z1i s b)))] 2 2)] ?_)
 by_cases hq3:(aE.mk s b)∈l
 ·refine cF (cn (dT hq3)) (T.skip (nT (sR [] (T.ret ?_))))
  refine eN ⟨(Z1k f u l s tb nb b),[(Z16 f u l),(Z18 l),(Z1j s b),.dead,.dead,(Z1j s b)]⟩ ?_
  refine Xh (s':=⟨(Z1k f u l s tb nb b),[.live (.box 49 [dB true,dI f,dI u,.own 6 (kE false).sz 0 l.length]),.dead,(Z1j s b),.dead,.dead,(Z1j s b),(Z18 l)]⟩) (fun _ _ hG=>Gs.move (s:=⟨(Z1k f u l s tb nb b),[(Z16 f u l),(Z18 l),(Z1j s b),.dead,.dead,(Z1j s b)]⟩) 1 6 (o:=(Z17 l)) rfl rfl rfl ⟨.inl rfl,(kk2 (kk8 (X6j trivial)))⟩ ⟨(.inr pZl),⟨(.inl ⟨rfl,rfl⟩),⟨(.inr pZ1),⟨(.inr pZ1),⟨(.inr pZ1),⟨(.inr pZ1),⟨(.inr (.inl ⟨rfl,rfl⟩)),trivial⟩⟩⟩⟩⟩⟩⟩ hG) ?_
  exact eX [.c 6 2 53 0 53 [dI s,dU b] (.agg (Z1i s b)),.t 7 (.one (dI 0))] ⟨⟨rfl,rfl,by kernel_rfl,by kernel_rfl,.inl ⟨2,Ib,rfl,Nat.le_of_ble_eq_true rfl⟩⟩,⟨⟨rfl,by kernel_rfl⟩,trivial⟩⟩ [0,1,6] p35 ⟨⟨rfl,(by have e1:(l.length:Nat)=(Wx f u l s b).length:=po;have hE:=congrArg (fun (q1:Nat)=>(.live (.box 49 [dB true,dI f,dI u,.own 6 (kE false).sz 0 q1]):HS)) e1;exact Eq.trans pZ2 hE)⟩,⟨⟨rfl,pZ24⟩,trivial⟩⟩
 refine cT (cn (dF hq3)) ?_
 refine xD [[],[],[1],[1,2],[1,2,3],[],[5],[1,2,3,4,5,6],[0,1,2,3,4,5,6,7],[0,1,2,3,4,5,6,7,8],[0,1,2,3,4,5,6,7,8,9]] [hR 6 rfl rfl (Yb 6 53 (kE false) (Vr false) [(aE.mk s b)] [⟨0,.tmp 32,.agg (Z1i s b),0⟩] (cs:=[dI s,dU b]) Tryz.underlying39 I3 rfl X8t rfl rfl rfl pf (Wi rfl rfl pf Wa) pZ2 (Vk pZ2) (X4 rfl) trivial),hR 7 rfl rfl (Yq 1 7 53 32 (kE false) (Vr false) l [(aE.mk s b)] (l++[(aE.mk s b)]) l.length (sy:=(.own 6 (kE false).sz 0 [(aE.mk s b)].length)) (rhs:=[(6,.live (Xc 53 (kE false) [(aE.mk s b)]))]) X9n (by omega) (U4 6 53 (kE false) [(aE.mk s b)]) p1o (by (simp [maxLen,-List.getD_eq_getElem?_getD]<;>omega)) (by (simp [maxLen,-List.getD_eq_getElem?_getD]<;>omega)) (X4 rfl) trivial)] pZ2 pZ2 pZ2 pZ2 pZ2 pZ2 ?_
 refine nT (sR [] (T.ret ?_))
 exact eX [.c 6 2 53 0 53 [dI s,dU b] (.agg (Z1i s b)),.t 7 (.one (dI 0))] ⟨⟨rfl,rfl,by kernel_rfl,by kernel_rfl,.inl ⟨2,Ib,rfl,Nat.le_of_ble_eq_true rfl⟩⟩,⟨⟨rfl,by kernel_rfl⟩,trivial⟩⟩ [0,1,7] p35 ⟨⟨rfl,(by have e1:((l++[(aE.mk s b)]).length:Nat)=(Wx f u l s b).length:=po;have hE:=congrArg (fun (q1:Nat)=>(.live (.box 49 [dB true,dI f,dI u,.own 7 (kE false).sz 0 q1]):HS)) e1;exact Eq.trans pZ2 hE)⟩,⟨⟨rfl,(by have e1:(l++[(aE.mk s b)]:List aE)=(Wx f u l s b):=po;have hE:=congrArg (fun (q1:List aE)=>(.live (Xc 53 (kE false) q1):HS)) e1;exact Eq.trans pZ2 hE)⟩,trivial⟩⟩
theorem Jd (f:Int) (u:Int) (l:List aE) (te:Bool) (e:aE) (hf:0≤f∧f≤2) (hu:0≤u∧u≤8) (hs:-9223372036854775808≤e.f_Signer∧e.f_Signer≤9223372036854775807) (hl:l.length≤9223372036854775806):Holds Tryz.prog 55 ⟨[pv 0 0,.tv (.agg [dI e.f_Signer,.d (dsl te false kU8 e.X7)])],[.box 49 [dB true,dI f,dI u,.own 1 (kE false).sz 0 l.length],Xc 53 (kE false) l],vI (Wf f u l e),[.live (.box 49 [dB true,dI f,dI u,.own 1 (kE false).sz 0 l.length]),.live (Xc 53 (kE false) l)]⟩:=by
 refine Holds.of Tryz.func55 rfl (N:=14) Tryz.ntmps55 rfl fun w0 B0 S0 U0=>?_
 show T _ (Y0 14 2 w0 S0 U0 B0) ⟨[pv 0 0,.tv (.agg [dI e.f_Signer,.d (dsl te false kU8 e.X7)])],[.live (.box 49 [dB true,dI f,dI u,.own 1 (kE false).sz 0 l.length]),.live (Xc 53 (kE false) l)]⟩ _ _
 refine sR [] (T.seq (sR [hR 3 rfl rfl (rCa (X42 f u l e.f_Signer ‹_› ‹_› ‹_›) Tryz.func51 [0,1] [(.tmp 5,pv 0 0),(.tmp 7,vI e.f_Signer)] 2 2)] ?_))
 by_cases hq1:U7 f u e.f_Signer
 ·refine cF (cn (dT hq1)) (T.skip (nT (T.seq (sR [hR 2 rfl rfl (rCa (X84 f u l te e ‹_›) Tryz.func52 [0,1] [(.tmp 10,pv 0 0),(.tmp 11,.tv (.agg [dI e.f_Signer,.d (dsl te false kU8 e.X7)]))] 2 2)] ?_))))
  by_cases hq2:e∈l
  ·refine cF (cn (dT hq2)) (T.skip (nT (sR [] (T.ret ?_))))
   exact eRt 4 (.one (dI 0)) [0,1] (by have e1:((Wf f u l e):Int)=0:=(by (simp [Wf, *];done));have hE:=cI e1;exact hE) (ix (ix trivial))
  refine cT (cn (dF hq2)) (sR [] (T.ret (rT ?_)))
  exact eRt 4 (.one (dI 31)) [0,1] (by have e1:((Wf f u l e):Int)=31:=(by (simp [Wf, *];done));have hE:=cI e1;exact hE) (ix (ix trivial))
 refine cT (cn (dF hq1)) (sR [] (T.ret (rT ?_)))
 exact eRt 4 (.one (dI 30)) [0,1] (by have e1:((Wf f u l e):Int)=30:=(by (simp [Wf, *];done));have hE:=cI e1;exact hE) (ix (ix trivial))
theorem clip_u8 (tb:Bool) (nb:Bool) (b:List UInt8):Holds Tryz.prog 115 ⟨[slV tb nb kU8 b],[],clV tb nb kU8 b,[]⟩:=by
 refine Holds.of Tryz.func115 rfl (N:=9) Tryz.ntmps115 rfl fun w0 B0 S0 U0=>?_
 show T _ (Y0 9 0 w0 S0 U0 B0) ⟨[slV tb nb kU8 b],[]⟩ _ _
 refine sR [] (sR [hR 5 rfl rfl (q_clip tb nb kU8 b (p:=((b.length:Nat):Int)) (q:=((b.length:Nat):Int)) Tryz.underlying34 Ur rfl (by omega) (by omega) (X4 rfl) trivial)] (T.ret ?_))
 exact eRt 2 (.one (.cl tb nb kU8.sz b.length (Yu kU8 b))) [] rfl trivial
abbrev Z1m (n:Nat):AV:=dv (.int .u64 ((n:Nat):Int))
abbrev Z1n (m:Nat):AV:=vI ((m:Nat):Int)
abbrev Z1o (j:Nat):AV:=vI ((j-1:Nat):Int)
theorem X56 (tb:Bool) (nb:Bool) (b:List UInt8) (n:Nat) (m:Nat) (hb:b.length≤140737488355000) (hn:n<18446744073709551616) (hm:m≤7):Holds Tryz.prog 102 ⟨[slV tb nb kU8 b,dv (.int .u64 ((n:Nat):Int)),vI ((m+1:Nat):Int)],[],Xx 0 kU8 0 (b++(W7 n (m+1))).length,[.live (Xc 5 kU8 (b++(W7 n (m+1))))]⟩:=by
 refine Holds.of Tryz.func102 rfl (N:=22) Tryz.ntmps102 rfl fun w0 B0 S0 U0=>?_
 show T _ (Y0 22 0 w0 S0 U0 B0) ⟨[slV tb nb kU8 b,(Z1m n),vI ((m+1:Nat):Int)],[]⟩ _ _
 refine sR [] (sR [hR 1 rfl rfl (rCa (clip_u8 tb nb b ) Tryz.func115 [] [(.tmp 7,slV tb nb kU8 b)] 0 0)] (T.seq (T.block ?_)))
 refine T.ofTL ?_
 refine TL.peel (T.seq (sR [] ?_))
 by_cases hq1:((m+1:Nat):Int)>0
 rotate_left
 ·exact absurd (by omega) hq1
 refine cT (dT hq1) (T.skip (nT (T.block (sR [hR 1 rfl rfl (Y4 (u1:=.int .i64 ((m+1:Nat):Int)) (u2:=.int .i64 1) (v:=.int .i64 ((m:Nat):Int)) (X0e pZ5) (X4 rfl) ⟨rfl,trivial⟩)] ?_))))
 refine xR [hR 3 rfl rfl (Y4 (u1:=.int .i64 8) (u2:=.int .i64 ((m:Nat):Int)) (v:=.int .i64 ((8*m:Nat):Int)) (Xbh pZ5) (X4 rfl) ⟨rfl,trivial⟩),hR 4 rfl rfl (Y4 (u1:=.int .u64 ((n:Nat):Int)) (u2:=.int .i64 ((8*m:Nat):Int)) (v:=.int .u64 ((n / 2 ^ (8*m):Nat):Int)) (Xd0 (n:=8*m) rfl pk) (X4 rfl) trivial),hR 5 rfl rfl (I2 (u:=.int .u64 ((n / 2 ^ (8*m):Nat):Int)) (v:=.int .u8 (((UInt8.ofNat (n / 2 ^ (8*m))).toNat:Nat):Int)) (Xcu Tryz.underlying118 Tryz.underlying5) (X4 rfl) trivial),hR 6 rfl rfl (Yb 0 5 kU8 V9 [(UInt8.ofNat (n / 2 ^ (8*m)))] [⟨0,.tmp 18,.one (.d (.val (.int .u8 (((UInt8.ofNat (n / 2 ^ (8*m))).toNat:Nat):Int)))),0⟩] (cs:=[.d (.val (.int .u8 (((UInt8.ofNat (n / 2 ^ (8*m))).toNat:Nat):Int)))]) Tryz.underlying34 Ur rfl I1 rfl rfl rfl pf (Wi rfl rfl pf Wa) pZ2 (Vk pZ2) (X4 rfl) trivial),hR 7 rfl rfl (Xfg 1 5 1 tb nb kU8 V9 b [(UInt8.ofNat (n / 2 ^ (8*m)))] (b++[(UInt8.ofNat (n / 2 ^ (8*m)))]) (sy:=(.own 0 kU8.sz 0 [(UInt8.ofNat (n / 2 ^ (8*m)))].length)) (rhs:=[(0,.live (Xc 5 kU8 [(UInt8.ofNat (n / 2 ^ (8*m)))]))]) Uz (by (simp [maxLen,-List.getD_eq_getElem?_getD]<;>omega)) (U4 0 5 kU8 [(UInt8.ofNat (n / 2 ^ (8*m)))]) rfl (by (simp [maxLen,-List.getD_eq_getElem?_getD]<;>omega)) (by (simp [maxLen,-List.getD_eq_getElem?_getD]<;>omega)) (X4 rfl) trivial)] pZ2 pZ2 ?_
 refine nB ?_
 refine nP ?_
 refine TL.loop (ι:=Nat×(List UInt8)) (fun (x_:Nat×(List UInt8))=>⟨[Xx 0 kU8 0 x_.2.length,(Z1m n),vI ((x_.1:Nat):Int)],[.live (Xc 5 kU8 x_.2)]⟩) (fun (x_:Nat×(List UInt8))=>(x_.1≤m)∧(x_.2++W7 n x_.1=b++W7 n (m+1))) (fun (x_:Nat×(List UInt8))=>x_.1) (m,b++[UInt8.ofNat (n / 2 ^ (8*m))]) ⟨(Nat.le_refl _),(by rw [List.append_assoc];rfl)⟩ (fun _ _ hG=>Ww [1] [true,true,true] (t1:=[Xx 1 kU8 0 (b++[UInt8.ofNat (n / 2 ^ (8*m))]).length,(Z1m n),(Z1n m)]) (t2:=[Xx 1 kU8 0 (b++[(UInt8.ofNat (n / 2 ^ (8*m)))]).length,(Z1m n),(Z1n m)]) (h1:=[.live (Xc 5 kU8 (b++[UInt8.ofNat (n / 2 ^ (8*m))]))]) (h2:=[.live (Xc 5 kU8 (b++[(UInt8.ofNat (n / 2 ^ (8*m)))]))]) (congrArg (fun (q1:Nat)=>([Xx 1 kU8 0 q1,(Z1m n),(Z1n m)]:List AV)) (by rfl)) p2i hG) ?_
 rintro ⟨j,acc⟩ ⟨hj,he⟩
 show T _ _ ⟨[Xx 0 kU8 0 acc.length,(Z1m n),vI ((j:Nat):Int)],[.live (Xc 5 kU8 acc)]⟩ _ _
 replace hj:j≤m:=hj
 replace he:acc++W7 n j=b++W7 n (m+1):=he
 have hacc:=X5e he
 refine T.seq (sR [] ?_)
 by_cases hq2:((j:Nat):Int)>0
 ·refine cT (dT hq2) (T.skip (nT (T.block (sR [hR 1 rfl rfl (Y4 (u1:=.int .i64 ((j:Nat):Int)) (u2:=.int .i64 1) (v:=.int .i64 ((j-1:Nat):Int)) (X0e pZ5) (X4 rfl) ⟨rfl,trivial⟩)] ?_))))
  refine xR [hR 3 rfl rfl (Y4 (u1:=.int .i64 8) (u2:=.int .i64 ((j-1:Nat):Int)) (v:=.int .i64 ((8*(j-1):Nat):Int)) (Xbh pZ5) (X4 rfl) ⟨rfl,trivial⟩),hR 4 rfl rfl (Y4 (u1:=.int .u64 ((n:Nat):Int)) (u2:=.int .i64 ((8*(j-1):Nat):Int)) (v:=.int .u64 ((n / 2 ^ (8*(j-1)):Nat):Int)) (Xd0 (n:=8*(j-1)) rfl pk) (X4 rfl) trivial),hR 5 rfl rfl (I2 (u:=.int .u64 ((n / 2 ^ (8*(j-1)):Nat):Int)) (v:=.int .u8 (((UInt8.ofNat (n / 2 ^ (8*(j-1)))).toNat:Nat):Int)) (Xcu Tryz.underlying118 Tryz.underlying5) (X4 rfl) trivial),hR 6 rfl rfl (Yb 1 5 kU8 V9 [(UInt8.ofNat (n / 2 ^ (8*(j-1))))] [⟨0,.tmp 18,.one (.d (.val (.int .u8 (((UInt8.ofNat (n / 2 ^ (8*(j-1)))).toNat:Nat):Int)))),0⟩] (cs:=[.d (.val (.int .u8 (((UInt8.ofNat (n / 2 ^ (8*(j-1)))).toNat:Nat):Int)))]) Tryz.underlying34 Ur rfl I1 rfl rfl rfl pf (Wi rfl rfl pf Wa) pZ2 (Vk pZ2) (X4 rfl) trivial),hR 7 rfl rfl (Yq 0 2 5 1 kU8 V9 acc [(UInt8.ofNat (n / 2 ^ (8*(j-1))))] (acc++[(UInt8.ofNat (n / 2 ^ (8*(j-1))))]) acc.length (sy:=(.own 1 kU8.sz 0 [(UInt8.ofNat (n / 2 ^ (8*(j-1))))].length)) (rhs:=[(1,.live (Xc 5 kU8 [(UInt8.ofNat (n / 2 ^ (8*(j-1))))]))]) Uz (by omega) (U4 1 5 kU8 [(UInt8.ofNat (n / 2 ^ (8*(j-1))))]) p1o (by (simp [maxLen,-List.getD_eq_getElem?_getD]<;>omega)) (by (simp [maxLen,-List.getD_eq_getElem?_getD]<;>omega)) (X4 rfl) trivial)] pZ2 pZ2 ?_
  refine nB ?_
  refine nL (j-1,acc++[UInt8.ofNat (n / 2 ^ (8*(j-1)))]) ⟨(show (j-1)≤m from (by omega)),(show (acc++[UInt8.ofNat (n / 2 ^ (8*(j-1)))])++W7 n (j-1)=b++W7 n (m+1) from (X5d he (by omega)))⟩ (show ((j-1):Nat)<j from (by omega)) (fun _ _ hG=>Ww [2] [true,true,true] (t1:=[Xx 2 kU8 0 (acc++[UInt8.ofNat (n / 2 ^ (8*(j-1)))]).length,(Z1m n),(Z1o j)]) (t2:=[Xx 2 kU8 0 (acc++[(UInt8.ofNat (n / 2 ^ (8*(j-1))))]).length,(Z1m n),(Z1o j)]) (h1:=[.live (Xc 5 kU8 (acc++[UInt8.ofNat (n / 2 ^ (8*(j-1)))]))]) (h2:=[.live (Xc 5 kU8 (acc++[(UInt8.ofNat (n / 2 ^ (8*(j-1))))]))]) (congrArg (fun (q1:Nat)=>([Xx 2 kU8 0 q1,(Z1m n),(Z1o j)]:List AV)) (by rfl)) p2i hG)
 refine cF (dF hq2) (T.exit (xT (xT (xH (nT (sR [] (T.ret ?_)))))))
 exact eRt 6 (.one (.own 0 kU8.sz 0 acc.length)) [0] (by have e1:((b++(W7 n (m+1))).length:Nat)=acc.length:=p47;have hE:=congrArg (fun (q1:Nat)=>(Xx 0 kU8 0 q1:AV)) e1;exact hE) ⟨⟨rfl,(by have e1:(acc:List UInt8)=b++(W7 n (m+1)):=p47;have hE:=congrArg (fun (q1:List UInt8)=>(.live (Xc 5 kU8 q1):HS)) e1;exact Eq.trans pZ2 hE)⟩,trivial⟩
theorem Uv (tb:Bool) (nb:Bool) (b:List UInt8) (n:Int) (hb:b.length≤140737488355000):Holds Tryz.prog 72 ⟨[slV tb nb kU8 b,vI n],[],Xx 0 kU8 0 (b++Ym n).length,[.live (Xc 5 kU8 (b++Ym n))]⟩:=by
 refine Holds.of Tryz.func72 rfl (N:=9) Tryz.ntmps72 rfl fun w0 B0 S0 U0=>?_
 show T _ (Y0 9 0 w0 S0 U0 B0) ⟨[slV tb nb kU8 b,vI n],[]⟩ _ _
 have hn:=u64_lt n
 refine sR [] (sR [hR 2 rfl rfl (I2 (u:=.int .i64 n) (v:=.int .u64 ((u64 n:Nat):Int)) (c_u64 Tryz.underlying2 Tryz.underlying118) (X4 rfl) trivial),hR 3 rfl rfl (rCa (X56 tb nb b (u64 n) 7 ‹_› ‹_› (by omega)) Tryz.func102 [0] [(.tmp 5,slV tb nb kU8 b),(.tmp 7,dv (.int .u64 ((u64 n:Nat):Int))),(.const (.int .i64 8),vI 8)] 0 1)] (T.ret ?_))
 exact eRt 4 (.one (.own 0 kU8.sz 0 (b++(W7 (u64 n) 8)).length)) [0] p2j ⟨⟨rfl,p37⟩,trivial⟩
theorem Hy (tb:Bool) (nb:Bool) (b:List UInt8) (n:Int) (hb:b.length≤140737488355000):Holds Tryz.prog 75 ⟨[slV tb nb kU8 b,vI n],[],Xx 0 kU8 0 (b++Wh n).length,[.live (Xc 5 kU8 (b++Wh n))]⟩:=by
 refine Holds.of Tryz.func75 rfl (N:=11) Tryz.ntmps75 rfl fun w0 B0 S0 U0=>?_
 show T _ (Y0 11 0 w0 S0 U0 B0) ⟨[slV tb nb kU8 b,vI n],[]⟩ _ _
 have hn:=Xed n
 refine sR [] (sR [hR 2 rfl rfl (X2e (k:=.i64) (a:=n) (b:=0) (X4 rfl) ⟨rfl,trivial⟩),hR 3 rfl rfl (X85 (k:=.i64) (a:=max n 0) (b:=4294967295) (X4 rfl) ⟨rfl,trivial⟩),hR 4 rfl rfl (I2 (u:=.int .i64 (min (max n 0) 4294967295)) (v:=.int .u64 ((X2s n:Nat):Int)) (X0c Tryz.underlying3 Tryz.underlying118 (by rw [IntKind.wrap_u64];unfold X2s;omega)) (X4 rfl) trivial),hR 5 rfl rfl (rCa (X56 tb nb b (X2s n) 3 ‹_› (by omega) (by omega)) Tryz.func102 [0] [(.tmp 5,slV tb nb kU8 b),(.tmp 9,dv (.int .u64 ((X2s n:Nat):Int))),(.const (.int .i64 4),vI 4)] 0 1)] (T.ret ?_))
 exact eRt 4 (.one (.own 0 kU8.sz 0 (b++(W7 (X2s n) 4)).length)) [0] p2j ⟨⟨rfl,p36⟩,trivial⟩
theorem Hz (tb:Bool) (nb:Bool) (b:List UInt8) (tx:Bool) (nx:Bool) (x:List UInt8) (hb:b.length+x.length≤140737488355000):Holds Tryz.prog 73 ⟨[slV tb nb kU8 b,slV tx nx kU8 x],[],Xx 0 kU8 0 (b++Wl x).length,[.live (Xc 5 kU8 (b++Wl x))]⟩:=by
 refine Holds.of Tryz.func73 rfl (N:=11) Tryz.ntmps73 rfl fun w0 B0 S0 U0=>?_
 show T _ (Y0 11 0 w0 S0 U0 B0) ⟨[slV tb nb kU8 b,slV tx nx kU8 x],[]⟩ _ _
 have hcl:=I0 ((x.length:Nat):Int)
 refine sR [] ?_
 refine sR [hR 3 rfl rfl (rCa (Hy tb nb b ((x.length:Nat):Int) (by omega)) Tryz.func75 [0] [(.tmp 5,slV tb nb kU8 b),(.tmp 7,vI ((x.length:Nat):Int))] 0 1),hR 5 rfl rfl (Yq 0 1 5 1 kU8 V9 (b++Wh ((x.length:Nat):Int)) x (b++Wh ((x.length:Nat):Int)++x) (b++Wh ((x.length:Nat):Int)).length (sy:=(.d (dsl tx nx kU8 x))) (rhs:=[]) Uz (by omega) (Up tx nx kU8 x) p1o (by (simp [maxLen,-List.getD_eq_getElem?_getD]<;>omega)) (by (simp [maxLen,-List.getD_eq_getElem?_getD]<;>omega)) (X4 rfl) trivial)] ?_
 refine T.ret ?_
 exact eRt 4 (.one (.own 1 kU8.sz 0 (b++Wh ((x.length:Nat):Int)++x).length)) [1] p2t ⟨⟨rfl,p2k⟩,trivial⟩
abbrev Z1p (n:Nat):AV:=dv (.int .u64 ((n:Nat):Int))
abbrev Z1q (m:Nat):AV:=vI ((m:Nat):Int)
abbrev Z1r (n:Nat) (j:Nat):SV:=.d (.val (.int .u8 (((UInt8.ofNat (n / 2 ^ (8*(((j:Nat):Int)-1)).toNat)).toNat:Nat):Int)))
theorem X5y (tb:Bool) (nb:Bool) (b:List UInt8) (n:Nat) (m:Nat) (hb:b.length≤140737488355000) (hn:n<18446744073709551616) (hm:m≤8):Holds Tryz.prog 78 ⟨[slV tb nb kU8 b,dv (.int .u64 ((n:Nat):Int)),vI ((m:Nat):Int)],[],Xx 0 kU8 0 (b++(W7 n m)).length,[.live (Xc 5 kU8 (b++(W7 n m)))]⟩:=by
 refine Holds.of Tryz.func78 rfl (N:=27) Tryz.ntmps78 rfl fun w0 B0 S0 U0=>?_
 show T _ (Y0 27 0 w0 S0 U0 B0) ⟨[slV tb nb kU8 b,(Z1p n),(Z1q m)],[]⟩ _ _
 refine sR [] ?_
 refine sR [hR 0 rfl rfl (Yb 0 5 kU8 V9 ([]:List UInt8) [] (cs:=[]) Tryz.underlying34 Ur rfl I1 rfl rfl rfl pf Wa pZ2 (Vk pZ2) (X4 rfl) trivial),hR 2 rfl rfl (Yq 0 1 5 1 kU8 V9 ([]:List UInt8) b b ([]:List UInt8).length (sy:=(.d (dsl tb nb kU8 b))) (rhs:=[]) Uz (by omega) (Up tb nb kU8 b) (by simp) (by (simp [maxLen,-List.getD_eq_getElem?_getD]<;>omega)) (by (simp [maxLen,-List.getD_eq_getElem?_getD]<;>omega)) (X4 rfl) trivial)] ?_
 refine T.seq (sR [hR 1 rfl rfl (Y4 (u1:=.int .i64 ((m:Nat):Int)) (u2:=.int .i64 1) (v:=.int .i64 (((m:Nat):Int)-1)) (X0e pZ5) (X4 rfl) ⟨rfl,trivial⟩)] (T.block ?_))
 refine T.loop (ι:=Nat×(List UInt8)) (fun (x_:Nat×(List UInt8))=>⟨[slV tb nb kU8 b,(Z1p n),(Z1q m),aa,aa,aa,dv (.slice none 0 0),Xx 1 kU8 0 x_.2.length,vI (((x_.1:Nat):Int)-1)],[.dead,.live (Xc 5 kU8 x_.2)]⟩) (fun (x_:Nat×(List UInt8))=>(x_.1≤m)∧(x_.2++W7 n x_.1=b++W7 n m)) (fun (x_:Nat×(List UInt8))=>x_.1) (m,b) ⟨(Nat.le_refl _),rfl⟩ (fun _ _ hG=>Ww [3,1] (bm 9 455) (t1:=[slV tb nb kU8 b,(Z1p n),(Z1q m),aa,aa,aa,dv (.slice none 0 0),Xx 1 kU8 0 b.length,vI (((m:Nat):Int)-1)]) (h1:=[.dead,.live (Xc 5 kU8 b)]) rfl rfl hG) ?_
 rintro ⟨j,acc⟩ ⟨hj,he⟩
 show T _ _ ⟨[slV tb nb kU8 b,(Z1p n),(Z1q m),aa,aa,aa,dv (.slice none 0 0),Xx 1 kU8 0 acc.length,vI (((j:Nat):Int)-1)],[.dead,.live (Xc 5 kU8 acc)]⟩ _ _
 replace hj:j≤m:=hj
 replace he:acc++W7 n j=b++W7 n m:=he
 have hacc:=X5e he
 refine T.seq (sR [] ?_)
 by_cases hq1:(((j:Nat):Int)-1)≥0
 ·refine cT (dT hq1) (T.skip (nT (T.seq (T.block ?_))))
  refine xR [hR 3 rfl rfl (Y4 (u1:=.int .i64 8) (u2:=.int .i64 (((j:Nat):Int)-1)) (v:=.int .i64 (8*(((j:Nat):Int)-1))) (Xbh pZ5) (X4 rfl) ⟨rfl,trivial⟩),hR 4 rfl rfl (Y4 (u1:=.int .u64 ((n:Nat):Int)) (u2:=.int .i64 (8*(((j:Nat):Int)-1))) (v:=.int .u64 ((n / 2 ^ (8*(((j:Nat):Int)-1)).toNat:Nat):Int)) (Xd0 (n:=(8*(((j:Nat):Int)-1)).toNat) (by omega) pk) (X4 rfl) trivial),hR 5 rfl rfl (I2 (u:=.int .u64 ((n / 2 ^ (8*(((j:Nat):Int)-1)).toNat:Nat):Int)) (v:=.int .u8 (((UInt8.ofNat (n / 2 ^ (8*(((j:Nat):Int)-1)).toNat)).toNat:Nat):Int)) (Xcu Tryz.underlying118 Tryz.underlying5) (X4 rfl) trivial),hR 6 rfl rfl (Yb 2 5 kU8 V9 [(UInt8.ofNat (n / 2 ^ (8*(((j:Nat):Int)-1)).toNat))] [⟨0,.tmp 23,.one ((Z1r n j)),0⟩] (cs:=[(Z1r n j)]) Tryz.underlying34 Ur rfl I1 rfl rfl rfl pf (Wi rfl rfl pf Wa) pZ2 (Vk pZ2) (X4 rfl) trivial),hR 7 rfl rfl (Yq 1 3 5 1 kU8 V9 acc [(UInt8.ofNat (n / 2 ^ (8*(((j:Nat):Int)-1)).toNat))] (acc++[(UInt8.ofNat (n / 2 ^ (8*(((j:Nat):Int)-1)).toNat))]) acc.length (sy:=(.own 2 kU8.sz 0 [(UInt8.ofNat (n / 2 ^ (8*(((j:Nat):Int)-1)).toNat))].length)) (rhs:=[(2,.live (Xc 5 kU8 [(UInt8.ofNat (n / 2 ^ (8*(((j:Nat):Int)-1)).toNat))]))]) Uz (by omega) (U4 2 5 kU8 [(UInt8.ofNat (n / 2 ^ (8*(((j:Nat):Int)-1)).toNat))]) p1o (by (simp [maxLen,-List.getD_eq_getElem?_getD]<;>omega)) (by (simp [maxLen,-List.getD_eq_getElem?_getD]<;>omega)) (X4 rfl) trivial)] pZ2 pZ2 ?_
  refine nB (nT (xK [hR 1 rfl rfl (Y4 (u1:=.int .i64 (((j:Nat):Int)-1)) (u2:=.int .i64 1) (v:=.int .i64 ((((j:Nat):Int)-1)-1)) (X0e pZ5) (X4 rfl) ⟨rfl,trivial⟩)] ?_))
  refine nL (j-1,acc++[UInt8.ofNat (n / 2 ^ (8*(((j:Nat):Int)-1)).toNat)]) ⟨(show (j-1)≤m from (by omega)),(show (acc++[UInt8.ofNat (n / 2 ^ (8*(((j:Nat):Int)-1)).toNat)])++W7 n (j-1)=b++W7 n m from (Xa0 he (by omega)))⟩ (show ((j-1):Nat)<j from (by omega)) (fun _ _ hG=>Ww [5,3] (bm 9 455) (t1:=[slV tb nb kU8 b,(Z1p n),(Z1q m),aa,aa,aa,dv (.slice none 0 0),Xx 3 kU8 0 (acc++[UInt8.ofNat (n / 2 ^ (8*(((j:Nat):Int)-1)).toNat)]).length,vI (((j-1:Nat):Int)-1)]) (t2:=[slV tb nb kU8 b,(Z1p n),(Z1q m),aa,aa,aa,dv (.slice none 0 0),Xx 3 kU8 0 (acc++[(UInt8.ofNat (n / 2 ^ (8*(((j:Nat):Int)-1)).toNat))]).length,vI ((((j:Nat):Int)-1)-1)]) (h1:=[.dead,.live (Xc 5 kU8 (acc++[UInt8.ofNat (n / 2 ^ (8*(((j:Nat):Int)-1)).toNat)]))]) (h2:=[.dead,.live (Xc 5 kU8 (acc++[(UInt8.ofNat (n / 2 ^ (8*(((j:Nat):Int)-1)).toNat))]))]) (cg2 (fun (q1:Nat) (q2:Int)=>([slV tb nb kU8 b,(Z1p n),(Z1q m),aa,aa,aa,dv (.slice none 0 0),Xx 3 kU8 0 q1,vI q2]:List AV)) (by rfl) (by omega)) (congrArg (fun (q1:List UInt8)=>([.dead,.live (Xc 5 kU8 q1)]:List HS)) (by rfl)) hG)
 refine cF (dF hq1) (T.exit (xT (xT (xH (nT (sR [] (T.ret ?_)))))))
 exact eRt 6 (.one (.own 1 kU8.sz 0 acc.length)) [1] (by have e1:((b++(W7 n m)).length:Nat)=acc.length:=p47;have hE:=congrArg (fun (q1:Nat)=>(Xx 1 kU8 0 q1:AV)) e1;exact hE) ⟨⟨rfl,(by have e1:(acc:List UInt8)=b++(W7 n m):=p47;have hE:=congrArg (fun (q1:List UInt8)=>(.live (Xc 5 kU8 q1):HS)) e1;exact Eq.trans pZ2 hE)⟩,trivial⟩
theorem I5 (tb:Bool) (nb:Bool) (b:List UInt8) (n:Int) (hb:b.length≤140737488355000):Holds Tryz.prog 44 ⟨[slV tb nb kU8 b,vI n],[],Xx 0 kU8 0 (b++Ym n).length,[.live (Xc 5 kU8 (b++Ym n))]⟩:=by
 refine Holds.of Tryz.func44 rfl (N:=9) Tryz.ntmps44 rfl fun w0 B0 S0 U0=>?_
 show T _ (Y0 9 0 w0 S0 U0 B0) ⟨[slV tb nb kU8 b,vI n],[]⟩ _ _
 have hn:=u64_lt n
 refine sR [] (sR [hR 2 rfl rfl (I2 (u:=.int .i64 n) (v:=.int .u64 ((u64 n:Nat):Int)) (c_u64 Tryz.underlying2 Tryz.underlying118) (X4 rfl) trivial),hR 3 rfl rfl (rCa (X5y tb nb b (u64 n) 8 ‹_› ‹_› (by omega)) Tryz.func78 [0] [(.tmp 5,slV tb nb kU8 b),(.tmp 7,dv (.int .u64 ((u64 n:Nat):Int))),(.const (.int .i64 8),vI 8)] 0 1)] (T.ret ?_))
 exact eRt 4 (.one (.own 0 kU8.sz 0 (b++(W7 (u64 n) 8)).length)) [0] p2j ⟨⟨rfl,p37⟩,trivial⟩
theorem Em (tb:Bool) (nb:Bool) (b:List UInt8) (n:Int) (hb:b.length≤140737488355000):Holds Tryz.prog 47 ⟨[slV tb nb kU8 b,vI n],[],Xx 0 kU8 0 (b++Wh n).length,[.live (Xc 5 kU8 (b++Wh n))]⟩:=by
 refine Holds.of Tryz.func47 rfl (N:=11) Tryz.ntmps47 rfl fun w0 B0 S0 U0=>?_
 show T _ (Y0 11 0 w0 S0 U0 B0) ⟨[slV tb nb kU8 b,vI n],[]⟩ _ _
 have hn:=Xed n
 refine sR [] (sR [hR 2 rfl rfl (X85 (k:=.i64) (a:=n) (b:=4294967295) (X4 rfl) ⟨rfl,trivial⟩),hR 3 rfl rfl (X2e (k:=.i64) (a:=0) (b:=min n 4294967295) (X4 rfl) ⟨rfl,trivial⟩),hR 4 rfl rfl (I2 (u:=.int .i64 (max 0 (min n 4294967295))) (v:=.int .u64 ((X2s n:Nat):Int)) (X0c Tryz.underlying3 Tryz.underlying118 (by rw [IntKind.wrap_u64];unfold X2s;omega)) (X4 rfl) trivial),hR 5 rfl rfl (rCa (X5y tb nb b (X2s n) 4 ‹_› (by omega) (by omega)) Tryz.func78 [0] [(.tmp 5,slV tb nb kU8 b),(.tmp 9,dv (.int .u64 ((X2s n:Nat):Int))),(.const (.int .i64 4),vI 4)] 0 1)] (T.ret ?_))
 exact eRt 4 (.one (.own 0 kU8.sz 0 (b++(W7 (X2s n) 4)).length)) [0] p2j ⟨⟨rfl,p36⟩,trivial⟩
theorem En (tb:Bool) (nb:Bool) (b:List UInt8) (tx:Bool) (nx:Bool) (x:List UInt8) (hb:b.length+x.length≤140737488355000):Holds Tryz.prog 45 ⟨[slV tb nb kU8 b,slV tx nx kU8 x],[],Xx 0 kU8 0 (b++Wl x).length,[.live (Xc 5 kU8 (b++Wl x))]⟩:=by
 refine Holds.of Tryz.func45 rfl (N:=13) Tryz.ntmps45 rfl fun w0 B0 S0 U0=>?_
 show T _ (Y0 13 0 w0 S0 U0 B0) ⟨[slV tb nb kU8 b,slV tx nx kU8 x],[]⟩ _ _
 have hcl:=I0 ((x.length:Nat):Int)
 refine sR [] (sR [hR 3 rfl rfl (rCa (Em tb nb b ((x.length:Nat):Int) (by omega)) Tryz.func47 [0] [(.tmp 6,slV tb nb kU8 b),(.tmp 8,vI ((x.length:Nat):Int))] 0 1)] ?_)
 refine sR [hR 2 rfl rfl (Yq 0 1 5 1 kU8 V9 (b++Wh ((x.length:Nat):Int)) x (b++Wh ((x.length:Nat):Int)++x) (b++Wh ((x.length:Nat):Int)).length (sy:=(.d (dsl tx nx kU8 x))) (rhs:=[]) Uz (by omega) (Up tx nx kU8 x) p1o (by (simp [maxLen,-List.getD_eq_getElem?_getD]<;>omega)) (by (simp [maxLen,-List.getD_eq_getElem?_getD]<;>omega)) (X4 rfl) trivial)] ?_
 refine T.ret ?_
 exact eRt 4 (.one (.own 1 kU8.sz 0 (b++Wh ((x.length:Nat):Int)++x).length)) [1] p2t ⟨⟨rfl,p2k⟩,trivial⟩
section
variable (tb:Bool) (nb:Bool) (b:List UInt8) (k:Nat)
abbrev Z1s:AV:=vI ((b.length:Nat):Int)
abbrev Z1t:St:=⟨[slV tb nb kU8 b,aa,dv (.int .u64 ((Wy (b.take k):Nat):Int)),aa,aa,slV tb nb kU8 b,(Z1s b),vI ((k:Nat):Int)],[]⟩
abbrev Z1v:AV:=vI ((k+1:Nat):Int)
end
theorem Ee (tb:Bool) (nb:Bool) (b:List UInt8) (hb:b.length≤8):Holds Tryz.prog 116 ⟨[slV tb nb kU8 b],[],dv (.int .u64 ((Wy b:Nat):Int)),[]⟩:=by
 refine Holds.of Tryz.func116 rfl (N:=18) Tryz.ntmps116 rfl fun w0 B0 S0 U0=>?_
 show T _ (Y0 18 0 w0 S0 U0 B0) ⟨[slV tb nb kU8 b],[]⟩ _ _
 refine sR [] (T.seq (sR [] (T.block ?_)))
 refine T.loop (ι:=Nat) (fun (k:Nat)=>(Z1t tb nb b k)) (fun (k:Nat)=>(k≤b.length)) (fun (k:Nat)=>b.length-k) (0) (Nat.zero_le _) (fun _ _ hG=>Y9 [] (bm 8 229) (t2:=[slV tb nb kU8 b,aa,dv (.int .u64 0),aa,aa,slV tb nb kU8 b,(Z1s b),vI 0]) (congrArg (fun (q1:Int)=>([slV tb nb kU8 b,aa,dv (.int .u64 q1),aa,aa,slV tb nb kU8 b,(Z1s b),vI 0]:List AV)) (by rfl)) rfl hG) ?_
 rintro k hk
 show T _ _ (Z1t tb nb b k) _ _
 replace hk:k≤b.length:=hk
 have hk8:Wy (b.take k)<18446744073709551616:=X2i (by simp only [List.length_take];omega)
 refine sR [] (T.seq ?_)
 by_cases hq1:((k:Nat):Int)<((b.length:Nat):Int)
 ·have hk7:Wy (b.take k)<72057594037927936:=Xah (by simp only [List.length_take];omega);have hbt:=UInt8.toNat_lt (b.getD k 0)
  refine cT (dT hq1) (T.skip (nT (T.seq (T.block (sR [hR 0 rfl rfl (Yo tb nb kU8 b k (k:=.i64) (i:=((k:Nat):Int)) Tryz.underlying34 Ur rfl rfl (by omega) (X4 rfl) trivial)] ?_)))))
  refine xR [hR 1 rfl rfl (Y4 (u1:=.int .u64 ((Wy (b.take k):Nat):Int)) (u2:=.int .u64 8) (v:=.int .u64 (((Wy (b.take k))*2 ^ 8:Nat):Int)) (Ud (n:=8) rfl pk p49) (X4 rfl) ⟨rfl,trivial⟩),hR 3 rfl rfl (I2 (u:=.int .u8 (((b.getD k 0).toNat:Nat):Int)) (v:=.int .u64 (((b.getD k 0).toNat:Nat):Int)) (X0c Tryz.underlying5 Tryz.underlying118 p49) (X4 rfl) trivial),hR 4 rfl rfl (Y4 (u1:=.int .u64 (((Wy (b.take k))*2 ^ 8:Nat):Int)) (u2:=.int .u64 (((b.getD k 0).toNat:Nat):Int)) (v:=.int .u64 ((((Wy (b.take k))*2 ^ 8) ||| (b.getD k 0).toNat:Nat):Int)) (b_orU (by omega) (by omega)) (X4 rfl) trivial)] pZ2 pZ2 (nB (nT ?_))
  refine xK [hR 0 rfl rfl (Y4 (u1:=.int .i64 ((k:Nat):Int)) (u2:=.int .i64 1) (v:=.int .i64 ((k+1:Nat):Int)) (Yn pZ5) (X4 rfl) ⟨rfl,trivial⟩)] ?_
  refine nL (k+1) (show (k+1)≤b.length from (by omega)) (show (b.length-(k+1):Nat)<b.length-k from (by omega)) (fun _ _ hG=>Y9 [] (bm 8 229) (t2:=[slV tb nb kU8 b,aa,dv (.int .u64 ((((Wy (b.take k))*2 ^ 8) ||| (b.getD k 0).toNat:Nat):Int)),aa,aa,slV tb nb kU8 b,(Z1s b),(Z1v k)]) (by have e1:(((Wy (b.take (k+1)):Nat):Int):Int)=((((Wy (b.take k))*2 ^ 8) ||| (b.getD k 0).toNat:Nat):Int):=(by (rw [X8a (by omega)]));have hE:=congrArg (fun (q1:Int)=>([slV tb nb kU8 b,aa,dv (.int .u64 q1),aa,aa,slV tb nb kU8 b,(Z1s b),(Z1v k)]:List AV)) e1;exact hE) rfl hG)
 refine cF (dF hq1) (T.exit (xT (xT (xH (nT (sR [] (T.ret ?_)))))))
 exact eRt 2 (.one (.d (.val (.int .u64 ((Wy (b.take k):Nat):Int))))) [] (by have e1:(((Wy b:Nat):Int):Int)=((Wy (b.take k):Nat):Int):=(by (rw [List.take_of_length_le (by omega)]));have hE:=congrArg (fun (q1:Int)=>(dv (.int .u64 q1):AV)) e1;exact hE) trivial
theorem wire_any (tb:Bool) (nb:Bool) (b:List UInt8):Holds Tryz.prog 106 ⟨[slV tb nb kU8 b],[],vI 0,[]⟩:=by
 refine Holds.of Tryz.func106 rfl (N:=3) Tryz.ntmps106 rfl fun w0 B0 S0 U0=>?_
 show T _ (Y0 3 0 w0 S0 U0 B0) ⟨[slV tb nb kU8 b],[]⟩ _ _
 refine sR [] (sR [] (T.ret ?_))
 exact eRt 2 (.one (dI 0)) [] rfl trivial
theorem X9u (most:Int) (tb:Bool) (nb:Bool) (b:List UInt8) (hb:b.length≤4):Holds Tryz.prog 117 ⟨[vI most,slV tb nb kU8 b],[],vI (Yc most b),[]⟩:=by
 refine Holds.of Tryz.func117 rfl (N:=11) Tryz.ntmps117 rfl fun w0 B0 S0 U0=>?_
 show T _ (Y0 11 0 w0 S0 U0 B0) ⟨[vI most,slV tb nb kU8 b],[]⟩ _ _
 have hnb:=X2j hb
 refine sR [] (T.seq (sR [hR 1 rfl rfl (rCa (Ee tb nb b (by omega)) Tryz.func116 [] [(.tmp 5,slV tb nb kU8 b)] 0 0),hR 2 rfl rfl (I2 (u:=.int .u64 ((Wy b:Nat):Int)) (v:=.int .i64 ((Wy b:Nat):Int)) (X0c Tryz.underlying118 Tryz.underlying3 pZ5) (X4 rfl) trivial),hR 4 rfl rfl (X2e (k:=.i64) (a:=most) (b:=0) (X4 rfl) ⟨rfl,trivial⟩)] ?_))
 by_cases hq1:((Wy b:Nat):Int)>(max most 0)
 ·refine cT (dT hq1) (sR [] (T.ret (rT ?_)))
  exact eRt 4 (.one (dI 11)) [] (by have e1:(Yc most b:Int)=11:=(by (simp only [Yc];rw [if_pos ‹_›]));have hE:=cI e1;exact hE) trivial
 refine cF (dF hq1) (T.skip (nT (sR [] (T.ret ?_))))
 exact eRt 4 (.one (dI 0)) [] (by have e1:(Yc most b:Int)=0:=(by (simp only [Yc];rw [if_neg ‹_›]));have hE:=cI e1;exact hE) trivial
theorem wire_New (tb:Bool) (nb:Bool) (b:List UInt8) (hb:b.length≤140737488355328):Holds Tryz.prog 79 ⟨[slV tb nb kU8 b],[],pv 0 0,[.live (.box 162 [dU b,dI 0])]⟩:=by
 refine Holds.of Tryz.func79 rfl (N:=7) Tryz.ntmps79 rfl fun w0 B0 S0 U0=>?_
 show T _ (Y0 7 0 w0 S0 U0 B0) ⟨[slV tb nb kU8 b],[]⟩ _ _
 refine sR [] (sR [hR 1 rfl rfl (rCa (X07 tb nb b ‹_›) Tryz.func50 [0] [(.tmp 3,slV tb nb kU8 b)] 0 1)] (T.ret ?_))
 refine eN ⟨[slV tb nb kU8 b,aa,pv 1 0],[.live (Xc 5 kU8 b),.live (.box 162 [.own 0 kU8.sz 0 b.length,dI 0])]⟩ ?_
 refine Xh (s':=⟨[slV tb nb kU8 b,aa,pv 1 0],[.dead,.live (.box 162 [dU b,dI 0])]⟩) (fun _ _ hG=>Gs.freeze (s:=⟨[slV tb nb kU8 b,aa,pv 1 0],[.live (Xc 5 kU8 b),.live (.box 162 [.own 0 kU8.sz 0 b.length,dI 0])]⟩) 0 (el:=Yu kU8 b) (sz:=kU8.sz) (n:=b.length) rfl ⟨.inl rfl,(kk2 trivial)⟩ ⟨(.inl ⟨rfl,rfl⟩),⟨(.inr ⟨by decide,.inr ⟨rfl,⟨pZ6,⟨.inl rfl,trivial⟩⟩⟩⟩),trivial⟩⟩ hG) ?_
 exact eRt 2 (.one (.ptr 1 0)) [1] rfl (ix trivial)
theorem X3s (rest:List UInt8) (e:Int) (n:Int) (hr:rest.length≤140737488355328) (hn:0≤n) (hc:okT rest e n 0):Holds Tryz.prog 105 ⟨[pv 0 0,vI n,dv (.func (.func 106) #[] #[])],[.box 162 [dU rest,dI e]],slV false false kU8 (rest.take n.toNat),[.live (.box 162 [dU (rest.drop n.toNat),dI 0])]⟩:=by
 refine Holds.of Tryz.func105 rfl (N:=54) Tryz.ntmps105 rfl fun w0 B0 S0 U0=>?_
 show T _ (Y0 54 1 w0 S0 U0 B0) ⟨[pv 0 0,vI n,dv (.func (.func 106) #[] #[])],[.live (.box 162 [dU rest,dI e])]⟩ _ _
 have htl:(rest.take n.toNat).length≤n.toNat:=List.length_take_le _ _
 obtain ⟨hc1,hc2,hc3⟩:=hc
 have htm:(rest.take n.toNat).length=n.toNat:=by rw [List.length_take];omega
 refine sR [] (T.seq (sR (Xf hY0 [3,4,5,6,7] (hP0 8::[])) ?_))
 by_cases hq1:e≠0
 ·exact absurd hc1 hq1
 refine cF (dF hq1) (T.skip (nT (T.seq (sR [] ?_))))
 by_cases hq2:n>((rest.length:Nat):Int)
 ·exact absurd hc2 (by omega)
 refine cF (dF hq2) (T.skip (nT (sR [hR 5 rfl rfl (Fq false false kU8 rest (rest.take (n).toNat) 0 (n).toNat (lo:=none) (hi:=some (.tmp 31,n)) Tryz.underlying34 Ur rfl rfl rfl rfl (by omega) (by omega) (by omega) rfl (X4 rfl) trivial)] (T.seq (sR [hR 3 rfl rfl (X4v (fs:=#[]) (cs:=#[]) (wire_any false false (rest.take (n).toNat) ) Tryz.func106 rfl (by decide) [] [] (l:=[(.tmp 35,slV false false kU8 (rest.take (n).toNat))]) [] rfl 0 0 rfl rfl rfl rfl rfl rfl rfl rfl rfl rfl rfl ⟨.inl ⟨rfl,rfl⟩,trivial⟩ rfl p3w (.inl rfl) (X4 rfl) trivial)] (sR [] (cF (b:=false) rfl (T.skip (nT ?_)))))))))
 refine sR [hR 6 rfl rfl (Fq false false kU8 rest (rest.drop (n).toNat) (n).toNat rest.length (lo:=some (.tmp 49,n)) (hi:=none) Tryz.underlying34 Ur rfl rfl rfl (by omega) rfl (by omega) (by omega) p1o (X4 rfl) trivial)] (sR [] (T.ret ?_))
 exact eRt 6 (.one (dU (rest.take (n).toNat))) [0] p4q ⟨⟨rfl,(by have e1:((rest.drop (n).toNat):List UInt8)=(rest.drop n.toNat):=(by rfl);have hE:=congrArg (fun (q1:List UInt8)=>(.live (.box 162 [dU q1,dI 0]):HS)) e1;exact Eq.trans pZ2 hE)⟩,trivial⟩
theorem X3t (rest:List UInt8) (e:Int) (n:Int) (hr:rest.length≤140737488355328) (hn:0≤n) (hc:¬okT rest e n 0):Holds Tryz.prog 105 ⟨[pv 0 0,vI n,dv (.func (.func 106) #[] #[])],[.box 162 [dU rest,dI e]],dv (.slice none 0 0),[.live (.box 162 [dU rest,dI (rdE rest e n 0)])]⟩:=by
 refine Holds.of Tryz.func105 rfl (N:=54) Tryz.ntmps105 rfl fun w0 B0 S0 U0=>?_
 show T _ (Y0 54 1 w0 S0 U0 B0) ⟨[pv 0 0,vI n,dv (.func (.func 106) #[] #[])],[.live (.box 162 [dU rest,dI e])]⟩ _ _
 have htl:(rest.take n.toNat).length≤n.toNat:=List.length_take_le _ _
 refine sR [] (T.seq (sR (Xf hY0 [3,4,5,6,7] (hP0 8::[])) ?_))
 by_cases hq1:e≠0
 ·refine cT (dT hq1) (sR [] (T.ret (rT ?_)))
  exact eRt 6 (.one (.d (.val (.slice none 0 0)))) [0] rfl ⟨⟨rfl,(by have e1:(e:Int)=(rdE rest e n 0):=(by (simp only [rdE];rw [if_pos ‹_›]));have hE:=congrArg (fun (q1:Int)=>(.live (.box 162 [dU rest,dI q1]):HS)) e1;exact Eq.trans pZ2 hE)⟩,trivial⟩
 refine cF (dF hq1) (T.skip (nT (T.seq (sR [] ?_))))
 by_cases hq2:n>((rest.length:Nat):Int)
 ·refine cT (dT hq2) (sR [] (sR [] (T.ret (rT ?_))))
  exact eRt 6 (.one (.d (.val (.slice none 0 0)))) [0] rfl ⟨⟨rfl,(by have e1:(10:Int)=(rdE rest e n 0):=(by (simp only [rdE];(rw [if_neg ‹_›];rw [if_pos ‹_›])));have hE:=congrArg (fun (q1:Int)=>(.live (.box 162 [dU rest,dI q1]):HS)) e1;exact Eq.trans pZ2 hE)⟩,trivial⟩
 exact absurd ⟨by omega,by omega,rfl⟩ hc
theorem X7c (rest:List UInt8) (e:Int) (n:Int) (most:Int) (hr:rest.length≤140737488355328) (hn:n=4) (hc:okT rest e n (Yc most (rest.take n.toNat))):Holds Tryz.prog 105 ⟨[pv 0 0,vI n,dv (.func (.func 117) #[.int .i64 most] #[])],[.box 162 [dU rest,dI e]],slV false false kU8 (rest.take n.toNat),[.live (.box 162 [dU (rest.drop n.toNat),dI 0])]⟩:=by
 refine Holds.of Tryz.func105 rfl (N:=54) Tryz.ntmps105 rfl fun w0 B0 S0 U0=>?_
 show T _ (Y0 54 1 w0 S0 U0 B0) ⟨[pv 0 0,vI n,dv (.func (.func 117) #[.int .i64 most] #[])],[.live (.box 162 [dU rest,dI e])]⟩ _ _
 have htl:(rest.take n.toNat).length≤n.toNat:=List.length_take_le _ _
 obtain ⟨hc1,hc2,hc3⟩:=hc
 have htm:(rest.take n.toNat).length=n.toNat:=by rw [List.length_take];omega
 refine sR [] (T.seq (sR (Xf hY0 [3,4,5,6,7] (hP0 8::[])) ?_))
 by_cases hq1:e≠0
 ·exact absurd hc1 hq1
 refine cF (dF hq1) (T.skip (nT (T.seq (sR [] ?_))))
 by_cases hq2:n>((rest.length:Nat):Int)
 ·exact absurd hc2 (by omega)
 refine cF (dF hq2) (T.skip (nT (sR [hR 5 rfl rfl (Fq false false kU8 rest (rest.take (n).toNat) 0 (n).toNat (lo:=none) (hi:=some (.tmp 31,n)) Tryz.underlying34 Ur rfl rfl rfl rfl (by omega) (by omega) (by omega) rfl (X4 rfl) trivial)] (T.seq (sR [hR 3 rfl rfl (X4v (fs:=#[.int .i64 most]) (cs:=#[]) (X9u most false false (rest.take (n).toNat) (by omega)) Tryz.func117 rfl (by decide) [] [] (l:=[(.tmp 35,slV false false kU8 (rest.take (n).toNat))]) [] rfl 0 0 rfl rfl rfl rfl rfl rfl rfl rfl rfl rfl rfl ⟨.inl ⟨rfl,rfl⟩,⟨.inl ⟨rfl,rfl⟩,trivial⟩⟩ rfl p3w (.inl rfl) (X4 rfl) trivial)] (sR [] ?_))))))
 by_cases hq3:(Yc most (rest.take (n).toNat))≠0
 ·exact absurd hc3 hq3
 refine cF (dF hq3) (T.skip (nT (sR [hR 6 rfl rfl (Fq false false kU8 rest (rest.drop (n).toNat) (n).toNat rest.length (lo:=some (.tmp 49,n)) (hi:=none) Tryz.underlying34 Ur rfl rfl rfl (by omega) rfl (by omega) (by omega) p1o (X4 rfl) trivial)] (sR [] (T.ret ?_)))))
 exact eRt 6 (.one (dU (rest.take (n).toNat))) [0] p4q ⟨⟨rfl,(by have e1:((rest.drop (n).toNat):List UInt8)=(rest.drop n.toNat):=(by rfl);have e2:(Yc most (rest.take (n).toNat):Int)=0:=(by exact hc3);have hE:=congr pZs e2;exact Eq.trans pZ2 hE)⟩,trivial⟩
theorem X7d (rest:List UInt8) (e:Int) (n:Int) (most:Int) (hr:rest.length≤140737488355328) (hn:n=4) (hc:¬okT rest e n (Yc most (rest.take n.toNat))):Holds Tryz.prog 105 ⟨[pv 0 0,vI n,dv (.func (.func 117) #[.int .i64 most] #[])],[.box 162 [dU rest,dI e]],dv (.slice none 0 0),[.live (.box 162 [dU rest,dI (rdE rest e n (Yc most (rest.take n.toNat)))])]⟩:=by
 refine Holds.of Tryz.func105 rfl (N:=54) Tryz.ntmps105 rfl fun w0 B0 S0 U0=>?_
 show T _ (Y0 54 1 w0 S0 U0 B0) ⟨[pv 0 0,vI n,dv (.func (.func 117) #[.int .i64 most] #[])],[.live (.box 162 [dU rest,dI e])]⟩ _ _
 have htl:(rest.take n.toNat).length≤n.toNat:=List.length_take_le _ _
 refine sR [] (T.seq (sR (Xf hY0 [3,4,5,6,7] (hP0 8::[])) ?_))
 by_cases hq1:e≠0
 ·refine cT (dT hq1) (sR [] (T.ret (rT ?_)))
  exact eRt 6 (.one (.d (.val (.slice none 0 0)))) [0] rfl ⟨⟨rfl,(by have e1:(e:Int)=(rdE rest e n (Yc most (rest.take n.toNat))):=(by (simp only [rdE];rw [if_pos ‹_›]));have hE:=congrArg (fun (q1:Int)=>(.live (.box 162 [dU rest,dI q1]):HS)) e1;exact Eq.trans pZ2 hE)⟩,trivial⟩
 refine cF (dF hq1) (T.skip (nT (T.seq (sR [] ?_))))
 by_cases hq2:n>((rest.length:Nat):Int)
 ·refine cT (dT hq2) (sR [] (sR [] (T.ret (rT ?_))))
  exact eRt 6 (.one (.d (.val (.slice none 0 0)))) [0] rfl ⟨⟨rfl,(by have e1:(10:Int)=(rdE rest e n (Yc most (rest.take n.toNat))):=(by (simp only [rdE];(rw [if_neg ‹_›];rw [if_pos ‹_›])));have hE:=congrArg (fun (q1:Int)=>(.live (.box 162 [dU rest,dI q1]):HS)) e1;exact Eq.trans pZ2 hE)⟩,trivial⟩
 refine cF (dF hq2) (T.skip (nT (sR [hR 5 rfl rfl (Fq false false kU8 rest (rest.take (n).toNat) 0 (n).toNat (lo:=none) (hi:=some (.tmp 31,n)) Tryz.underlying34 Ur rfl rfl rfl rfl (by omega) (by omega) (by omega) rfl (X4 rfl) trivial)] (T.seq (sR [hR 3 rfl rfl (X4v (fs:=#[.int .i64 most]) (cs:=#[]) (X9u most false false (rest.take (n).toNat) (by omega)) Tryz.func117 rfl (by decide) [] [] (l:=[(.tmp 35,slV false false kU8 (rest.take (n).toNat))]) [] rfl 0 0 rfl rfl rfl rfl rfl rfl rfl rfl rfl rfl rfl ⟨.inl ⟨rfl,rfl⟩,⟨.inl ⟨rfl,rfl⟩,trivial⟩⟩ rfl p3w (.inl rfl) (X4 rfl) trivial)] (sR [] ?_))))))
 by_cases hq3:(Yc most (rest.take (n).toNat))≠0
 ·refine cT (dT hq3) (sR [] (T.ret (rT ?_)))
  exact eRt 6 (.one (.d (.val (.slice none 0 0)))) [0] rfl ⟨⟨rfl,(by have e1:(Yc most (rest.take (n).toNat):Int)=(rdE rest e n (Yc most (rest.take n.toNat))):=(by (simp only [rdE];(rw [if_neg ‹_›];rw [if_neg ‹_›])));have hE:=congrArg (fun (q1:Int)=>(.live (.box 162 [dU rest,dI q1]):HS)) e1;exact Eq.trans pZ2 hE)⟩,trivial⟩
 exact absurd ⟨by omega,by omega,Classical.not_not.1 hq3⟩ hc
theorem rd_Int (rest:List UInt8) (e:Int) (hr:rest.length≤140737488355328):Holds Tryz.prog 103 ⟨[pv 0 0],[.box 162 [dU rest,dI e]],vI (rdI rest e),[.live (.box 162 [dU (rdR rest e 8 0),dI (rdE rest e 8 0)])]⟩:=by
 refine Holds.of Tryz.func103 rfl (N:=11) Tryz.ntmps103 rfl fun w0 B0 S0 U0=>?_
 show T _ (Y0 11 1 w0 S0 U0 B0) ⟨[pv 0 0],[.live (.box 162 [dU rest,dI e])]⟩ _ _
 have hi8:Wy (rest.take 8)<18446744073709551616:=X2i (List.length_take_le _ _)
 refine sR [] (T.seq ?_)
 by_cases hq1:okT rest e 8 0
 ·have hk:=id hq1;simp only [okT] at hk
  refine sR [hR 1 rfl rfl (rCa (X3s rest e 8 ‹_› (by omega) ‹_›) Tryz.func105 [0] [(.tmp 4,pv 0 0),(.const (.int .i64 8),vI 8),(.func 106,dv (.func (.func 106) #[] #[]))] 1 1)] ?_
  refine sR [hR 1 rfl rfl (Xdg (s:=dU (rest.take 8)) Tryz.underlying34 (.inr (by (simp [maxLen,-List.getD_eq_getElem?_getD]<;>omega))) (X4 rfl) ⟨rfl,trivial⟩)] ?_
  refine cT (b:=true) rfl ?_
  refine sR [hR 1 rfl rfl (rCa (Ee false false (rest.take 8) (by (simp [maxLen,-List.getD_eq_getElem?_getD]<;>omega))) Tryz.func116 [] [(.tmp 8,slV false false kU8 (rest.take 8))] 0 0),hR 2 rfl rfl (I2 (u:=.int .u64 ((Wy (rest.take 8):Nat):Int)) (v:=.int .i64 (X1y (Wy (rest.take 8)))) (c_i64 ‹_› Tryz.underlying118 Tryz.underlying2) (X4 rfl) trivial)] ?_
  refine T.ret (rT ?_)
  exact eRt 2 (.one (dI (X1y (Wy (rest.take 8))))) [0] (by have e1:(rdI rest e:Int)=X1y (Wy (rest.take 8)):=(by (simp only [rdI];(rw [if_pos ‹_›];done)));have hE:=cI e1;exact hE) ⟨⟨rfl,(by have e1:((rest.drop 8):List UInt8)=(rdR rest e 8 0):=(by (rw [X65 ‹_›];rfl));have e2:(0:Int)=(rdE rest e 8 0):=(by (rw [X66 ‹_›]));have hE:=congr pZs e2;exact Eq.trans pZ2 hE)⟩,trivial⟩
 refine sR [hR 1 rfl rfl (rCa (X3t rest e 8 ‹_› (by omega) ‹_›) Tryz.func105 [0] [(.tmp 4,pv 0 0),(.const (.int .i64 8),vI 8),(.func 106,dv (.func (.func 106) #[] #[]))] 1 1)] (sR [hR 1 rfl rfl (Y4 (u1:=.slice none 0 0) (u2:=.slice none 0 0) (v:=.bool false) (X8q Tryz.underlying34) (X4 rfl) ⟨rfl,trivial⟩)] (cF (b:=false) rfl (T.skip (nT (sR [] (T.ret ?_))))))
 exact eRt 2 (.one (dI 0)) [0] (by have e1:(rdI rest e:Int)=0:=(by (simp only [rdI];(rw [if_neg ‹_›];done)));have hE:=cI e1;exact hE) ⟨⟨rfl,(by have e1:(rest:List UInt8)=(rdR rest e 8 0):=(by (rw [Xc0 ‹_›]));have hE:=congrArg (fun (q1:List UInt8)=>(.live (.box 162 [dU q1,dI (rdE rest e 8 0)]):HS)) e1;exact Eq.trans pZ2 hE)⟩,trivial⟩
theorem X61 (rest:List UInt8) (e:Int) (most:Int) (hr:rest.length≤140737488355328):Holds Tryz.prog 104 ⟨[pv 0 0,vI most],[.box 162 [dU rest,dI e]],vI ((rdC rest e most:Nat):Int),[.live (.box 162 [dU (rdR rest e 4 (Yc most (rest.take 4))),dI (rdE rest e 4 (Yc most (rest.take 4)))])]⟩:=by
 refine Holds.of Tryz.func104 rfl (N:=15) Tryz.ntmps104 rfl fun w0 B0 S0 U0=>?_
 show T _ (Y0 15 1 w0 S0 U0 B0) ⟨[pv 0 0,vI most],[.live (.box 162 [dU rest,dI e])]⟩ _ _
 have hi4:Wy (rest.take 4)<4294967296:=X2j (List.length_take_le _ _)
 refine sR [] (T.seq ?_)
 by_cases hq1:okT rest e 4 (Yc most (rest.take 4))
 ·have hk:=id hq1;simp only [okT] at hk
  refine sR [hR 2 rfl rfl (X68 (fs:=[(.tmp 7,.int .i64 most)]) (cs:=[]) rfl rfl (X4 rfl) trivial),hR 3 rfl rfl (rCa (X7c rest e 4 most ‹_› (by omega) ‹_›) Tryz.func105 [0] [(.tmp 6,pv 0 0),(.const (.int .i64 4),vI 4),(.tmp 8,dv (.func (.func 117) #[.int .i64 most] #[]))] 1 1)] ?_
  refine sR [hR 1 rfl rfl (Xdg (s:=dU (rest.take 4)) Tryz.underlying34 (.inr (by (simp [maxLen,-List.getD_eq_getElem?_getD]<;>omega))) (X4 rfl) ⟨rfl,trivial⟩)] ?_
  refine cT (b:=true) rfl ?_
  refine sR [hR 1 rfl rfl (rCa (Ee false false (rest.take 4) (by (simp [maxLen,-List.getD_eq_getElem?_getD]<;>omega))) Tryz.func116 [] [(.tmp 12,slV false false kU8 (rest.take 4))] 0 0),hR 2 rfl rfl (I2 (u:=.int .u64 ((Wy (rest.take 4):Nat):Int)) (v:=.int .i64 ((Wy (rest.take 4):Nat):Int)) (X0c Tryz.underlying118 Tryz.underlying3 pZ5) (X4 rfl) trivial)] ?_
  refine T.ret (rT ?_)
  exact eRt 4 (.one (dI ((Wy (rest.take 4):Nat):Int))) [0] (by have e1:(((rdC rest e most:Nat):Int):Int)=((Wy (rest.take 4):Nat):Int):=(by (simp only [rdC];(rw [if_pos ‹_›];done)));have hE:=cI e1;exact hE) ⟨⟨rfl,(by have e1:((rest.drop 4):List UInt8)=(rdR rest e 4 (Yc most (rest.take 4))):=(by (rw [X65 ‹_›];rfl));have e2:(0:Int)=(rdE rest e 4 (Yc most (rest.take 4))):=(by (rw [X66 ‹_›]));have hE:=congr pZs e2;exact Eq.trans pZ2 hE)⟩,trivial⟩
 refine sR [hR 2 rfl rfl (X68 (fs:=[(.tmp 7,.int .i64 most)]) (cs:=[]) rfl rfl (X4 rfl) trivial),hR 3 rfl rfl (rCa (X7d rest e 4 most ‹_› (by omega) ‹_›) Tryz.func105 [0] [(.tmp 6,pv 0 0),(.const (.int .i64 4),vI 4),(.tmp 8,dv (.func (.func 117) #[.int .i64 most] #[]))] 1 1)] (sR [hR 1 rfl rfl (Y4 (u1:=.slice none 0 0) (u2:=.slice none 0 0) (v:=.bool false) (X8q Tryz.underlying34) (X4 rfl) ⟨rfl,trivial⟩)] (cF (b:=false) rfl (T.skip (nT (sR [] (T.ret ?_))))))
 exact eRt 4 (.one (dI 0)) [0] (by have e1:(((rdC rest e most:Nat):Int):Int)=0:=(by (simp only [rdC];(rw [if_neg ‹_›];rfl)));have hE:=cI e1;exact hE) ⟨⟨rfl,(by have e1:(rest:List UInt8)=(rdR rest e 4 (Yc most (rest.take 4))):=(by (rw [Xc0 ‹_›]));have hE:=congrArg (fun (q1:List UInt8)=>(.live (.box 162 [dU q1,dI (rdE rest e 4 (Yc most (rest.take 4)))]):HS)) e1;exact Eq.trans pZ2 hE)⟩,trivial⟩
theorem rd_End (rest:List UInt8) (e:Int) (hr:rest.length≤140737488355328):Holds Tryz.prog 84 ⟨[pv 0 0],[.box 162 [dU rest,dI e]],.tup [],[.live (.box 162 [dU rest,dI (rdX rest e)])]⟩:=by
 refine Holds.of Tryz.func84 rfl (N:=22) Tryz.ntmps84 rfl fun w0 B0 S0 U0=>?_
 show T _ (Y0 22 1 w0 S0 U0 B0) ⟨[pv 0 0],[.live (.box 162 [dU rest,dI e])]⟩ _ _
 by_cases hq1:e=0
 ·refine sR (Xf hY1 [3,4,5,6,7] (hP1 8::(Xf (hY · (dT hq1)) [10,11,12,13,14,15] (hP 16 (dT hq1)::[])))) ?_
  by_cases hq2:((rest.length:Nat):Int)>0
  ·refine cT (dT hq2) (xK [] ?_)
   exact tE (.inr rfl) [] trivial [0] rfl rfl rfl rfl rfl rfl ⟨⟨rfl,(by have e1:(13:Int)=(rdX rest e):=(by (simp only [rdX];rw [if_pos ⟨by assumption,by assumption⟩]));have hE:=congrArg (fun (q1:Int)=>(.live (.box 162 [dU rest,dI q1]):HS)) e1;exact Eq.trans pZ2 hE)⟩,trivial⟩
  refine cF (dF hq2) (T.skip ?_)
  exact tE (.inr rfl) [] trivial [0] rfl rfl rfl rfl rfl rfl ⟨⟨rfl,(by have e1:(e:Int)=(rdX rest e):=(by (simp only [rdX];rw [if_neg (fun h=>by exact absurd h.2 ‹_›)]));have hE:=congrArg (fun (q1:Int)=>(.live (.box 162 [dU rest,dI q1]):HS)) e1;exact Eq.trans pZ2 hE)⟩,trivial⟩
 refine sR (Xf hY1 [3,4,5,6,7] (hP1 8::(Xf (hN · true (dF hq1)) [10,11,12,13,14,15] (hP 16 (dF hq1)::[])))) (cF (b:=false) rfl (T.skip ?_))
 exact tE (.inr rfl) [] trivial [0] rfl rfl rfl rfl rfl rfl ⟨⟨rfl,(by have e1:(e:Int)=(rdX rest e):=(by (simp only [rdX];rw [if_neg (fun h=>by exact absurd h.1 ‹_›)]));have hE:=congrArg (fun (q1:Int)=>(.live (.box 162 [dU rest,dI q1]):HS)) e1;exact Eq.trans pZ2 hE)⟩,trivial⟩
theorem rd_Err (rest:List UInt8) (e:Int):Holds Tryz.prog 85 ⟨[pv 0 0],[.box 162 [dU rest,dI e]],vI e,[.live (.box 162 [dU rest,dI e])]⟩:=by
 refine Holds.of Tryz.func85 rfl (N:=9) Tryz.ntmps85 rfl fun w0 B0 S0 U0=>?_
 show T _ (Y0 9 1 w0 S0 U0 B0) ⟨[pv 0 0],[.live (.box 162 [dU rest,dI e])]⟩ _ _
 refine sR [] (T.seq (sR [] (cF (b:=false) rfl (T.skip (nT (sR [] (T.ret ?_)))))))
 exact eRt 2 (.one (dI e)) [0] rfl (ix trivial)
abbrev Z1w (rest:List UInt8) (e:Int) (most:Int):HS:=.live (.box 162 [dU (rdR rest e 4 (Yc most (rest.take 4))),dI (rdE rest e 4 (Yc most (rest.take 4)))])
theorem X62 (rest:List UInt8) (e:Int) (most:Int) (hr:rest.length≤140737488355328):Holds Tryz.prog 81 ⟨[pv 0 0,vI most],[.box 162 [dU rest,dI e]],Xx 1 kU8 0 (rdY rest e most).length,[.live (.box 162 [dU (Ia rest e most),dI (Jb rest e most)]),.live (Xc 5 kU8 (rdY rest e most))]⟩:=by
 refine Holds.of Tryz.func81 rfl (N:=36) Tryz.ntmps81 rfl fun w0 B0 S0 U0=>?_
 show T _ (Y0 36 1 w0 S0 U0 B0) ⟨[pv 0 0,vI most],[.live (.box 162 [dU rest,dI e])]⟩ _ _
 have hrc:=rdC_lt rest e most
 have hrl:=U6 rest e 4 (Yc most (rest.take 4))
 refine sR [] (T.seq (sR [] (cF (b:=false) rfl (T.skip (nT (sR [] (sR [hR 2 rfl rfl (rCa (X61 rest e most ‹_›) Tryz.func104 [0] [(.tmp 14,pv 0 0),(.tmp 15,vI most)] 1 1)] (T.seq (sR [] ?_)))))))))
 by_cases hq1:(rdE rest e 4 (Yc most (rest.take 4)))≠0
 ·have hy:=rdY_fail hq1
  refine cT (dT hq1) (sR [] (T.ret (rT ?_)))
  refine eN ⟨[pv 0 0,vI most,aa,aa,dv (.slice none 0 0),slV false false kU8 rest,vI ((rdC rest e most:Nat):Int),aa,aa,vB false,aa,aa,aa,aa,aa,aa,aa,aa,aa,aa,aa,vB (decide ((rdE rest e 4 (Yc most (rest.take 4)))≠0))],[(Z1w rest e most)]⟩ ?_
  refine Xh (s':=⟨[pv 0 0,vI most,aa,aa,Xx 1 kU8 0 0,slV false false kU8 rest,vI ((rdC rest e most:Nat):Int),aa,aa,vB false,aa,aa,aa,aa,aa,aa,aa,aa,aa,aa,aa,vB (decide ((rdE rest e 4 (Yc most (rest.take 4)))≠0))],[(Z1w rest e most),.live (Xc 5 kU8 ([]:List UInt8))]⟩) (fun _ _ hG=>Vw 1 4 5 kU8 rfl rfl hG) ?_
  exact eRt 4 (.one (.own 1 kU8.sz 0 0)) [0,1] (by have e1:((rdY rest e most).length:Nat)=0:=(by (rw [hy.1];rfl));have hE:=congrArg (fun (q1:Nat)=>(Xx 1 kU8 0 q1:AV)) e1;exact hE) ⟨⟨rfl,(by have e1:((rdR rest e 4 (Yc most (rest.take 4))):List UInt8)=(Ia rest e most):=(by (rw [hy.2.1,hy.2.2.2]));have e2:((rdE rest e 4 (Yc most (rest.take 4))):Int)=(Jb rest e most):=(by (rw [hy.2.2.1];done));have hE:=congr pZs e2;exact Eq.trans pZ2 hE)⟩,⟨⟨rfl,p34⟩,trivial⟩⟩
 have hz:=Classical.not_not.1 hq1
 refine cF (dF hq1) (T.skip (nT ?_))
 by_cases hq2:okT (rdR rest e 4 (Yc most (rest.take 4))) (rdE rest e 4 (Yc most (rest.take 4))) ((rdC rest e most:Nat):Int) 0
 ·have hy:=rdY_ok hz hq2
  refine sR [hR 2 rfl rfl (rCa (X3s (rdR rest e 4 (Yc most (rest.take 4))) (rdE rest e 4 (Yc most (rest.take 4))) ((rdC rest e most:Nat):Int) (by omega) (by omega) ‹_›) Tryz.func105 [0] [(.tmp 22,pv 0 0),(.tmp 23,vI ((rdC rest e most:Nat):Int)),(.func 106,dv (.func (.func 106) #[] #[]))] 1 1)] (T.seq (sR [] (cF (b:=false) rfl (T.skip (nT ?_)))))
  refine sR [hR 1 rfl rfl (rCa (X07 false false ((rdR rest e 4 (Yc most (rest.take 4))).take ((rdC rest e most:Nat):Int).toNat) (by (simp [maxLen,-List.getD_eq_getElem?_getD]<;>omega))) Tryz.func50 [1] [(.tmp 34,slV false false kU8 ((rdR rest e 4 (Yc most (rest.take 4))).take ((rdC rest e most:Nat):Int).toNat))] 0 1)] ?_
  refine T.ret ?_
  exact eRt 4 (.one (.own 1 kU8.sz 0 ((rdR rest e 4 (Yc most (rest.take 4))).take ((rdC rest e most:Nat):Int).toNat).length)) [0,1] (by have e1:((rdY rest e most).length:Nat)=((rdR rest e 4 (Yc most (rest.take 4))).take ((rdC rest e most:Nat):Int).toNat).length:=(by (rw [hy.1];done));have hE:=congrArg (fun (q1:Nat)=>(Xx 1 kU8 0 q1:AV)) e1;exact hE) ⟨⟨rfl,(by have e1:(((rdR rest e 4 (Yc most (rest.take 4))).drop ((rdC rest e most:Nat):Int).toNat):List UInt8)=(Ia rest e most):=(by (rw [hy.2.1];done));have e2:(0:Int)=(Jb rest e most):=(by (rw [hy.2.2];done));have hE:=congr pZs e2;exact Eq.trans pZ2 hE)⟩,⟨⟨rfl,(by have e1:(((rdR rest e 4 (Yc most (rest.take 4))).take ((rdC rest e most:Nat):Int).toNat):List UInt8)=(rdY rest e most):=(by (rw [hy.1];done));have hE:=congrArg (fun (q1:List UInt8)=>(.live (Xc 5 kU8 q1):HS)) e1;exact Eq.trans pZ2 hE)⟩,trivial⟩⟩
 have hy:=Xf9 hz hq2
 refine sR [hR 2 rfl rfl (rCa (X3t (rdR rest e 4 (Yc most (rest.take 4))) (rdE rest e 4 (Yc most (rest.take 4))) ((rdC rest e most:Nat):Int) (by omega) (by omega) ‹_›) Tryz.func105 [0] [(.tmp 22,pv 0 0),(.tmp 23,vI ((rdC rest e most:Nat):Int)),(.func 106,dv (.func (.func 106) #[] #[]))] 1 1)] (T.seq (sR [] ?_))
 by_cases hq3:(rdE (rdR rest e 4 (Yc most (rest.take 4))) (rdE rest e 4 (Yc most (rest.take 4))) ((rdC rest e most:Nat):Int) 0)≠0
 ·refine cT (dT hq3) (xK [] (nT ?_))
  refine sR [hR 1 rfl rfl (rCn (X07 false false ([]:List UInt8) (by (simp [maxLen,-List.getD_eq_getElem?_getD]<;>omega))) Tryz.func50 [1] [(.tmp 34,dv (.slice none 0 0))] 0 1 ⟨.inr p1a,trivial⟩ trivial)] ?_
  refine T.ret ?_
  exact eRt 4 (.one (.own 1 kU8.sz 0 ([]:List UInt8).length)) [0,1] (by have e1:((rdY rest e most).length:Nat)=([]:List UInt8).length:=(by (rw [hy.1];done));have hE:=congrArg (fun (q1:Nat)=>(Xx 1 kU8 0 q1:AV)) e1;exact hE) ⟨⟨rfl,(by have e1:(rest:List UInt8)=(Ia rest e most):=(by (rw [hy.2.1];done));have e2:((rdE (rdR rest e 4 (Yc most (rest.take 4))) (rdE rest e 4 (Yc most (rest.take 4))) ((rdC rest e most:Nat):Int) 0):Int)=(Jb rest e most):=(by (rw [hy.2.2];done));have hE:=congr pZs e2;exact Eq.trans pZ2 hE)⟩,⟨⟨rfl,p34⟩,trivial⟩⟩
 exact absurd (Xc1 hq2) hq3
section
variable (B:List UInt8) (a:Nat) (m:Nat) (e:Int) (k:Nat)
abbrev Z1x:AV:=vI ((m:Nat):Int)
abbrev Z1y:List HS:=[.live (.box 83 [dU B,dI ((a:Nat):Int),dI e])]
abbrev Z1z:AV:=vB (decide (((m:Nat):Int)>(((B.length:Nat):Int)-((a:Nat):Int))))
abbrev Z20:List AV:=[pv 0 0,(Z1x m),aa,aa,dv (.int .u64 0),vB false,dv (.int .u64 ((Wy ((B.drop a).take k):Nat):Int)),vI ((k:Nat):Int),aa,aa,aa,aa,aa,aa,aa,aa,aa,aa,aa,(Z1z B a m)]
abbrev Z22:AV:=vI ((k+1:Nat):Int)
end
theorem X2d (B:List UInt8) (a:Nat) (e:Int) (m:Nat) (ha:a≤B.length) (hB:B.length≤140737488350000) (hm:m≤8):Holds Tryz.prog 58 ⟨[pv 0 0,vI ((m:Nat):Int)],[.box 83 [dU B,dI ((a:Nat):Int),dI e]],.tup [.one (.d (.val (.int .u64 ((rfN B a m:Nat):Int)))),.one (dB (decide (a+m≤B.length)))],[.live (.box 83 [dU B,dI ((a:Nat):Int),dI e])]⟩:=by
 refine Holds.of Tryz.func58 rfl (N:=42) Tryz.ntmps58 rfl fun w0 B0 S0 U0=>?_
 show T _ (Y0 42 1 w0 S0 U0 B0) ⟨[pv 0 0,(Z1x m)],(Z1y B a e)⟩ _ _
 refine sR [] (T.seq ?_)
 refine sD [[],[],[1],[1,2],[1,2,3],[1,2,3,4],[],[6],[6,7],[6,7,8],[1,2,3,4,5,6,7,8,9],[0,1,2,3,4,5,6,7,8,9,10]] [hR 10 rfl rfl (Y4 (u1:=.int .i64 ((B.length:Nat):Int)) (u2:=.int .i64 ((a:Nat):Int)) (v:=.int .i64 (((B.length:Nat):Int)-((a:Nat):Int))) (X0e pZ5) (X4 rfl) trivial)] ?_
 by_cases hq1:((m:Nat):Int)>(((B.length:Nat):Int)-((a:Nat):Int))
 ·refine cT (dT hq1) (sR [] (T.ret (rT ?_)))
  exact eX [.t 4 (.one (.d (.val (.int .u64 0)))),.t 5 (.one (dB false))] ⟨⟨rfl,by kernel_rfl⟩,⟨⟨rfl,by kernel_rfl⟩,trivial⟩⟩ [0] (by have e1:(((rfN B a m:Nat):Int):Int)=0:=(by (simp only [rfN];rw [if_neg (by omega)];rfl));have e2:((decide (a+m≤B.length)):Bool)=false:=(by exact dF (by omega));have hE:=congr p44 e2;exact hE) (ix trivial)
 refine cF (dF hq1) (T.skip (nT (sR [] (T.seq (sR [] (T.block ?_))))))
 refine T.loop (ι:=Nat) (fun (k:Nat)=>⟨(Z20 B a m k),(Z1y B a e)⟩) (fun (k:Nat)=>(k≤m)) (fun (k:Nat)=>m-k) (0) (Nat.zero_le _) (fun _ _ hG=>Y9 [0] (bm 20 524531) (t2:=[pv 0 0,(Z1x m),aa,aa,dv (.int .u64 0),vB false,dv (.int .u64 0),vI 0,aa,aa,aa,aa,aa,aa,aa,aa,aa,aa,aa,(Z1z B a m)]) (congrArg (fun (q1:Int)=>([pv 0 0,(Z1x m),aa,aa,dv (.int .u64 0),vB false,dv (.int .u64 q1),vI 0,aa,aa,aa,aa,aa,aa,aa,aa,aa,aa,aa,(Z1z B a m)]:List AV)) (by rfl)) rfl hG) ?_
 rintro k hk
 show T _ _ ⟨(Z20 B a m k),(Z1y B a e)⟩ _ _
 replace hk:k≤m:=hk
 have hk8:Wy ((B.drop a).take k)<18446744073709551616:=X2i (Nat.le_trans (List.length_take_le _ _) (by omega))
 refine T.seq (sR [] ?_)
 by_cases hq2:((k:Nat):Int)<((m:Nat):Int)
 ·have hk7:Wy ((B.drop a).take k)<72057594037927936:=Xah (Nat.le_trans (List.length_take_le _ _) (by omega));have hbt:=UInt8.toNat_lt (B.getD (a+k) 0)
  refine cT (dT hq2) (T.skip (nT (T.seq (T.block ?_))))
  refine xD [[],[0],[],[2],[2,3],[2,3,4],[],[6],[6,7],[6,7,8],[],[6,7,8,9,10],[2,3,4,5,6,7,8,9,10,11],[2,3,4,5,6,7,8,9,10,11,12],[2,3,4,5,6,7,8,9,10,11,12,13],[0,1,2,3,4,5,6,7,8,9,10,11,12,13,14],[0,1,2,3,4,5,6,7,8,9,10,11,12,13,14,15]] [hR 1 rfl rfl (Y4 (u1:=.int .u64 ((Wy ((B.drop a).take k):Nat):Int)) (u2:=.int .u64 8) (v:=.int .u64 (((Wy ((B.drop a).take k))*2 ^ 8:Nat):Int)) (Ud (n:=8) rfl pk p49) (X4 rfl) ⟨rfl,trivial⟩),hR 11 rfl rfl (Y4 (u1:=.int .i64 ((a:Nat):Int)) (u2:=.int .i64 ((k:Nat):Int)) (v:=.int .i64 ((a+k:Nat):Int)) (Yn pZ5) (X4 rfl) trivial),hR 12 rfl rfl (Yo false false kU8 B (a+k) (k:=.i64) (i:=((a+k:Nat):Int)) Tryz.underlying34 Ur rfl rfl (by omega) (X4 rfl) trivial),hR 14 rfl rfl (I2 (u:=.int .u8 (((B.getD (a+k) 0).toNat:Nat):Int)) (v:=.int .u64 (((B.getD (a+k) 0).toNat:Nat):Int)) (X0c Tryz.underlying5 Tryz.underlying118 p49) (X4 rfl) trivial),hR 15 rfl rfl (Y4 (u1:=.int .u64 (((Wy ((B.drop a).take k))*2 ^ 8:Nat):Int)) (u2:=.int .u64 (((B.getD (a+k) 0).toNat:Nat):Int)) (v:=.int .u64 ((((Wy ((B.drop a).take k))*2 ^ 8) ||| (B.getD (a+k) 0).toNat:Nat):Int)) (b_orU (by omega) (by omega)) (X4 rfl) trivial)] pZ2 pZ2 pZ2 pZ2 pZ2 pZ2 ?_
  refine nB (nT (xK [hR 1 rfl rfl (Y4 (u1:=.int .i64 ((k:Nat):Int)) (u2:=.int .i64 1) (v:=.int .i64 ((k+1:Nat):Int)) (Yn pZ5) (X4 rfl) ⟨rfl,trivial⟩)] ?_))
  refine nL (k+1) (show (k+1)≤m from (by omega)) (show (m-(k+1):Nat)<m-k from (by omega)) (fun _ _ hG=>Y9 [0] (bm 20 524531) (t2:=[pv 0 0,(Z1x m),aa,aa,dv (.int .u64 0),vB false,dv (.int .u64 ((((Wy ((B.drop a).take k))*2 ^ 8) ||| (B.getD (a+k) 0).toNat:Nat):Int)),(Z22 k),aa,aa,aa,aa,aa,aa,aa,aa,aa,aa,aa,(Z1z B a m)]) (by have e1:(((Wy ((B.drop a).take (k+1)):Nat):Int):Int)=((((Wy ((B.drop a).take k))*2 ^ 8) ||| (B.getD (a+k) 0).toNat:Nat):Int):=(by (rw [Xc6 (by omega)]));have hE:=congrArg (fun (q1:Int)=>([pv 0 0,(Z1x m),aa,aa,dv (.int .u64 0),vB false,dv (.int .u64 q1),(Z22 k),aa,aa,aa,aa,aa,aa,aa,aa,aa,aa,aa,(Z1z B a m)]:List AV)) e1;exact hE) rfl hG)
 refine cF (dF hq2) (T.exit (xT (xT (xH (nT (sR [] (T.ret ?_)))))))
 exact eX [.t 4 (.one (.d (.val (.int .u64 ((Wy ((B.drop a).take k):Nat):Int))))),.t 5 (.one (dB true))] ⟨⟨rfl,by kernel_rfl⟩,⟨⟨rfl,by kernel_rfl⟩,trivial⟩⟩ [0] (by have e1:(((rfN B a m:Nat):Int):Int)=((Wy ((B.drop a).take k):Nat):Int):=(by (have hke:k=m:=(by omega);subst hke;rw [X8w (by omega)]));have e2:((decide (a+m≤B.length)):Bool)=true:=(by exact dT (by omega));have hE:=congr p44 e2;exact hE) (ix trivial)
theorem Xby (B:List UInt8) (a:Nat) (e:Int) (ha:a≤B.length) (hB:B.length≤140737488350000):Holds Tryz.prog 27 ⟨[pv 0 0],[.box 83 [dU B,dI ((a:Nat):Int),dI e]],vI (rdI (B.drop a) e),[.live (.box 83 [dU B,dI ((rfA B a e 8 0:Nat):Int),dI (rdE (B.drop a) e 8 0)])]⟩:=by
 refine Holds.of Tryz.func27 rfl (N:=29) Tryz.ntmps27 rfl fun w0 B0 S0 U0=>?_
 show T _ (Y0 29 1 w0 S0 U0 B0) ⟨[pv 0 0],[.live (.box 83 [dU B,dI ((a:Nat):Int),dI e])]⟩ _ _
 have hn8:=rfN_lt B a (m:=8) (by decide)
 refine sR [] (T.seq (sR [] ?_))
 by_cases hq1:e≠0
 ·have hr:=rf_e (B:=B) (a:=a) hq1 8 0
  refine cT (dT hq1) (sR [] (T.ret (rT ?_)))
  exact eRt 2 (.one (dI 0)) [0] p3p ⟨⟨rfl,(by have e1:(((a:Nat):Int):Int)=((rfA B a e 8 0:Nat):Int):=p4o;have e2:(e:Int)=(rdE (B.drop a) e 8 0):=p4s;have hE:=congr p2d e2;exact Eq.trans pZ2 hE)⟩,trivial⟩
 refine cF (dF hq1) (T.skip (nT (sR [hR 1 rfl rfl (rCa (X2d B a e 8 ‹_› ‹_› (by omega)) Tryz.func58 [0] [(.tmp 11,pv 0 0),(.const (.int .i64 8),vI 8)] 1 1)] (T.seq (sR [] ?_)))))
 by_cases hq2:a+8≤B.length
 ·have hr:=rf_ok (n:=8) (k:=8) (m:=0) rfl ‹_› hq2 rfl
  refine cF (cn (dT hq2)) (T.skip (nT (sR [hR 4 rfl rfl (Y4 (u1:=.int .i64 ((a:Nat):Int)) (u2:=.int .i64 8) (v:=.int .i64 ((a+8:Nat):Int)) (Yn pZ5) (X4 rfl) ⟨rfl,trivial⟩)] (sR [hR 1 rfl rfl (I2 (u:=.int .u64 ((rfN B a 8:Nat):Int)) (v:=.int .i64 (X1y (rfN B a 8))) (c_i64 ‹_› Tryz.underlying118 Tryz.underlying2) (X4 rfl) trivial)] (T.ret ?_)))))
  exact eRt 2 (.one (dI (X1y (rfN B a 8)))) [0] (by have e1:(rdI (B.drop a) e:Int)=X1y (rfN B a 8):=(by (simp only [rdI];(rw [if_pos hr.1,← X8w ‹_›];done)));have hE:=cI e1;exact hE) ⟨⟨rfl,(by have e1:(((a+8:Nat):Int):Int)=((rfA B a e 8 0:Nat):Int):=(by (rw [X5r hr.1];rfl));have e2:(e:Int)=(rdE (B.drop a) e 8 0):=(by (rw [hr.2];omega));have hE:=congr p2d e2;exact Eq.trans pZ2 hE)⟩,trivial⟩
 have hr:=Xa7 (n:=8) (k:=8) rfl ‹_› hq2 ha 0
 refine cT (cn (dF hq2)) (sR [] (sR [] (T.ret (rT ?_))))
 exact eRt 2 (.one (dI 0)) [0] p3p ⟨⟨rfl,(by have e1:(((a:Nat):Int):Int)=((rfA B a e 8 0:Nat):Int):=p4o;have e2:(10:Int)=(rdE (B.drop a) e 8 0):=p4s;have hE:=congr p2d e2;exact Eq.trans pZ2 hE)⟩,trivial⟩
abbrev Z24 (B:List UInt8):SV:=dU B
abbrev Z25:TV:=.one (dI 0)
theorem X2c (B:List UInt8) (a:Nat) (e:Int) (most:Int) (ha:a≤B.length) (hB:B.length≤140737488350000):Holds Tryz.prog 61 ⟨[pv 0 0,vI most],[.box 83 [dU B,dI ((a:Nat):Int),dI e]],vI ((rdC (B.drop a) e most:Nat):Int),[.live (.box 83 [dU B,dI ((rfA B a e 4 (Yc most ((B.drop a).take 4)):Nat):Int),dI (rdE (B.drop a) e 4 (Yc most ((B.drop a).take 4)))])]⟩:=by
 refine Holds.of Tryz.func61 rfl (N:=39) Tryz.ntmps61 rfl fun w0 B0 S0 U0=>?_
 show T _ (Y0 39 1 w0 S0 U0 B0) ⟨[pv 0 0,vI most],[.live (.box 83 [(Z24 B),dI ((a:Nat):Int),dI e])]⟩ _ _
 have hn4:=rfN_lt4 B a
 refine sR [] (T.seq (sR [] ?_))
 by_cases hq1:e≠0
 ·have hr:=rf_e (B:=B) (a:=a) hq1 4 (Yc most ((B.drop a).take 4))
  refine cT (dT hq1) (sR [] (T.ret (rT ?_)))
  exact eRt 4 (Z25) [0] pZ28 ⟨⟨rfl,(by have e1:(((a:Nat):Int):Int)=((rfA B a e 4 (Yc most ((B.drop a).take 4)):Nat):Int):=p4o;have e2:(e:Int)=(rdE (B.drop a) e 4 (Yc most ((B.drop a).take 4))):=p4s;have hE:=congr p2b e2;exact Eq.trans pZ2 hE)⟩,trivial⟩
 refine cF (dF hq1) (T.skip (nT (sR [hR 1 rfl rfl (rCa (X2d B a e 4 ‹_› ‹_› (by omega)) Tryz.func58 [0] [(.tmp 13,pv 0 0),(.const (.int .i64 4),vI 4)] 1 1)] (T.seq (sR [] ?_)))))
 by_cases hq2:a+4≤B.length
 ·refine cF (cn (dT hq2)) (T.skip (nT (T.seq (sR [hR 1 rfl rfl (I2 (u:=.int .u64 ((rfN B a 4:Nat):Int)) (v:=.int .i64 ((rfN B a 4:Nat):Int)) (X0c Tryz.underlying118 Tryz.underlying3 pZ5) (X4 rfl) trivial),hR 3 rfl rfl (X2e (k:=.i64) (a:=0) (b:=most) (X4 rfl) ⟨rfl,trivial⟩)] ?_))))
  by_cases hq3:((rfN B a 4:Nat):Int)>(max 0 most)
  ·have hr:=rf_m (n:=4) (k:=4) (c:=11) (m:=(Yc most ((B.drop a).take 4))) rfl ‹_› ‹_› (by rw [lim_of ‹_›,if_pos ‹_›]) (by decide)
   refine cT (dT hq3) (sR [] (sR [] (T.ret (rT ?_))))
   exact eRt 4 (Z25) [0] pZ28 ⟨⟨rfl,(by have e1:(((a:Nat):Int):Int)=((rfA B a e 4 (Yc most ((B.drop a).take 4)):Nat):Int):=p4o;have e2:(11:Int)=(rdE (B.drop a) e 4 (Yc most ((B.drop a).take 4))):=p4s;have hE:=congr p2b e2;exact Eq.trans pZ2 hE)⟩,trivial⟩
  have hr:=rf_ok (n:=4) (k:=4) (m:=(Yc most ((B.drop a).take 4))) rfl ‹_› ‹_› (by rw [lim_of ‹_›,if_neg ‹_›])
  refine cF (dF hq3) (T.skip (nT (sR [hR 4 rfl rfl (Y4 (u1:=.int .i64 ((a:Nat):Int)) (u2:=.int .i64 4) (v:=.int .i64 ((a+4:Nat):Int)) (Yn pZ5) (X4 rfl) ⟨rfl,trivial⟩)] (sR [hR 1 rfl rfl (I2 (u:=.int .u64 ((rfN B a 4:Nat):Int)) (v:=.int .i64 ((rfN B a 4:Nat):Int)) (X0c Tryz.underlying118 Tryz.underlying3 pZ5) (X4 rfl) trivial)] (T.ret ?_)))))
  exact eRt 4 (.one (dI ((rfN B a 4:Nat):Int))) [0] (by have e1:(((rdC (B.drop a) e most:Nat):Int):Int)=((rfN B a 4:Nat):Int):=(by (simp only [rdC];(rw [if_pos hr.1,← X8w ‹_›];done)));have hE:=cI e1;exact hE) ⟨⟨rfl,(by have e1:(((a+4:Nat):Int):Int)=((rfA B a e 4 (Yc most ((B.drop a).take 4)):Nat):Int):=(by (rw [X5r hr.1];rfl));have e2:(e:Int)=(rdE (B.drop a) e 4 (Yc most ((B.drop a).take 4))):=(by (rw [hr.2];omega));have hE:=congr p2b e2;exact Eq.trans pZ2 hE)⟩,trivial⟩
 have hr:=Xa7 (n:=4) (k:=4) rfl ‹_› hq2 ha (Yc most ((B.drop a).take 4))
 refine cT (cn (dF hq2)) (sR [] (sR [] (T.ret (rT ?_))))
 exact eRt 4 (Z25) [0] pZ28 ⟨⟨rfl,(by have e1:(((a:Nat):Int):Int)=((rfA B a e 4 (Yc most ((B.drop a).take 4)):Nat):Int):=p4o;have e2:(10:Int)=(rdE (B.drop a) e 4 (Yc most ((B.drop a).take 4))):=p4s;have hE:=congr p2b e2;exact Eq.trans pZ2 hE)⟩,trivial⟩
abbrev Z26 (a:Nat):SV:=dI ((a:Nat):Int)
theorem Xbz (B:List UInt8) (a:Nat) (e:Int) (ha:a≤B.length) (hB:B.length≤140737488350000):Holds Tryz.prog 30 ⟨[pv 0 0],[.box 83 [dU B,dI ((a:Nat):Int),dI e]],.tup [],[.live (.box 83 [dU B,dI ((a:Nat):Int),dI (rdX (B.drop a) e)])]⟩:=by
 refine Holds.of Tryz.func30 rfl (N:=22) Tryz.ntmps30 rfl fun w0 B0 S0 U0=>?_
 show T _ (Y0 22 1 w0 S0 U0 B0) ⟨[pv 0 0],[.live (.box 83 [dU B,(Z26 a),dI e])]⟩ _ _
 by_cases hq1:e=0
 ·refine sD [[],[0],[0,1],[0,1,2],[0,1,2,3],[0,1,2,3,4],[0,1,2,3,4,5],[0,1,2,3,4,5,6],[0,1,2,3,4,5,6,7],[0,1,2,3,4,5,6,7,8],[0,1,2,3,4,5],[0,1,2,3,4,5,10],[0,1,2,3,4,5,10,11],[0,1,2,3,4,5,10,11,12],[0,1,2,3,4,5,10,11,12,13],[0,1,2,3,4,5,6,7,8,9,10,11,12,13,14],[0,1,2,3,4,5,6,7,8,9,10,11,12,13,14,15]] (Xf (hY · (dT hq1)) [6,7,8,9,10,11,12,13,14,15] (hP 16 (dT hq1)::[])) ?_
  by_cases hq2:((a:Nat):Int)<((B.length:Nat):Int)
  ·refine cT (dT hq2) (xK [] ?_)
   exact tE (.inr rfl) [] trivial [0] rfl rfl rfl rfl rfl rfl ⟨⟨rfl,(by have e1:(13:Int)=(rdX (B.drop a) e):=(by (simp only [rdX,List.length_drop];rw [if_pos ⟨by assumption,by omega⟩]));have hE:=congrArg (fun (q1:Int)=>(.live (.box 83 [dU B,(Z26 a),dI q1]):HS)) e1;exact Eq.trans pZ2 hE)⟩,trivial⟩
  refine cF (dF hq2) (T.skip ?_)
  exact tE (.inr rfl) [] trivial [0] rfl rfl rfl rfl rfl rfl ⟨⟨rfl,(by have e1:(e:Int)=(rdX (B.drop a) e):=(by (simp only [rdX,List.length_drop];rw [if_neg (fun h=>by (have:=h.2;omega))]));have hE:=congrArg (fun (q1:Int)=>(.live (.box 83 [dU B,(Z26 a),dI q1]):HS)) e1;exact Eq.trans pZ2 hE)⟩,trivial⟩
 refine sD [[],[0],[0,1],[0,1,2],[0,1,2,3],[0,1,2,3,4],[0,1,2,3,4,5],[0,1,2,3,4,5,6],[0,1,2,3,4,5,6,7],[0,1,2,3,4,5,6,7,8],[0,1,2,3,4,5],[0,1,2,3,4,5,10],[0,1,2,3,4,5,10,11],[0,1,2,3,4,5,10,11,12],[0,1,2,3,4,5,10,11,12,13],[0,1,2,3,4,5,6,7,8,9,10,11,12,13,14],[0,1,2,3,4,5,6,7,8,9,10,11,12,13,14,15]] (Xf (hN · true (dF hq1)) [6,7,8,9,10,11,12,13,14,15] (hP 16 (dF hq1)::[])) (cF (b:=false) rfl (T.skip ?_))
 exact tE (.inr rfl) [] trivial [0] rfl rfl rfl rfl rfl rfl ⟨⟨rfl,(by have e1:(e:Int)=(rdX (B.drop a) e):=(by (simp only [rdX,List.length_drop];rw [if_neg (fun h=>by exact absurd h.1 ‹_›)]));have hE:=congrArg (fun (q1:Int)=>(.live (.box 83 [dU B,(Z26 a),dI q1]):HS)) e1;exact Eq.trans pZ2 hE)⟩,trivial⟩
section
variable (B:List UInt8) (a:Nat) (e:Int) (most:Int)
abbrev Z27:SV:=dU B
abbrev Z28:AV:=vI ((a:Nat):Int)
abbrev Z29:AV:=vI ((rdC (B.drop a) e most:Nat):Int)
abbrev Z2a:AV:=vB (decide (((rdC (B.drop a) e most:Nat):Int)>(((B.length:Nat):Int)-((rfA B a e 4 (Yc most ((B.drop a).take 4)):Nat):Int))))
abbrev Z2b:AV:=vB (decide ((rdE (B.drop a) e 4 (Yc most ((B.drop a).take 4)))≠0))
abbrev Z2c:HS:=.live (.box 83 [(Z27 B),dI ((rfA B a e 4 (Yc most ((B.drop a).take 4)):Nat):Int),dI (rdE (B.drop a) e 4 (Yc most ((B.drop a).take 4)))])
abbrev Z2d:=(rfA B a e 4 (Yc most ((B.drop a).take 4)))
end
theorem X90 (B:List UInt8) (a:Nat) (e:Int) (most:Int) (ha:a≤B.length) (hB:B.length≤140737488350000):Holds Tryz.prog 59 ⟨[pv 0 0,vI most],[.box 83 [dU B,dI ((a:Nat):Int),dI e]],Xx 1 kU8 0 (rdY (B.drop a) e most).length,[.live (.box 83 [dU B,dI ((X4i B a e most:Nat):Int),dI (Jb (B.drop a) e most)]),.live (Xc 5 kU8 (rdY (B.drop a) e most))]⟩:=by
 refine Holds.of Tryz.func59 rfl (N:=72) Tryz.ntmps59 rfl fun w0 B0 S0 U0=>?_
 show T _ (Y0 72 1 w0 S0 U0 B0) ⟨[pv 0 0,vI most],[.live (.box 83 [(Z27 B),dI ((a:Nat):Int),dI e])]⟩ _ _
 have hrc:=rdC_lt (B.drop a) e most
 have hra:=rfA_le (B:=B) (a:=a) (e:=e) (n:=4) (m:=(Yc most ((B.drop a).take 4))) ha
 refine sR [] (sR [] (sR [hR 2 rfl rfl (rCa (X2c B a e most ‹_› ‹_›) Tryz.func61 [0] [(.tmp 12,pv 0 0),(.tmp 13,vI most)] 1 1)] (T.seq ?_)))
 by_cases hq1:(rdE (B.drop a) e 4 (Yc most ((B.drop a).take 4)))=0
 ·refine sD [[],[0],[0,1],[0,1,2],[0,1,2,3],[0,1,2,3,4],[0,1,2,3,4,5],[0,1,2,3,4,5],[0,1,2,3,4,5,7],[0,1,2,3,4,5,7,8],[0,1,2,3,4,5,7,8,9],[0,1,2,3,4,5,7,8,9,10],[0,1,2,3,4,5],[0,1,2,3,4,5,12],[0,1,2,3,4,5,12,13],[0,1,2,3,4,5,12,13,14],[0,1,2,3,4,5,7,8,9,10,11,12,13,14,15],[0,1,2,3,4,5,6,7,8,9,10,11,12,13,14,15,16],[0,1,2,3,4,5,6,7,8,9,10,11,12,13,14,15,16,17]] (Xf (hY · (dT hq1)) [6,7,8,9,10,11,12,13,14,15] (hS 16 (oY rfl rfl rfl rfl (X4 rfl) (dT hq1) (Y4 (u1:=.int .i64 ((B.length:Nat):Int)) (u2:=.int .i64 ((rfA B a e 4 (Yc most ((B.drop a).take 4)):Nat):Int)) (v:=.int .i64 (((B.length:Nat):Int)-((rfA B a e 4 (Yc most ((B.drop a).take 4)):Nat):Int))) (X0e pZ5) (X4 rfl) py))::(hY 17 (dT hq1)::(hP 18 (dT hq1)::[])))) ?_
  by_cases hq2:((rdC (B.drop a) e most:Nat):Int)>(((B.length:Nat):Int)-((rfA B a e 4 (Yc most ((B.drop a).take 4)):Nat):Int))
  ·have hy:=Xf2 ‹_› hq2 ha
   refine cT (dT hq2) (sR [] (xK [] (nT (T.seq (sR [] (cT (b:=true) rfl (sR [] (T.ret (rT ?_)))))))))
   refine eN ⟨[pv 0 0,vI most,aa,aa,dv (.slice none 0 0),(Z28 a),(Z29 B a e most),aa,aa,aa,aa,aa,aa,aa,aa,aa,aa,aa,aa,aa,aa,aa,aa,aa,aa,aa,aa,aa,aa,aa,aa,aa,aa,(Z2a B a e most),aa,aa,aa,aa,aa,aa,aa,aa,aa,aa,aa,vB true],[.live (.box 83 [(Z27 B),dI ((a:Nat):Int),dI 10])]⟩ ?_
   refine Xh (s':=⟨[pv 0 0,vI most,aa,aa,Xx 1 kU8 0 0,(Z28 a),(Z29 B a e most),aa,aa,aa,aa,aa,aa,aa,aa,aa,aa,aa,aa,aa,aa,aa,aa,aa,aa,aa,aa,aa,aa,aa,aa,aa,aa,(Z2a B a e most),aa,aa,aa,aa,aa,aa,aa,aa,aa,aa,aa,vB true],[.live (.box 83 [(Z27 B),dI ((a:Nat):Int),dI 10]),.live (Xc 5 kU8 ([]:List UInt8))]⟩) (fun _ _ hG=>Vw 1 4 5 kU8 rfl rfl hG) ?_
   exact eRt 4 (.one (.own 1 kU8.sz 0 0)) [0,1] p3d ⟨⟨rfl,(by have e1:(((a:Nat):Int):Int)=((X4i B a e most:Nat):Int):=(by omega);have e2:(10:Int)=(Jb (B.drop a) e most):=(by omega);have hE:=congr (congrArg (fun (q1:Int) (q2:Int)=>(.live (.box 83 [(Z27 B),dI q1,dI q2]):HS)) e1) e2;exact Eq.trans pZ2 hE)⟩,⟨⟨rfl,pZ30⟩,trivial⟩⟩
  have hy:=rfY_ok ‹_› hq2 ha
  refine cF (dF hq2) (T.skip (nT (T.seq (sR [] ?_))))
  by_cases hq3:(rdE (B.drop a) e 4 (Yc most ((B.drop a).take 4)))≠0
  ·refine cT (dT hq3) (sR [] (T.ret (rT ?_)))
   refine eN ⟨[pv 0 0,vI most,aa,aa,dv (.slice none 0 0),(Z28 a),(Z29 B a e most),aa,aa,aa,aa,aa,aa,aa,aa,aa,aa,aa,aa,aa,aa,aa,aa,aa,aa,aa,aa,aa,aa,aa,aa,aa,aa,(Z2a B a e most),aa,aa,aa,aa,aa,aa,aa,aa,aa,aa,aa,(Z2b B a e most)],[(Z2c B a e most)]⟩ ?_
   refine Xh (s':=⟨[pv 0 0,vI most,aa,aa,Xx 1 kU8 0 0,(Z28 a),(Z29 B a e most),aa,aa,aa,aa,aa,aa,aa,aa,aa,aa,aa,aa,aa,aa,aa,aa,aa,aa,aa,aa,aa,aa,aa,aa,aa,aa,(Z2a B a e most),aa,aa,aa,aa,aa,aa,aa,aa,aa,aa,aa,(Z2b B a e most)],[(Z2c B a e most),.live (Xc 5 kU8 ([]:List UInt8))]⟩) (fun _ _ hG=>Vw 1 4 5 kU8 rfl rfl hG) ?_
   exact eRt 4 (.one (.own 1 kU8.sz 0 0)) [0,1] (congrArg (fun (q1:Nat)=>(Xx 1 kU8 0 q1:AV)) (show ((rdY (B.drop a) e most).length:Nat)=0 from (by omega))) ⟨⟨rfl,p1t⟩,⟨⟨rfl,(by have e1:(([]:List UInt8):List UInt8)=(rdY (B.drop a) e most):=(by omega);have hE:=congrArg (fun (q1:List UInt8)=>(.live (Xc 5 kU8 q1):HS)) e1;exact Eq.trans pZ2 hE)⟩,trivial⟩⟩
  refine cF (dF hq3) (T.skip (nT ?_))
  refine sD [[],[],[1],[1,2],[1,2,3],[],[5],[5,6],[5,6,7],[],[9],[9,10],[9,10,11],[],[9,10,11,12,13],[1,2,3,4,5,6,7,8,9,10,11,12,13,14],[0,1,2,3,4,5,6,7,8,9,10,11,12,13,14,15],[0,1,2,3,4,5,6,7,8,9,10,11,12,13,14,15,16]] [hR 0 rfl rfl (Yb 1 5 kU8 V9 ([]:List UInt8) [] (cs:=[]) Tryz.underlying34 Ur rfl I1 rfl rfl rfl pf Wa pZ2 (Vk pZ2) (X4 rfl) trivial),hR 14 rfl rfl (Y4 (u1:=.int .i64 ((rfA B a e 4 (Yc most ((B.drop a).take 4)):Nat):Int)) (u2:=.int .i64 ((rdC (B.drop a) e most:Nat):Int)) (v:=.int .i64 (((rfA B a e 4 (Yc most ((B.drop a).take 4)))+(rdC (B.drop a) e most):Nat):Int)) (Yn pZ5) (X4 rfl) trivial),hR 15 rfl rfl (Fq false false kU8 B ((B.take ((rfA B a e 4 (Yc most ((B.drop a).take 4)))+(rdC (B.drop a) e most))).drop (rfA B a e 4 (Yc most ((B.drop a).take 4)))) (rfA B a e 4 (Yc most ((B.drop a).take 4))) ((rfA B a e 4 (Yc most ((B.drop a).take 4)))+(rdC (B.drop a) e most)) (lo:=some (.tmp 54,((rfA B a e 4 (Yc most ((B.drop a).take 4)):Nat):Int))) (hi:=some (.tmp 60,(((rfA B a e 4 (Yc most ((B.drop a).take 4)))+(rdC (B.drop a) e most):Nat):Int))) Tryz.underlying34 Ur rfl rfl rfl rfl rfl (by omega) (by omega) rfl (X4 rfl) trivial),hR 16 rfl rfl (Yq 1 2 5 1 kU8 V9 ([]:List UInt8) ((B.take ((rfA B a e 4 (Yc most ((B.drop a).take 4)))+(rdC (B.drop a) e most))).drop (rfA B a e 4 (Yc most ((B.drop a).take 4)))) ((B.take ((rfA B a e 4 (Yc most ((B.drop a).take 4)))+(rdC (B.drop a) e most))).drop (rfA B a e 4 (Yc most ((B.drop a).take 4)))) ([]:List UInt8).length (sy:=(dU ((B.take ((Z2d B a e most)+(rdC (B.drop a) e most))).drop (Z2d B a e most)))) (rhs:=[]) Uz (by omega) (Up false false kU8 ((B.take ((rfA B a e 4 (Yc most ((B.drop a).take 4)))+(rdC (B.drop a) e most))).drop (rfA B a e 4 (Yc most ((B.drop a).take 4))))) (by simp) (by (simp [maxLen,-List.getD_eq_getElem?_getD]<;>omega)) (by (simp [maxLen,-List.getD_eq_getElem?_getD]<;>omega)) (X4 rfl) trivial)] ?_
  refine sR [hR 5 rfl rfl (Y4 (u1:=.int .i64 ((rfA B a e 4 (Yc most ((B.drop a).take 4)):Nat):Int)) (u2:=.int .i64 ((rdC (B.drop a) e most:Nat):Int)) (v:=.int .i64 (((rfA B a e 4 (Yc most ((B.drop a).take 4)))+(rdC (B.drop a) e most):Nat):Int)) (Yn pZ5) (X4 rfl) trivial)] (sR [] (T.ret ?_))
  exact eRt 4 (.one (.own 2 kU8.sz 0 ((B.take ((Z2d B a e most)+(rdC (B.drop a) e most))).drop (Z2d B a e most)).length)) [0,2] (by have e1:((rdY (B.drop a) e most).length:Nat)=((B.take ((rfA B a e 4 (Yc most ((B.drop a).take 4)))+(rdC (B.drop a) e most))).drop (rfA B a e 4 (Yc most ((B.drop a).take 4)))).length:=(by (rw [hy.2.2.2.1,hy.1,hy.2.1];done));have hE:=congrArg (fun (q1:Nat)=>(Xx 2 kU8 0 q1:AV)) e1;exact hE) ⟨⟨rfl,p1q⟩,⟨⟨rfl,(by have e1:(((B.take ((rfA B a e 4 (Yc most ((B.drop a).take 4)))+(rdC (B.drop a) e most))).drop (rfA B a e 4 (Yc most ((B.drop a).take 4)))):List UInt8)=(rdY (B.drop a) e most):=(by (rw [hy.2.2.2.1,hy.1,hy.2.1];done));have hE:=congrArg (fun (q1:List UInt8)=>(.live (Xc 5 kU8 q1):HS)) e1;exact Eq.trans pZ2 hE)⟩,trivial⟩⟩
 have hy:=rfY_fail hq1
 refine sD [[],[0],[0,1],[0,1,2],[0,1,2,3],[0,1,2,3,4],[0,1,2,3,4,5],[0,1,2,3,4,5],[0,1,2,3,4,5,7],[0,1,2,3,4,5,7,8],[0,1,2,3,4,5,7,8,9],[0,1,2,3,4,5,7,8,9,10],[0,1,2,3,4,5],[0,1,2,3,4,5,12],[0,1,2,3,4,5,12,13],[0,1,2,3,4,5,12,13,14],[0,1,2,3,4,5,7,8,9,10,11,12,13,14,15],[0,1,2,3,4,5,6,7,8,9,10,11,12,13,14,15,16],[0,1,2,3,4,5,6,7,8,9,10,11,12,13,14,15,16,17]] (Xf (hN · true (dF hq1)) [6,7,8,9,10,11,12,13,14,15,16,17] (hP 18 (dF hq1)::[])) (cF (b:=false) rfl (T.skip (nT (T.seq (sR [] ?_)))))
 by_cases hq4:(rdE (B.drop a) e 4 (Yc most ((B.drop a).take 4)))≠0
 ·refine cT (dT hq4) (sR [] (T.ret (rT ?_)))
  refine eN ⟨[pv 0 0,vI most,aa,aa,dv (.slice none 0 0),(Z28 a),(Z29 B a e most),aa,aa,aa,aa,aa,aa,aa,aa,aa,aa,aa,aa,aa,aa,aa,aa,aa,aa,aa,aa,aa,aa,aa,aa,aa,aa,vB false,aa,aa,aa,aa,aa,aa,aa,aa,aa,aa,aa,(Z2b B a e most)],[(Z2c B a e most)]⟩ ?_
  refine Xh (s':=⟨[pv 0 0,vI most,aa,aa,Xx 1 kU8 0 0,(Z28 a),(Z29 B a e most),aa,aa,aa,aa,aa,aa,aa,aa,aa,aa,aa,aa,aa,aa,aa,aa,aa,aa,aa,aa,aa,aa,aa,aa,aa,aa,vB false,aa,aa,aa,aa,aa,aa,aa,aa,aa,aa,aa,(Z2b B a e most)],[(Z2c B a e most),.live (Xc 5 kU8 ([]:List UInt8))]⟩) (fun _ _ hG=>Vw 1 4 5 kU8 rfl rfl hG) ?_
  exact eRt 4 (.one (.own 1 kU8.sz 0 0)) [0,1] p3d ⟨⟨rfl,p1t⟩,⟨⟨rfl,pZ30⟩,trivial⟩⟩
 refine cF (dF hq4) (T.skip (nT ?_))
 refine sD [[],[],[1],[1,2],[1,2,3],[],[5],[5,6],[5,6,7],[],[9],[9,10],[9,10,11],[],[9,10,11,12,13],[1,2,3,4,5,6,7,8,9,10,11,12,13,14],[0,1,2,3,4,5,6,7,8,9,10,11,12,13,14,15],[0,1,2,3,4,5,6,7,8,9,10,11,12,13,14,15,16]] [hR 0 rfl rfl (Yb 1 5 kU8 V9 ([]:List UInt8) [] (cs:=[]) Tryz.underlying34 Ur rfl I1 rfl rfl rfl pf Wa pZ2 (Vk pZ2) (X4 rfl) trivial),hR 14 rfl rfl (Y4 (u1:=.int .i64 ((rfA B a e 4 (Yc most ((B.drop a).take 4)):Nat):Int)) (u2:=.int .i64 ((rdC (B.drop a) e most:Nat):Int)) (v:=.int .i64 (((rfA B a e 4 (Yc most ((B.drop a).take 4)))+(rdC (B.drop a) e most):Nat):Int)) (Yn pZ5) (X4 rfl) trivial),hR 15 rfl rfl (Fq false false kU8 B ((B.take ((rfA B a e 4 (Yc most ((B.drop a).take 4)))+(rdC (B.drop a) e most))).drop (rfA B a e 4 (Yc most ((B.drop a).take 4)))) (rfA B a e 4 (Yc most ((B.drop a).take 4))) ((rfA B a e 4 (Yc most ((B.drop a).take 4)))+(rdC (B.drop a) e most)) (lo:=some (.tmp 54,((rfA B a e 4 (Yc most ((B.drop a).take 4)):Nat):Int))) (hi:=some (.tmp 60,(((rfA B a e 4 (Yc most ((B.drop a).take 4)))+(rdC (B.drop a) e most):Nat):Int))) Tryz.underlying34 Ur rfl rfl rfl rfl rfl (by omega) (by omega) rfl (X4 rfl) trivial),hR 16 rfl rfl (Yq 1 2 5 1 kU8 V9 ([]:List UInt8) ((B.take ((rfA B a e 4 (Yc most ((B.drop a).take 4)))+(rdC (B.drop a) e most))).drop (rfA B a e 4 (Yc most ((B.drop a).take 4)))) ((B.take ((rfA B a e 4 (Yc most ((B.drop a).take 4)))+(rdC (B.drop a) e most))).drop (rfA B a e 4 (Yc most ((B.drop a).take 4)))) ([]:List UInt8).length (sy:=(dU ((B.take ((Z2d B a e most)+(rdC (B.drop a) e most))).drop (Z2d B a e most)))) (rhs:=[]) Uz (by omega) (Up false false kU8 ((B.take ((rfA B a e 4 (Yc most ((B.drop a).take 4)))+(rdC (B.drop a) e most))).drop (rfA B a e 4 (Yc most ((B.drop a).take 4))))) (by simp) (by omega) (by omega) (X4 rfl) trivial)] ?_
 refine sR [hR 5 rfl rfl (Y4 (u1:=.int .i64 ((rfA B a e 4 (Yc most ((B.drop a).take 4)):Nat):Int)) (u2:=.int .i64 ((rdC (B.drop a) e most:Nat):Int)) (v:=.int .i64 (((rfA B a e 4 (Yc most ((B.drop a).take 4)))+(rdC (B.drop a) e most):Nat):Int)) (Yn pZ5) (X4 rfl) trivial)] (sR [] (T.ret ?_))
 exact eRt 4 (.one (.own 2 kU8.sz 0 ((B.take ((Z2d B a e most)+(rdC (B.drop a) e most))).drop (Z2d B a e most)).length)) [0,2] (congrArg (fun (q1:Nat)=>(Xx 2 kU8 0 q1:AV)) (show ((rdY (B.drop a) e most).length:Nat)=((B.take ((rfA B a e 4 (Yc most ((B.drop a).take 4)))+(rdC (B.drop a) e most))).drop (rfA B a e 4 (Yc most ((B.drop a).take 4)))).length from (by omega))) ⟨⟨rfl,p1q⟩,⟨⟨rfl,(by have e1:(((B.take ((rfA B a e 4 (Yc most ((B.drop a).take 4)))+(rdC (B.drop a) e most))).drop (rfA B a e 4 (Yc most ((B.drop a).take 4)))):List UInt8)=(rdY (B.drop a) e most):=(by omega);have hE:=congrArg (fun (q1:List UInt8)=>(.live (Xc 5 kU8 q1):HS)) e1;exact Eq.trans pZ2 hE)⟩,trivial⟩⟩
theorem iat_133:Tryz.prog.info? 133=some Tryz.t133:=by kernel_rfl
theorem J1:Wide Tryz.prog 133 (some 4):=⟨_,_,Tryz.underlying133,.inl ⟨_,rfl⟩,iat_133,rfl⟩
abbrev Z2e:TV:=.one (dB true)
abbrev Z2f:TV:=.agg [dI 11,dI 0,dI 1,dI 7]
theorem Eu (k:Int):Holds Tryz.prog 71 ⟨[vI k],[],.tup [.agg [dI (Y3 k).V4,dI (Y3 k).W4,dI (Y3 k).Wm,dI (Y3 k).V7],.one (dB (decide (okK k)))],[]⟩:=by
 refine Holds.of Tryz.func71 rfl (N:=54) Tryz.ntmps71 rfl fun w0 B0 S0 U0=>?_
 show T _ (Y0 54 0 w0 S0 U0 B0) ⟨[vI k],[]⟩ _ _
 refine sR [] (sR [] (T.seq (sR [] (T.block (T.seq (T.block (T.seq (T.block (T.seq (T.block (T.seq (T.block (T.seq (T.block (T.seq (T.block (T.seq (T.block (T.seq (T.block (T.seq (T.block (T.seq (T.block (T.seq (T.block (T.seq (T.seq (sR [] ?_)))))))))))))))))))))))))))))
 by_cases hq1:k=1
 ·refine cT (dT hq1) (T.exit (xT (xT (xH (nT (sR [] (T.exit (xM rfl (xT (xM rfl (xT (xM rfl (xT (xM rfl (xT (xM rfl (xT (xM rfl (xT (xM rfl (xT (xM rfl (xT (xM rfl (xT (xM rfl (xT (xH (nT (sR [] (T.ret ?_)))))))))))))))))))))))))))))))
  exact eX [.c 2 0 133 0 133 [dI 20,dI 0,dI 1,dI 7] (.agg [dI 20,dI 0,dI 1,dI 7]),.t 3 (Z2e)] ⟨⟨rfl,rfl,by kernel_rfl,by kernel_rfl,.inl ⟨4,J1,rfl,Nat.le_of_ble_eq_true rfl⟩⟩,⟨⟨rfl,by kernel_rfl⟩,trivial⟩⟩ [] (gc2 (show (Y3 k)=⟨20,0,1,7⟩ from pZv) (show ((decide (okK k)):Bool)=true from pZv) (fun qq0 (q5:Bool)=>(.tup [.agg [dI (qq0.V4),dI (qq0.W4),dI (qq0.Wm),dI (qq0.V7)],.one (dB q5)]:AV))) trivial
 refine cF (dF hq1) (T.skip (nT (T.seq (sR [] ?_))))
 by_cases hq2:k=2
 ·refine cT (dT hq2) (T.exit (xT (xT (xM rfl (xT (xH (nT (sR [hR 2 rfl rfl (Y4 (u1:=.int .i64 0) (u2:=.int .i64 64) (v:=.int .i64 64) (X4a p3t) (X4 rfl) ⟨rfl,trivial⟩)] (xK [] (nB (nT (xK [hR 2 rfl rfl (Y4 (u1:=.int .i64 64) (u2:=.int .i64 1) (v:=.int .i64 65) (X4a p3t) (X4 rfl) ⟨rfl,trivial⟩)] (nB (nT (sR [hR 2 rfl rfl (Y4 (u1:=.int .i64 65) (u2:=.int .i64 10) (v:=.int .i64 75) (X4a p3t) (X4 rfl) ⟨rfl,trivial⟩)] (T.exit (xM rfl (xT (xM rfl (xT (xM rfl (xT (xM rfl (xT (xM rfl (xT (xM rfl (xT (xM rfl (xT (xH (nT (sR [] (T.ret ?_))))))))))))))))))))))))))))))))))
  exact eX [.c 2 0 133 0 133 [dI 75,dI 0,dI 1,dI 4] (.agg [dI 75,dI 0,dI 1,dI 4]),.t 3 (Z2e)] ⟨⟨rfl,rfl,by kernel_rfl,by kernel_rfl,.inl ⟨4,J1,rfl,Nat.le_of_ble_eq_true rfl⟩⟩,⟨⟨rfl,by kernel_rfl⟩,trivial⟩⟩ [] (gc2 (show (Y3 k)=⟨75,0,1,4⟩ from pZv) (show ((decide (okK k)):Bool)=true from pZv) (fun qq0 (q5:Bool)=>(.tup [.agg [dI (qq0.V4),dI (qq0.W4),dI (qq0.Wm),dI (qq0.V7)],.one (dB q5)]:AV))) trivial
 refine cF (dF hq2) (T.skip (nT (T.seq (T.seq (sR [] ?_)))))
 by_cases hq3:k=3
 ·refine cT (dT hq3) (T.skip (nT (cT (dT hq3) (T.exit (xT (xT (xM rfl (xT (xM rfl (xT (xH (nT (xK [hR 2 rfl rfl (Y4 (u1:=.int .i64 0) (u2:=.int .i64 1) (v:=.int .i64 1) (X4a p3t) (X4 rfl) ⟨rfl,trivial⟩)] (nB (nT (sR [hR 2 rfl rfl (Y4 (u1:=.int .i64 1) (u2:=.int .i64 10) (v:=.int .i64 11) (X4a p3t) (X4 rfl) ⟨rfl,trivial⟩)] (T.exit (xM rfl (xT (xM rfl (xT (xM rfl (xT (xM rfl (xT (xM rfl (xT (xM rfl (xT (xM rfl (xT (xH (nT (sR [] (T.ret ?_)))))))))))))))))))))))))))))))))))
  exact eX [.c 2 0 133 0 133 [dI 11,dI 0,dI 1,dI 7] (Z2f),.t 3 (Z2e)] ⟨⟨rfl,rfl,by kernel_rfl,by kernel_rfl,.inl ⟨4,J1,rfl,Nat.le_of_ble_eq_true rfl⟩⟩,⟨⟨rfl,by kernel_rfl⟩,trivial⟩⟩ [] p2n trivial
 refine cF (dF hq3) (xK [] (nT ?_))
 by_cases hq4:k=4
 ·refine cT (dT hq4) (T.exit (xT (xT (xM rfl (xT (xM rfl (xT (xH (nT (xK [hR 2 rfl rfl (Y4 (u1:=.int .i64 0) (u2:=.int .i64 1) (v:=.int .i64 1) (X4a p3t) (X4 rfl) ⟨rfl,trivial⟩)] (nB (nT (sR [hR 2 rfl rfl (Y4 (u1:=.int .i64 1) (u2:=.int .i64 10) (v:=.int .i64 11) (X4a p3t) (X4 rfl) ⟨rfl,trivial⟩)] (T.exit (xM rfl (xT (xM rfl (xT (xM rfl (xT (xM rfl (xT (xM rfl (xT (xM rfl (xT (xM rfl (xT (xH (nT (sR [] (T.ret ?_))))))))))))))))))))))))))))))))
  exact eX [.c 2 0 133 0 133 [dI 11,dI 0,dI 1,dI 7] (Z2f),.t 3 (Z2e)] ⟨⟨rfl,rfl,by kernel_rfl,by kernel_rfl,.inl ⟨4,J1,rfl,Nat.le_of_ble_eq_true rfl⟩⟩,⟨⟨rfl,by kernel_rfl⟩,trivial⟩⟩ [] p2n trivial
 refine cF (dF hq4) (T.skip (nT (T.seq (sR [] ?_))))
 by_cases hq5:k=5
 ·refine cT (dT hq5) (T.exit (xT (xT (xM rfl (xT (xM rfl (xT (xM rfl (xT (xH (nT (sR [hR 2 rfl rfl (Y4 (u1:=.int .i64 0) (u2:=.int .i64 10) (v:=.int .i64 10) (X4a p3t) (X4 rfl) ⟨rfl,trivial⟩)] (T.exit (xM rfl (xT (xM rfl (xT (xM rfl (xT (xM rfl (xT (xM rfl (xT (xM rfl (xT (xM rfl (xT (xH (nT (sR [] (T.ret ?_)))))))))))))))))))))))))))))))
  exact eX [.c 2 0 133 0 133 [dI 10,dI 0,dI 1,dI 7] (.agg [dI 10,dI 0,dI 1,dI 7]),.t 3 (Z2e)] ⟨⟨rfl,rfl,by kernel_rfl,by kernel_rfl,.inl ⟨4,J1,rfl,Nat.le_of_ble_eq_true rfl⟩⟩,⟨⟨rfl,by kernel_rfl⟩,trivial⟩⟩ [] (gc2 (show (Y3 k)=⟨10,0,1,7⟩ from pZv) (show ((decide (okK k)):Bool)=true from pZv) (fun qq0 (q5:Bool)=>(.tup [.agg [dI (qq0.V4),dI (qq0.W4),dI (qq0.Wm),dI (qq0.V7)],.one (dB q5)]:AV))) trivial
 refine cF (dF hq5) (T.skip (nT (T.seq (sR [] ?_))))
 by_cases hq6:k=6
 ·refine cT (dT hq6) (T.exit (xT (xT (xM rfl (xT (xM rfl (xT (xM rfl (xT (xM rfl (xT (xH (nT (sR [] (T.exit (xM rfl (xT (xM rfl (xT (xM rfl (xT (xM rfl (xT (xM rfl (xT (xM rfl (xT (xH (nT (sR [] (T.ret ?_)))))))))))))))))))))))))))))))
  exact eX [.c 2 0 133 0 133 [dI 323,dI 1,dI 0,dI 7] (.agg [dI 323,dI 1,dI 0,dI 7]),.t 3 (Z2e)] ⟨⟨rfl,rfl,by kernel_rfl,by kernel_rfl,.inl ⟨4,J1,rfl,Nat.le_of_ble_eq_true rfl⟩⟩,⟨⟨rfl,by kernel_rfl⟩,trivial⟩⟩ [] (gc2 (show (Y3 k)=⟨323,1,0,7⟩ from pZv) (show ((decide (okK k)):Bool)=true from pZv) (fun qq0 (q5:Bool)=>(.tup [.agg [dI (qq0.V4),dI (qq0.W4),dI (qq0.Wm),dI (qq0.V7)],.one (dB q5)]:AV))) trivial
 refine cF (dF hq6) (T.skip (nT (T.seq (sR [] ?_))))
 by_cases hq7:k=7
 ·refine cT (dT hq7) (T.exit (xT (xT (xM rfl (xT (xM rfl (xT (xM rfl (xT (xM rfl (xT (xM rfl (xT (xH (nT (sR [] (T.exit (xM rfl (xT (xM rfl (xT (xM rfl (xT (xM rfl (xT (xM rfl (xT (xH (nT (sR [] (T.ret ?_)))))))))))))))))))))))))))))))
  exact eX [.c 2 0 133 0 133 [dI 193,dI 1,dI 1,dI 7] (.agg [dI 193,dI 1,dI 1,dI 7]),.t 3 (Z2e)] ⟨⟨rfl,rfl,by kernel_rfl,by kernel_rfl,.inl ⟨4,J1,rfl,Nat.le_of_ble_eq_true rfl⟩⟩,⟨⟨rfl,by kernel_rfl⟩,trivial⟩⟩ [] (gc2 (show (Y3 k)=⟨193,1,1,7⟩ from pZv) (show ((decide (okK k)):Bool)=true from pZv) (fun qq0 (q5:Bool)=>(.tup [.agg [dI (qq0.V4),dI (qq0.W4),dI (qq0.Wm),dI (qq0.V7)],.one (dB q5)]:AV))) trivial
 refine cF (dF hq7) (T.skip (nT (T.seq (sR [] ?_))))
 by_cases hq8:k=8
 ·refine cT (dT hq8) (T.exit (xT (xT (xM rfl (xT (xM rfl (xT (xM rfl (xT (xM rfl (xT (xM rfl (xT (xM rfl (xT (xH (nT (sR [] (T.exit (xM rfl (xT (xM rfl (xT (xM rfl (xT (xM rfl (xT (xH (nT (sR [] (T.ret ?_)))))))))))))))))))))))))))))))
  exact eX [.c 2 0 133 0 133 [dI 37,dI 0,dI 1,dI 7] (.agg [dI 37,dI 0,dI 1,dI 7]),.t 3 (Z2e)] ⟨⟨rfl,rfl,by kernel_rfl,by kernel_rfl,.inl ⟨4,J1,rfl,Nat.le_of_ble_eq_true rfl⟩⟩,⟨⟨rfl,by kernel_rfl⟩,trivial⟩⟩ [] (gc2 (show (Y3 k)=⟨37,0,1,7⟩ from pZv) (show ((decide (okK k)):Bool)=true from pZv) (fun qq0 (q5:Bool)=>(.tup [.agg [dI (qq0.V4),dI (qq0.W4),dI (qq0.Wm),dI (qq0.V7)],.one (dB q5)]:AV))) trivial
 refine cF (dF hq8) (T.skip (nT (T.seq (sR [] ?_))))
 by_cases hq9:k=9
 ·refine cT (dT hq9) (T.exit (xT (xT (xM rfl (xT (xM rfl (xT (xM rfl (xT (xM rfl (xT (xM rfl (xT (xM rfl (xT (xM rfl (xT (xH (nT (sR [] (T.exit (xM rfl (xT (xM rfl (xT (xM rfl (xT (xH (nT (sR [] (T.ret ?_)))))))))))))))))))))))))))))))
  exact eX [.c 2 0 133 0 133 [dI 2,dI 0,dI 0,dI 7] (.agg [dI 2,dI 0,dI 0,dI 7]),.t 3 (Z2e)] ⟨⟨rfl,rfl,by kernel_rfl,by kernel_rfl,.inl ⟨4,J1,rfl,Nat.le_of_ble_eq_true rfl⟩⟩,⟨⟨rfl,by kernel_rfl⟩,trivial⟩⟩ [] (gc2 (show (Y3 k)=⟨2,0,0,7⟩ from pZv) (show ((decide (okK k)):Bool)=true from pZv) (fun qq0 (q5:Bool)=>(.tup [.agg [dI (qq0.V4),dI (qq0.W4),dI (qq0.Wm),dI (qq0.V7)],.one (dB q5)]:AV))) trivial
 refine cF (dF hq9) (T.skip (nT (T.seq (sR [] ?_))))
 by_cases hq10:k=10
 ·refine cT (dT hq10) (T.exit (xT (xT (xM rfl (xT (xM rfl (xT (xM rfl (xT (xM rfl (xT (xM rfl (xT (xM rfl (xT (xM rfl (xT (xM rfl (xT (xH (nT (sR [] (T.exit (xM rfl (xT (xM rfl (xT (xH (nT (sR [] (T.ret ?_)))))))))))))))))))))))))))))))
  exact eX [.c 2 0 133 0 133 [dI 256,dI 0,dI 1,dI 7] (.agg [dI 256,dI 0,dI 1,dI 7]),.t 3 (Z2e)] ⟨⟨rfl,rfl,by kernel_rfl,by kernel_rfl,.inl ⟨4,J1,rfl,Nat.le_of_ble_eq_true rfl⟩⟩,⟨⟨rfl,by kernel_rfl⟩,trivial⟩⟩ [] (gc2 (show (Y3 k)=⟨256,0,1,7⟩ from pZv) (show ((decide (okK k)):Bool)=true from pZv) (fun qq0 (q5:Bool)=>(.tup [.agg [dI (qq0.V4),dI (qq0.W4),dI (qq0.Wm),dI (qq0.V7)],.one (dB q5)]:AV))) trivial
 refine cF (dF hq10) (T.skip (nT (sR [] ?_)))
 by_cases hq11:k=11
 ·refine cT (dT hq11) (T.exit (xT (xM rfl (xT (xM rfl (xT (xM rfl (xT (xM rfl (xT (xM rfl (xT (xM rfl (xT (xM rfl (xT (xM rfl (xT (xM rfl (xT (xH (nT (sR [] (T.exit (xM rfl (xT (xH (nT (sR [] (T.ret ?_))))))))))))))))))))))))))))))
  exact eX [.c 2 0 133 0 133 [dI 82,dI 0,dI 1,dI 7] (.agg [dI 82,dI 0,dI 1,dI 7]),.t 3 (Z2e)] ⟨⟨rfl,rfl,by kernel_rfl,by kernel_rfl,.inl ⟨4,J1,rfl,Nat.le_of_ble_eq_true rfl⟩⟩,⟨⟨rfl,by kernel_rfl⟩,trivial⟩⟩ [] (gc2 (show (Y3 k)=⟨82,0,1,7⟩ from pZv) (show ((decide (okK k)):Bool)=true from pZv) (fun qq0 (q5:Bool)=>(.tup [.agg [dI (qq0.V4),dI (qq0.W4),dI (qq0.Wm),dI (qq0.V7)],.one (dB q5)]:AV))) trivial
 refine cF (dF hq11) (T.skip (nT (T.exit (xM rfl (xT (xM rfl (xT (xM rfl (xT (xM rfl (xT (xM rfl (xT (xM rfl (xT (xM rfl (xT (xM rfl (xT (xM rfl (xT (xM rfl (xT (xH (nT (T.seq (sR [] (T.ret (rT (rB (rT ?_)))))))))))))))))))))))))))))))
 exact eX [.c 2 0 133 0 133 [dI 0,dI 0,dI 1,dI 7] (.agg [dI 0,dI 0,dI 1,dI 7]),.t 3 (.one (dB false))] ⟨⟨rfl,rfl,by kernel_rfl,by kernel_rfl,.inl ⟨4,J1,rfl,Nat.le_of_ble_eq_true rfl⟩⟩,⟨⟨rfl,by kernel_rfl⟩,trivial⟩⟩ [] (gc2 (show (Y3 k)=⟨0,0,1,7⟩ from pZv) (by exact dF (by unfold okK;omega)) (fun qq0 (q5:Bool)=>(.tup [.agg [dI (qq0.V4),dI (qq0.W4),dI (qq0.Wm),dI (qq0.V7)],.one (dB q5)]:AV))) trivial
end Go.Proofs.YthnefnknoahbkaaGreat.Q
