import Derived.Test.YthnefnknoahbkaaGreatC18n20
namespace Go.Proofs.YthnefnknoahbkaaGreat.Q
set_option linter.unusedVariables false
set_option linter.unusedSimpArgs false
set_option maxRecDepth 100000
theorem org_cl {u id:Int} (h:Wb u id):¬orgA u id<0:=by
  unfold orgA;rw [if_pos h];have:=h.1;omega
def J6 (id:Int) (E:aE):aE:=⟨id,E.X7⟩
def V8 (id:Int) (E:aE):List Ya:=[⟨-1,⟨id,E.X7⟩⟩]
def F2 (b:List UInt8):Int:=if ((b.length:Nat):Int)>4096 then 11 else 3
theorem X5i {b:List UInt8} (h:((b.length:Nat):Int)>4096):11=F2 b:=(if_pos h).symm
theorem X5j {b:List UInt8} (h:¬((b.length:Nat):Int)>4096):3=F2 b:=(if_neg h).symm
abbrev Ys (id st:Int) (b:List UInt8):aM:=⟨1,0,0,id,st,[],b,⟨0,0⟩,[],[],[]⟩
theorem X82 (id st:Int) (b:List UInt8) (h:¬((b.length:Nat):Int)>4096):(Xm (Ys id st b) 9).length≤5000:=by
  have h1:=X1s (Ys id st b)
  have h2:(Wc ([]:List aE)).length=4:=by rw [Hg];rfl
  have h3:(H3 ([]:List aC)).length=4:=by rw [X0v];rfl
  simp only [Ys,h2,h3,List.length_nil] at h1
  simp only [Ys]
  omega
theorem Ue (id st:Int) (b:List UInt8) (h:¬((b.length:Nat):Int)>4096):(Xm (Ys id st b) 9).length≤1000000000∧(Ys id st b).Xe.length≤9223372036854775807∧(Ys id st b).Xp.length≤9223372036854775807∧(Ys id st b).X5.length≤9223372036854775807∧(Ys id st b).Xi.length≤9223372036854775807∧(Ys id st b).Xb.length≤9223372036854775807:=by
  have h1:=X82 id st b h
  exact ⟨by omega,Nat.zero_le _,Nat.zero_le _,Nat.zero_le _,(by show b.length≤_;omega),Nat.zero_le _⟩
theorem Xb1 (m:aM):(Yj m).length≤(Xm m 9).length:=by
  unfold Yj;split
  · exact Nat.le_refl _
  · exact Nat.zero_le _
theorem Fb (id st:Int) (b:List UInt8) (h:¬((b.length:Nat):Int)>4096):(Yj (Ys id st b)).length≤5000:=Nat.le_trans (Xb1 _) (X82 id st b h)
theorem Xbu {x y:Ya} (h1:x.f_To=y.f_To) (h2:x.E8=y.E8):x=y:=by
  cases x;cases y;simp only at h1 h2;rw [h1,h2]
def Ws (C:aE→Int) (f id st:Int) (e:aE):Prop:=Yg f e.f_Signer∧C e=0∧X05 e.X7=0∧(Y2 e.X7).X2=8∧(Y2 e.X7).Xa=id∧(Y2 e.X7).Xw=st
instance (C:aE→Int) (f id st:Int) (e:aE):Decidable (Ws C f id st e):=by unfold Ws;infer_instance
def Uw (e:aE):Xd:=(Y2 e.X7).X1
abbrev Wz:=List (Int×Xd)
def Hk (l:Wz) (r:Xd):Nat:=(l.filter fun x=>decide (x.2=r)).length
def X44 (l:Wz) (e:aE):Wz:=mput l e.f_Signer (Uw e)
def Jy (C:aE→Int) (f id st:Int) (l:Wz) (e:aE):Wz:=if Ws C f id st e then X44 l e else l
def F8 (C:aE→Int) (f id st:Int) (l:Wz) (e:aE):Prop:=Ws C f id st e∧((Hk (X44 l e) (Uw e):Nat):Int)≥f+1
instance (C:aE→Int) (f id st:Int) (l:Wz) (e:aE):Decidable (F8 C f id st l e):=by unfold F8;infer_instance
theorem Xep {C:aE→Int} {f id st:Int} {l:Wz} {e:aE} (h:¬Ws C f id st e):Jy C f id st l e=l:=if_neg h
theorem Xbo {C:aE→Int} {f id st:Int} {l:Wz} {e:aE} (h:Ws C f id st e):Jy C f id st l e=X44 l e:=if_pos h
theorem X1m (l:Wz) (s:Int) (r:Xd):(mput l s r).length≤l.length+1:=by
  induction l with
  | nil=>exact Nat.le_refl _
  | cons a l ih=>unfold mput;split<;>simp only [List.length_cons]<;>omega
def Vo (l:Wz) (bn seen:List Nat) (r:Xd):Nat:=((List.range l.length).filter fun i=>decide (bn.getD i 0∈seen∧(l.getD i (0,Yf)).2=r)).length
theorem cntS_0 (l:Wz) (bn:List Nat) (r:Xd):Vo l bn [] r=0:=by
  unfold Vo
  rw [List.length_eq_zero_iff,List.filter_eq_nil_iff]
  intro i _;simp
theorem X6b {bn:List Nat} (h:bn.Nodup) {i j:Nat} (hi:i<bn.length) (hj:j<bn.length) (e:bn.getD i 0=bn.getD j 0):i=j:=by
  rw [List.getD_eq_getElem?_getD,List.getD_eq_getElem?_getD,List.getElem?_eq_getElem hi,List.getElem?_eq_getElem hj] at e
  exact (List.getElem_inj h).1 e
theorem filt_one {n:Nat} {p q:Nat→Prop} [DecidablePred p] [DecidablePred q] {j:Nat} (hj:j<n) (hp:¬p j) (hq:q j) (h:∀ i,i<n→i≠j→(p i↔q i)):((List.range n).filter fun i=>decide (q i)).length=((List.range n).filter fun i=>decide (p i)).length+1:=by
  induction n with
  | zero=>omega
  | succ n ih =>
    rw [List.range_succ,List.filter_append,List.filter_append,List.length_append,List.length_append]
    by_cases hjn:j=n
    · subst hjn
      have e:(List.range j).filter (fun i=>decide (q i))=(List.range j).filter fun i=>decide (p i):=List.filter_congr fun i hi=>by
        have:=List.mem_range.1 hi
        exact decide_eq_decide.2 (h i (by omega) (by omega)).symm
      rw [e];simp [hp,hq]
    · have:=ih (by omega) fun i hi=>h i (by omega)
      have e:[n].filter (fun i=>decide (q i))=[n].filter fun i=>decide (p i):=List.filter_congr fun i hi=>by
        simp at hi;subst hi
        exact decide_eq_decide.2 (h i (by omega) (by omega)).symm
      rw [e];omega
theorem Xba {l:Wz} {bn seen:List Nat} {r:Xd} {clk j:Nat} (hb:H4 bn clk) (hl:bn.length=l.length) (hj:j<bn.length) (hn:bn.getD j 0 ∉ seen) (h:(l.getD j (0,Yf)).2=r):Vo l bn (seen++[bn.getD j 0]) r=Vo l bn seen r+1:=by
  unfold Vo
  refine filt_one (p:=fun i=>bn.getD i 0∈seen∧(l.getD i (0,Yf)).2=r) (q:=fun i=>bn.getD i 0∈seen++[bn.getD j 0]∧(l.getD i (0,Yf)).2=r) (j:=j) (by omega) (fun w=>hn w.1) ⟨by simp,h⟩ fun i hi hij=>?_
  refine and_congr ?_ Iff.rfl
  rw [List.mem_append,List.mem_singleton]
  exact ⟨.inl,fun w=>w.elim id fun e=>absurd (X6b hb.1 (by omega) hj e) hij⟩
theorem Xeb {l:Wz} {bn seen:List Nat} {r:Xd} {clk j:Nat} (hb:H4 bn clk) (hl:bn.length=l.length) (hj:j<bn.length) (h:¬(l.getD j (0,Yf)).2=r):Vo l bn (seen++[bn.getD j 0]) r=Vo l bn seen r:=by
  unfold Vo
  congr 1
  refine List.filter_congr fun i hi=>decide_eq_decide.2 ?_
  have hi:=List.mem_range.1 hi
  rw [List.mem_append,List.mem_singleton]
  constructor
  · rintro ⟨w|e,w2⟩
    · exact ⟨w,w2⟩
    · rw [X6b hb.1 (by omega) hj e] at w2;exact absurd w2 h
  · exact fun w=>⟨.inl w.1,w.2⟩
theorem X67 {α:Type} (z:α) (p:α→Bool):∀ l:List α,((List.range l.length).filter fun i=>p (l.getD i z)).length=(l.filter p).length
  | []=>rfl
  | a::l=>by
    have ih:=X67 z p l
    rw [List.length_cons,List.range_succ_eq_map,List.filter_cons,List.filter_cons,List.filter_map]
    have e:(List.filter ((fun i=>p ((a::l).getD i z)) ∘ Nat.succ) (List.range l.length))=List.filter (fun i=>p (l.getD i z)) (List.range l.length):=List.filter_congr fun i _=>by simp
    simp only [List.getD_cons_zero]
    split
    · rw [List.length_cons,List.length_cons,List.length_map,e,ih]
    · rw [List.length_map,e,ih]
theorem cntS_all {l:Wz} {bn seen:List Nat} {r:Xd} (hl:bn.length=l.length) (h:∀ b,b∈bn→b∈seen):Vo l bn seen r=Hk l r:=by
  unfold Vo Hk
  rw [← X67 (0,Yf)]
  congr 1
  refine List.filter_congr fun i hi=>decide_eq_decide.2 ?_
  have hi:=List.mem_range.1 hi
  exact ⟨fun w=>w.2,fun w=>⟨h _ (Vn (by omega)),w⟩⟩
theorem Xec {l:Wz} {bn seen:List Nat} {r:Xd}:Vo l bn seen r≤l.length:=by
  unfold Vo
  exact Nat.le_trans (List.length_filter_le _ _) (by rw [List.length_range];exact Nat.le_refl _)
def Fe (bn seen:List Nat):Nat:=(bn.filter fun b=>decide (b ∉ seen)).length
theorem X9e {bn seen:List Nat} {j:Nat} (hj:j<bn.length) (hn:bn.getD j 0 ∉ seen):Fe bn (seen++[bn.getD j 0])<Fe bn seen:=by
  unfold Fe
  have hm:bn.getD j 0∈bn:=Vn hj
  generalize bn.getD j 0=b at hn hm
  clear hj
  induction bn with
  | nil=>cases hm
  | cons a r ih =>
    have hle:∀ r:List Nat,(r.filter fun x=>decide (x ∉ seen++[b])).length≤(r.filter fun x=>decide (x ∉ seen)).length:=fun r=>by
      induction r with
      | nil=>exact Nat.le_refl _
      | cons c r ih =>
        by_cases h1:c∈seen
        · have h2:c∈seen++[b]:=List.mem_append.2 (.inl h1)
          simp only [List.filter_cons,h1,h2,not_true_eq_false,decide_false,Bool.false_eq_true,if_false];exact ih
        · by_cases h2:c∈seen++[b]
          · simp only [List.filter_cons,h1,h2,not_true_eq_false,not_false_eq_true,decide_false,decide_true,Bool.false_eq_true,if_false,if_true,List.length_cons];omega
          · simp only [List.filter_cons,h1,h2,not_false_eq_true,decide_true,if_true,List.length_cons];omega
    rcases List.mem_cons.1 hm with rfl|h
    · have h2:b∈seen++[b]:=by simp
      simp only [List.filter_cons,hn,h2,not_true_eq_false,not_false_eq_true,decide_false,decide_true,Bool.false_eq_true,if_false,if_true,List.length_cons]
      have:=hle r;omega
    · have hi:=ih h
      by_cases h1:a∈seen
      · have h2:a∈seen++[b]:=List.mem_append.2 (.inl h1)
        simp only [List.filter_cons,h1,h2,not_true_eq_false,decide_false,Bool.false_eq_true,if_false];exact hi
      · by_cases h2:a∈seen++[b]
        · simp only [List.filter_cons,h1,h2,not_true_eq_false,not_false_eq_true,decide_false,decide_true,Bool.false_eq_true,if_false,if_true,List.length_cons];omega
        · simp only [List.filter_cons,h1,h2,not_false_eq_true,decide_true,if_true,List.length_cons];omega
def Yx (ws:List X6) (s:Int) (k:Nat):List X6:=(ws.take k).filter fun w=>decide (w.f_Signer≠s)
def W6 (ws:List X6) (e:aE) (k:Nat):Nat:=1+((Yx ws e.f_Signer k).filter fun w=>decide (w.X1=Uw e)).length
def X30 (ws:List X6) (e:aE):List X6:=Yx ws e.f_Signer ws.length++[⟨e.f_Signer,Uw e⟩]
def Um (C:aE→Int) (f id st:Int) (ws:List X6) (e:aE):List X6:=if Ws C f id st e then X30 ws e else ws
def Fx (C:aE→Int) (f id st:Int) (ws:List X6) (e:aE):Prop:=Ws C f id st e∧((W6 ws e ws.length:Nat):Int)≥f+1
instance (C:aE→Int) (f id st:Int) (ws:List X6) (e:aE):Decidable (Fx C f id st ws e):=by unfold Fx;infer_instance
theorem X31 {C:aE→Int} {f id st:Int} {ws:List X6} {e:aE} (h:¬Ws C f id st e):Um C f id st ws e=ws:=if_neg h
theorem X55 {C:aE→Int} {f id st:Int} {ws:List X6} {e:aE} (h:Ws C f id st e):Um C f id st ws e=X30 ws e:=if_pos h
section
variable {ws:List X6} {e:aE} {s:Int} {k:Nat}
theorem X4x (hk:k<ws.length) (h:(ws.getD k Xk).f_Signer≠s):Yx ws s (k+1)=Yx ws s k++[ws.getD k Xk]:=by
  unfold Yx;rw [Ic (z:=Xk) hk,List.filter_append,List.filter_cons,if_pos (decide_eq_true h)];rfl
theorem Xc3 (hk:k<ws.length) (h:¬(ws.getD k Xk).f_Signer≠s):Yx ws s (k+1)=Yx ws s k:=by
  unfold Yx;rw [Ic (z:=Xk) hk,List.filter_append,List.filter_cons,if_neg (by simpa using h)];simp
theorem X0p:(Yx ws s k).length≤k:=Nat.le_trans (List.length_filter_le _ _) p4c
theorem Xe9 (hk:k<ws.length) (h:¬(ws.getD k Xk).f_Signer≠e.f_Signer):W6 ws e (k+1)=W6 ws e k:=by unfold W6;rw [Xc3 hk h]
theorem cntW_1 (hk:k<ws.length) (h:(ws.getD k Xk).f_Signer≠e.f_Signer) (h2:(ws.getD k Xk).X1=Uw e):W6 ws e (k+1)=W6 ws e k+1:=by
  unfold W6;rw [X4x hk h,List.filter_append,List.length_append,List.filter_cons,if_pos (decide_eq_true h2)];simp;omega
theorem cntW_2 (hk:k<ws.length) (h:(ws.getD k Xk).f_Signer≠e.f_Signer) (h2:¬(ws.getD k Xk).X1=Uw e):W6 ws e (k+1)=W6 ws e k:=by
  unfold W6;rw [X4x hk h,List.filter_append,List.length_append,List.filter_cons,if_neg (by simpa using h2)];simp
theorem Xea:W6 ws e k≤1+k:=by unfold W6;have:=Nat.le_trans (List.length_filter_le (fun w:X6=>decide (w.X1=Uw e)) (Yx ws e.f_Signer k)) X0p;omega
end
def U9 (l:Wz) (ws:List X6):Prop:=(l.map fun x=>(⟨x.1,x.2⟩:X6)).Perm ws∧(l.map (·.1)).Nodup
theorem X3e (s:Int) (r:Xd):∀ {l:Wz},(l.map (·.1)).Nodup→(mput l s r).Perm ((l.filter fun x=>decide (x.1≠s))++[(s,r)])
  | [],_=>List.Perm.refl _
  | a::l,h=>by
    rw [List.map_cons,List.nodup_cons] at h
    unfold mput
    by_cases hs:a.1=s
    · rw [if_pos hs,List.filter_cons,if_neg (by simpa using hs)]
      have e:l.filter (fun x=>decide (x.1≠s))=l:=List.filter_eq_self.2 fun x hx=>decide_eq_true fun q=>h.1 (by rw [hs,← q];exact List.mem_map_of_mem hx)
      rw [e]
      exact (List.perm_append_singleton (s,r) l).symm
    · rw [if_neg hs,List.filter_cons,if_pos (by simpa using hs)]
      exact (X3e s r h.2).cons a
theorem X8c (s:Int) (r:Xd) {l:Wz} (h:(l.map (·.1)).Nodup):((mput l s r).map (·.1)).Nodup:=by
  have hp:=(X3e s r h).map (·.1)
  refine hp.nodup_iff.2 ?_
  rw [List.map_append]
  refine List.nodup_append.2 ⟨(h.sublist ((List.filter_sublist).map _)),by simp,fun x hx y hy=>?_⟩
  obtain ⟨z,hz,rfl⟩:=List.mem_map.1 hx
  simp at hy
  rw [hy]
  simpa using (List.mem_filter.1 hz).2
theorem Xdb {l:Wz} {ws:List X6} (h:U9 l ws) (e:aE):U9 (X44 l e) (X30 ws e):=by
  refine ⟨?_,X8c _ _ h.2⟩
  have h1:=(X3e e.f_Signer (Uw e) h.2).map fun x=>(⟨x.1,x.2⟩:X6)
  refine h1.trans ?_
  rw [List.map_append]
  unfold X30 Yx
  rw [List.take_length]
  refine List.Perm.append ?_ (List.Perm.refl _)
  have h2:=h.1.filter fun w=>decide (w.f_Signer≠e.f_Signer)
  rw [List.filter_map] at h2
  exact h2
theorem rel_cnt {l:Wz} {ws:List X6} (h:U9 l ws) (e:aE):Hk (X44 l e) (Uw e)=W6 ws e ws.length:=by
  have h1:=((Xdb h e).1.filter fun w=>decide (w.X1=Uw e)).length_eq
  rw [List.filter_map,List.length_map] at h1
  unfold Hk W6
  refine h1.trans ?_
  unfold X30
  rw [List.filter_append,List.length_append]
  simp;omega
theorem Xdc {C:aE→Int} {f id st:Int} {l:Wz} {ws:List X6} {e:aE} (h:U9 l ws):F8 C f id st l e↔Fx C f id st ws e:=by
  unfold F8 Fx;rw [rel_cnt h]
theorem rel_told {C:aE→Int} {f id st:Int} {l:Wz} {ws:List X6} {e:aE} (h:U9 l ws):U9 (Jy C f id st l e) (Um C f id st ws e):=by
  unfold Jy Um;split
  · exact Xdb h e
  · exact h
theorem X27:U9 [] []:=⟨List.Perm.refl _,List.nodup_nil⟩
end Go.Proofs.YthnefnknoahbkaaGreat.Q
namespace Go.Proofs.YthnefnknoahbkaaGreat.Q
open Go Go.RowKit
set_option linter.unusedVariables false
set_option linter.unusedSimpArgs false
set_option maxRecDepth 100000
set_option maxHeartbeats 4000000
section
variable (f:Int) (u:Int) (id:Int)
abbrev Zbc:HS:=.live (.box 99 [dI (3*f+1),dI u,.mref 1])
abbrev Zbd:List AV:=[pv 0 0,vI id,aa,aa,pv 3 0,aa,aa,aa,vB (decide ((orgA u id)<0))]
abbrev Zbe:HS:=.live (mpK (W8 .i64) (Xj false) ([]:List (Int×Xd)))
abbrev Zbf:SV:=.d (.val (.pointer none))
end
theorem Xcr (f:Int) (u:Int) (rows:List (Xv×Bool)) (id:Int) (hf:0≤f∧f≤2) (hu:0≤u∧u≤8) (hid:-9223372036854775808≤id∧id≤9223372036854775807) (hc:Wb u id):Holds Tryz.prog 14 ⟨[pv 0 0,vI id],[.box 99 [dI (3*f+1),dI u,.mref 1],mpK X9 Y6 rows],pv 2 0,[.live (.box 99 [dI (3*f+1),dI u,.mref 1]),.live (mpK X9 Y6 rows),.live (.box 80 [.ptr 0 0,dI id,dI 0,.d (.val (.pointer none)),.mref 3,.own 4 (X3 false).sz 0 ([]:List Xo).length]),.live (mpK (W8 .i64) (Xj false) ([]:List (Int×Xd))),.live (Xc 55 (X3 false) ([]:List Xo))]⟩:=by
 refine Holds.of Tryz.func14 rfl (N:=14) Tryz.ntmps14 rfl fun w0 B0 S0 U0=>?_
 show T _ (Y0 14 2 w0 S0 U0 B0) ⟨[pv 0 0,vI id],[(Zbc f u),.live (mpK X9 Y6 rows)]⟩ _ _
 refine sR [] (T.seq (sR [hR 2 rfl rfl (rCa (Xg7 f u rows id ‹_› ‹_› ‹_›) Tryz.func39 [0,1] [(.tmp 5,pv 0 0),(.tmp 6,vI id)] 2 2)] ?_))
 by_cases hq1:(orgA u id)<0
 ·exact absurd hq1 (by have ho:=org_cl hc;omega)
 refine cF (dF hq1) (T.skip (nT (sR [hR 2 rfl rfl (X86 2 (W8 .i64) (Xj false) (X4 rfl))] (T.ret ?_))))
 refine eN ⟨(Zbd u id),[(Zbc f u),.live (mpK X9 Y6 rows),Zbe,.live (.box 80 [.ptr 0 0,dI id,dI 0,Zbf,.mref 2,.d (.val (.slice none 0 0))])]⟩ ?_
 refine Xh (s':=⟨(Zbd u id),[(Zbc f u),.live (mpK X9 Y6 rows),Zbe,.live (.box 80 [.ptr 0 0,dI id,dI 0,Zbf,.mref 2,.own 4 (X3 false).sz 0 0]),.live (Xc 55 (X3 false) ([]:List Xo))]⟩) (fun _ _ hG=>I4 4 3 5 55 (X3 false) (Tb:=80) (cs:=[.ptr 0 0,dI id,dI 0,Zbf,.mref 2,.d (.val (.slice none 0 0))]) rfl rfl rfl hG) ?_
 exact eRt 4 (.one (.ptr 3 0)) [0,1,3,2,4] rfl (ix (ix ⟨⟨rfl,(by have e1:(0:Nat)=([]:List Xo).length:=(by rfl);have hE:=congrArg (fun (q1:Nat)=>(.live (.box 80 [.ptr 0 0,dI id,dI 0,Zbf,.mref 2,.own 4 (X3 false).sz 0 q1]):HS)) e1;exact Eq.trans pZ2 hE)⟩,(ix (ix trivial))⟩))
section
variable (f:Int) (u:Int) (id:Int) (st:Int) (done:List Xo) (told:List (Int×Xd))
abbrev Zbg:HS:=.live (.box 99 [dI (3*f+1),dI u,.mref 1])
abbrev Zbh:HS:=.live (.box 80 [.ptr 0 0,dI id,dI st,.d (.val (.pointer none)),.mref 3,.own 4 (X3 false).sz 0 done.length])
abbrev Zbi:HS:=.live (mpK (W8 .i64) (Xj false) told)
abbrev Zbj:List AV:=[pv 2 0,aa,pv 5 0,vB false,aa,aa,aa,aa,aa,aa,aa,aa,vB true]
abbrev Zbk:SV:=dU ([]:List UInt8)
end
theorem Xbb (f:Int) (u:Int) (rows:List (Xv×Bool)) (id:Int) (st:Int) (told:List (Int×Xd)) (done:List Xo):Holds Tryz.prog 43 ⟨[pv 2 0],[.box 99 [dI (3*f+1),dI u,.mref 1],mpK X9 Y6 rows,.box 80 [.ptr 0 0,dI id,dI st,.d (.val (.pointer none)),.mref 3,.own 4 (X3 false).sz 0 done.length],mpK (W8 .i64) (Xj false) told,Xc 55 (X3 false) done],.tup [.agg [dI zE.f_Signer,dU zE.X7],.one (dB false)],[.live (.box 99 [dI (3*f+1),dI u,.mref 1]),.live (mpK X9 Y6 rows),.live (.box 80 [.ptr 0 0,dI id,dI st,.d (.val (.pointer none)),.mref 3,.own 4 (X3 false).sz 0 done.length]),.live (mpK (W8 .i64) (Xj false) told),.live (Xc 55 (X3 false) done)]⟩:=by
 refine Holds.of Tryz.func43 rfl (N:=27) Tryz.ntmps43 rfl fun w0 B0 S0 U0=>?_
 show T _ (Y0 27 5 w0 S0 U0 B0) ⟨[pv 2 0],[(Zbg f u),.live (mpK X9 Y6 rows),(Zbh id st done),(Zbi told),.live (Xc 55 (X3 false) done)]⟩ _ _
 refine sR [] (T.seq (sR (Xf hY0 [3,4,5,6,7] (hP0 8::[])) (cT (b:=true) rfl (sR [] (T.ret (rT ?_))))))
 refine eN ⟨Zbj,[(Zbg f u),.live (mpK X9 Y6 rows),(Zbh id st done),(Zbi told),.live (Xc 55 (X3 false) done),.live (.box 53 [dI 0,.d (.val (.slice none 0 0))])]⟩ ?_
 refine Xh (s':=⟨Zbj,[(Zbg f u),.live (mpK X9 Y6 rows),(Zbh id st done),(Zbi told),.live (Xc 55 (X3 false) done),.live (.box 53 [dI 0,Zbk])]⟩) (fun _ _ hG=>We (s:=⟨Zbj,[(Zbg f u),.live (mpK X9 Y6 rows),(Zbh id st done),(Zbi told),.live (Xc 55 (X3 false) done),.live (.box 53 [dI 0,.d (.val (.slice none 0 0))])]⟩) ⟨.inl rfl,p39⟩ ⟨.inl rfl,(kk4 ⟨pZ31,trivial⟩)⟩ hG) ?_
 exact eX [.c 2 5 53 0 53 [dI 0,Zbk] (.agg [dI 0,Zbk]),.t 3 (.one (dB false))] ⟨⟨rfl,rfl,by kernel_rfl,by kernel_rfl,.inl ⟨2,Ib,rfl,Nat.le_of_ble_eq_true rfl⟩⟩,⟨⟨rfl,by kernel_rfl⟩,trivial⟩⟩ [0,1,2,3,4] (cg2 (fun (q1:Int) (q2:List UInt8)=>(.tup [.agg [dI q1,dU q2],.one (dB false)]:AV)) (by rfl) (by rfl)) (ix (ix (ix (ix (ix trivial)))))
section
variable (f:Int) (u:Int) (rows:List (Xv×Bool)) (id:Int) (st:Int) (told:List (Int×Xd)) (done:List Xo) (E:aE)
abbrev Zbl:HS:=.live (.box 99 [dI (3*f+1),dI u,.mref 1])
abbrev Zbm:HS:=.live (.box 80 [.ptr 0 0,dI id,dI st,.ptr 5 0,.mref 3,.own 4 (X3 false).sz 0 done.length])
abbrev Zbn:HS:=.live (.box 53 [dI E.f_Signer,dU E.X7])
abbrev Zbo:List AV:=[pv 2 0,aa,pv 6 0,vB true,aa,aa,aa,aa,aa,aa,aa,aa,vB false]
abbrev Zbp:St:=⟨Zbo,[(Zbl f u),.live (mpK X9 Y6 rows),(Zbm id st done),.live (mpK (W8 .i64) (Xj false) told),.live (Xc 55 (X3 false) done),(Zbn E),.live (.box 53 [dI id,.own 7 kU8.sz 0 E.X7.length]),.live (Xc 5 kU8 E.X7)]⟩
end
theorem Xbc (f:Int) (u:Int) (rows:List (Xv×Bool)) (id:Int) (st:Int) (told:List (Int×Xd)) (done:List Xo) (E:aE) (hEl:E.X7.length≤100000000):Holds Tryz.prog 43 ⟨[pv 2 0],[.box 99 [dI (3*f+1),dI u,.mref 1],mpK X9 Y6 rows,.box 80 [.ptr 0 0,dI id,dI st,.ptr 5 0,.mref 3,.own 4 (X3 false).sz 0 done.length],mpK (W8 .i64) (Xj false) told,Xc 55 (X3 false) done,.box 53 [dI E.f_Signer,dU E.X7]],.tup [.agg [dI (J6 id E).f_Signer,dU (J6 id E).X7],.one (dB true)],[.live (.box 99 [dI (3*f+1),dI u,.mref 1]),.live (mpK X9 Y6 rows),.live (.box 80 [.ptr 0 0,dI id,dI st,.ptr 5 0,.mref 3,.own 4 (X3 false).sz 0 done.length]),.live (mpK (W8 .i64) (Xj false) told),.live (Xc 55 (X3 false) done),.live (.box 53 [dI E.f_Signer,dU E.X7])]⟩:=by
 refine Holds.of Tryz.func43 rfl (N:=27) Tryz.ntmps43 rfl fun w0 B0 S0 U0=>?_
 show T _ (Y0 27 6 w0 S0 U0 B0) ⟨[pv 2 0],[(Zbl f u),.live (mpK X9 Y6 rows),(Zbm id st done),.live (mpK (W8 .i64) (Xj false) told),.live (Xc 55 (X3 false) done),(Zbn E)]⟩ _ _
 refine sR [] (T.seq (sR (Xf hY0 [3,4,5,6,7] (hP0 8::[])) (cF (b:=false) rfl (T.skip (nT ?_)))))
 refine sD [[],[0],[0,1],[0,1,2],[],[4],[4,5],[4,5,6],[4,5,6,7],[4,5,6,7,8],[4,5,6,7,8,9],[4,5,6,7,8,9,10],[0,1,2,3,4,5,6,7,8,9,10,11],[0,1,2,3,4,5,6,7,8,9,10,11,12],[0,1,2,3,4,5,6,7,8,9,10,11,12,13]] [hR 11 rfl rfl (rCa (X07 false false E.X7 (by omega)) Tryz.func50 [7] [(.tmp 24,slV false false kU8 E.X7)] 0 1)] (T.ret ?_)
 refine eN (Zbp f u rows id st told done E) ?_
 refine Xh (s':=⟨Zbo,[(Zbl f u),.live (mpK X9 Y6 rows),(Zbm id st done),.live (mpK (W8 .i64) (Xj false) told),.live (Xc 55 (X3 false) done),(Zbn E),.live (.box 53 [dI id,dU E.X7]),.dead]⟩) (fun _ _ hG=>Gs.freeze (s:=(Zbp f u rows id st told done E)) 7 (el:=Yu kU8 E.X7) (sz:=kU8.sz) (n:=E.X7.length) rfl ⟨.inl rfl,p39⟩ ⟨pd,⟨pd,⟨pd,⟨pd,⟨pd,⟨pd,⟨pZ27,⟨(.inl ⟨rfl,rfl⟩),trivial⟩⟩⟩⟩⟩⟩⟩⟩ hG) ?_
 exact eX [.c 2 6 53 0 53 [dI id,dU E.X7] (.agg [dI id,dU E.X7]),.t 3 (.one (dB true))] ⟨⟨rfl,rfl,by kernel_rfl,by kernel_rfl,.inl ⟨2,Ib,rfl,Nat.le_of_ble_eq_true rfl⟩⟩,⟨⟨rfl,by kernel_rfl⟩,trivial⟩⟩ [0,1,2,3,4,5] (cg2 (fun (q1:Int) (q2:List UInt8)=>(.tup [.agg [dI q1,dU q2],.one (dB true)]:AV)) (by rfl) (by rfl)) (ix (ix (ix (ix (ix (ix trivial))))))
abbrev Zbt (id:Int) (st:Int) (done:List Xo):HS:=.live (.box 80 [.ptr 0 0,dI id,dI st,.d (.val (.pointer none)),.mref 3,.own 4 (X3 false).sz 0 done.length])
abbrev Zbu:List AV:=[pv 2 0,aa,dv (.slice none 0 0),pv 5 0,vB false,aa,aa,aa,aa,aa,aa,vB (!false)]
abbrev Zbv (f:Int) (u:Int) (rows:List (Xv×Bool)) (id:Int) (st:Int) (told:List (Int×Xd)) (done:List Xo):List HS:=[.live (.box 99 [dI (3*f+1),dI u,.mref 1]),.live (mpK X9 Y6 rows),(Zbt id st done),.live (mpK (W8 .i64) (Xj false) told),.live (Xc 55 (X3 false) done),.live (.box 53 [dI zE.f_Signer,dU zE.X7])]
theorem X7m (f:Int) (u:Int) (rows:List (Xv×Bool)) (id:Int) (st:Int) (told:List (Int×Xd)) (done:List Xo):Holds Tryz.prog 19 ⟨[pv 2 0],[.box 99 [dI (3*f+1),dI u,.mref 1],mpK X9 Y6 rows,.box 80 [.ptr 0 0,dI id,dI st,.d (.val (.pointer none)),.mref 3,.own 4 (X3 false).sz 0 done.length],mpK (W8 .i64) (Xj false) told,Xc 55 (X3 false) done],slV false false (Y1 false) ([]:List Ya),[.live (.box 99 [dI (3*f+1),dI u,.mref 1]),.live (mpK X9 Y6 rows),.live (.box 80 [.ptr 0 0,dI id,dI st,.d (.val (.pointer none)),.mref 3,.own 4 (X3 false).sz 0 done.length]),.live (mpK (W8 .i64) (Xj false) told),.live (Xc 55 (X3 false) done)]⟩:=by
 refine Holds.of Tryz.func19 rfl (N:=15) Tryz.ntmps19 rfl fun w0 B0 S0 U0=>?_
 show T _ (Y0 15 5 w0 S0 U0 B0) ⟨[pv 2 0],[.live (.box 99 [dI (3*f+1),dI u,.mref 1]),.live (mpK X9 Y6 rows),(Zbt id st done),.live (mpK (W8 .i64) (Xj false) told),.live (Xc 55 (X3 false) done)]⟩ _ _
 refine sR [] (sR [hR 1 rfl rfl (rCa (Xbb f u rows id st told done ) Tryz.func43 [0,1,2,3,4] [(.tmp 6,pv 2 0)] 5 5)] (T.seq (sR [] (cT (b:=(!false)) rfl (sR [] (T.ret (rT ?_)))))))
 refine eN ⟨Zbu,(Zbv f u rows id st told done)⟩ ?_
 refine Xh (s':=⟨[pv 2 0,aa,slV false false (Y1 false) ([]:List Ya),pv 5 0,vB false,aa,aa,aa,aa,aa,aa,vB (!false)],(Zbv f u rows id st told done)⟩) (fun _ _ hG=>We (s:=⟨Zbu,(Zbv f u rows id st told done)⟩) (kk2 ⟨p1a,⟨.inl rfl,(kk8 trivial)⟩⟩) p3m hG) ?_
 exact eRt 2 (.one (.d (dsl false false (Y1 false) ([]:List Ya)))) [0,1,2,3,4] rfl (ix (ix (ix (ix (ix trivial)))))
theorem F7:Tryz.prog.info? 96=some Tryz.t96:=by kernel_rfl
theorem Xd3:Zero Tryz.prog 96 [.int .i64 0,.int .i64 0,.slice none 0 0]:=⟨_,_,F7,rfl,rfl⟩
section
variable (f:Int) (u:Int) (rows:List (Xv×Bool)) (id:Int) (st:Int) (told:List (Int×Xd)) (done:List Xo) (E:aE)
abbrev Zbw:HS:=.live (.box 99 [dI (3*f+1),dI u,.mref 1])
abbrev Zbx:HS:=.live (.box 80 [.ptr 0 0,dI id,dI st,.ptr 5 0,.mref 3,.own 4 (X3 false).sz 0 done.length])
abbrev Zby:HS:=.live (.box 53 [dI E.f_Signer,dU E.X7])
abbrev Zbz:St:=⟨[pv 2 0,aa,Xx 7 (Y1 false) 0 [(Ya.mk (-1) (J6 id E))].length,pv 6 0,vB true,aa,aa,aa,aa,aa,aa,vB (!true)],[(Zbw f u),.live (mpK X9 Y6 rows),(Zbx id st done),.live (mpK (W8 .i64) (Xj false) told),.live (Xc 55 (X3 false) done),(Zby E),.live (.box 53 [dI (J6 id E).f_Signer,dU (J6 id E).X7]),.live (Xc 96 (Y1 false) [(Ya.mk (-1) (J6 id E))])]⟩
end
theorem X1b (f:Int) (u:Int) (rows:List (Xv×Bool)) (id:Int) (st:Int) (told:List (Int×Xd)) (done:List Xo) (E:aE) (hEl:E.X7.length≤100000000):Holds Tryz.prog 19 ⟨[pv 2 0],[.box 99 [dI (3*f+1),dI u,.mref 1],mpK X9 Y6 rows,.box 80 [.ptr 0 0,dI id,dI st,.ptr 5 0,.mref 3,.own 4 (X3 false).sz 0 done.length],mpK (W8 .i64) (Xj false) told,Xc 55 (X3 false) done,.box 53 [dI E.f_Signer,dU E.X7]],slV false false (Y1 false) (V8 id E),[.live (.box 99 [dI (3*f+1),dI u,.mref 1]),.live (mpK X9 Y6 rows),.live (.box 80 [.ptr 0 0,dI id,dI st,.ptr 5 0,.mref 3,.own 4 (X3 false).sz 0 done.length]),.live (mpK (W8 .i64) (Xj false) told),.live (Xc 55 (X3 false) done),.live (.box 53 [dI E.f_Signer,dU E.X7])]⟩:=by
 refine Holds.of Tryz.func19 rfl (N:=15) Tryz.ntmps19 rfl fun w0 B0 S0 U0=>?_
 show T _ (Y0 15 6 w0 S0 U0 B0) ⟨[pv 2 0],[(Zbw f u),.live (mpK X9 Y6 rows),(Zbx id st done),.live (mpK (W8 .i64) (Xj false) told),.live (Xc 55 (X3 false) done),(Zby E)]⟩ _ _
 refine sR [] (sR [hR 1 rfl rfl (rCa (Xbc f u rows id st told done E ‹_›) Tryz.func43 [0,1,2,3,4,5] [(.tmp 6,pv 2 0)] 6 6)] (T.seq (sR [] (cF (b:=(!true)) rfl (T.skip (nT (sR [hR 2 rfl rfl (Yb 7 96 (Y1 false) (X17 false) [(Ya.mk (-1) (J6 id E))] [⟨0,.tmp 13,.agg [dI (-1),dI (J6 id E).f_Signer,dU (J6 id E).X7],0⟩] (cs:=[dI (-1),dI (J6 id E).f_Signer,dU (J6 id E).X7]) Tryz.underlying64 F7 rfl Xd3 rfl rfl rfl pf (Wi rfl rfl pf Wa) pZ2 (Vk pZ2) (X4 rfl) trivial)] (T.ret ?_))))))))
 refine eN (Zbz f u rows id st told done E) ?_
 refine Xh (s':=⟨[pv 2 0,aa,slV false false (Y1 false) [(Ya.mk (-1) (J6 id E))],pv 6 0,vB true,aa,aa,aa,aa,aa,aa,vB (!true)],[(Zbw f u),.live (mpK X9 Y6 rows),(Zbx id st done),.live (mpK (W8 .i64) (Xj false) told),.live (Xc 55 (X3 false) done),(Zby E),.live (.box 53 [dI (J6 id E).f_Signer,dU (J6 id E).X7]),.dead]⟩) (fun _ _ hG=>Gs.freeze (s:=(Zbz f u rows id st told done E)) 7 (el:=Yu (Y1 false) [(Ya.mk (-1) (J6 id E))]) (sz:=(Y1 false).sz) (n:=[(Ya.mk (-1) (J6 id E))].length) rfl (kk2 ⟨(.inr pZ6),⟨.inl rfl,(kk8 trivial)⟩⟩) ⟨pd,⟨pd,⟨pd,⟨pd,⟨pd,⟨pd,⟨pd,⟨(.inl ⟨rfl,rfl⟩),trivial⟩⟩⟩⟩⟩⟩⟩⟩ hG) ?_
 exact eRt 2 (.one (.d (dsl false false (Y1 false) [(Ya.mk (-1) (J6 id E))]))) [0,1,2,3,4,5] p4a (ix (ix (ix (ix (ix (ix trivial))))))
theorem U1:Tryz.prog.info? 55=some Tryz.t55:=by kernel_rfl
theorem X4p:Zero Tryz.prog 55 [.int .i64 0,.int .i64 0,.int .i64 0,.int .i64 0]:=⟨_,_,U1,rfl,rfl⟩
theorem X50:Elem Tryz.prog 45 55 4 32:=⟨Tryz.underlying45,_,_,U1,rfl,rfl,rfl,rfl,by decide⟩
abbrev Zc2:St:=⟨[dv (.slice none 0 0),aa,dv (.slice none 0 0),aa,vB true],[]⟩
abbrev Zc3 (ta:Bool) (a:List Xo):St:=⟨[slV ta true (X3 false) a,aa,Xx 1 (X3 false) 0 a.length,aa,vB false],[.dead,.live (Xc 55 (X3 false) a)]⟩
abbrev Zc4 (ta:Bool) (a:List Xo):St:=⟨[slV ta true (X3 false) a,aa,slV false false (X3 false) a,aa,vB false],[.dead,.dead]⟩
theorem X6v (ta:Bool) (na:Bool) (a:List Xo) (hp:a.length≤1000000):Holds Tryz.prog 26 ⟨[slV ta na (X3 false) a],[],slV false false (X3 false) a,[]⟩:=by
 refine Holds.of Tryz.func26 rfl (N:=8) Tryz.ntmps26 rfl fun w0 B0 S0 U0=>?_
 show T _ (Y0 8 0 w0 S0 U0 B0) ⟨[slV ta na (X3 false) a],[]⟩ _ _
 cases na
 ·refine X9q (k:=0) rfl (fun h0=>?_) ?_
  ·have h0:=List.eq_nil_of_length_eq_zero h0
   subst h0
   show T _ _ ⟨[dv (.slice none 0 0)],[]⟩ _ _
   refine sR [] (T.seq (sR [hR 1 rfl rfl (Y4 (u1:=.slice none 0 0) (u2:=.slice none 0 0) (v:=.bool true) (X3n Tryz.underlying45) (X4 rfl) ⟨rfl,trivial⟩)] (cT (b:=true) rfl (sR [] (T.ret (rT ?_))))))
   refine eN Zc2 ?_
   refine Xh (s':=⟨[dv (.slice none 0 0),aa,slV false false (X3 false) ([]:List Xo),aa,vB true],[]⟩) (fun _ _ hG=>We (s:=Zc2) (kk2 ⟨p1a,(kk2 trivial)⟩) trivial hG) ?_
   exact eRt 2 (.one (.d (dsl false false (X3 false) ([]:List Xo)))) [] rfl trivial
  show T _ _ ⟨[slV ta true (X3 false) a],[]⟩ _ _
  refine sR [] (T.seq (sR [hR 1 rfl rfl (X0n (s:=.d (dsl ta true (X3 false) a)) Tryz.underlying45 (.inl rfl) (X4 rfl) ⟨rfl,trivial⟩)] (cF (b:=false) rfl (T.skip (nT ?_)))))
  refine sR [hR 0 rfl rfl (Yb 0 55 (X3 false) (Vt false) ([]:List Xo) [] (cs:=[]) Tryz.underlying45 U1 rfl X4p rfl rfl rfl pf Wa pZ2 (Vk pZ2) (X4 rfl) trivial),hR 2 rfl rfl (Yq 0 1 55 32 (X3 false) (Vt false) ([]:List Xo) a a ([]:List Xo).length (sy:=(.d (dsl ta true (X3 false) a))) (rhs:=[]) X50 (by omega) (Up ta true (X3 false) a) (by simp) (by (simp [maxLen,-List.getD_eq_getElem?_getD]<;>omega)) (by (simp [maxLen,-List.getD_eq_getElem?_getD]<;>omega)) (X4 rfl) trivial)] ?_
  refine T.ret ?_
  refine eN (Zc3 ta a) ?_
  refine Xh (s':=(Zc4 ta a)) (fun _ _ hG=>Gs.freeze (s:=(Zc3 ta a)) 1 (el:=Yu (X3 false) a) (sz:=(X3 false).sz) (n:=a.length) rfl (kk2 ⟨(.inr pZ6),(kk2 trivial)⟩) ⟨pd,⟨(.inl ⟨rfl,rfl⟩),trivial⟩⟩ hG) ?_
  exact eRt 2 (.one (.d (dsl false false (X3 false) a))) [] rfl trivial
 refine sR [] (T.seq (sR [hR 1 rfl rfl (X0n (s:=.d (dsl ta true (X3 false) a)) Tryz.underlying45 (.inl rfl) (X4 rfl) ⟨rfl,trivial⟩)] (cF (b:=false) rfl (T.skip (nT ?_)))))
 refine sR [hR 0 rfl rfl (Yb 0 55 (X3 false) (Vt false) ([]:List Xo) [] (cs:=[]) Tryz.underlying45 U1 rfl X4p rfl rfl rfl pf Wa pZ2 (Vk pZ2) (X4 rfl) trivial),hR 2 rfl rfl (Yq 0 1 55 32 (X3 false) (Vt false) ([]:List Xo) a a ([]:List Xo).length (sy:=(.d (dsl ta true (X3 false) a))) (rhs:=[]) X50 (by omega) (Up ta true (X3 false) a) (by simp) (by (simp [maxLen,-List.getD_eq_getElem?_getD]<;>omega)) (by (simp [maxLen,-List.getD_eq_getElem?_getD]<;>omega)) (X4 rfl) trivial)] ?_
 refine T.ret ?_
 refine eN (Zc3 ta a) ?_
 refine Xh (s':=(Zc4 ta a)) (fun _ _ hG=>Gs.freeze (s:=(Zc3 ta a)) 1 (el:=Yu (X3 false) a) (sz:=(X3 false).sz) (n:=a.length) rfl (kk2 ⟨(.inr pZ6),(kk2 trivial)⟩) ⟨pd,⟨(.inl ⟨rfl,rfl⟩),trivial⟩⟩ hG) ?_
 exact eRt 2 (.one (.d (dsl false false (X3 false) a))) [] rfl trivial
theorem Ea (f:Int) (u:Int) (rows:List (Xv×Bool)) (id:Int) (st:Int) (told:List (Int×Xd)) (done:List Xo) (hdl:done.length≤1000000):Holds Tryz.prog 7 ⟨[pv 2 0],[.box 99 [dI (3*f+1),dI u,.mref 1],mpK X9 Y6 rows,.box 80 [.ptr 0 0,dI id,dI st,.d (.val (.pointer none)),.mref 3,.own 4 (X3 false).sz 0 done.length],mpK (W8 .i64) (Xj false) told,Xc 55 (X3 false) done],slV false false (X3 false) done,[.live (.box 99 [dI (3*f+1),dI u,.mref 1]),.live (mpK X9 Y6 rows),.live (.box 80 [.ptr 0 0,dI id,dI st,.d (.val (.pointer none)),.mref 3,.own 4 (X3 false).sz 0 done.length]),.live (mpK (W8 .i64) (Xj false) told),.live (Xc 55 (X3 false) done)]⟩:=by
 refine Holds.of Tryz.func7 rfl (N:=10) Tryz.ntmps7 rfl fun w0 B0 S0 U0=>?_
 show T _ (Y0 10 5 w0 S0 U0 B0) ⟨[pv 2 0],[.live (.box 99 [dI (3*f+1),dI u,.mref 1]),.live (mpK X9 Y6 rows),.live (.box 80 [.ptr 0 0,dI id,dI st,.d (.val (.pointer none)),.mref 3,.own 4 (X3 false).sz 0 done.length]),.live (mpK (W8 .i64) (Xj false) told),.live (Xc 55 (X3 false) done)]⟩ _ _
 refine sR [] (T.seq (sR [] (cF (b:=false) rfl (T.skip (nT (sR [hR 4 rfl rfl (Wk (X6v true false done ‹_›) Tryz.func26 rfl (by decide) [] [4] (l:=[(.tmp 8,Xx 4 (X3 false) 0 done.length)]) [(4,.live (Xc 55 (X3 false) done))] rfl 0 0 rfl rfl rfl rfl rfl rfl rfl rfl rfl ⟨.inr (.inl ⟨rfl,p1b,rfl,rfl,by simp,55,done.length,Yu (X3 false) done,List.Mem.head _,pg,fun i j=>by rw [Nat.zero_add]⟩),trivial⟩ rfl pZ4 (.inr ⟨(X3j (nn:=false) Ix),trivial⟩) (X4 rfl) trivial)] (T.ret ?_)))))))
 exact eRt 2 (.one (.d (dsl false false (X3 false) done))) [0,1,2,3,4] rfl (ix (ix (ix (ix (ix trivial)))))
theorem Eb (f:Int) (u:Int) (rows:List (Xv×Bool)) (id:Int) (st:Int) (told:List (Int×Xd)) (done:List Xo) (E:aE) (hdl:done.length≤1000000):Holds Tryz.prog 7 ⟨[pv 2 0],[.box 99 [dI (3*f+1),dI u,.mref 1],mpK X9 Y6 rows,.box 80 [.ptr 0 0,dI id,dI st,.ptr 5 0,.mref 3,.own 4 (X3 false).sz 0 done.length],mpK (W8 .i64) (Xj false) told,Xc 55 (X3 false) done,.box 53 [dI E.f_Signer,dU E.X7]],slV false false (X3 false) done,[.live (.box 99 [dI (3*f+1),dI u,.mref 1]),.live (mpK X9 Y6 rows),.live (.box 80 [.ptr 0 0,dI id,dI st,.ptr 5 0,.mref 3,.own 4 (X3 false).sz 0 done.length]),.live (mpK (W8 .i64) (Xj false) told),.live (Xc 55 (X3 false) done),.live (.box 53 [dI E.f_Signer,dU E.X7])]⟩:=by
 refine Holds.of Tryz.func7 rfl (N:=10) Tryz.ntmps7 rfl fun w0 B0 S0 U0=>?_
 show T _ (Y0 10 6 w0 S0 U0 B0) ⟨[pv 2 0],[.live (.box 99 [dI (3*f+1),dI u,.mref 1]),.live (mpK X9 Y6 rows),.live (.box 80 [.ptr 0 0,dI id,dI st,.ptr 5 0,.mref 3,.own 4 (X3 false).sz 0 done.length]),.live (mpK (W8 .i64) (Xj false) told),.live (Xc 55 (X3 false) done),.live (.box 53 [dI E.f_Signer,dU E.X7])]⟩ _ _
 refine sR [] (T.seq (sR [] (cF (b:=false) rfl (T.skip (nT (sR [hR 4 rfl rfl (Wk (X6v true false done ‹_›) Tryz.func26 rfl (by decide) [] [4] (l:=[(.tmp 8,Xx 4 (X3 false) 0 done.length)]) [(4,.live (Xc 55 (X3 false) done))] rfl 0 0 rfl rfl rfl rfl rfl rfl rfl rfl rfl ⟨.inr (.inl ⟨rfl,p1b,rfl,rfl,by simp,55,done.length,Yu (X3 false) done,List.Mem.head _,pg,fun i j=>by rw [Nat.zero_add]⟩),trivial⟩ rfl pZ4 (.inr ⟨(X3j (nn:=false) Ix),trivial⟩) (X4 rfl) trivial)] (T.ret ?_)))))))
 exact eRt 2 (.one (.d (dsl false false (X3 false) done))) [0,1,2,3,4,5] rfl (ix (ix (ix (ix (ix (ix trivial))))))
section
variable (f:Int) (u:Int) (rows:List (Xv×Bool)) (id:Int) (st:Int) (told:List (Int×Xd)) (done:List Xo) (E:aE) (tb:Bool) (nb:Bool) (b:List UInt8)
abbrev Zc7:List HS:=[.live (.box 99 [dI (3*f+1),dI u,.mref 1]),.live (mpK X9 Y6 rows),.live (.box 80 [.ptr 0 0,dI id,dI st,.ptr 5 0,.mref 3,.own 4 (X3 false).sz 0 done.length]),.live (mpK (W8 .i64) (Xj false) told),.live (Xc 55 (X3 false) done),.live (.box 53 [dI E.f_Signer,dU E.X7])]
abbrev Zc8:AV:=vB (decide (((b.length:Nat):Int)>4096))
abbrev Zc9:List AV:=[pv 2 0,slV tb nb kU8 b,aa,aa,dv (.slice none 0 0),vI 11,aa,aa,vB false,aa,aa,(Zc8 b)]
abbrev Zca:AV:=slV false false (Y1 false) ([]:List Ya)
abbrev Zcb:TV:=.one (.d (dsl false false (Y1 false) ([]:List Ya)))
abbrev Zcc:List AV:=[pv 2 0,slV tb nb kU8 b,aa,aa,dv (.slice none 0 0),vI 3,aa,aa,vB false,aa,aa,(Zc8 b),aa,aa,aa,vB true]
end
theorem X6x (f:Int) (u:Int) (rows:List (Xv×Bool)) (id:Int) (st:Int) (told:List (Int×Xd)) (done:List Xo) (E:aE) (tb:Bool) (nb:Bool) (b:List UInt8):Holds Tryz.prog 16 ⟨[pv 2 0,slV tb nb kU8 b],[.box 99 [dI (3*f+1),dI u,.mref 1],mpK X9 Y6 rows,.box 80 [.ptr 0 0,dI id,dI st,.ptr 5 0,.mref 3,.own 4 (X3 false).sz 0 done.length],mpK (W8 .i64) (Xj false) told,Xc 55 (X3 false) done,.box 53 [dI E.f_Signer,dU E.X7]],.tup [.one (.d (dsl false false (Y1 false) ([]:List Ya))),.one (dI (F2 b))],[.live (.box 99 [dI (3*f+1),dI u,.mref 1]),.live (mpK X9 Y6 rows),.live (.box 80 [.ptr 0 0,dI id,dI st,.ptr 5 0,.mref 3,.own 4 (X3 false).sz 0 done.length]),.live (mpK (W8 .i64) (Xj false) told),.live (Xc 55 (X3 false) done),.live (.box 53 [dI E.f_Signer,dU E.X7])]⟩:=by
 refine Holds.of Tryz.func16 rfl (N:=56) Tryz.ntmps16 rfl fun w0 B0 S0 U0=>?_
 show T _ (Y0 56 6 w0 S0 U0 B0) ⟨[pv 2 0,slV tb nb kU8 b],(Zc7 f u rows id st told done E)⟩ _ _
 refine sR [] (T.seq (T.block (sR [] (cF (b:=false) rfl (sR [] ?_)))))
 by_cases hq1:((b.length:Nat):Int)>4096
 ·refine cT (dT hq1) (sR [] (T.ret (rB (rT ?_))))
  refine eN ⟨(Zc9 tb nb b),(Zc7 f u rows id st told done E)⟩ ?_
  refine Xh (s':=⟨[pv 2 0,slV tb nb kU8 b,aa,aa,Zca,vI 11,aa,aa,vB false,aa,aa,(Zc8 b)],(Zc7 f u rows id st told done E)⟩) (fun _ _ hG=>We (s:=⟨(Zc9 tb nb b),(Zc7 f u rows id st told done E)⟩) (kk4 ⟨p1a,⟨.inl rfl,p3m⟩⟩) p3m hG) ?_
  exact eX [.t 4 (Zcb),.t 5 (.one (dI 11))] ⟨⟨rfl,by kernel_rfl⟩,⟨⟨rfl,by kernel_rfl⟩,trivial⟩⟩ [0,1,2,3,4,5] (congrArg (fun (q1:Int)=>(.tup [Zcb,.one (dI q1)]:AV)) (by exact (X5i ‹_›).symm)) (ix (ix (ix (ix (ix (ix trivial))))))
 refine cF (dF hq1) (sR [] (cT (b:=true) rfl (sR [] (T.ret (rB (rT ?_))))))
 refine eN ⟨(Zcc tb nb b),(Zc7 f u rows id st told done E)⟩ ?_
 refine Xh (s':=⟨[pv 2 0,slV tb nb kU8 b,aa,aa,Zca,vI 3,aa,aa,vB false,aa,aa,(Zc8 b),aa,aa,aa,vB true],(Zc7 f u rows id st told done E)⟩) (fun _ _ hG=>We (s:=⟨(Zcc tb nb b),(Zc7 f u rows id st told done E)⟩) (kk4 ⟨p1a,⟨.inl rfl,(kk2 (kk8 trivial))⟩⟩) p3m hG) ?_
 exact eX [.t 4 (Zcb),.t 5 (.one (dI 3))] ⟨⟨rfl,by kernel_rfl⟩,⟨⟨rfl,by kernel_rfl⟩,trivial⟩⟩ [0,1,2,3,4,5] (congrArg (fun (q1:Int)=>(.tup [Zcb,.one (dI q1)]:AV)) (by exact (X5j ‹_›).symm)) (ix (ix (ix (ix (ix (ix trivial))))))
abbrev Zcd (f:Int) (u:Int) (rows:List (Xv×Bool)) (id:Int) (st:Int) (told:List (Int×Xd)) (done:List Xo):List HS:=[.live (.box 99 [dI (3*f+1),dI u,.mref 1]),.live (mpK X9 Y6 rows),.live (.box 80 [.ptr 0 0,dI id,dI st,.d (.val (.pointer none)),.mref 3,.own 4 (X3 false).sz 0 done.length]),.live (mpK (W8 .i64) (Xj false) told),.live (Xc 55 (X3 false) done)]
abbrev Zce (tb:Bool) (nb:Bool) (b:List UInt8):List AV:=[pv 2 0,slV tb nb kU8 b,aa,aa,dv (.slice none 0 0),vI 11,aa,aa,vB false,aa,aa,vB (decide (((b.length:Nat):Int)>4096))]
theorem X6w (f:Int) (u:Int) (rows:List (Xv×Bool)) (id:Int) (st:Int) (told:List (Int×Xd)) (done:List Xo) (tb:Bool) (nb:Bool) (b:List UInt8) (hlg:((b.length:Nat):Int)>4096):Holds Tryz.prog 16 ⟨[pv 2 0,slV tb nb kU8 b],[.box 99 [dI (3*f+1),dI u,.mref 1],mpK X9 Y6 rows,.box 80 [.ptr 0 0,dI id,dI st,.d (.val (.pointer none)),.mref 3,.own 4 (X3 false).sz 0 done.length],mpK (W8 .i64) (Xj false) told,Xc 55 (X3 false) done],.tup [.one (.d (dsl false false (Y1 false) ([]:List Ya))),.one (dI 11)],[.live (.box 99 [dI (3*f+1),dI u,.mref 1]),.live (mpK X9 Y6 rows),.live (.box 80 [.ptr 0 0,dI id,dI st,.d (.val (.pointer none)),.mref 3,.own 4 (X3 false).sz 0 done.length]),.live (mpK (W8 .i64) (Xj false) told),.live (Xc 55 (X3 false) done)]⟩:=by
 refine Holds.of Tryz.func16 rfl (N:=56) Tryz.ntmps16 rfl fun w0 B0 S0 U0=>?_
 show T _ (Y0 56 5 w0 S0 U0 B0) ⟨[pv 2 0,slV tb nb kU8 b],(Zcd f u rows id st told done)⟩ _ _
 refine sR [] (T.seq (T.block (sR [] (cF (b:=false) rfl (sR [] ?_)))))
 by_cases hq1:((b.length:Nat):Int)>4096
 ·refine cT (dT hq1) (sR [] (T.ret (rB (rT ?_))))
  refine eN ⟨(Zce tb nb b),(Zcd f u rows id st told done)⟩ ?_
  refine Xh (s':=⟨[pv 2 0,slV tb nb kU8 b,aa,aa,slV false false (Y1 false) ([]:List Ya),vI 11,aa,aa,vB false,aa,aa,vB (decide (((b.length:Nat):Int)>4096))],(Zcd f u rows id st told done)⟩) (fun _ _ hG=>We (s:=⟨(Zce tb nb b),(Zcd f u rows id st told done)⟩) (kk4 ⟨p1a,⟨.inl rfl,p3m⟩⟩) ⟨.inl rfl,(kk4 trivial)⟩ hG) ?_
  exact eX [.t 4 (.one (.d (dsl false false (Y1 false) ([]:List Ya)))),.t 5 (.one (dI 11))] ⟨⟨rfl,by kernel_rfl⟩,⟨⟨rfl,by kernel_rfl⟩,trivial⟩⟩ [0,1,2,3,4] rfl (ix (ix (ix (ix (ix trivial)))))
 exact absurd hlg hq1
abbrev Zcf:SV:=.d (.val (.slice none 0 0))
abbrev Zcg (id:Int) (st:Int) (b:List UInt8):=(Yj (aM.mk 1 0 0 id (st+1) [] b (Xd.mk 0 0) ([]:List aE) ([]:List aE) ([]:List aC)))
theorem X1a (f:Int) (u:Int) (rows:List (Xv×Bool)) (id:Int) (st:Int) (told:List (Int×Xd)) (done:List Xo) (tb:Bool) (nb:Bool) (b:List UInt8) (hf:0≤f∧f≤2) (hu:0≤u∧u≤8) (hst:0≤st∧st≤1000000) (hid:-9223372036854775808≤id∧id≤9223372036854775807) (hlg:¬((b.length:Nat):Int)>4096):Holds Tryz.prog 16 ⟨[pv 2 0,slV tb nb kU8 b],[.box 99 [dI (3*f+1),dI u,.mref 1],mpK X9 Y6 rows,.box 80 [.ptr 0 0,dI id,dI st,.d (.val (.pointer none)),.mref 3,.own 4 (X3 false).sz 0 done.length],mpK (W8 .i64) (Xj false) told,Xc 55 (X3 false) done],.tup [.one (.d (dsl false false (Y1 false) (V8 id (W1 f u id (Yj (Ys id (st+1) b)))))),.one (dI 0)],[.live (.box 99 [dI (3*f+1),dI u,.mref 1]),.live (mpK X9 Y6 (Ij f u rows id (Yj (Ys id (st+1) b)))),.live (.box 80 [.ptr 0 0,dI id,dI (st+1),.ptr 5 0,.mref 3,.own 4 (X3 false).sz 0 done.length]),.live (mpK (W8 .i64) (Xj false) told),.live (Xc 55 (X3 false) done),.live (.box 53 [dI (W1 f u id (Yj (Ys id (st+1) b))).f_Signer,dU (W1 f u id (Yj (Ys id (st+1) b))).X7])]⟩:=by
 refine Holds.of Tryz.func16 rfl (N:=56) Tryz.ntmps16 rfl fun w0 B0 S0 U0=>?_
 show T _ (Y0 56 5 w0 S0 U0 B0) ⟨[pv 2 0,slV tb nb kU8 b],[.live (.box 99 [dI (3*f+1),dI u,.mref 1]),.live (mpK X9 Y6 rows),.live (.box 80 [.ptr 0 0,dI id,dI st,.d (.val (.pointer none)),.mref 3,.own 4 (X3 false).sz 0 done.length]),.live (mpK (W8 .i64) (Xj false) told),.live (Xc 55 (X3 false) done)]⟩ _ _
 have hbl:(Yj (aM.mk 1 0 0 id (st+1) [] b (Xd.mk 0 0) [] [] [])).length≤5000:=Fb id (st+1) b hlg
 have hvl:=X7v f u id (Yj (aM.mk 1 0 0 id (st+1) [] b (Xd.mk 0 0) [] [] []))
 refine sR [] (T.seq (T.block (sR [] (cF (b:=false) rfl (sR [] ?_)))))
 by_cases hq1:((b.length:Nat):Int)>4096
 ·exact absurd hq1 hlg
 refine cF (dF hq1) (sR [] (cF (b:=false) rfl (T.skip (nB (nT (sR [hR 4 rfl rfl (Y4 (u1:=.int .i64 st) (u2:=.int .i64 1) (v:=.int .i64 (st+1)) (Yn pZ5) (X4 rfl) ⟨rfl,trivial⟩)] ?_))))))
 refine sD [[],[0],[0,1],[0,1,2],[],[4],[4,5],[4,5,6],[],[8],[8,9],[8,9,10],[],[12],[12,13],[12,13,14],[],[8,9,10,11,12,13,14,15,16],[8,9,10,11,12,13,14,15,16,17],[0,1,2,3,4,5,6,7,8,9,10,11,12,13,14,15,16,17,18],[0,1,2,3,4,5,6,7,8,9,10,11,12,13,14,15,16,17,18,19],[0,1,2,3,4,5,6,7,8,9,10,11,12,13,14,15,16,17,18,19,20],[0,1,2,3,4,5,6,7,8,9,10,11,12,13,14,15,16,17,18,19,20],[],[0,1,2,3,4,5,6,7,8,9,10,11,12,13,14,15,16,17,18,19,20,21,23],[0,1,2,3,4,5,6,7,8,9,10,11,12,13,14,15,16,17,18,19,20,21,22,23,24]] [hR 18 rfl rfl (rCn (Xc9 tb (aM.mk 1 0 0 id (st+1) [] b (Xd.mk 0 0) ([]:List aE) ([]:List aE) ([]:List aC)) (Ue id (st+1) b hlg).1 (Ue id (st+1) b hlg).2.1 (Ue id (st+1) b hlg).2.2.1 (Ue id (st+1) b hlg).2.2.2.1 (Ue id (st+1) b hlg).2.2.2.2.1 (Ue id (st+1) b hlg).2.2.2.2.2) Tryz.func41 [] [(.tmp 46,.tv (.agg [dI 1,dI 0,dI 0,dI id,dI (st+1),dS [],.d (dsl tb nb kU8 b),dI 0,dI 0,Zcf,Zcf,Zcf]))] 0 0 ⟨⟨.inl ⟨rfl,rfl⟩,⟨.inl ⟨rfl,rfl⟩,⟨.inl ⟨rfl,rfl⟩,⟨.inl ⟨rfl,rfl⟩,⟨.inl ⟨rfl,rfl⟩,⟨.inl ⟨rfl,rfl⟩,⟨.inr (.inr ⟨rfl,p1b,rfl,rfl,rfl⟩),⟨.inl ⟨rfl,rfl⟩,⟨.inl ⟨rfl,rfl⟩,⟨.inr p1a,⟨.inr p1a,⟨.inr p1a,trivial⟩⟩⟩⟩⟩⟩⟩⟩⟩⟩⟩⟩,trivial⟩ trivial),hR 19 rfl rfl (rCa (Fz f u rows id false false (Yj (aM.mk 1 0 0 id (st+1) [] b (Xd.mk 0 0) ([]:List aE) ([]:List aE) ([]:List aC))) ‹_› ‹_› ‹_› (by omega)) Tryz.func22 [0,1] [(.tmp 32,pv 0 0),(.tmp 36,vI id),(.tmp 47,slV false false kU8 (Zcg id st b))] 2 2)] ?_
 refine sR [] (sR [hR 1 rfl rfl (rCa (X1b f u (Ij f u rows id (Yj (aM.mk 1 0 0 id (st+1) [] b (Xd.mk 0 0) ([]:List aE) ([]:List aE) ([]:List aC)))) id (st+1) told done (W1 f u id (Yj (aM.mk 1 0 0 id (st+1) [] b (Xd.mk 0 0) ([]:List aE) ([]:List aE) ([]:List aC)))) (by omega)) Tryz.func19 [0,1,2,3,4,5] [(.tmp 54,pv 2 0)] 6 6)] (T.ret ?_))
 exact eX [.t 4 (.one (.d (dsl false false (Y1 false) (V8 id (W1 f u id (Zcg id st b)))))),.t 5 (.one (dI 0))] ⟨⟨rfl,by kernel_rfl⟩,⟨⟨rfl,by kernel_rfl⟩,trivial⟩⟩ [0,1,2,3,4,5] p3n (ix ⟨⟨rfl,(by have e1:((Ij f u rows id (Yj (aM.mk 1 0 0 id (st+1) [] b (Xd.mk 0 0) ([]:List aE) ([]:List aE) ([]:List aC)))):List (Xv×Bool))=(Ij f u rows id (Yj (Ys id (st+1) b))):=(by rfl);have hE:=congrArg (fun (q1:List (Xv×Bool))=>(.live (mpK X9 Y6 q1):HS)) e1;exact Eq.trans pZ2 hE)⟩,(ix (ix (ix ⟨⟨rfl,(by have e1:((W1 f u id (Yj (aM.mk 1 0 0 id (st+1) [] b (Xd.mk 0 0) ([]:List aE) ([]:List aE) ([]:List aC)))).f_Signer:Int)=(W1 f u id (Yj (Ys id (st+1) b))).f_Signer:=(by rfl);have e2:((W1 f u id (Yj (aM.mk 1 0 0 id (st+1) [] b (Xd.mk 0 0) ([]:List aE) ([]:List aE) ([]:List aC)))).X7:List UInt8)=(W1 f u id (Yj (Ys id (st+1) b))).X7:=(by rfl);have hE:=congr p4l e2;exact Eq.trans pZ2 hE)⟩,trivial⟩)))⟩)
theorem X4m (f:Int) (u:Int) (rows:List (Xv×Bool)) (id:Int) (st:Int) (told:List (Int×Xd)) (done:List Xo) (te:Bool) (e:aE):Holds Tryz.prog 24 ⟨[pv 2 0,.tv (.agg [dI e.f_Signer,.d (dsl te false kU8 e.X7)])],[.box 99 [dI (3*f+1),dI u,.mref 1],mpK X9 Y6 rows,.box 80 [.ptr 0 0,dI id,dI st,.d (.val (.pointer none)),.mref 3,.own 4 (X3 false).sz 0 done.length],mpK (W8 .i64) (Xj false) told,Xc 55 (X3 false) done],.tup [],[.live (.box 99 [dI (3*f+1),dI u,.mref 1]),.live (mpK X9 Y6 rows),.live (.box 80 [.ptr 0 0,dI id,dI st,.d (.val (.pointer none)),.mref 3,.own 4 (X3 false).sz 0 done.length]),.live (mpK (W8 .i64) (Xj false) told),.live (Xc 55 (X3 false) done)]⟩:=by
 refine Holds.of Tryz.func24 rfl (N:=125) Tryz.ntmps24 rfl fun w0 B0 S0 U0=>?_
 show T _ (Y0 125 5 w0 S0 U0 B0) ⟨[pv 2 0,.tv (.agg [dI e.f_Signer,.d (dsl te false kU8 e.X7)])],[.live (.box 99 [dI (3*f+1),dI u,.mref 1]),.live (mpK X9 Y6 rows),.live (.box 80 [.ptr 0 0,dI id,dI st,.d (.val (.pointer none)),.mref 3,.own 4 (X3 false).sz 0 done.length]),.live (mpK (W8 .i64) (Xj false) told),.live (Xc 55 (X3 false) done)]⟩ _ _
 refine sR [] (T.seq ?_)
 refine sD [[],[0],[0,1],[0,1,2],[0,1,2,3],[0,1,2,3,4],[0,1,2,3,4,5],[0,1,2,3,4,5,6],[0,1,2,3,4,5,6,7],[0,1,2,3,4,5,6,7,8],[0,1,2,3,4,5,6,7,8,9],[0,1,2,3,4,5,6,7,8,9,10],[0,1,2,3,4,5,6,7,8,9,10,11],[0,1,2,3,4,5,6,7,8,9,10,11,12],[0,1,2,3,4,5,6,7,8,9],[0,1,2,3,4,5,6,7,8,9,14],[0,1,2,3,4,5,6,7,8,9,10,11,12,13,14,15],[0,1,2,3,4,5,6,7,8,9,10,11,12,13,14,15,16],[0,1,2,3,4,5,6,7,8,9,10,11,12,13,14,15,16,17],[0,1,2,3,4,5,6,7,8,9,10,11,12,13,14,15,16,17,18],[0,1,2,3,4,5,6,7,8,9,10,11,12,13,14,15,16,17,18,19],[0,1,2,3,4,5,6,7,8,9,10,11,12,13,14,15,16,17,18,19,20],[0,1,2,3,4,5,6,7,8,9,10,11,12,13,14,15,16,17,18,19,20,21],[0,1,2,3,4,5,6,7,8,9,10,11,12,13,14,15,16,17,18,19,20,21,22],[0,1,2,3,4,5,6,7,8,9,10,11,12,13,14,15,16,17,18,19],[0,1,2,3,4,5,6,7,8,9,10,11,12,13,14,15,16,17,18,19,20,21,22,23,24],[0,1,2,3,4,5,6,7,8,9,10,11,12,13,14,15,16,17,18,19,20,21,22,23,24,25],[0,1,2,3,4,5,6,7,8,9,10,11,12,13,14,15,16,17,18,19,20,21,22,23,24,25,26]] (Xf hY0 [3,4,5,6,7] (hP0 8::(Xf hN0 [10,11,12,13,14,15,16,17] (hP1 18::(Xf hN0 [20,21,22,23,24,25,26] (hP1 27::[])))))) ?_
 refine cT (b:=true) rfl (T.ret (rT ?_))
 exact eX [] trivial [0,1,2,3,4] rfl (ix (ix (ix (ix (ix trivial)))))
section
variable (f:Int) (u:Int) (rows:List (Xv×Bool)) (id:Int) (st:Int) (told:List (Int×Xd)) (done:List Xo) (E:aE) (te:Bool) (e:aE) (seen:List Nat) (bn:List Nat) (clk:Nat) (j:Nat)
abbrev Zch:List SV:=[dI e.f_Signer,.d (dsl te false kU8 e.X7)]
abbrev Zci:HS:=.live (.box 99 [dI (3*f+1),dI u,.mref 1])
abbrev Zcj:HS:=.live (mpK X9 Y6 rows)
abbrev Zck:HS:=.live (.box 80 [.ptr 0 0,dI id,dI st,.ptr 5 0,.mref 3,.own 4 (X3 false).sz 0 done.length])
abbrev Zcl:HS:=.live (Xc 55 (X3 false) done)
abbrev Zcm:HS:=.live (.box 53 [dI E.f_Signer,dU E.X7])
abbrev Zcn:TV:=.agg [dI (Y2 e.X7).X1.Xt,dI (Y2 e.X7).X1.Xn]
abbrev Zco:HS:=.live (.box 53 (Zch te e))
abbrev Zcp:HS:=.live (.box 42 [dI (Y2 e.X7).X2,dI (Y2 e.X7).Xr,dI (Y2 e.X7).Xy,dI (Y2 e.X7).Xa,dI (Y2 e.X7).Xw,dS (Y2 e.X7).Xb,dU (Y2 e.X7).Xi,dI (Y2 e.X7).X1.Xt,dI (Y2 e.X7).X1.Xn,.d (dsl false false (kE false) (Y2 e.X7).Xe),.d (dsl false false (kE false) (Y2 e.X7).Xp),.d (dsl false false (kC false) (Y2 e.X7).X5)])
abbrev Zcq:List HS:=[(Zci f u),(Zcj rows),(Zck id st done),.live (mpK (W8 .i64) (Xj false) (mput told e.f_Signer (Y2 e.X7).X1)),(Zcl done),(Zcm E),(Zco te e),(Zcp e)]
abbrev Zcr:AV:=vI ((Vo (mput told e.f_Signer (Y2 e.X7).X1) bn seen (Y2 e.X7).X1:Nat):Int)
abbrev Zcs:List AV:=[pv 2 0,aa,aa,pv 6 0,pv 7 0,aa,(Zcr told e seen bn),aa,aa,aa,aa,aa,aa,aa,aa,aa,aa,aa,aa,aa,aa,aa,aa,aa,aa,aa,aa,aa,aa,aa,aa,aa,aa,aa,aa,aa,aa,aa,aa,aa,aa,aa,aa,aa,aa,aa,aa,aa,aa,aa,aa,aa,aa,aa,aa,aa,aa,aa,aa,aa,aa,aa,aa,aa,aa,aa,aa,aa,aa,aa,aa,aa,aa,aa,aa,aa,aa,aa,aa,aa,pv 8 0]
abbrev Zct:HS:=.live (mprK (W8 .i64) (Xj false) (mput told e.f_Signer (Y2 e.X7).X1) bn clk)
abbrev Zcv:List AV:=[pv 2 0,aa,aa,pv 6 0,pv 7 0,aa,(Zcr told e seen bn),aa,aa,aa,aa,aa,aa,aa,aa,aa,aa,aa,aa,aa,aa,aa,aa,aa,aa,aa,aa,aa,aa,aa,aa,aa,aa,aa,aa,aa,aa,aa,aa,aa,aa,aa,aa,aa,aa,aa,aa,aa,aa,aa,aa,aa,aa,aa,aa,aa,aa,aa,aa,aa,aa,aa,aa,aa,aa,aa,aa,aa,aa,aa,aa,aa,aa,aa,aa,aa,aa,aa,aa,aa,pv 8 0,aa,vB false]
abbrev Zcw:List AV:=[pv 2 0,aa,aa,pv 6 0,pv 7 0,aa,vI ((Hk (mput told e.f_Signer (Y2 e.X7).X1) (Y2 e.X7).X1:Nat):Int)]
abbrev Zcx:List HS:=[(Zci f u),(Zcj rows),(Zck id st done),(Zct told e bn clk),(Zcl done),(Zcm E),(Zco te e),(Zcp e),.live (.it 3 clk (seen++[bn.getD j 0]))]
abbrev Zcy:TV:=.agg [dI (((mput told e.f_Signer (Y2 e.X7).X1).getD j (0,Yf)).2).Xt,dI (((mput told e.f_Signer (Y2 e.X7).X1).getD j (0,Yf)).2).Xn]
end
theorem X4l (f:Int) (u:Int) (rows:List (Xv×Bool)) (id:Int) (st:Int) (told:List (Int×Xd)) (done:List Xo) (E:aE) (te:Bool) (e:aE) (hf:0≤f∧f≤2) (hu:0≤u∧u≤8) (hs:-9223372036854775808≤e.f_Signer∧e.f_Signer≤9223372036854775807) (hb:e.X7.length≤100000000) (htl:told.length≤1000000) (hd:¬F8 (V5 f u rows) f id st told e):Holds Tryz.prog 24 ⟨[pv 2 0,.tv (.agg [dI e.f_Signer,.d (dsl te false kU8 e.X7)])],[.box 99 [dI (3*f+1),dI u,.mref 1],mpK X9 Y6 rows,.box 80 [.ptr 0 0,dI id,dI st,.ptr 5 0,.mref 3,.own 4 (X3 false).sz 0 done.length],mpK (W8 .i64) (Xj false) told,Xc 55 (X3 false) done,.box 53 [dI E.f_Signer,dU E.X7]],.tup [],[.live (.box 99 [dI (3*f+1),dI u,.mref 1]),.live (mpK X9 Y6 rows),.live (.box 80 [.ptr 0 0,dI id,dI st,.ptr 5 0,.mref 3,.own 4 (X3 false).sz 0 done.length]),.live (mpK (W8 .i64) (Xj false) (Jy (V5 f u rows) f id st told e)),.live (Xc 55 (X3 false) done),.live (.box 53 [dI E.f_Signer,dU E.X7])]⟩:=by
 refine Holds.of Tryz.func24 rfl (N:=125) Tryz.ntmps24 rfl fun w0 B0 S0 U0=>?_
 show T _ (Y0 125 6 w0 S0 U0 B0) ⟨[pv 2 0,.tv (.agg (Zch te e))],[(Zci f u),(Zcj rows),(Zck id st done),.live (mpK (W8 .i64) (Xj false) told),(Zcl done),(Zcm E)]⟩ _ _
 have hml:=X1m told e.f_Signer (Y2 e.X7).X1
 refine sR [] (T.seq ?_)
 by_cases hq1:Yg f e.f_Signer
 rotate_left
 ·have hx:¬Ws (V5 f u rows) f id st e:=fun w=>hq1 w.1
  refine sD [[],[0],[0,1],[0,1,2],[0,1,2,3],[0,1,2,3,4],[0,1,2,3,4,5],[0,1,2,3,4,5,6],[0,1,2,3,4,5,6,7],[0,1,2,3,4,5,6,7,8],[0,1,2,3,4,5,6,7,8,9],[0,1,2,3,4,5,6,7,8,9,10],[0,1,2,3,4,5,6,7,8,9,10,11],[0,1,2,3,4,5,6,7,8,9,10,11,12],[0,1,2,3,4,5,6,7,8,9],[0,1,2,3,4,5,6,7,8,9,14],[0,1,2,3,4,5,6,7,8,9,10,11,12,13,14,15],[0,1,2,3,4,5,6,7,8,9,10,11,12,13,14,15,16],[0,1,2,3,4,5,6,7,8,9,10,11,12,13,14,15,16,17],[0,1,2,3,4,5,6,7,8,9,10,11,12,13,14,15,16,17,18],[0,1,2,3,4,5,6,7,8,9,10,11,12,13,14,15,16,17,18,19],[0,1,2,3,4,5,6,7,8,9,10,11,12,13,14,15,16,17,18,19,20],[0,1,2,3,4,5,6,7,8,9,10,11,12,13,14,15,16,17,18,19,20,21],[0,1,2,3,4,5,6,7,8,9,10,11,12,13,14,15,16,17,18,19,20,21,22],[0,1,2,3,4,5,6,7,8,9,10,11,12,13,14,15,16,17,18,19],[0,1,2,3,4,5,6,7,8,9,10,11,12,13,14,15,16,17,18,19,20,21,22,23,24],[0,1,2,3,4,5,6,7,8,9,10,11,12,13,14,15,16,17,18,19,20,21,22,23,24,25],[0,1,2,3,4,5,6,7,8,9,10,11,12,13,14,15,16,17,18,19,20,21,22,23,24,25,26]] (Xf hY0 [3,4,5,6,7] (hP0 8::(Xf hY0 [10,11,12,13,14,15] (hS 16 (oY (b:=false) rfl rfl rfl rfl (X4 rfl) rfl (rCa (J4 f u rows e.f_Signer ‹_› ‹_›) Tryz.func35 [0,1] [(.tmp 22,pv 0 0),(.tmp 24,vI e.f_Signer)] 2 2))::(hY0 17::(hP0 18::(Xf (hN · false (cn (dF hq1))) [20,21,22,23,24,25,26] (hP 27 (cn (dF hq1))::[])))))))) ?_
  refine cT (b:=true) rfl (T.ret (rT ?_))
  exact eX [] trivial [0,1,2,3,4,5] rfl (ix (ix (ix ⟨⟨rfl,pZ11⟩,(ix (ix trivial))⟩)))
 have g1:=hq1
 refine sD [[],[0],[0,1],[0,1,2],[0,1,2,3],[0,1,2,3,4],[0,1,2,3,4,5],[0,1,2,3,4,5,6],[0,1,2,3,4,5,6,7],[0,1,2,3,4,5,6,7,8],[0,1,2,3,4,5,6,7,8,9],[0,1,2,3,4,5,6,7,8,9,10],[0,1,2,3,4,5,6,7,8,9,10,11],[0,1,2,3,4,5,6,7,8,9,10,11,12],[0,1,2,3,4,5,6,7,8,9],[0,1,2,3,4,5,6,7,8,9,14],[0,1,2,3,4,5,6,7,8,9,10,11,12,13,14,15],[0,1,2,3,4,5,6,7,8,9,10,11,12,13,14,15,16],[0,1,2,3,4,5,6,7,8,9,10,11,12,13,14,15,16,17],[0,1,2,3,4,5,6,7,8,9,10,11,12,13,14,15,16,17,18],[0,1,2,3,4,5,6,7,8,9,10,11,12,13,14,15,16,17,18,19],[0,1,2,3,4,5,6,7,8,9,10,11,12,13,14,15,16,17,18,19,20],[0,1,2,3,4,5,6,7,8,9,10,11,12,13,14,15,16,17,18,19,20,21],[0,1,2,3,4,5,6,7,8,9,10,11,12,13,14,15,16,17,18,19,20,21,22],[0,1,2,3,4,5,6,7,8,9,10,11,12,13,14,15,16,17,18,19],[0,1,2,3,4,5,6,7,8,9,10,11,12,13,14,15,16,17,18,19,20,21,22,23,24],[0,1,2,3,4,5,6,7,8,9,10,11,12,13,14,15,16,17,18,19,20,21,22,23,24,25],[0,1,2,3,4,5,6,7,8,9,10,11,12,13,14,15,16,17,18,19,20,21,22,23,24,25,26]] (Xf hY0 [3,4,5,6,7] (hP0 8::(Xf hY0 [10,11,12,13,14,15] (hS 16 (oY (b:=false) rfl rfl rfl rfl (X4 rfl) rfl (rCa (J4 f u rows e.f_Signer ‹_› ‹_›) Tryz.func35 [0,1] [(.tmp 22,pv 0 0),(.tmp 24,vI e.f_Signer)] 2 2))::(hY0 17::(hP0 18::(Xf (hY · (cn (dT hq1))) [20,21,22,23,24] (hS 25 (oY rfl rfl rfl rfl (X4 rfl) (cn (dT hq1)) (rCa (X4e f u rows te e ‹_› ‹_› ‹_›) Tryz.func53 [0,1] [(.tmp 32,pv 0 0),(.tmp 33,.tv (.agg (Zch te e)))] 2 2))::(hY 26 (cn (dT hq1))::(hP 27 (cn (dT hq1))::[])))))))))) ?_
 by_cases hq2:(V5 f u rows e)≠0
 ·have hx:¬Ws (V5 f u rows) f id st e:=fun w=>hq2 w.2.1
  refine cT (dT hq2) (T.ret (rT ?_))
  exact eX [] trivial [0,1,2,3,4,5] rfl (ix (ix (ix ⟨⟨rfl,pZ11⟩,(ix (ix trivial))⟩)))
 have g2:=Classical.not_not.1 hq2
 refine cF (dF hq2) (T.skip (nT (sR [hR 2 rfl rfl (rCa (X6f te false e.X7 (by omega)) Tryz.func54 [] [(.tmp 39,slV te false kU8 e.X7)] 0 0)] (T.seq ?_))))
 by_cases hq3:(X05 e.X7)≠0
 ·have hx:¬Ws (V5 f u rows) f id st e:=fun w=>hq3 w.2.2.1
  refine sD [[],[0],[0,1],[0,1,2],[0,1,2,3],[0,1,2,3,4],[0,1,2,3,4,5],[0,1,2,3,4,5,6],[0,1,2,3,4,5,6,7],[0,1,2,3,4,5,6,7,8],[0,1,2,3,4,5,6,7],[0,1,2,3,4,5,6,7,10],[0,1,2,3,4,5,6,7,10,11],[0,1,2,3,4,5,6,7,10,11,12],[0,1,2,3,4,5,6,7,8,9,10,11,12,13],[0,1,2,3,4,5,6,7,8,9,10,11,12,13,14],[0,1,2,3,4,5,6,7,8,9,10,11,12,13,14,15],[0,1,2,3,4,5,6,7,8,9,10,11,12,13,14,15,16],[0,1,2,3,4,5,6,7,8,9,10,11,12,13,14,15,16,17],[0,1,2,3,4,5,6,7,8,9,10,11,12,13,14,15,16],[0,1,2,3,4,5,6,7,8,9,10,11,12,13,14,15,16,19],[0,1,2,3,4,5,6,7,8,9,10,11,12,13,14,15,16,19,20],[0,1,2,3,4,5,6,7,8,9,10,11,12,13,14,15,16,19,20,21],[0,1,2,3,4,5,6,7,8,9,10,11,12,13,14,15,16,17,18,19,20,21,22],[0,1,2,3,4,5,6,7,8,9,10,11,12,13,14,15,16,17,18,19,20,21,22,23]] (Xf (hN · false (dT hq3)) [3,4,5] (hP 6 (dT hq3)::(Xf hN0 [8,9,10,11,12,13,14] (hP1 15::(Xf hN0 [17,18,19,20,21,22,23] (hP1 24::[])))))) ?_
  refine cT (b:=true) rfl (T.ret (rT ?_))
  exact eX [] trivial [0,1,2,3,4,5] rfl (ix (ix (ix ⟨⟨rfl,pZ11⟩,(ix (ix trivial))⟩)))
 have g3:=Classical.not_not.1 hq3
 by_cases hq4:(Y2 e.X7).X2≠8
 ·have hx:¬Ws (V5 f u rows) f id st e:=fun w=>hq4 w.2.2.2.1
  refine sD [[],[0],[0,1],[0,1,2],[0,1,2,3],[0,1,2,3,4],[0,1,2,3,4,5],[0,1,2,3,4,5,6],[0,1,2,3,4,5,6,7],[0,1,2,3,4,5,6,7,8],[0,1,2,3,4,5,6,7],[0,1,2,3,4,5,6,7,10],[0,1,2,3,4,5,6,7,10,11],[0,1,2,3,4,5,6,7,10,11,12],[0,1,2,3,4,5,6,7,8,9,10,11,12,13],[0,1,2,3,4,5,6,7,8,9,10,11,12,13,14],[0,1,2,3,4,5,6,7,8,9,10,11,12,13,14,15],[0,1,2,3,4,5,6,7,8,9,10,11,12,13,14,15,16],[0,1,2,3,4,5,6,7,8,9,10,11,12,13,14,15,16,17],[0,1,2,3,4,5,6,7,8,9,10,11,12,13,14,15,16],[0,1,2,3,4,5,6,7,8,9,10,11,12,13,14,15,16,19],[0,1,2,3,4,5,6,7,8,9,10,11,12,13,14,15,16,19,20],[0,1,2,3,4,5,6,7,8,9,10,11,12,13,14,15,16,19,20,21],[0,1,2,3,4,5,6,7,8,9,10,11,12,13,14,15,16,17,18,19,20,21,22],[0,1,2,3,4,5,6,7,8,9,10,11,12,13,14,15,16,17,18,19,20,21,22,23]] (Xf (hY · (dF hq3)) [3,4,5] (hP 6 (dF hq3)::(Xf (hN · false (dT hq4)) [8,9,10,11,12,13,14] (hP 15 (dT hq4)::(Xf hN0 [17,18,19,20,21,22,23] (hP1 24::[])))))) ?_
  refine cT (b:=true) rfl (T.ret (rT ?_))
  exact eX [] trivial [0,1,2,3,4,5] rfl (ix (ix (ix ⟨⟨rfl,pZ11⟩,(ix (ix trivial))⟩)))
 have g4:=Classical.not_not.1 hq4
 by_cases hq5:(Y2 e.X7).Xa≠id
 ·have hx:¬Ws (V5 f u rows) f id st e:=fun w=>hq5 w.2.2.2.2.1
  refine sD [[],[0],[0,1],[0,1,2],[0,1,2,3],[0,1,2,3,4],[0,1,2,3,4,5],[0,1,2,3,4,5,6],[0,1,2,3,4,5,6,7],[0,1,2,3,4,5,6,7,8],[0,1,2,3,4,5,6,7],[0,1,2,3,4,5,6,7,10],[0,1,2,3,4,5,6,7,10,11],[0,1,2,3,4,5,6,7,10,11,12],[0,1,2,3,4,5,6,7,8,9,10,11,12,13],[0,1,2,3,4,5,6,7,8,9,10,11,12,13,14],[0,1,2,3,4,5,6,7,8,9,10,11,12,13,14,15],[0,1,2,3,4,5,6,7,8,9,10,11,12,13,14,15,16],[0,1,2,3,4,5,6,7,8,9,10,11,12,13,14,15,16,17],[0,1,2,3,4,5,6,7,8,9,10,11,12,13,14,15,16],[0,1,2,3,4,5,6,7,8,9,10,11,12,13,14,15,16,19],[0,1,2,3,4,5,6,7,8,9,10,11,12,13,14,15,16,19,20],[0,1,2,3,4,5,6,7,8,9,10,11,12,13,14,15,16,19,20,21],[0,1,2,3,4,5,6,7,8,9,10,11,12,13,14,15,16,17,18,19,20,21,22],[0,1,2,3,4,5,6,7,8,9,10,11,12,13,14,15,16,17,18,19,20,21,22,23]] (Xf (hY · (dF hq3)) [3,4,5] (hP 6 (dF hq3)::(Xf (hY · (dF hq4)) [8,9,10,11,12,13,14] (hP 15 (dF hq4)::(Xf (hN · false (dT hq5)) [17,18,19,20,21,22,23] (hP 24 (dT hq5)::[])))))) ?_
  refine cT (b:=true) rfl (T.ret (rT ?_))
  exact eX [] trivial [0,1,2,3,4,5] rfl (ix (ix (ix ⟨⟨rfl,pZ11⟩,(ix (ix trivial))⟩)))
 have g5:=Classical.not_not.1 hq5
 refine sD [[],[0],[0,1],[0,1,2],[0,1,2,3],[0,1,2,3,4],[0,1,2,3,4,5],[0,1,2,3,4,5,6],[0,1,2,3,4,5,6,7],[0,1,2,3,4,5,6,7,8],[0,1,2,3,4,5,6,7],[0,1,2,3,4,5,6,7,10],[0,1,2,3,4,5,6,7,10,11],[0,1,2,3,4,5,6,7,10,11,12],[0,1,2,3,4,5,6,7,8,9,10,11,12,13],[0,1,2,3,4,5,6,7,8,9,10,11,12,13,14],[0,1,2,3,4,5,6,7,8,9,10,11,12,13,14,15],[0,1,2,3,4,5,6,7,8,9,10,11,12,13,14,15,16],[0,1,2,3,4,5,6,7,8,9,10,11,12,13,14,15,16,17],[0,1,2,3,4,5,6,7,8,9,10,11,12,13,14,15,16],[0,1,2,3,4,5,6,7,8,9,10,11,12,13,14,15,16,19],[0,1,2,3,4,5,6,7,8,9,10,11,12,13,14,15,16,19,20],[0,1,2,3,4,5,6,7,8,9,10,11,12,13,14,15,16,19,20,21],[0,1,2,3,4,5,6,7,8,9,10,11,12,13,14,15,16,17,18,19,20,21,22],[0,1,2,3,4,5,6,7,8,9,10,11,12,13,14,15,16,17,18,19,20,21,22,23]] (Xf (hY · (dF hq3)) [3,4,5] (hP 6 (dF hq3)::(Xf (hY · (dF hq4)) [8,9,10,11,12,13,14] (hP 15 (dF hq4)::(Xf (hY · (dF hq5)) [17,18,19,20,21,22,23] (hP 24 (dF hq5)::[])))))) ?_
 by_cases hq6:(Y2 e.X7).Xw≠st
 ·have hx:¬Ws (V5 f u rows) f id st e:=fun w=>hq6 w.2.2.2.2.2
  refine cT (dT hq6) (T.ret (rT ?_))
  exact eX [] trivial [0,1,2,3,4,5] rfl (ix (ix (ix ⟨⟨rfl,pZ11⟩,(ix (ix trivial))⟩)))
 have hh:Ws (V5 f u rows) f id st e:=⟨g1,g2,g3,g4,g5,Classical.not_not.1 hq6⟩
 refine cF (dF hq6) (T.skip (nT ?_))
 refine sD [[],[0],[0,1],[0,1,2],[],[4],[],[6],[0,1,2,3,4,5,6,7]] [hR 8 rfl rfl (Es 3 told e.f_Signer (Y2 e.X7).X1 (kd:=(Xj false)) (ak:=vI e.f_Signer) (tv:=(Zcn e)) Tryz.underlying78 (Xal Tryz.underlying3) rfl rfl (kk2 trivial) trivial)] (sR [] (T.seq ?_))
 refine tN ⟨[pv 2 0,.tv (.agg (Zch te e)),aa,pv 6 0,pv 7 0,vI (X05 e.X7),vI 0,aa,aa,aa,aa,aa,aa,aa,aa,aa,aa,aa,aa,aa,aa,aa,aa,aa,aa,aa,aa,aa,aa,aa,aa,aa,aa,aa,aa,aa,vB (decide ((V5 f u rows e)≠0)),aa,aa,aa,aa,aa,aa,aa,aa,aa,aa,aa,aa,aa,aa,aa,aa,aa,aa,aa,aa,aa,aa,aa,aa,aa,aa,aa,aa,aa,aa,vB (decide ((Y2 e.X7).Xw≠st))],(Zcq f u rows id st told done E te e)⟩ ?_
 refine Xel 3 (mput told e.f_Signer (Y2 e.X7).X1) (f:=(W8 .i64)) (kd:=(Xj false)) pZ2 (fun bn clk hbn1 hbn2=>(sR [hR 4 rfl rfl (Xdf (lm:=3) (li:=8) (f:=(W8 .i64)) (kd:=(Xj false)) (rows:=(mput told e.f_Signer (Y2 e.X7).X1)) (bn:=bn) (clock:=clk) Tryz.underlying78 (X4 rfl) trivial)] (T.block ?_)))
 refine T.loop (ι:=(List Nat)) (fun (seen:(List Nat))=>⟨(Zcs told e seen bn),[(Zci f u),(Zcj rows),(Zck id st done),(Zct told e bn clk),(Zcl done),(Zcm E),(Zco te e),(Zcp e),.live (.it 3 clk seen)]⟩) (fun (seen:(List Nat))=>True) (fun (seen:(List Nat))=>Fe bn seen) ([]) trivial (fun _ _ hG=>Y9 [0,1,2,3,4,5,6,7,8] (bm 81 1208925819614629174706265) (t2:=[pv 2 0,aa,aa,pv 6 0,pv 7 0,aa,vI 0,aa,aa,aa,aa,aa,aa,aa,aa,aa,aa,aa,aa,aa,aa,aa,aa,aa,aa,aa,aa,aa,aa,aa,aa,aa,aa,aa,aa,aa,aa,aa,aa,aa,aa,aa,aa,aa,aa,aa,aa,aa,aa,aa,aa,aa,aa,aa,aa,aa,aa,aa,aa,aa,aa,aa,aa,aa,aa,aa,aa,aa,aa,aa,aa,aa,aa,aa,aa,aa,aa,aa,aa,aa,pv 8 0]) (h2:=[(Zci f u),(Zcj rows),(Zck id st done),(Zct told e bn clk),(Zcl done),(Zcm E),(Zco te e),(Zcp e),.live (.it 3 clk ([]:List Nat))]) p1d p1y hG) ?_
 rintro seen _
 show T _ _ ⟨(Zcs told e seen bn),[(Zci f u),(Zcj rows),(Zck id st done),(Zct told e bn clk),(Zcl done),(Zcm E),(Zco te e),(Zcp e),.live (.it 3 clk seen)]⟩ _ _
 have hcl:=Xec (l:=(mput told e.f_Signer (Y2 e.X7).X1)) (bn:=bn) (seen:=seen) (r:=(Y2 e.X7).X1)
 refine Xem (lm:=3) (li:=8) (f:=(W8 .i64)) (kd:=(Xj false)) (rows:=(mput told e.f_Signer (Y2 e.X7).X1)) (bn:=bn) (clock:=clk) (seen:=seen) pZ2 pZ2 pZ2 (X4 rfl) (X4 rfl) (fun hall=>?_) (fun j hj hns=>?_)
 ·refine tN ⟨(Zcv told e seen bn),[(Zci f u),(Zcj rows),(Zck id st done),(Zct told e bn clk),(Zcl done),(Zcm E),(Zco te e),(Zcp e),.live (.it 3 clk seen)]⟩ (T.seq (cF (b:=false) rfl (T.exit (xT (xT (xH (nT ?_)))))))
  refine Wv (fun _ _ hG=>X8s 3 (mput told e.f_Signer (Y2 e.X7).X1) bn clk (f:=(W8 .i64)) (kd:=(Xj false)) pZ2 hG) ?_
  refine tN ⟨(Zcv told e seen bn),[(Zci f u),(Zcj rows),(Zck id st done),.live (mpK (W8 .i64) (Xj false) (mput told e.f_Signer (Y2 e.X7).X1)),(Zcl done),(Zcm E),(Zco te e),(Zcp e),.live (.it 3 clk seen)]⟩ ?_
  refine Wv (s':=⟨(Zcw told e),(Zcq f u rows id st told done E te e)⟩) (fun _ _ hG=>Y9 [0,1,2,3,4,5,6,7] (bm 7 89) (t2:=[pv 2 0,aa,aa,pv 6 0,pv 7 0,aa,(Zcr told e seen bn)]) p1w rfl hG) (sR [hR 5 rfl rfl (rCa (Fy f u rows ‹_› ‹_›) Tryz.func10 [0,1] [(.tmp 95,pv 0 0)] 2 2)] ?_)
  by_cases hq7:((Hk (mput told e.f_Signer (Y2 e.X7).X1) (Y2 e.X7).X1:Nat):Int)≥(f+1)
  ·exact absurd ⟨hh,hq7⟩ hd
  refine cF (dF hq7) (T.skip ?_)
  exact tE (.inr rfl) [] trivial [0,1,2,3,4,5] rfl rfl rfl rfl rfl rfl (ix (ix (ix ⟨⟨rfl,(by have e1:((mput told e.f_Signer (Y2 e.X7).X1):List (Int×Xd))=(Jy (V5 f u rows) f id st told e):=(by exact (Xbo hh).symm);have hE:=congrArg (fun (q1:List (Int×Xd))=>(.live (mpK (W8 .i64) (Xj false) q1):HS)) e1;exact Eq.trans pZ2 hE)⟩,(ix (ix trivial))⟩)))
 refine tN ⟨[pv 2 0,aa,aa,pv 6 0,pv 7 0,aa,(Zcr told e seen bn),aa,aa,aa,aa,aa,aa,aa,aa,aa,aa,aa,aa,aa,aa,aa,aa,aa,aa,aa,aa,aa,aa,aa,aa,aa,aa,aa,aa,aa,aa,aa,aa,aa,aa,aa,aa,aa,aa,aa,aa,aa,aa,aa,aa,aa,aa,aa,aa,aa,aa,aa,aa,aa,aa,aa,aa,aa,aa,aa,aa,aa,aa,aa,aa,aa,aa,aa,aa,aa,aa,aa,aa,aa,pv 8 0,aa,vB true],(Zcx f u rows id st told done E te e seen bn clk j)⟩ (T.seq (cT (b:=true) rfl (T.skip (nT (T.block (sR [hR 0 rfl rfl (Xdh (lm:=3) (li:=8) (clock:=clk) (j:=j) (f:=(W8 .i64)) (kd:=(Xj false)) (rows:=(mput told e.f_Signer (Y2 e.X7).X1)) (z:=(0,Yf)) (bn:=bn) (seen:=seen) ((Zcy told e j)) hj hbn2 hbn1 rfl (X4 rfl))] ?_))))))
 refine sR [hR 3 rfl rfl (X1j (ax:=.tv ((Zcy told e j))) (ay:=.tv ((Zcn e))) (a:=(((mput told e.f_Signer (Y2 e.X7).X1).getD j (0,Yf)).2)) (b:=(Y2 e.X7).X1) Vx ⟨[.int .i64 (((mput told e.f_Signer (Y2 e.X7).X1).getD j (0,Yf)).2).Xt,.int .i64 (((mput told e.f_Signer (Y2 e.X7).X1).getD j (0,Yf)).2).Xn],rfl,rfl⟩ ⟨[.int .i64 (Y2 e.X7).X1.Xt,.int .i64 (Y2 e.X7).X1.Xn],rfl,rfl⟩ (X4 rfl) trivial)] ?_
 by_cases hq8:(((mput told e.f_Signer (Y2 e.X7).X1).getD j (0,Yf)).2)=(Y2 e.X7).X1
 ·have hcs:=Xba (seen:=seen) hbn1 hbn2 hj hns hq8
  refine cT (dT hq8) (xK [hR 1 rfl rfl (Y4 (u1:=.int .i64 ((Vo (mput told e.f_Signer (Y2 e.X7).X1) bn seen (Y2 e.X7).X1:Nat):Int)) (u2:=.int .i64 1) (v:=.int .i64 (((Vo (mput told e.f_Signer (Y2 e.X7).X1) bn seen (Y2 e.X7).X1)+1:Nat):Int)) (Yn pZ5) (X4 rfl) ⟨rfl,trivial⟩)] (nB ?_))
  refine nL (seen++[bn.getD j 0]) trivial (show (Fe bn (seen++[bn.getD j 0]):Nat)<Fe bn seen from (X9e hj hns)) (fun _ _ hG=>Y9 [0,1,2,3,4,5,6,7,8] (bm 81 1208925819614629174706265) (t2:=[pv 2 0,aa,aa,pv 6 0,pv 7 0,aa,vI (((Vo (mput told e.f_Signer (Y2 e.X7).X1) bn seen (Y2 e.X7).X1)+1:Nat):Int),aa,aa,aa,aa,aa,aa,aa,aa,aa,aa,aa,aa,aa,aa,aa,aa,aa,aa,aa,aa,aa,aa,aa,aa,aa,aa,aa,aa,aa,aa,aa,aa,aa,aa,aa,aa,aa,aa,aa,aa,aa,aa,aa,aa,aa,aa,aa,aa,aa,aa,aa,aa,aa,aa,aa,aa,aa,aa,aa,aa,aa,aa,aa,aa,aa,aa,aa,aa,aa,aa,aa,aa,aa,pv 8 0]) (h2:=(Zcx f u rows id st told done E te e seen bn clk j)) pt p1y hG)
 have hcs:=Xeb (seen:=seen) hbn1 hbn2 hj hq8
 refine cF (dF hq8) (T.skip (nB ?_))
 refine nL (seen++[bn.getD j 0]) trivial (show (Fe bn (seen++[bn.getD j 0]):Nat)<Fe bn seen from (X9e hj hns)) (fun _ _ hG=>Y9 [0,1,2,3,4,5,6,7,8] (bm 81 1208925819614629174706265) (t2:=(Zcs told e seen bn)) (h2:=(Zcx f u rows id st told done E te e seen bn clk j)) pu p1y hG)
section
variable (f:Int) (u:Int) (rows:List (Xv×Bool)) (id:Int) (st:Int) (told:List (Int×Xd)) (done:List Xo) (E:aE) (te:Bool) (e:aE) (seen:List Nat) (bn:List Nat) (clk:Nat) (j:Nat)
abbrev Zd0:List SV:=[dI e.f_Signer,.d (dsl te false kU8 e.X7)]
abbrev Zd1:HS:=.live (.box 99 [dI (3*f+1),dI u,.mref 1])
abbrev Zd2:HS:=.live (mpK X9 Y6 rows)
abbrev Zd3:HS:=.live (.box 80 [.ptr 0 0,dI id,dI st,.ptr 5 0,.mref 3,.own 4 (X3 false).sz 0 done.length])
abbrev Zd4:HS:=.live (Xc 55 (X3 false) done)
abbrev Zd5:HS:=.live (.box 53 [dI E.f_Signer,dU E.X7])
abbrev Zd6:SV:=dI (Y2 e.X7).X1.Xt
abbrev Zd7:SV:=dI (Y2 e.X7).X1.Xn
abbrev Zd8:HS:=.live (.box 53 (Zd0 te e))
abbrev Zd9:HS:=.live (.box 42 [dI (Y2 e.X7).X2,dI (Y2 e.X7).Xr,dI (Y2 e.X7).Xy,dI (Y2 e.X7).Xa,dI (Y2 e.X7).Xw,dS (Y2 e.X7).Xb,dU (Y2 e.X7).Xi,(Zd6 e),(Zd7 e),.d (dsl false false (kE false) (Y2 e.X7).Xe),.d (dsl false false (kE false) (Y2 e.X7).Xp),.d (dsl false false (kC false) (Y2 e.X7).X5)])
abbrev Zda:List HS:=[(Zd1 f u),(Zd2 rows),(Zd3 id st done),.live (mpK (W8 .i64) (Xj false) (mput told e.f_Signer (Y2 e.X7).X1)),(Zd4 done),(Zd5 E),(Zd8 te e),(Zd9 e)]
abbrev Zdb:AV:=vI ((Vo (mput told e.f_Signer (Y2 e.X7).X1) bn seen (Y2 e.X7).X1:Nat):Int)
abbrev Zdc:List AV:=[pv 2 0,aa,aa,pv 6 0,pv 7 0,aa,(Zdb told e seen bn),aa,aa,aa,aa,aa,aa,aa,aa,aa,aa,aa,aa,aa,aa,aa,aa,aa,aa,aa,aa,aa,aa,aa,aa,aa,aa,aa,aa,aa,aa,aa,aa,aa,aa,aa,aa,aa,aa,aa,aa,aa,aa,aa,aa,aa,aa,aa,aa,aa,aa,aa,aa,aa,aa,aa,aa,aa,aa,aa,aa,aa,aa,aa,aa,aa,aa,aa,aa,aa,aa,aa,aa,aa,pv 8 0]
abbrev Zdd:HS:=.live (mprK (W8 .i64) (Xj false) (mput told e.f_Signer (Y2 e.X7).X1) bn clk)
abbrev Zdf:List AV:=[pv 2 0,aa,aa,pv 6 0,pv 7 0,aa,(Zdb told e seen bn),aa,aa,aa,aa,aa,aa,aa,aa,aa,aa,aa,aa,aa,aa,aa,aa,aa,aa,aa,aa,aa,aa,aa,aa,aa,aa,aa,aa,aa,aa,aa,aa,aa,aa,aa,aa,aa,aa,aa,aa,aa,aa,aa,aa,aa,aa,aa,aa,aa,aa,aa,aa,aa,aa,aa,aa,aa,aa,aa,aa,aa,aa,aa,aa,aa,aa,aa,aa,aa,aa,aa,aa,aa,pv 8 0,aa,vB false]
abbrev Zdg:List AV:=[pv 2 0,aa,aa,pv 6 0,pv 7 0,aa,vI ((Hk (mput told e.f_Signer (Y2 e.X7).X1) (Y2 e.X7).X1:Nat):Int)]
abbrev Zdh:List HS:=[(Zd1 f u),(Zd2 rows),(Zd3 id st done),(Zdd told e bn clk),(Zd4 done),(Zd5 E),(Zd8 te e),(Zd9 e),.live (.it 3 clk (seen++[bn.getD j 0]))]
abbrev Zdi:TV:=.agg [dI (((mput told e.f_Signer (Y2 e.X7).X1).getD j (0,Yf)).2).Xt,dI (((mput told e.f_Signer (Y2 e.X7).X1).getD j (0,Yf)).2).Xn]
end
theorem X4n (f:Int) (u:Int) (rows:List (Xv×Bool)) (id:Int) (st:Int) (told:List (Int×Xd)) (done:List Xo) (E:aE) (te:Bool) (e:aE) (hf:0≤f∧f≤2) (hu:0≤u∧u≤8) (hs:-9223372036854775808≤e.f_Signer∧e.f_Signer≤9223372036854775807) (hb:e.X7.length≤100000000) (htl:told.length≤1000000) (hdl:done.length≤1000000) (hd:F8 (V5 f u rows) f id st told e):Holds Tryz.prog 24 ⟨[pv 2 0,.tv (.agg [dI e.f_Signer,.d (dsl te false kU8 e.X7)])],[.box 99 [dI (3*f+1),dI u,.mref 1],mpK X9 Y6 rows,.box 80 [.ptr 0 0,dI id,dI st,.ptr 5 0,.mref 3,.own 4 (X3 false).sz 0 done.length],mpK (W8 .i64) (Xj false) told,Xc 55 (X3 false) done,.box 53 [dI E.f_Signer,dU E.X7]],.tup [],[.live (.box 99 [dI (3*f+1),dI u,.mref 1]),.live (mpK X9 Y6 rows),.live (.box 80 [.ptr 0 0,dI id,dI st,.d (.val (.pointer none)),.mref 3,.own 6 (X3 false).sz 0 (done++[(Xo.mk id st (Uw e))]).length]),.live (mpK (W8 .i64) (Xj false) ([]:List (Int×Xd))),.dead,.dead,.live (Xc 55 (X3 false) (done++[(Xo.mk id st (Uw e))]))]⟩:=by
 refine Holds.of Tryz.func24 rfl (N:=125) Tryz.ntmps24 rfl fun w0 B0 S0 U0=>?_
 show T _ (Y0 125 6 w0 S0 U0 B0) ⟨[pv 2 0,.tv (.agg (Zd0 te e))],[(Zd1 f u),(Zd2 rows),(Zd3 id st done),.live (mpK (W8 .i64) (Xj false) told),(Zd4 done),(Zd5 E)]⟩ _ _
 have hml:=X1m told e.f_Signer (Y2 e.X7).X1
 refine sR [] (T.seq ?_)
 by_cases hq1:Yg f e.f_Signer
 rotate_left
 ·exact absurd hd.1.1 hq1
 have g1:=hq1
 refine sD [[],[0],[0,1],[0,1,2],[0,1,2,3],[0,1,2,3,4],[0,1,2,3,4,5],[0,1,2,3,4,5,6],[0,1,2,3,4,5,6,7],[0,1,2,3,4,5,6,7,8],[0,1,2,3,4,5,6,7,8,9],[0,1,2,3,4,5,6,7,8,9,10],[0,1,2,3,4,5,6,7,8,9,10,11],[0,1,2,3,4,5,6,7,8,9,10,11,12],[0,1,2,3,4,5,6,7,8,9],[0,1,2,3,4,5,6,7,8,9,14],[0,1,2,3,4,5,6,7,8,9,10,11,12,13,14,15],[0,1,2,3,4,5,6,7,8,9,10,11,12,13,14,15,16],[0,1,2,3,4,5,6,7,8,9,10,11,12,13,14,15,16,17],[0,1,2,3,4,5,6,7,8,9,10,11,12,13,14,15,16,17,18],[0,1,2,3,4,5,6,7,8,9,10,11,12,13,14,15,16,17,18,19],[0,1,2,3,4,5,6,7,8,9,10,11,12,13,14,15,16,17,18,19,20],[0,1,2,3,4,5,6,7,8,9,10,11,12,13,14,15,16,17,18,19,20,21],[0,1,2,3,4,5,6,7,8,9,10,11,12,13,14,15,16,17,18,19,20,21,22],[0,1,2,3,4,5,6,7,8,9,10,11,12,13,14,15,16,17,18,19],[0,1,2,3,4,5,6,7,8,9,10,11,12,13,14,15,16,17,18,19,20,21,22,23,24],[0,1,2,3,4,5,6,7,8,9,10,11,12,13,14,15,16,17,18,19,20,21,22,23,24,25],[0,1,2,3,4,5,6,7,8,9,10,11,12,13,14,15,16,17,18,19,20,21,22,23,24,25,26]] (Xf hY0 [3,4,5,6,7] (hP0 8::(Xf hY0 [10,11,12,13,14,15] (hS 16 (oY (b:=false) rfl rfl rfl rfl (X4 rfl) rfl (rCa (J4 f u rows e.f_Signer ‹_› ‹_›) Tryz.func35 [0,1] [(.tmp 22,pv 0 0),(.tmp 24,vI e.f_Signer)] 2 2))::(hY0 17::(hP0 18::(Xf (hY · (cn (dT hq1))) [20,21,22,23,24] (hS 25 (oY rfl rfl rfl rfl (X4 rfl) (cn (dT hq1)) (rCa (X4e f u rows te e ‹_› ‹_› ‹_›) Tryz.func53 [0,1] [(.tmp 32,pv 0 0),(.tmp 33,.tv (.agg (Zd0 te e)))] 2 2))::(hY 26 (cn (dT hq1))::(hP 27 (cn (dT hq1))::[])))))))))) ?_
 by_cases hq2:(V5 f u rows e)≠0
 ·exact absurd hd.1.2.1 hq2
 have g2:=Classical.not_not.1 hq2
 refine cF (dF hq2) (T.skip (nT (sR [hR 2 rfl rfl (rCa (X6f te false e.X7 (by omega)) Tryz.func54 [] [(.tmp 39,slV te false kU8 e.X7)] 0 0)] (T.seq ?_))))
 by_cases hq3:(X05 e.X7)≠0
 ·exact absurd hd.1.2.2.1 hq3
 have g3:=Classical.not_not.1 hq3
 by_cases hq4:(Y2 e.X7).X2≠8
 ·exact absurd hd.1.2.2.2.1 hq4
 have g4:=Classical.not_not.1 hq4
 by_cases hq5:(Y2 e.X7).Xa≠id
 ·exact absurd hd.1.2.2.2.2.1 hq5
 have g5:=Classical.not_not.1 hq5
 refine sD [[],[0],[0,1],[0,1,2],[0,1,2,3],[0,1,2,3,4],[0,1,2,3,4,5],[0,1,2,3,4,5,6],[0,1,2,3,4,5,6,7],[0,1,2,3,4,5,6,7,8],[0,1,2,3,4,5,6,7],[0,1,2,3,4,5,6,7,10],[0,1,2,3,4,5,6,7,10,11],[0,1,2,3,4,5,6,7,10,11,12],[0,1,2,3,4,5,6,7,8,9,10,11,12,13],[0,1,2,3,4,5,6,7,8,9,10,11,12,13,14],[0,1,2,3,4,5,6,7,8,9,10,11,12,13,14,15],[0,1,2,3,4,5,6,7,8,9,10,11,12,13,14,15,16],[0,1,2,3,4,5,6,7,8,9,10,11,12,13,14,15,16,17],[0,1,2,3,4,5,6,7,8,9,10,11,12,13,14,15,16],[0,1,2,3,4,5,6,7,8,9,10,11,12,13,14,15,16,19],[0,1,2,3,4,5,6,7,8,9,10,11,12,13,14,15,16,19,20],[0,1,2,3,4,5,6,7,8,9,10,11,12,13,14,15,16,19,20,21],[0,1,2,3,4,5,6,7,8,9,10,11,12,13,14,15,16,17,18,19,20,21,22],[0,1,2,3,4,5,6,7,8,9,10,11,12,13,14,15,16,17,18,19,20,21,22,23]] (Xf (hY · (dF hq3)) [3,4,5] (hP 6 (dF hq3)::(Xf (hY · (dF hq4)) [8,9,10,11,12,13,14] (hP 15 (dF hq4)::(Xf (hY · (dF hq5)) [17,18,19,20,21,22,23] (hP 24 (dF hq5)::[])))))) ?_
 by_cases hq6:(Y2 e.X7).Xw≠st
 ·exact absurd hd.1.2.2.2.2.2 hq6
 have hh:Ws (V5 f u rows) f id st e:=⟨g1,g2,g3,g4,g5,Classical.not_not.1 hq6⟩
 refine cF (dF hq6) (T.skip (nT ?_))
 refine sD [[],[0],[0,1],[0,1,2],[],[4],[],[6],[0,1,2,3,4,5,6,7]] [hR 8 rfl rfl (Es 3 told e.f_Signer (Y2 e.X7).X1 (kd:=(Xj false)) (ak:=vI e.f_Signer) (tv:=.agg [(Zd6 e),(Zd7 e)]) Tryz.underlying78 (Xal Tryz.underlying3) rfl rfl (kk2 trivial) trivial)] (sR [] (T.seq ?_))
 refine tN ⟨[pv 2 0,.tv (.agg (Zd0 te e)),aa,pv 6 0,pv 7 0,vI (X05 e.X7),vI 0,aa,aa,aa,aa,aa,aa,aa,aa,aa,aa,aa,aa,aa,aa,aa,aa,aa,aa,aa,aa,aa,aa,aa,aa,aa,aa,aa,aa,aa,vB (decide ((V5 f u rows e)≠0)),aa,aa,aa,aa,aa,aa,aa,aa,aa,aa,aa,aa,aa,aa,aa,aa,aa,aa,aa,aa,aa,aa,aa,aa,aa,aa,aa,aa,aa,aa,vB (decide ((Y2 e.X7).Xw≠st))],(Zda f u rows id st told done E te e)⟩ ?_
 refine Xel 3 (mput told e.f_Signer (Y2 e.X7).X1) (f:=(W8 .i64)) (kd:=(Xj false)) pZ2 (fun bn clk hbn1 hbn2=>(sR [hR 4 rfl rfl (Xdf (lm:=3) (li:=8) (f:=(W8 .i64)) (kd:=(Xj false)) (rows:=(mput told e.f_Signer (Y2 e.X7).X1)) (bn:=bn) (clock:=clk) Tryz.underlying78 (X4 rfl) trivial)] (T.block ?_)))
 refine T.loop (ι:=(List Nat)) (fun (seen:(List Nat))=>⟨(Zdc told e seen bn),[(Zd1 f u),(Zd2 rows),(Zd3 id st done),(Zdd told e bn clk),(Zd4 done),(Zd5 E),(Zd8 te e),(Zd9 e),.live (.it 3 clk seen)]⟩) (fun (seen:(List Nat))=>True) (fun (seen:(List Nat))=>Fe bn seen) ([]) trivial (fun _ _ hG=>Y9 [0,1,2,3,4,5,6,7,8] (bm 81 1208925819614629174706265) (t2:=[pv 2 0,aa,aa,pv 6 0,pv 7 0,aa,vI 0,aa,aa,aa,aa,aa,aa,aa,aa,aa,aa,aa,aa,aa,aa,aa,aa,aa,aa,aa,aa,aa,aa,aa,aa,aa,aa,aa,aa,aa,aa,aa,aa,aa,aa,aa,aa,aa,aa,aa,aa,aa,aa,aa,aa,aa,aa,aa,aa,aa,aa,aa,aa,aa,aa,aa,aa,aa,aa,aa,aa,aa,aa,aa,aa,aa,aa,aa,aa,aa,aa,aa,aa,aa,pv 8 0]) (h2:=[(Zd1 f u),(Zd2 rows),(Zd3 id st done),(Zdd told e bn clk),(Zd4 done),(Zd5 E),(Zd8 te e),(Zd9 e),.live (.it 3 clk ([]:List Nat))]) p1d p1x hG) ?_
 rintro seen _
 show T _ _ ⟨(Zdc told e seen bn),[(Zd1 f u),(Zd2 rows),(Zd3 id st done),(Zdd told e bn clk),(Zd4 done),(Zd5 E),(Zd8 te e),(Zd9 e),.live (.it 3 clk seen)]⟩ _ _
 have hcl:=Xec (l:=(mput told e.f_Signer (Y2 e.X7).X1)) (bn:=bn) (seen:=seen) (r:=(Y2 e.X7).X1)
 refine Xem (lm:=3) (li:=8) (f:=(W8 .i64)) (kd:=(Xj false)) (rows:=(mput told e.f_Signer (Y2 e.X7).X1)) (bn:=bn) (clock:=clk) (seen:=seen) pZ2 pZ2 pZ2 (X4 rfl) (X4 rfl) (fun hall=>?_) (fun j hj hns=>?_)
 ·refine tN ⟨(Zdf told e seen bn),[(Zd1 f u),(Zd2 rows),(Zd3 id st done),(Zdd told e bn clk),(Zd4 done),(Zd5 E),(Zd8 te e),(Zd9 e),.live (.it 3 clk seen)]⟩ (T.seq (cF (b:=false) rfl (T.exit (xT (xT (xH (nT ?_)))))))
  refine Wv (fun _ _ hG=>X8s 3 (mput told e.f_Signer (Y2 e.X7).X1) bn clk (f:=(W8 .i64)) (kd:=(Xj false)) pZ2 hG) ?_
  refine tN ⟨(Zdf told e seen bn),[(Zd1 f u),(Zd2 rows),(Zd3 id st done),.live (mpK (W8 .i64) (Xj false) (mput told e.f_Signer (Y2 e.X7).X1)),(Zd4 done),(Zd5 E),(Zd8 te e),(Zd9 e),.live (.it 3 clk seen)]⟩ ?_
  refine Wv (s':=⟨(Zdg told e),(Zda f u rows id st told done E te e)⟩) (fun _ _ hG=>Y9 [0,1,2,3,4,5,6,7] (bm 7 89) (t2:=[pv 2 0,aa,aa,pv 6 0,pv 7 0,aa,(Zdb told e seen bn)]) p1w rfl hG) (sR [hR 5 rfl rfl (rCa (Fy f u rows ‹_› ‹_›) Tryz.func10 [0,1] [(.tmp 95,pv 0 0)] 2 2)] ?_)
  by_cases hq7:((Hk (mput told e.f_Signer (Y2 e.X7).X1) (Y2 e.X7).X1:Nat):Int)≥(f+1)
  ·refine cT (dT hq7) ?_
   refine sD [[],[],[1],[1,2],[1,2,3],[],[5],[5,6],[5,6,7],[],[9],[9,10],[9,10,11],[],[13],[5,6,7,8,9,10,11,12,13,14],[5,6,7,8,9,10,11,12,13,14,15],[1,2,3,4,5,6,7,8,9,10,11,12,13,14,15,16],[0,1,2,3,4,5,6,7,8,9,10,11,12,13,14,15,16,17],[0,1,2,3,4,5,6,7,8,9,10,11,12,13,14,15,16,17,18],[0,1,2,3,4,5,6,7,8,9,10,11,12,13,14,15,16,17,18,19]] [hR 16 rfl rfl (Yb 8 55 (X3 false) (Vt false) [(Xo.mk id st (Y2 e.X7).X1)] [⟨0,.tmp 113,.agg [dI id,dI st,(Zd6 e),(Zd7 e)],0⟩] (cs:=[dI id,dI st,(Zd6 e),(Zd7 e)]) Tryz.underlying45 U1 rfl X4p rfl rfl rfl pf (Wi rfl rfl pf Wa) pZ2 (Vk pZ2) (X4 rfl) trivial),hR 17 rfl rfl (Yq 4 9 55 32 (X3 false) (Vt false) done [(Xo.mk id st (Y2 e.X7).X1)] (done++[(Xo.mk id st (Y2 e.X7).X1)]) done.length (sy:=(.own 8 (X3 false).sz 0 [(Xo.mk id st (Y2 e.X7).X1)].length)) (rhs:=[(8,.live (Xc 55 (X3 false) [(Xo.mk id st (Y2 e.X7).X1)]))]) X50 (by omega) (U4 8 55 (X3 false) [(Xo.mk id st (Y2 e.X7).X1)]) p1o (by (simp [maxLen,-List.getD_eq_getElem?_getD]<;>omega)) (by (simp [maxLen,-List.getD_eq_getElem?_getD]<;>omega)) (X4 rfl) trivial)] ?_
   refine sR [] (xK [hR 4 rfl rfl (r_clearM (l:=3) (f:=(W8 .i64)) (kd:=(Xj false)) (rows:=(mput told e.f_Signer (Y2 e.X7).X1)) Tryz.underlying78 trivial)] ?_)
   exact tE (.inr rfl) [] trivial [0,1,2,3,4,5,9] rfl rfl rfl rfl rfl rfl (ix (ix ⟨⟨rfl,(by have e1:((done++[(Xo.mk id st (Y2 e.X7).X1)]).length:Nat)=(done++[(Xo.mk id st (Uw e))]).length:=(by rfl);have hE:=congrArg (fun (q1:Nat)=>(.live (.box 80 [.ptr 0 0,dI id,dI st,.d (.val (.pointer none)),.mref 3,.own 9 (X3 false).sz 0 q1]):HS)) e1;exact Eq.trans pZ2 hE)⟩,(ix ⟨⟨rfl,p2c⟩,trivial⟩)⟩))
  exact absurd hd.2 hq7
 refine tN ⟨[pv 2 0,aa,aa,pv 6 0,pv 7 0,aa,(Zdb told e seen bn),aa,aa,aa,aa,aa,aa,aa,aa,aa,aa,aa,aa,aa,aa,aa,aa,aa,aa,aa,aa,aa,aa,aa,aa,aa,aa,aa,aa,aa,aa,aa,aa,aa,aa,aa,aa,aa,aa,aa,aa,aa,aa,aa,aa,aa,aa,aa,aa,aa,aa,aa,aa,aa,aa,aa,aa,aa,aa,aa,aa,aa,aa,aa,aa,aa,aa,aa,aa,aa,aa,aa,aa,aa,pv 8 0,aa,vB true],(Zdh f u rows id st told done E te e seen bn clk j)⟩ (T.seq (cT (b:=true) rfl (T.skip (nT (T.block (sR [hR 0 rfl rfl (Xdh (lm:=3) (li:=8) (clock:=clk) (j:=j) (f:=(W8 .i64)) (kd:=(Xj false)) (rows:=(mput told e.f_Signer (Y2 e.X7).X1)) (z:=(0,Yf)) (bn:=bn) (seen:=seen) ((Zdi told e j)) hj hbn2 hbn1 rfl (X4 rfl))] ?_))))))
 refine sR [hR 3 rfl rfl (X1j (ax:=.tv ((Zdi told e j))) (ay:=.tv (.agg [(Zd6 e),(Zd7 e)])) (a:=(((mput told e.f_Signer (Y2 e.X7).X1).getD j (0,Yf)).2)) (b:=(Y2 e.X7).X1) Vx ⟨[.int .i64 (((mput told e.f_Signer (Y2 e.X7).X1).getD j (0,Yf)).2).Xt,.int .i64 (((mput told e.f_Signer (Y2 e.X7).X1).getD j (0,Yf)).2).Xn],rfl,rfl⟩ ⟨[.int .i64 (Y2 e.X7).X1.Xt,.int .i64 (Y2 e.X7).X1.Xn],rfl,rfl⟩ (X4 rfl) trivial)] ?_
 by_cases hq8:(((mput told e.f_Signer (Y2 e.X7).X1).getD j (0,Yf)).2)=(Y2 e.X7).X1
 ·have hcs:=Xba (seen:=seen) hbn1 hbn2 hj hns hq8
  refine cT (dT hq8) (xK [hR 1 rfl rfl (Y4 (u1:=.int .i64 ((Vo (mput told e.f_Signer (Y2 e.X7).X1) bn seen (Y2 e.X7).X1:Nat):Int)) (u2:=.int .i64 1) (v:=.int .i64 (((Vo (mput told e.f_Signer (Y2 e.X7).X1) bn seen (Y2 e.X7).X1)+1:Nat):Int)) (Yn pZ5) (X4 rfl) ⟨rfl,trivial⟩)] (nB ?_))
  refine nL (seen++[bn.getD j 0]) trivial (show (Fe bn (seen++[bn.getD j 0]):Nat)<Fe bn seen from (X9e hj hns)) (fun _ _ hG=>Y9 [0,1,2,3,4,5,6,7,8] (bm 81 1208925819614629174706265) (t2:=[pv 2 0,aa,aa,pv 6 0,pv 7 0,aa,vI (((Vo (mput told e.f_Signer (Y2 e.X7).X1) bn seen (Y2 e.X7).X1)+1:Nat):Int),aa,aa,aa,aa,aa,aa,aa,aa,aa,aa,aa,aa,aa,aa,aa,aa,aa,aa,aa,aa,aa,aa,aa,aa,aa,aa,aa,aa,aa,aa,aa,aa,aa,aa,aa,aa,aa,aa,aa,aa,aa,aa,aa,aa,aa,aa,aa,aa,aa,aa,aa,aa,aa,aa,aa,aa,aa,aa,aa,aa,aa,aa,aa,aa,aa,aa,aa,aa,aa,aa,aa,aa,aa,pv 8 0]) (h2:=(Zdh f u rows id st told done E te e seen bn clk j)) pt p1x hG)
 have hcs:=Xeb (seen:=seen) hbn1 hbn2 hj hq8
 refine cF (dF hq8) (T.skip (nB ?_))
 refine nL (seen++[bn.getD j 0]) trivial (show (Fe bn (seen++[bn.getD j 0]):Nat)<Fe bn seen from (X9e hj hns)) (fun _ _ hG=>Y9 [0,1,2,3,4,5,6,7,8] (bm 81 1208925819614629174706265) (t2:=(Zdc told e seen bn)) (h2:=(Zdh f u rows id st told done E te e seen bn clk j)) pu p1x hG)
section
variable (f:Int) (u:Int) (L:List aE) (id:Int)
abbrev Zdk:HS:=.live (.box 49 [dB true,dI f,dI u,.own 1 (kE false).sz 0 L.length])
abbrev Zdl:HS:=.live (Xc 53 (kE false) L)
abbrev Zdm:List AV:=[pv 0 0,vI id,aa,aa,pv 2 0,aa,aa,aa,vB (!(decide (Wb u id)))]
abbrev Zdn:SV:=dI id
abbrev Zdo:SV:=.d (.val (.slice none 0 0))
abbrev Zdp:SV:=.own 3 (X0 false).sz 0 0
abbrev Zdq:HS:=.live (Xc 117 (X0 false) ([]:List X6))
abbrev Zdr:St:=⟨(Zdm u id),[(Zdk f u L),(Zdl L),.live (.box 71 [.ptr 0 0,(Zdn id),dI 0,dB false,dI 0,Zdo,Zdp,Zdo]),Zdq]⟩
abbrev Zds:St:=⟨(Zdm u id),[(Zdk f u L),(Zdl L),.live (.box 71 [.ptr 0 0,(Zdn id),dI 0,dB false,dI 0,Zdo,Zdp,.own 4 (X3 false).sz 0 0]),Zdq,.live (Xc 55 (X3 false) ([]:List Xo))]⟩
end
theorem Xf4 (f:Int) (u:Int) (L:List aE) (id:Int) (hf:0≤f∧f≤2) (hu:0≤u∧u≤8) (hid:-9223372036854775808≤id∧id≤9223372036854775807) (hc:Wb u id):Holds Tryz.prog 15 ⟨[pv 0 0,vI id],[.box 49 [dB true,dI f,dI u,.own 1 (kE false).sz 0 L.length],Xc 53 (kE false) L],pv 2 0,[.live (.box 49 [dB true,dI f,dI u,.own 1 (kE false).sz 0 L.length]),.live (Xc 53 (kE false) L),.live (.box 71 [.ptr 0 0,dI id,dI 0,dB false,dI zE.f_Signer,dU zE.X7,.own 3 (X0 false).sz 0 ([]:List X6).length,.own 4 (X3 false).sz 0 ([]:List Xo).length]),.live (Xc 117 (X0 false) ([]:List X6)),.live (Xc 55 (X3 false) ([]:List Xo))]⟩:=by
 refine Holds.of Tryz.func15 rfl (N:=13) Tryz.ntmps15 rfl fun w0 B0 S0 U0=>?_
 show T _ (Y0 13 2 w0 S0 U0 B0) ⟨[pv 0 0,vI id],[(Zdk f u L),(Zdl L)]⟩ _ _
 refine sR [] (T.seq (sR [hR 2 rfl rfl (rCa (X2a f u L id ‹_› ‹_› ‹_›) Tryz.func40 [0,1] [(.tmp 5,pv 0 0),(.tmp 6,vI id)] 2 2)] ?_))
 by_cases hq1:Wb u id
 ·refine cF (cn (dT hq1)) (T.skip (nT (sR [] (T.ret ?_))))
  refine eN ⟨(Zdm u id),[(Zdk f u L),(Zdl L),.live (.box 71 [.ptr 0 0,(Zdn id),dI 0,dB false,dI 0,Zdo,Zdo,Zdo])]⟩ ?_
  refine Xh (s':=(Zdr f u L id)) (fun _ _ hG=>I4 3 2 6 117 (X0 false) (Tb:=71) (cs:=[.ptr 0 0,(Zdn id),dI 0,dB false,dI 0,Zdo,Zdo,Zdo]) rfl rfl rfl hG) ?_
  refine eN (Zdr f u L id) ?_
  refine Xh (s':=(Zds f u L id)) (fun _ _ hG=>I4 4 2 7 55 (X3 false) (Tb:=71) (cs:=[.ptr 0 0,(Zdn id),dI 0,dB false,dI 0,Zdo,Zdp,Zdo]) rfl rfl rfl hG) ?_
  refine eN (Zds f u L id) ?_
  refine Xh (s':=⟨(Zdm u id),[(Zdk f u L),(Zdl L),.live (.box 71 [.ptr 0 0,(Zdn id),dI 0,dB false,dI 0,dU ([]:List UInt8),Zdp,.own 4 (X3 false).sz 0 0]),Zdq,.live (Xc 55 (X3 false) ([]:List Xo))]⟩) (fun _ _ hG=>We (s:=(Zds f u L id)) ⟨.inl rfl,(kk8 trivial)⟩ (kk2 ⟨(.inr ⟨rfl,⟨.inl rfl,(kk4 ⟨p1a,(kk2 trivial)⟩)⟩⟩),(kk2 trivial)⟩) hG) ?_
  exact eRt 4 (.one (.ptr 2 0)) [0,1,2,3,4] rfl (ix (ix ⟨⟨rfl,(by have e1:(0:Int)=zE.f_Signer:=(by rfl);have e2:(([]:List UInt8):List UInt8)=zE.X7:=(by rfl);have e3:(0:Nat)=([]:List X6).length:=(by rfl);have e4:(0:Nat)=([]:List Xo).length:=(by rfl);have hE:=congr (congr (congr (congrArg (fun (q1:Int) (q2:List UInt8) (q3:Nat) (q4:Nat)=>(.live (.box 71 [.ptr 0 0,(Zdn id),dI 0,dB false,dI q1,dU q2,.own 3 (X0 false).sz 0 q3,.own 4 (X3 false).sz 0 q4]):HS)) e1) e2) e3) e4;exact Eq.trans pZ2 hE)⟩,(ix (ix trivial))⟩))
 exact absurd hc hq1
abbrev Zdt (f:Int) (u:Int) (L:List aE) (id:Int) (st:Int) (E:aE) (ws:List X6) (done:List Xo):List HS:=[.live (.box 49 [dB true,dI f,dI u,.own 1 (kE false).sz 0 L.length]),.live (Xc 53 (kE false) L),.live (.box 71 [.ptr 0 0,dI id,dI st,dB false,dI E.f_Signer,dU E.X7,.own 3 (X0 false).sz 0 ws.length,.own 4 (X3 false).sz 0 done.length]),.live (Xc 117 (X0 false) ws),.live (Xc 55 (X3 false) done)]
abbrev Zdu:List AV:=[pv 2 0,aa,dv (.slice none 0 0),aa,aa,aa,aa,vB (!false)]
theorem X8y (f:Int) (u:Int) (L:List aE) (id:Int) (st:Int) (E:aE) (ws:List X6) (done:List Xo):Holds Tryz.prog 20 ⟨[pv 2 0],[.box 49 [dB true,dI f,dI u,.own 1 (kE false).sz 0 L.length],Xc 53 (kE false) L,.box 71 [.ptr 0 0,dI id,dI st,dB false,dI E.f_Signer,dU E.X7,.own 3 (X0 false).sz 0 ws.length,.own 4 (X3 false).sz 0 done.length],Xc 117 (X0 false) ws,Xc 55 (X3 false) done],slV false false (Y1 false) ([]:List Ya),[.live (.box 49 [dB true,dI f,dI u,.own 1 (kE false).sz 0 L.length]),.live (Xc 53 (kE false) L),.live (.box 71 [.ptr 0 0,dI id,dI st,dB false,dI E.f_Signer,dU E.X7,.own 3 (X0 false).sz 0 ws.length,.own 4 (X3 false).sz 0 done.length]),.live (Xc 117 (X0 false) ws),.live (Xc 55 (X3 false) done)]⟩:=by
 refine Holds.of Tryz.func20 rfl (N:=22) Tryz.ntmps20 rfl fun w0 B0 S0 U0=>?_
 show T _ (Y0 22 5 w0 S0 U0 B0) ⟨[pv 2 0],(Zdt f u L id st E ws done)⟩ _ _
 refine sR [] (T.seq (sR [] (cT (b:=(!false)) rfl (sR [] (T.ret (rT ?_))))))
 refine eN ⟨Zdu,(Zdt f u L id st E ws done)⟩ ?_
 refine Xh (s':=⟨[pv 2 0,aa,slV false false (Y1 false) ([]:List Ya),aa,aa,aa,aa,vB (!false)],(Zdt f u L id st E ws done)⟩) (fun _ _ hG=>We (s:=⟨Zdu,(Zdt f u L id st E ws done)⟩) (kk2 ⟨p1a,⟨.inl rfl,(kk4 trivial)⟩⟩) ⟨.inl rfl,(kk4 trivial)⟩ hG) ?_
 exact eRt 2 (.one (.d (dsl false false (Y1 false) ([]:List Ya)))) [0,1,2,3,4] rfl (ix (ix (ix (ix (ix trivial)))))
section
variable (f:Int) (u:Int) (L:List aE) (id:Int) (st:Int) (E:aE) (ws:List X6) (done:List Xo)
abbrev Zdv:HS:=.live (.box 49 [dB true,dI f,dI u,.own 1 (kE false).sz 0 L.length])
abbrev Zdw:HS:=.live (.box 71 [.ptr 0 0,dI id,dI st,dB true,dI E.f_Signer,dU E.X7,.own 3 (X0 false).sz 0 ws.length,.own 4 (X3 false).sz 0 done.length])
abbrev Zdx:SV:=dI (-1)
abbrev Zdy:=(Ya.mk (-1) (aE.mk id E.X7))
abbrev Zdz:St:=⟨[pv 2 0,aa,Xx 7 (Y1 false) 0 [(Zdy id E)].length,aa,aa,aa,aa,vB (!true)],[(Zdv f u L),.live (Xc 53 (kE false) L),(Zdw id st E ws done),.live (Xc 117 (X0 false) ws),.live (Xc 55 (X3 false) done),.dead,.dead,.live (Xc 96 (Y1 false) [(Zdy id E)])]⟩
end
theorem X29 (f:Int) (u:Int) (L:List aE) (id:Int) (st:Int) (E:aE) (ws:List X6) (done:List Xo) (hEl:E.X7.length≤100000000):Holds Tryz.prog 20 ⟨[pv 2 0],[.box 49 [dB true,dI f,dI u,.own 1 (kE false).sz 0 L.length],Xc 53 (kE false) L,.box 71 [.ptr 0 0,dI id,dI st,dB true,dI E.f_Signer,dU E.X7,.own 3 (X0 false).sz 0 ws.length,.own 4 (X3 false).sz 0 done.length],Xc 117 (X0 false) ws,Xc 55 (X3 false) done],slV false false (Y1 false) (V8 id E),[.live (.box 49 [dB true,dI f,dI u,.own 1 (kE false).sz 0 L.length]),.live (Xc 53 (kE false) L),.live (.box 71 [.ptr 0 0,dI id,dI st,dB true,dI E.f_Signer,dU E.X7,.own 3 (X0 false).sz 0 ws.length,.own 4 (X3 false).sz 0 done.length]),.live (Xc 117 (X0 false) ws),.live (Xc 55 (X3 false) done)]⟩:=by
 refine Holds.of Tryz.func20 rfl (N:=22) Tryz.ntmps20 rfl fun w0 B0 S0 U0=>?_
 show T _ (Y0 22 5 w0 S0 U0 B0) ⟨[pv 2 0],[(Zdv f u L),.live (Xc 53 (kE false) L),(Zdw id st E ws done),.live (Xc 117 (X0 false) ws),.live (Xc 55 (X3 false) done)]⟩ _ _
 refine sR [] (T.seq (sR [] (cF (b:=(!true)) rfl (T.skip (nT ?_)))))
 refine sD [[],[0],[0,1],[0,1,2],[],[],[5],[5,6],[5,6,7],[5,6,7,8],[4,5,6,7,8,9],[0,1,2,3,4,5,6,7,8,9,10],[0,1,2,3,4,5,6,7,8,9,10,11],[0,1,2,3,4,5,6,7,8,9,10,11,12],[0,1,2,3,4,5,6,7,8,9,10,11,12,13]] [hR 4 rfl rfl (Yb 5 5 kU8 V9 ([]:List UInt8) [] (cs:=[]) Tryz.underlying34 Ur rfl I1 rfl rfl rfl pf Wa pZ2 (Vk pZ2) (X4 rfl) trivial),hR 10 rfl rfl (Yq 5 6 5 1 kU8 V9 ([]:List UInt8) E.X7 E.X7 ([]:List UInt8).length (sy:=(dU E.X7)) (rhs:=[]) Uz (by omega) (Up false false kU8 E.X7) (by simp) (by (simp [maxLen,-List.getD_eq_getElem?_getD]<;>omega)) (by (simp [maxLen,-List.getD_eq_getElem?_getD]<;>omega)) (X4 rfl) trivial),hR 13 rfl rfl (Xg9 0 20 6 5 kU8 E.X7 (av:=.tv (.agg [Zdx,dI id,.own 6 kU8.sz 0 E.X7.length])) (Yb 7 96 (Y1 false) (X17 false) [(Ya.mk (-1) (aE.mk id E.X7))] [⟨0,.tmp 20,.agg [Zdx,dI id,dU E.X7],0⟩] (cs:=[Zdx,dI id,dU E.X7]) Tryz.underlying64 F7 rfl Xd3 rfl rfl rfl pf (Wi rfl rfl pf Wa) pZ2 (Vk pZ2) (X4 rfl) trivial) rfl (.inr (kk2 ⟨pZ6,trivial⟩)) (by intro h;cases h) rfl rfl)] ?_
 refine T.ret ?_
 refine eN (Zdz f u L id st E ws done) ?_
 refine Xh (s':=⟨[pv 2 0,aa,slV false false (Y1 false) [(Zdy id E)],aa,aa,aa,aa,vB (!true)],[(Zdv f u L),.live (Xc 53 (kE false) L),(Zdw id st E ws done),.live (Xc 117 (X0 false) ws),.live (Xc 55 (X3 false) done),.dead,.dead,.dead]⟩) (fun _ _ hG=>Gs.freeze (s:=(Zdz f u L id st E ws done)) 7 (el:=Yu (Y1 false) [(Ya.mk (-1) (aE.mk id E.X7))]) (sz:=(Y1 false).sz) (n:=[(Ya.mk (-1) (aE.mk id E.X7))].length) rfl (kk2 ⟨(.inr pZ6),⟨.inl rfl,(kk4 trivial)⟩⟩) ⟨pd,⟨pd,⟨pd,⟨pd,⟨pd,⟨pd,⟨pd,⟨(.inl ⟨rfl,rfl⟩),trivial⟩⟩⟩⟩⟩⟩⟩⟩ hG) ?_
 exact eRt 2 (.one (.d (dsl false false (Y1 false) [(Zdy id E)]))) [0,1,2,3,4] p4a (ix (ix (ix (ix (ix trivial)))))
section
variable (f:Int) (u:Int) (L:List aE) (id:Int) (st:Int) (E:aE) (ws:List X6) (done:List Xo) (tb:Bool) (nb:Bool) (b:List UInt8)
abbrev Ze0:List HS:=[.live (.box 49 [dB true,dI f,dI u,.own 1 (kE false).sz 0 L.length]),.live (Xc 53 (kE false) L),.live (.box 71 [.ptr 0 0,dI id,dI st,dB true,dI E.f_Signer,dU E.X7,.own 3 (X0 false).sz 0 ws.length,.own 4 (X3 false).sz 0 done.length]),.live (Xc 117 (X0 false) ws),.live (Xc 55 (X3 false) done)]
abbrev Ze1:AV:=vB (decide (((b.length:Nat):Int)>4096))
abbrev Ze2:AV:=slV false false (Y1 false) ([]:List Ya)
abbrev Ze3:TV:=.one (.d (dsl false false (Y1 false) ([]:List Ya)))
abbrev Ze4:List AV:=[pv 2 0,slV tb nb kU8 b,aa,aa,dv (.slice none 0 0),vI 3,aa,aa,(Ze1 b),aa,aa,aa,vB true]
end
theorem X7g (f:Int) (u:Int) (L:List aE) (id:Int) (st:Int) (E:aE) (ws:List X6) (done:List Xo) (tb:Bool) (nb:Bool) (b:List UInt8):Holds Tryz.prog 17 ⟨[pv 2 0,slV tb nb kU8 b],[.box 49 [dB true,dI f,dI u,.own 1 (kE false).sz 0 L.length],Xc 53 (kE false) L,.box 71 [.ptr 0 0,dI id,dI st,dB true,dI E.f_Signer,dU E.X7,.own 3 (X0 false).sz 0 ws.length,.own 4 (X3 false).sz 0 done.length],Xc 117 (X0 false) ws,Xc 55 (X3 false) done],.tup [.one (.d (dsl false false (Y1 false) ([]:List Ya))),.one (dI (F2 b))],[.live (.box 49 [dB true,dI f,dI u,.own 1 (kE false).sz 0 L.length]),.live (Xc 53 (kE false) L),.live (.box 71 [.ptr 0 0,dI id,dI st,dB true,dI E.f_Signer,dU E.X7,.own 3 (X0 false).sz 0 ws.length,.own 4 (X3 false).sz 0 done.length]),.live (Xc 117 (X0 false) ws),.live (Xc 55 (X3 false) done)]⟩:=by
 refine Holds.of Tryz.func17 rfl (N:=54) Tryz.ntmps17 rfl fun w0 B0 S0 U0=>?_
 show T _ (Y0 54 5 w0 S0 U0 B0) ⟨[pv 2 0,slV tb nb kU8 b],(Ze0 f u L id st E ws done)⟩ _ _
 refine sR [] (T.seq (sR [] ?_))
 by_cases hq1:((b.length:Nat):Int)>4096
 ·refine cT (dT hq1) (sR [] (T.ret (rT ?_)))
  refine eN ⟨[pv 2 0,slV tb nb kU8 b,aa,aa,dv (.slice none 0 0),vI 11,aa,aa,(Ze1 b)],(Ze0 f u L id st E ws done)⟩ ?_
  refine Xh (s':=⟨[pv 2 0,slV tb nb kU8 b,aa,aa,Ze2,vI 11,aa,aa,(Ze1 b)],(Ze0 f u L id st E ws done)⟩) (fun _ _ hG=>We (s:=⟨[pv 2 0,slV tb nb kU8 b,aa,aa,dv (.slice none 0 0),vI 11,aa,aa,(Ze1 b)],(Ze0 f u L id st E ws done)⟩) (kk4 ⟨p1a,(kk4 trivial)⟩) ⟨.inl rfl,(kk4 trivial)⟩ hG) ?_
  exact eX [.t 4 (Ze3),.t 5 (.one (dI 11))] ⟨⟨rfl,by kernel_rfl⟩,⟨⟨rfl,by kernel_rfl⟩,trivial⟩⟩ [0,1,2,3,4] (congrArg (fun (q1:Int)=>(.tup [Ze3,.one (dI q1)]:AV)) (by exact (X5i ‹_›).symm)) (ix (ix (ix (ix (ix trivial)))))
 refine cF (dF hq1) (T.skip (nT (T.seq (sR [] (cT (b:=true) rfl (sR [] (T.ret (rT ?_))))))))
 refine eN ⟨(Ze4 tb nb b),(Ze0 f u L id st E ws done)⟩ ?_
 refine Xh (s':=⟨[pv 2 0,slV tb nb kU8 b,aa,aa,Ze2,vI 3,aa,aa,(Ze1 b),aa,aa,aa,vB true],(Ze0 f u L id st E ws done)⟩) (fun _ _ hG=>We (s:=⟨(Ze4 tb nb b),(Ze0 f u L id st E ws done)⟩) (kk4 ⟨p1a,(kk8 trivial)⟩) ⟨.inl rfl,(kk4 trivial)⟩ hG) ?_
 exact eX [.t 4 (Ze3),.t 5 (.one (dI 3))] ⟨⟨rfl,by kernel_rfl⟩,⟨⟨rfl,by kernel_rfl⟩,trivial⟩⟩ [0,1,2,3,4] (congrArg (fun (q1:Int)=>(.tup [Ze3,.one (dI q1)]:AV)) (by exact (X5j ‹_›).symm)) (ix (ix (ix (ix (ix trivial)))))
abbrev Ze5 (f:Int) (u:Int) (L:List aE) (id:Int) (st:Int) (E:aE) (ws:List X6) (done:List Xo):List HS:=[.live (.box 49 [dB true,dI f,dI u,.own 1 (kE false).sz 0 L.length]),.live (Xc 53 (kE false) L),.live (.box 71 [.ptr 0 0,dI id,dI st,dB false,dI E.f_Signer,dU E.X7,.own 3 (X0 false).sz 0 ws.length,.own 4 (X3 false).sz 0 done.length]),.live (Xc 117 (X0 false) ws),.live (Xc 55 (X3 false) done)]
abbrev Ze6 (tb:Bool) (nb:Bool) (b:List UInt8):List AV:=[pv 2 0,slV tb nb kU8 b,aa,aa,dv (.slice none 0 0),vI 11,aa,aa,vB (decide (((b.length:Nat):Int)>4096))]
theorem X7h (f:Int) (u:Int) (L:List aE) (id:Int) (st:Int) (E:aE) (ws:List X6) (done:List Xo) (tb:Bool) (nb:Bool) (b:List UInt8) (hlg:((b.length:Nat):Int)>4096):Holds Tryz.prog 17 ⟨[pv 2 0,slV tb nb kU8 b],[.box 49 [dB true,dI f,dI u,.own 1 (kE false).sz 0 L.length],Xc 53 (kE false) L,.box 71 [.ptr 0 0,dI id,dI st,dB false,dI E.f_Signer,dU E.X7,.own 3 (X0 false).sz 0 ws.length,.own 4 (X3 false).sz 0 done.length],Xc 117 (X0 false) ws,Xc 55 (X3 false) done],.tup [.one (.d (dsl false false (Y1 false) ([]:List Ya))),.one (dI 11)],[.live (.box 49 [dB true,dI f,dI u,.own 1 (kE false).sz 0 L.length]),.live (Xc 53 (kE false) L),.live (.box 71 [.ptr 0 0,dI id,dI st,dB false,dI E.f_Signer,dU E.X7,.own 3 (X0 false).sz 0 ws.length,.own 4 (X3 false).sz 0 done.length]),.live (Xc 117 (X0 false) ws),.live (Xc 55 (X3 false) done)]⟩:=by
 refine Holds.of Tryz.func17 rfl (N:=54) Tryz.ntmps17 rfl fun w0 B0 S0 U0=>?_
 show T _ (Y0 54 5 w0 S0 U0 B0) ⟨[pv 2 0,slV tb nb kU8 b],(Ze5 f u L id st E ws done)⟩ _ _
 refine sR [] (T.seq (sR [] ?_))
 by_cases hq1:((b.length:Nat):Int)>4096
 ·refine cT (dT hq1) (sR [] (T.ret (rT ?_)))
  refine eN ⟨(Ze6 tb nb b),(Ze5 f u L id st E ws done)⟩ ?_
  refine Xh (s':=⟨[pv 2 0,slV tb nb kU8 b,aa,aa,slV false false (Y1 false) ([]:List Ya),vI 11,aa,aa,vB (decide (((b.length:Nat):Int)>4096))],(Ze5 f u L id st E ws done)⟩) (fun _ _ hG=>We (s:=⟨(Ze6 tb nb b),(Ze5 f u L id st E ws done)⟩) (kk4 ⟨p1a,(kk4 trivial)⟩) ⟨.inl rfl,(kk4 trivial)⟩ hG) ?_
  exact eX [.t 4 (.one (.d (dsl false false (Y1 false) ([]:List Ya)))),.t 5 (.one (dI 11))] ⟨⟨rfl,by kernel_rfl⟩,⟨⟨rfl,by kernel_rfl⟩,trivial⟩⟩ [0,1,2,3,4] rfl (ix (ix (ix (ix (ix trivial)))))
 exact absurd hlg hq1
section
variable (id:Int) (done:List Xo) (st:Int) (tb:Bool) (nb:Bool) (b:List UInt8)
abbrev Ze7:SV:=dI id
abbrev Ze8:SV:=.own 4 (X3 false).sz 0 done.length
abbrev Ze9:SV:=.d (.val (.slice none 0 0))
abbrev Zea:=(Yj (aM.mk 1 0 0 id (st+1) [] b (Xd.mk 0 0) ([]:List aE) ([]:List aE) ([]:List aC)))
abbrev Zeb:List AV:=[pv 2 0,slV tb nb kU8 b,aa,aa,dv (.slice none 0 0),vI 0,aa,aa,vB (decide (((b.length:Nat):Int)>4096)),aa,aa,aa,vB false]
end
theorem X28 (f:Int) (u:Int) (L:List aE) (id:Int) (st:Int) (E:aE) (ws:List X6) (done:List Xo) (tb:Bool) (nb:Bool) (b:List UInt8) (hf:0≤f∧f≤2) (hu:0≤u∧u≤8) (hst:0≤st∧st≤1000000) (hid:-9223372036854775808≤id∧id≤9223372036854775807) (hLl:L.length≤1000000) (hlg:¬((b.length:Nat):Int)>4096):Holds Tryz.prog 17 ⟨[pv 2 0,slV tb nb kU8 b],[.box 49 [dB true,dI f,dI u,.own 1 (kE false).sz 0 L.length],Xc 53 (kE false) L,.box 71 [.ptr 0 0,dI id,dI st,dB false,dI E.f_Signer,dU E.X7,.own 3 (X0 false).sz 0 ws.length,.own 4 (X3 false).sz 0 done.length],Xc 117 (X0 false) ws,Xc 55 (X3 false) done],.tup [.one (.d (dsl false false (Y1 false) (V8 id (W1 f u id (Yj (Ys id (st+1) b)))))),.one (dI 0)],[.live (.box 49 [dB true,dI f,dI u,.own 5 (kE false).sz 0 (Wx f u L id (Yj (Ys id (st+1) b))).length]),.dead,.live (.box 71 [.ptr 0 0,dI id,dI (st+1),dB true,dI (W1 f u id (Yj (Ys id (st+1) b))).f_Signer,dU (W1 f u id (Yj (Ys id (st+1) b))).X7,.own 6 (X0 false).sz 0 ([]:List X6).length,.own 4 (X3 false).sz 0 done.length]),.dead,.live (Xc 55 (X3 false) done),.live (Xc 53 (kE false) (Wx f u L id (Yj (Ys id (st+1) b)))),.live (Xc 117 (X0 false) ([]:List X6))]⟩:=by
 refine Holds.of Tryz.func17 rfl (N:=54) Tryz.ntmps17 rfl fun w0 B0 S0 U0=>?_
 show T _ (Y0 54 5 w0 S0 U0 B0) ⟨[pv 2 0,slV tb nb kU8 b],[.live (.box 49 [dB true,dI f,dI u,.own 1 (kE false).sz 0 L.length]),.live (Xc 53 (kE false) L),.live (.box 71 [.ptr 0 0,(Ze7 id),dI st,dB false,dI E.f_Signer,dU E.X7,.own 3 (X0 false).sz 0 ws.length,(Ze8 done)]),.live (Xc 117 (X0 false) ws),.live (Xc 55 (X3 false) done)]⟩ _ _
 have hbl:(Yj (aM.mk 1 0 0 id (st+1) [] b (Xd.mk 0 0) [] [] [])).length≤5000:=Fb id (st+1) b hlg
 have hvl:=X7v f u id (Yj (aM.mk 1 0 0 id (st+1) [] b (Xd.mk 0 0) [] [] []))
 refine sR [] (T.seq (sR [] ?_))
 by_cases hq1:((b.length:Nat):Int)>4096
 ·exact absurd hq1 hlg
 refine cF (dF hq1) (T.skip (nT (T.seq (sR [] (cF (b:=false) rfl (T.skip (nT (sR [hR 4 rfl rfl (Y4 (u1:=.int .i64 st) (u2:=.int .i64 1) (v:=.int .i64 (st+1)) (Yn pZ5) (X4 rfl) ⟨rfl,trivial⟩)] (sR [] (sR [] ?_))))))))))
 refine sD [[],[],[1],[1,2],[1,2,3],[],[5],[5,6],[5,6,7],[],[9],[9,10],[9,10,11],[],[13],[13,14],[13,14,15],[],[9,10,11,12,13,14,15,16,17],[9,10,11,12,13,14,15,16,17,18],[1,2,3,4,5,6,7,8,9,10,11,12,13,14,15,16,17,18,19],[1,2,3,4,5,6,7,8,9,10,11,12,13,14,15,16,17,18,19,20],[1,2,3,4,5,6,7,8,9,10,11,12,13,14,15,16,17,18,19,20,21],[1,2,3,4,5,6,7,8,9,10,11,12,13,14,15,16,17,18,19,20,21],[0,1,2,3,4,5,6,7,8,9,10,11,12,13,14,15,16,17,18,19,20,21,22],[0,1,2,3,4,5,6,7,8,9,10,11,12,13,14,15,16,17,18,19,20,21,22,24],[0,1,2,3,4,5,6,7,8,9,10,11,12,13,14,15,16,17,18,19,20,21,22,24,25]] [hR 19 rfl rfl (rCn (H6 tb (aM.mk 1 0 0 id (st+1) [] b (Xd.mk 0 0) ([]:List aE) ([]:List aE) ([]:List aC)) (Ue id (st+1) b hlg).1 (Ue id (st+1) b hlg).2.1 (Ue id (st+1) b hlg).2.2.1 (Ue id (st+1) b hlg).2.2.2.1 (Ue id (st+1) b hlg).2.2.2.2.1 (Ue id (st+1) b hlg).2.2.2.2.2) Tryz.func21 [] [(.tmp 45,.tv (.agg [dI 1,dI 0,dI 0,(Ze7 id),dI (st+1),dS [],.d (dsl tb nb kU8 b),dI 0,dI 0,Ze9,Ze9,Ze9]))] 0 0 ⟨⟨.inl ⟨rfl,rfl⟩,⟨.inl ⟨rfl,rfl⟩,⟨.inl ⟨rfl,rfl⟩,⟨.inl ⟨rfl,rfl⟩,⟨.inl ⟨rfl,rfl⟩,⟨.inl ⟨rfl,rfl⟩,⟨.inr (.inr ⟨rfl,p1b,rfl,rfl,rfl⟩),⟨.inl ⟨rfl,rfl⟩,⟨.inl ⟨rfl,rfl⟩,⟨.inr p1a,⟨.inr p1a,⟨.inr p1a,trivial⟩⟩⟩⟩⟩⟩⟩⟩⟩⟩⟩⟩,trivial⟩ trivial),hR 20 rfl rfl (rCa (Fm f u L id false false (Yj (aM.mk 1 0 0 id (st+1) [] b (Xd.mk 0 0) ([]:List aE) ([]:List aE) ([]:List aC))) ‹_› ‹_› ‹_› (by omega) (by omega)) Tryz.func23 [0,1,5] [(.tmp 31,pv 0 0),(.tmp 35,vI id),(.tmp 46,slV false false kU8 (Zea id st b))] 2 3)] ?_
 refine tN ⟨(Zeb tb nb b),[.live (.box 49 [dB true,dI f,dI u,.own 5 (kE false).sz 0 (Wx f u L id (Zea id st b)).length]),.dead,.live (.box 71 [.ptr 0 0,(Ze7 id),dI (st+1),dB true,dI (W1 f u id (Zea id st b)).f_Signer,dU (W1 f u id (Zea id st b)).X7,Ze9,(Ze8 done)]),.live (Xc 117 (X0 false) ws),.live (Xc 55 (X3 false) done),.live (Xc 53 (kE false) (Wx f u L id (Zea id st b)))]⟩ ?_
 refine Wv (s':=⟨(Zeb tb nb b),[.live (.box 49 [dB true,dI f,dI u,.own 5 (kE false).sz 0 (Wx f u L id (Zea id st b)).length]),.dead,.live (.box 71 [.ptr 0 0,(Ze7 id),dI (st+1),dB true,dI (W1 f u id (Zea id st b)).f_Signer,dU (W1 f u id (Zea id st b)).X7,.own 6 (X0 false).sz 0 0,(Ze8 done)]),.live (Xc 117 (X0 false) ws),.live (Xc 55 (X3 false) done),.live (Xc 53 (kE false) (Wx f u L id (Zea id st b))),.live (Xc 117 (X0 false) ([]:List X6))]⟩) (fun _ _ hG=>I4 6 2 6 117 (X0 false) (Tb:=71) (cs:=[.ptr 0 0,(Ze7 id),dI (st+1),dB true,dI (W1 f u id (Zea id st b)).f_Signer,dU (W1 f u id (Zea id st b)).X7,Ze9,(Ze8 done)]) rfl rfl rfl hG) ?_
 refine sR [hR 1 rfl rfl (rCa (X29 f u (Wx f u L id (Yj (aM.mk 1 0 0 id (st+1) [] b (Xd.mk 0 0) ([]:List aE) ([]:List aE) ([]:List aC)))) id (st+1) (W1 f u id (Yj (aM.mk 1 0 0 id (st+1) [] b (Xd.mk 0 0) ([]:List aE) ([]:List aE) ([]:List aC)))) ([]:List X6) done (by omega)) Tryz.func20 [0,5,2,6,4] [(.tmp 52,pv 2 0)] 5 5)] (T.ret ?_)
 exact eX [.t 4 (.one (.d (dsl false false (Y1 false) (V8 id (W1 f u id (Zea id st b)))))),.t 5 (.one (dI 0))] ⟨⟨rfl,by kernel_rfl⟩,⟨⟨rfl,by kernel_rfl⟩,trivial⟩⟩ [0,1,2,3,4,5,6] p3n ⟨⟨rfl,(by have e1:((Wx f u L id (Yj (aM.mk 1 0 0 id (st+1) [] b (Xd.mk 0 0) ([]:List aE) ([]:List aE) ([]:List aC)))).length:Nat)=(Wx f u L id (Yj (Ys id (st+1) b))).length:=(by rfl);have hE:=congrArg (fun (q1:Nat)=>(.live (.box 49 [dB true,dI f,dI u,.own 5 (kE false).sz 0 q1]):HS)) e1;exact Eq.trans pZ2 hE)⟩,⟨⟨rfl,(by have e1:((W1 f u id (Yj (aM.mk 1 0 0 id (st+1) [] b (Xd.mk 0 0) ([]:List aE) ([]:List aE) ([]:List aC)))).f_Signer:Int)=(W1 f u id (Yj (Ys id (st+1) b))).f_Signer:=(by rfl);have e2:((W1 f u id (Yj (aM.mk 1 0 0 id (st+1) [] b (Xd.mk 0 0) ([]:List aE) ([]:List aE) ([]:List aC)))).X7:List UInt8)=(W1 f u id (Yj (Ys id (st+1) b))).X7:=(by rfl);have hE:=congr (congrArg (fun (q1:Int) (q2:List UInt8)=>(.live (.box 71 [.ptr 0 0,(Ze7 id),dI (st+1),dB true,dI q1,dU q2,.own 6 (X0 false).sz 0 ([]:List X6).length,(Ze8 done)]):HS)) e1) e2;exact Eq.trans pZ2 hE)⟩,(ix ⟨⟨rfl,(by have e1:((Wx f u L id (Yj (aM.mk 1 0 0 id (st+1) [] b (Xd.mk 0 0) ([]:List aE) ([]:List aE) ([]:List aC)))):List aE)=(Wx f u L id (Yj (Ys id (st+1) b))):=(by rfl);have hE:=congrArg (fun (q1:List aE)=>(.live (Xc 53 (kE false) q1):HS)) e1;exact Eq.trans pZ2 hE)⟩,(ix trivial)⟩)⟩⟩
abbrev Zec (e:aE):AV:=.tv (.agg [dI e.f_Signer,dU e.X7])
theorem X5v (f:Int) (u:Int) (L:List aE) (id:Int) (st:Int) (E:aE) (ws:List X6) (done:List Xo) (e:aE) (hf:0≤f∧f≤2) (hu:0≤u∧u≤8) (hs:-9223372036854775808≤e.f_Signer∧e.f_Signer≤9223372036854775807) (hb:e.X7.length≤100000000) (hLl:L.length≤1000000) (hwl:ws.length≤1000000):Holds Tryz.prog 25 ⟨[pv 2 0,.tv (.agg [dI e.f_Signer,dU e.X7])],[.box 49 [dB true,dI f,dI u,.own 1 (kE false).sz 0 L.length],Xc 53 (kE false) L,.box 71 [.ptr 0 0,dI id,dI st,dB false,dI E.f_Signer,dU E.X7,.own 3 (X0 false).sz 0 ws.length,.own 4 (X3 false).sz 0 done.length],Xc 117 (X0 false) ws,Xc 55 (X3 false) done],.tup [],[.live (.box 49 [dB true,dI f,dI u,.own 1 (kE false).sz 0 L.length]),.live (Xc 53 (kE false) L),.live (.box 71 [.ptr 0 0,dI id,dI st,dB false,dI E.f_Signer,dU E.X7,.own 3 (X0 false).sz 0 ws.length,.own 4 (X3 false).sz 0 done.length]),.live (Xc 117 (X0 false) ws),.live (Xc 55 (X3 false) done)]⟩:=by
 refine Holds.of Tryz.func25 rfl (N:=151) Tryz.ntmps25 rfl fun w0 B0 S0 U0=>?_
 show T _ (Y0 151 5 w0 S0 U0 B0) ⟨[pv 2 0,(Zec e)],[.live (.box 49 [dB true,dI f,dI u,.own 1 (kE false).sz 0 L.length]),.live (Xc 53 (kE false) L),.live (.box 71 [.ptr 0 0,dI id,dI st,dB false,dI E.f_Signer,dU E.X7,.own 3 (X0 false).sz 0 ws.length,.own 4 (X3 false).sz 0 done.length]),.live (Xc 117 (X0 false) ws),.live (Xc 55 (X3 false) done)]⟩ _ _
 refine sR [] (T.seq ?_)
 by_cases hq1:(Wf f u L e)≠0
 ·refine sD [[],[0],[0,1],[0,1,2],[],[0,1,2,3,4],[0,1,2,3,4,5],[0,1,2,3,4,5,6],[0,1,2,3,4,5,6,7],[0,1,2,3,4,5,6,7,8],[0,1,2,3,4,5,6,7,8,9],[0,1,2,3,4,5,6,7,8,9,10],[0,1,2,3,4,5,6,7],[0,1,2,3,4,5,6,7,12],[0,1,2,3,4,5,6,7,8,9,10,11,12,13],[0,1,2,3,4,5,6,7,8,9,10,11,12,13,14],[0,1,2,3,4,5,6,7,8,9,10,11,12,13,14,15],[0,1,2,3,4,5,6,7,8,9,10,11,12,13,14,15,16],[0,1,2,3,4,5,6,7,8,9,10,11,12,13,14,15,16,17],[0,1,2,3,4,5,6,7,8,9,10,11,12,13,14,15,16,17,18],[0,1,2,3,4,5,6,7,8,9,10,11,12,13,14,15,16,17,18,19],[0,1,2,3,4,5,6,7,8,9,10,11,12,13,14,15,16,17,18,19,20],[0,1,2,3,4,5,6,7,8,9,10,11,12,13,14,15,16,17,18,19,20,21],[0,1,2,3,4,5,6,7,8,9,10,11,12,13,14,15,16,17,18,19,20,21,22]] (hR 5 rfl rfl (rCa (Jd f u L false e ‹_› ‹_› ‹_› (by omega)) Tryz.func55 [0,1] [(.tmp 12,pv 0 0),(.tmp 13,(Zec e))] 2 2)::(Xf (hN · false (dT hq1)) [8,9,10,11,12,13,14,15] (hP 16 (dT hq1)::(Xf hN0 [18,19,20,21,22] (hP1 23::[]))))) ?_
  refine cT (b:=true) rfl (T.ret (rT ?_))
  exact eX [] trivial [0,1,2,3,4] rfl (ix (ix (ix (ix (ix trivial)))))
 by_cases hq2:Yg f e.f_Signer
 ·refine sD [[],[0],[0,1],[0,1,2],[],[0,1,2,3,4],[0,1,2,3,4,5],[0,1,2,3,4,5,6],[0,1,2,3,4,5,6,7],[0,1,2,3,4,5,6,7,8],[0,1,2,3,4,5,6,7,8,9],[0,1,2,3,4,5,6,7,8,9,10],[0,1,2,3,4,5,6,7],[0,1,2,3,4,5,6,7,12],[0,1,2,3,4,5,6,7,8,9,10,11,12,13],[0,1,2,3,4,5,6,7,8,9,10,11,12,13,14],[0,1,2,3,4,5,6,7,8,9,10,11,12,13,14,15],[0,1,2,3,4,5,6,7,8,9,10,11,12,13,14,15,16],[0,1,2,3,4,5,6,7,8,9,10,11,12,13,14,15,16,17],[0,1,2,3,4,5,6,7,8,9,10,11,12,13,14,15,16,17,18],[0,1,2,3,4,5,6,7,8,9,10,11,12,13,14,15,16,17,18,19],[0,1,2,3,4,5,6,7,8,9,10,11,12,13,14,15,16,17,18,19,20],[0,1,2,3,4,5,6,7,8,9,10,11,12,13,14,15,16,17,18,19,20,21],[0,1,2,3,4,5,6,7,8,9,10,11,12,13,14,15,16,17,18,19,20,21,22]] (hR 5 rfl rfl (rCa (Jd f u L false e ‹_› ‹_› ‹_› (by omega)) Tryz.func55 [0,1] [(.tmp 12,pv 0 0),(.tmp 13,(Zec e))] 2 2)::(Xf (hY · (dF hq1)) [8,9,10,11,12,13] (hS 14 (oY rfl rfl rfl rfl (X4 rfl) (dF hq1) (rCa (Ui f u L e.f_Signer ‹_› ‹_›) Tryz.func56 [0,1] [(.tmp 20,pv 0 0),(.tmp 22,vI e.f_Signer)] 2 2))::(hY 15 (dF hq1)::(hP 16 (dF hq1)::(Xf (hY · (cn (dT hq2))) [18,19,20,21,22] (hP 23 (cn (dT hq2))::[]))))))) ?_
  refine cT (b:=(!false)) rfl (T.ret (rT ?_))
  exact eX [] trivial [0,1,2,3,4] rfl (ix (ix (ix (ix (ix trivial)))))
 refine sD [[],[0],[0,1],[0,1,2],[],[0,1,2,3,4],[0,1,2,3,4,5],[0,1,2,3,4,5,6],[0,1,2,3,4,5,6,7],[0,1,2,3,4,5,6,7,8],[0,1,2,3,4,5,6,7,8,9],[0,1,2,3,4,5,6,7,8,9,10],[0,1,2,3,4,5,6,7],[0,1,2,3,4,5,6,7,12],[0,1,2,3,4,5,6,7,8,9,10,11,12,13],[0,1,2,3,4,5,6,7,8,9,10,11,12,13,14],[0,1,2,3,4,5,6,7,8,9,10,11,12,13,14,15],[0,1,2,3,4,5,6,7,8,9,10,11,12,13,14,15,16],[0,1,2,3,4,5,6,7,8,9,10,11,12,13,14,15,16,17],[0,1,2,3,4,5,6,7,8,9,10,11,12,13,14,15,16,17,18],[0,1,2,3,4,5,6,7,8,9,10,11,12,13,14,15,16,17,18,19],[0,1,2,3,4,5,6,7,8,9,10,11,12,13,14,15,16,17,18,19,20],[0,1,2,3,4,5,6,7,8,9,10,11,12,13,14,15,16,17,18,19,20,21],[0,1,2,3,4,5,6,7,8,9,10,11,12,13,14,15,16,17,18,19,20,21,22]] (hR 5 rfl rfl (rCa (Jd f u L false e ‹_› ‹_› ‹_› (by omega)) Tryz.func55 [0,1] [(.tmp 12,pv 0 0),(.tmp 13,(Zec e))] 2 2)::(Xf (hY · (dF hq1)) [8,9,10,11,12,13] (hS 14 (oY rfl rfl rfl rfl (X4 rfl) (dF hq1) (rCa (Ui f u L e.f_Signer ‹_› ‹_›) Tryz.func56 [0,1] [(.tmp 20,pv 0 0),(.tmp 22,vI e.f_Signer)] 2 2))::(hY 15 (dF hq1)::(hP 16 (dF hq1)::(Xf (hN · false (cn (dF hq2))) [18,19,20,21,22] (hP 23 (cn (dF hq2))::[]))))))) ?_
 refine cT (b:=true) rfl (T.ret (rT ?_))
 exact eX [] trivial [0,1,2,3,4] rfl (ix (ix (ix (ix (ix trivial)))))
end Go.Proofs.YthnefnknoahbkaaGreat.Q
