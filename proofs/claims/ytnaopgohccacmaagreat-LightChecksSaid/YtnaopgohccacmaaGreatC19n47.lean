import Derived.Test.YtnaopgohccacmaaGreatC19n46
namespace Go.Proofs.YtnaopgohccacmaaGreat.Q
open Go Go.RowKit
set_option linter.unusedVariables false
set_option linter.unusedSimpArgs false
set_option maxRecDepth 100000
set_option maxHeartbeats 4000000
def X0k (x:Wm):Prop:=(fun (n:Int)=>(Lit.int .i64 n).wf=true) x.Vj∧(fun (n:Int)=>(Lit.int .i64 n).wf=true) x.Xy
theorem H8:RdS Tryz.prog 23 (X20 false) X0k:=fun H enc w base sp held fuel cs x h hfit=>by
  obtain ⟨xs,n,hl,hxl,hf,hw⟩:=X0f Tryz.underlying23 h hfit
  obtain ⟨a0,o0,c0⟩:=Jj hxl hf hw 0 rfl (t:=3) (off:=0) rfl rfl (Rd.s (X0h Tryz.underlying3))
  obtain ⟨a1,o1,c1⟩:=Jj hxl hf hw 1 rfl (t:=3) (off:=1) rfl rfl (Rd.s (X0h Tryz.underlying3))
  refine ⟨⟨a0,a1⟩,⟨o0,o1⟩,by rw [hl];kernel_rfl,fun j hj=>?_⟩
  replace hj:j<2:=hj
  rcases j with _|_|j
  · exact c0 0 (by decide)
  · exact c1 0 (by decide)
  · omega
def Ew (x:Y3):Prop:=(fun (xs:List Int)=>xs.length≤reachBytes∧∀ x,x∈xs→(fun (n:Int)=>(Lit.int .i64 n).wf=true) x) x.X6∧(fun (xs:List UInt8)=>xs.length≤reachBytes∧∀ x,x∈xs→(fun (_:UInt8)=>True) x) x.U4∧(fun (xs:List Int)=>xs.length≤reachBytes∧∀ x,x∈xs→(fun (n:Int)=>(Lit.int .i64 n).wf=true) x) x.Xt∧(fun (_:Bool)=>True) x.I2
theorem Iy:RdS Tryz.prog 27 (X1a false) Ew:=fun H enc w base sp held fuel cs x h hfit=>by
  obtain ⟨xs,n,hl,hxl,hf,hw⟩:=X0f Tryz.underlying27 h hfit
  obtain ⟨a0,o0,c0⟩:=Jj hxl hf hw 0 rfl (t:=24) (off:=0) rfl rfl (X5r Tryz.underlying24 pZ7 (by decide) (of_decide_eq_true pZ7) (Rd.s (X0h Tryz.underlying3)))
  obtain ⟨a1,o1,c1⟩:=Jj hxl hf hw 1 rfl (t:=25) (off:=1) rfl rfl (X5r Tryz.underlying25 pZ7 (by decide) (of_decide_eq_true pZ7) (Rd.s (rd_u8 Tryz.underlying5)))
  obtain ⟨a2,o2,c2⟩:=Jj hxl hf hw 2 rfl (t:=24) (off:=2) rfl rfl (X5r Tryz.underlying24 pZ7 (by decide) (of_decide_eq_true pZ7) (Rd.s (X0h Tryz.underlying3)))
  obtain ⟨a3,o3,c3⟩:=Jj hxl hf hw 3 rfl (t:=4) (off:=3) rfl rfl (Rd.s (rd_bool Tryz.underlying4))
  refine ⟨⟨a0,a1,a2,a3⟩,⟨o0,o1,o2,o3⟩,by rw [hl];kernel_rfl,fun j hj=>?_⟩
  replace hj:j<4:=hj
  rcases j with _|_|_|_|j
  · exact c0 0 (by decide)
  · exact c1 0 (by decide)
  · exact c2 0 (by decide)
  · exact c3 0 (by decide)
  · omega
def Hb (x:Yo):Prop:=(fun (n:Int)=>(Lit.int .i64 n).wf=true) x.Wn∧(fun (n:Int)=>(Lit.int .i64 n).wf=true) x.Wj
theorem X0g:RdS Tryz.prog 29 (X1z false) Hb:=fun H enc w base sp held fuel cs x h hfit=>by
  obtain ⟨xs,n,hl,hxl,hf,hw⟩:=X0f Tryz.underlying29 h hfit
  obtain ⟨a0,o0,c0⟩:=Jj hxl hf hw 0 rfl (t:=3) (off:=0) rfl rfl (Rd.s (X0h Tryz.underlying3))
  obtain ⟨a1,o1,c1⟩:=Jj hxl hf hw 1 rfl (t:=3) (off:=1) rfl rfl (Rd.s (X0h Tryz.underlying3))
  refine ⟨⟨a0,a1⟩,⟨o0,o1⟩,by rw [hl];kernel_rfl,fun j hj=>?_⟩
  replace hj:j<2:=hj
  rcases j with _|_|j
  · exact c0 0 (by decide)
  · exact c1 0 (by decide)
  · omega
def X19 (x:Wy):Prop:=(fun (n:Int)=>(Lit.int .i64 n).wf=true) x.f_H∧(fun (n:Int)=>(Lit.int .i64 n).wf=true) x.J6∧Hb x.f_T
theorem X18:RdS Tryz.prog 31 (X2y false) X19:=fun H enc w base sp held fuel cs x h hfit=>by
  obtain ⟨xs,n,hl,hxl,hf,hw⟩:=X0f Tryz.underlying31 h hfit
  obtain ⟨a0,o0,c0⟩:=Jj hxl hf hw 0 rfl (t:=3) (off:=0) rfl rfl (Rd.s (X0h Tryz.underlying3))
  obtain ⟨a1,o1,c1⟩:=Jj hxl hf hw 1 rfl (t:=3) (off:=1) rfl rfl (Rd.s (X0h Tryz.underlying3))
  obtain ⟨a2,o2,c2⟩:=Jj hxl hf hw 2 rfl (t:=29) (off:=2) rfl rfl X0g
  refine ⟨⟨a0,a1,a2⟩,⟨o0,o1,o2⟩,by rw [hl];kernel_rfl,fun j hj=>?_⟩
  replace hj:j<4:=hj
  rcases j with _|_|_|_|j
  · exact c0 0 (by decide)
  · exact c1 0 (by decide)
  · exact c2 0 (by decide)
  · exact c2 1 (by decide)
  · omega
end Go.Proofs.YtnaopgohccacmaaGreat.Q
namespace Go.Proofs.YtnaopgohccacmaaGreat.Q
set_option linter.unusedVariables false
set_option linter.unusedSimpArgs false
theorem Ex {n:Nat} (h:n≤reachBytes):n≤9223372036854775807:=Nat.le_trans h (by decide)
end Go.Proofs.YtnaopgohccacmaaGreat.Q
