import Derived.Test.YtnaopgohccacmaaGreatC19n38
namespace Go.Proofs.YtnaopgohccacmaaGreat.Q
open Go Go.RowKit
set_option linter.unusedVariables false
set_option linter.unusedSimpArgs false
set_option maxRecDepth 100000
set_option maxHeartbeats 4000000
theorem iat_49:Tryz.prog.info? 49=some Tryz.t49:=by kernel_rfl
theorem Fe:Wide Tryz.prog 49 (some 10):=⟨_,_,Tryz.underlying49,.inl ⟨_,rfl⟩,iat_49,rfl⟩
theorem X80:Elem Tryz.prog 41 69 4 48:=⟨Tryz.underlying41,_,_,H1,rfl,rfl,rfl,rfl,by decide⟩
section
variable (d:List UInt8) (l:List Yi) (seq:Int) (x:List aE) (b:List UInt8) (h:Int) (i:Int) (k:Nat) (k2:Nat)
abbrev Zob:AV:=slV false false (kE false) x
abbrev Zoc:HS:=.live (.box 149 [dI 0,dS d,dB true,.own 1 (Xj false).sz 0 l.length])
abbrev Zod:HS:=.live (Xf 152 (Xj false) l)
abbrev Zoe:AV:=vI (unH ((b.length:Nat):Int) b)
abbrev Zof:AV:=vI (unE ((b.length:Nat):Int) b)
abbrev Zog:List AV:=[pv 0 0,vI seq,(Zob x),slV false false kU8 b,vI h,vI i,aa,aa,aa,aa,aa,aa,pv 2 0,vI 12,(Zoe b),aa,aa,(Zof b),aa,aa,aa,aa,aa,aa,aa,aa,aa,aa,aa,aa,aa,aa,aa,aa,aa,aa,aa,aa,aa,aa,vB true]
abbrev Zoh:SV:=.d (.val (.slice none 0 0))
abbrev Zoi:HS:=.live (.box 49 [dI 0,Zoh,Zoh,Zoh,dI 0,dI 0,Zoh,dI 0,dI 0,Zoh])
abbrev Zoj:List HS:=[(Zoc d l),(Zod l),Zoi]
abbrev Zok:SV:=.d (dsl false false (kE false) ([]:List aE))
abbrev Zol:SV:=dU ([]:List UInt8)
abbrev Zom:SV:=.d (dsl false false (Xm false) ([]:List Yh))
abbrev Zon:SV:=.d (dsl false false (Xz false) ([]:List Yn))
abbrev Zoo:List SV:=[dI 0,Zok,Zol,Zom,dI 0,dI 0,Zol,dI 0,dI 0,Zon]
abbrev Zop:List HS:=[(Zoc d l),(Zod l),.live (.box 49 Zoo)]
abbrev Zoq:AV:=vB (decide ((unH ((b.length:Nat):Int) b)≠seq))
abbrev Zor:List AV:=[pv 0 0,vI seq,(Zob x),slV false false kU8 b,vI h,vI i,aa,aa,aa,aa,aa,aa,pv 2 0,vI 12,(Zoe b),aa,aa,(Zof b),aa,aa,aa,aa,aa,aa,aa,aa,aa,aa,aa,aa,aa,aa,aa,aa,aa,aa,aa,aa,aa,aa,(Zoq seq b)]
abbrev Zos:List AV:=[pv 0 0,vI seq,(Zob x),slV false false kU8 b,vI h,vI i,aa,aa,aa,aa,aa,aa,pv 2 0,vI 2,(Zoe b),aa,aa,(Zof b),aa,aa,aa,aa,aa,aa,aa,aa,aa,aa,aa,aa,aa,aa,aa,aa,aa,aa,aa,aa,aa,aa,(Zoq seq b),aa,aa,aa,aa,aa,aa,aa,aa,aa,aa,aa,aa,aa,vB true]
abbrev Zot:TV:=.one (dI 2)
abbrev Zou:AV:=vB (decide ((seq-h)>999))
abbrev Zov:List AV:=[pv 0 0,vI seq,(Zob x),slV false false kU8 b,vI h,vI i,aa,aa,aa,aa,aa,aa,pv 2 0,vI 2,(Zoe b),aa,aa,(Zof b),aa,aa,aa,aa,aa,aa,aa,aa,aa,aa,aa,aa,aa,aa,aa,aa,aa,aa,aa,aa,aa,aa,(Zoq seq b),aa,aa,aa,aa,aa,aa,aa,aa,aa,aa,aa,aa,aa,(Zou seq h)]
abbrev Zow:AV:=vI ((x.length:Nat):Int)
abbrev Zox:List AV:=[pv 0 0,vI seq,(Zob x),slV false false kU8 b,vI h,vI i,aa,aa,aa,aa,aa,aa,pv 2 0,vI 0,(Zoe b),aa,aa,(Zof b),pv 4 0,aa,aa,aa,aa,aa,aa,aa,aa,aa,aa,aa,aa,aa,aa,aa,aa,aa,aa,aa,aa,aa,(Zoq seq b),aa,aa,aa,aa,aa,aa,aa,aa,aa,aa,aa,aa,aa,(Zou seq h),aa,aa,aa,aa,aa,aa,(Zob x),(Zow x),vI 0]
abbrev Zoy:SV:=dI seq
abbrev Zoz:SV:=.own 3 kU8.sz 0 b.length
abbrev Zp0:List HS:=[(Zoc d l),(Zod l),Zoi,.live (Xf 5 kU8 b),.live (.box 49 [(Zoy seq),.own 5 (kE false).sz 0 0,(Zoz b),Zoh,dI i,dI 0,Zoh,dI 0,dI 0,Zoh]),.live (Xf 43 (kE false) ([]:List aE))]
abbrev Zp1:List AV:=[pv 0 0,vI seq,(Zob x),slV false false kU8 b,vI h,vI i,aa,aa,aa,aa,aa,aa,pv 2 0,vI 0,(Zoe b),aa,aa,(Zof b),pv 4 0,aa,aa,aa,aa,aa,aa,aa,aa,aa,aa,aa,aa,aa,aa,aa,aa,aa,aa,aa,aa,aa,(Zoq seq b),aa,aa,aa,aa,aa,aa,aa,aa,aa,aa,aa,aa,aa,(Zou seq h),aa,aa,aa,aa,aa,aa,(Zob x),(Zow x),vI ((k:Nat):Int)]
abbrev Zp2:List HS:=[(Zoc d l),(Zod l),Zoi,.live (Xf 5 kU8 b),.live (.box 49 [(Zoy seq),.own 5 (kE false).sz 0 (x.take k).length,(Zoz b),Zoh,dI i,dI 0,Zoh,dI 0,dI 0,Zoh]),.live (Xf 43 (kE false) (x.take k))]
abbrev Zp4:List AV:=[pv 0 0,vI seq,(Zob x),slV false false kU8 b,vI h,vI i,aa,aa,aa,aa,aa,aa,pv 2 0,vI 0,(Zoe b),aa,aa,(Zof b),pv 4 0,aa,aa,aa,aa,aa,aa,aa,aa,aa,aa,aa,aa,aa,aa,aa,aa,aa,aa,aa,aa,aa,(Zoq seq b),aa,aa,aa,aa,aa,aa,aa,aa,aa,aa,aa,aa,aa,(Zou seq h),aa,aa,aa,aa,aa,aa,(Zob x),(Zow x),vI ((k+1:Nat):Int)]
abbrev Zp5:List AV:=[pv 0 0,vI seq,aa,aa,vI h,vI i,aa,aa,aa,aa,aa,aa,pv 2 0,aa,aa,aa,aa,aa,pv 4 0]
abbrev Zp6:SV:=.own 5 (kE false).sz 0 x.length
abbrev Zp7:HS:=.live (.box 49 [(Zoy seq),(Zp6 x),(Zoz b),Zoh,dI i,dI 0,Zoh,dI 0,dI 0,Zoh])
abbrev Zp8:HS:=.live (Xf 43 (kE false) x)
abbrev Zp9:List AV:=[pv 0 0,vI seq,aa,aa,vI h,vI i,aa,aa,aa,aa,aa,aa,pv 2 0,aa,aa,aa,aa,aa,pv 4 0,aa,aa,pv 6 0,vI h]
abbrev Zpa:HS:=.live (.box 65 [dI 0,dS [],Zoh,Zoh])
abbrev Zpb:HS:=.live (.box 49 [(Zoy seq),(Zp6 x),(Zoz b),.own 7 (Xm false).sz 0 0,dI i,dI 0,Zoh,dI 0,dI 0,Zoh])
abbrev Zpc:HS:=.live (Xf 69 (Xm false) ([]:List Yh))
abbrev Zpd:HS:=.live (.box 65 [dI 0,dS [],Zok,.d (dsl false false (Xk false) ([]:List Y4))])
abbrev Zpe:AV:=vI (h+((k2:Nat):Int))
abbrev Zpf:List AV:=[pv 0 0,vI seq,aa,aa,vI h,vI i,aa,aa,aa,aa,aa,aa,pv 2 0,aa,aa,aa,aa,aa,pv 4 0,aa,aa,pv 6 0,(Zpe h k2)]
abbrev Zpg:SV:=.own 7 (Xm false).sz 0 (hdrs (Yz 0 l) h k2).length
abbrev Zph:HS:=.live (.box 49 [(Zoy seq),(Zp6 x),(Zoz b),(Zpg l h k2),dI i,dI 0,Zoh,dI 0,dI 0,Zoh])
abbrev Zpi:HS:=.live (.box 65 [dI (Hf (Yz 0 l) h k2).Xq,dS (Hf (Yz 0 l) h k2).Y9,.d (dsl false false (kE false) (Hf (Yz 0 l) h k2).Xh),.d (dsl false false (Xk false) (Hf (Yz 0 l) h k2).Xt)])
abbrev Zpj:HS:=.live (Xf 69 (Xm false) (hdrs (Yz 0 l) h k2))
abbrev Zpk:List HS:=[(Zoc d l),(Zod l),Zoi,.live (Xf 5 kU8 b),(Zph l seq x b h i k2),(Zp8 x),(Zpi l h k2),(Zpj l h k2)]
abbrev Zpn:AV:=vB (decide ((h+((k2:Nat):Int))≤seq))
abbrev Zpo:List AV:=[pv 0 0,vI seq,aa,aa,vI h,vI i,aa,aa,aa,aa,aa,aa,pv 2 0,vI 4,aa,aa,aa,aa,pv 4 0,aa,aa,pv 6 0,(Zpe h k2),pv 8 0,vI (Xa3 0 l.length (h+((k2:Nat):Int))),aa,aa,aa,aa,aa,aa,aa,aa,aa,aa,aa,aa,aa,aa,aa,aa,aa,aa,aa,aa,aa,aa,aa,aa,aa,aa,aa,aa,aa,aa,aa,aa,aa,aa,aa,aa,aa,aa,aa,aa,aa,aa,aa,aa,aa,aa,aa,aa,aa,aa,aa,aa,aa,aa,aa,aa,(Zpn seq h k2),aa,aa,aa,aa,aa,aa,aa,aa,aa,vB (decide ((Xa3 0 l.length (h+((k2:Nat):Int)))≠0))]
abbrev Zpp:List SV:=[dI (Yz 0 l (h+((k2:Nat):Int))).Xq,dS (Yz 0 l (h+((k2:Nat):Int))).Y9,.d (dsl false false (kE false) (Yz 0 l (h+((k2:Nat):Int))).Xh),.d (dsl false false (Xk false) (Yz 0 l (h+((k2:Nat):Int))).Xt)]
abbrev Zpq:=(V2 (Yz 0 l (h+((k2:Nat):Int))))
abbrev Zpr:TV:=.agg [dI (Zpq l h k2).Xq,dS (Zpq l h k2).Y9,dI (Zpq l h k2).Yl,dS (Zpq l h k2).Wf]
abbrev Zps:List AV:=[pv 0 0,vI seq,aa,aa,vI h,vI i,aa,aa,aa,aa,aa,aa,pv 2 0,aa,aa,aa,aa,aa,pv 4 0,aa,aa,pv 6 0,vI (h+(((k2+1):Nat):Int))]
abbrev Zpt:HS:=.live (.box 65 [dI (Hf (Yz 0 l) h (k2+1)).Xq,dS (Hf (Yz 0 l) h (k2+1)).Y9,.d (dsl false false (kE false) (Hf (Yz 0 l) h (k2+1)).Xh),.d (dsl false false (Xk false) (Hf (Yz 0 l) h (k2+1)).Xt)])
abbrev Zpv:List AV:=[pv 0 0,vI seq,aa,aa,vI h,vI i,aa,aa,aa,aa,aa,aa,pv 2 0,aa,aa,aa,aa,aa,pv 4 0,aa,aa,pv 6 0,vI ((h+((k2:Nat):Int))+1)]
abbrev Zpw:List HS:=[(Zoc d l),(Zod l),Zoi,.live (Xf 5 kU8 b),.live (.box 49 [(Zoy seq),(Zp6 x),(Zoz b),.own 10 (Xm false).sz 0 (hdrs (Yz 0 l) h (k2+1)).length,dI i,dI 0,Zoh,dI 0,dI 0,Zoh]),(Zp8 x),(Zpt l h k2),.live (Xf 69 (Xm false) (hdrs (Yz 0 l) h (k2+1)))]
abbrev Zpx:HS:=.live (.box 49 [(Zoy seq),(Zp6 x),(Zoz b),.own 10 (Xm false).sz 0 ((hdrs (Yz 0 l) h k2)++[(Zpq l h k2)]).length,dI i,dI 0,Zoh,dI 0,dI 0,Zoh])
abbrev Zpy:List AV:=[pv 0 0,vI seq,aa,aa,vI h,vI i,aa,aa,aa,aa,aa,aa,pv 2 0,aa,aa,aa,aa,aa,pv 4 0,aa,aa,pv 6 0,(Zpe h k2),aa,aa,aa,aa,aa,aa,aa,aa,aa,aa,aa,aa,aa,aa,aa,aa,aa,aa,aa,aa,aa,aa,aa,aa,aa,aa,aa,aa,aa,aa,aa,aa,aa,aa,aa,aa,aa,aa,aa,aa,aa,aa,aa,aa,aa,aa,aa,aa,aa,aa,aa,aa,aa,aa,aa,aa,aa,aa,(Zpn seq h k2)]
abbrev Zpz:List SV:=[dI (Yz 0 l h).Xq,dS (Yz 0 l h).Y9,.d (dsl false false (kE false) (Yz 0 l h).Xh),.d (dsl false false (Xk false) (Yz 0 l h).Xt)]
abbrev Zq0:List HS:=[(Zoc d l),(Zod l),Zoi,.live (Xf 5 kU8 b),(Zph l seq x b h i k2),(Zp8 x),.live (.box 65 (Zpz l h)),(Zpj l h k2)]
abbrev Zq1:List AV:=[pv 0 0,vI seq,aa,aa,vI h,vI i,aa,aa,aa,aa,aa,aa,pv 2 0,vI (H2 (Yz 0 l h) i),aa,aa,aa,aa,pv 4 0,aa,aa,pv 6 0,(Zpe h k2),aa,aa,slV false false (Xz false) (E9 (Yz 0 l h) i),vI (H2 (Yz 0 l h) i),aa,aa,aa,aa,aa,aa,aa,aa,aa,aa,aa,aa,aa,aa,aa,aa,aa,aa,aa,aa,aa,aa,aa,aa,aa,aa,aa,aa,aa,aa,aa,aa,aa,aa,aa,aa,aa,aa,aa,aa,aa,aa,aa,aa,aa,aa,aa,aa,aa,aa,aa,aa,aa,aa,(Zpn seq h k2),aa,aa,aa,aa,aa,aa,aa,aa,aa,aa,aa,aa,aa,aa,aa,aa,aa,aa,aa,aa,aa,aa,aa,aa,aa,aa,aa,aa,aa,vB (decide ((H2 (Yz 0 l h) i)≠0))]
abbrev Zq2:List AV:=[pv 0 0,vI seq,aa,aa,vI h,vI i,aa,aa,aa,aa,aa,aa,pv 2 0,vI 0,aa,aa,aa,aa,pv 4 0,aa,aa,pv 6 0,(Zpe h k2),aa,aa,slV false false (Xz false) (E9 (Yz 0 l h) i),vI (H2 (Yz 0 l h) i),aa,aa,aa,aa,aa,aa,aa,aa,aa,aa,aa,aa,aa,aa,aa,aa,aa,aa,aa,aa,aa,aa,aa,aa,aa,aa,aa,aa,aa,aa,aa,aa,aa,aa,aa,aa,aa,aa,aa,aa,aa,aa,aa,aa,aa,aa,aa,aa,aa,aa,aa,aa,aa,aa,(Zpn seq h k2),aa,aa,aa,aa,aa,aa,aa,aa,aa,aa,aa,aa,aa,aa,aa,aa,aa,aa,aa,aa,aa,aa,aa,aa,aa,aa,aa,aa,aa,vB (decide ((H2 (Yz 0 l h) i)≠0))]
abbrev Zq3:SV:=dI ((Yz 0 l h).Xh.getD (i).toNat zE).X2
abbrev Zq4:SV:=dU ((Yz 0 l h).Xh.getD (i).toNat zE).X7
abbrev Zq5:SV:=dI ((Yz 0 l h).Xt.getD (i).toNat Yk).Xu
abbrev Zq6:SV:=dI ((Yz 0 l h).Xt.getD (i).toNat Yk).Xl
abbrev Zq7:SV:=.d (dsl false false (Xz false) (E9 (Yz 0 l h) i))
abbrev Zq8:HS:=.live (.box 49 [(Zoy seq),(Zp6 x),(Zoz b),(Zpg l h k2),dI i,(Zq3 l h i),(Zq4 l h i),(Zq5 l h i),(Zq6 l h i),(Zq7 l h i)])
abbrev Zq9:SV:=.d (dsl false false (kE false) x)
abbrev Zqa:St:=⟨(Zq2 l seq h i k2),[(Zoc d l),(Zod l),.live (.box 49 [(Zoy seq),(Zq9 x),(Zoz b),(Zpg l h k2),dI i,(Zq3 l h i),(Zq4 l h i),(Zq5 l h i),(Zq6 l h i),(Zq7 l h i)]),.live (Xf 5 kU8 b),.live (.box 49 [(Zoy seq),(Zq9 x),(Zoz b),(Zpg l h k2),dI i,(Zq3 l h i),(Zq4 l h i),(Zq5 l h i),(Zq6 l h i),(Zq7 l h i)]),.dead,.live (.box 65 (Zpz l h)),(Zpj l h k2)]⟩
abbrev Zqb:HS:=.live (.box 49 [(Zoy seq),(Zq9 x),dU b,(Zpg l h k2),dI i,(Zq3 l h i),(Zq4 l h i),(Zq5 l h i),(Zq6 l h i),(Zq7 l h i)])
abbrev Zqc:St:=⟨(Zq2 l seq h i k2),[(Zoc d l),(Zod l),(Zqb l seq x b h i k2),.dead,(Zqb l seq x b h i k2),.dead,.live (.box 65 (Zpz l h)),(Zpj l h k2)]⟩
abbrev Zqd:List SV:=[(Zoy seq),(Zq9 x),dU b,.d (dsl false false (Xm false) (hdrs (Yz 0 l) h k2)),dI i,(Zq3 l h i),(Zq4 l h i),(Zq5 l h i),(Zq6 l h i),(Zq7 l h i)]
end
theorem Xes (d:List UInt8) (l:List Yi) (seq:Int) (x:List aE) (b:List UInt8) (h:Int) (i:Int) (hl:l.length≤100) (hw:Xbq l) (hx:F9 x) (hb:b.length≤100000000) (hsq:-9223372036854775808≤seq∧seq≤9223372036854775807) (hh:-9223372036854775808≤h∧h≤9223372036854775807) (hi:-9223372036854775808≤i∧i≤9223372036854775807):Holds Tryz.prog 17 ⟨[pv 0 0,vI seq,slV false false (kE false) x,slV false false kU8 b,vI h,vI i],[.box 149 [dI 0,dS d,dB true,.own 1 (Xj false).sz 0 l.length],Xf 152 (Xj false) l],.tup [.agg [dI (Iu (Yz 0 l) l.length seq x b h i).Xg,.d (dsl false false (kE false) (Iu (Yz 0 l) l.length seq x b h i).Xo),dU (Iu (Yz 0 l) l.length seq x b h i).Xc,.d (dsl false false (Xm false) (Iu (Yz 0 l) l.length seq x b h i).X4),dI (Iu (Yz 0 l) l.length seq x b h i).Ji,dI (Iu (Yz 0 l) l.length seq x b h i).Y1.X2,dU (Iu (Yz 0 l) l.length seq x b h i).Y1.X7,dI (Iu (Yz 0 l) l.length seq x b h i).X0.Xu,dI (Iu (Yz 0 l) l.length seq x b h i).X0.Xl,.d (dsl false false (Xz false) (Iu (Yz 0 l) l.length seq x b h i).W4)],.one (dI (X4r (Yz 0 l) l.length seq b h i))],[.live (.box 149 [dI 0,dS d,dB true,.own 1 (Xj false).sz 0 l.length]),.live (Xf 152 (Xj false) l)]⟩:=by
 refine Holds.of Tryz.func17 rfl (N:=129) Tryz.ntmps17 rfl fun w0 B0 S0 U0=>?_
 show T _ (Y5 129 2 w0 S0 U0 B0) ⟨[pv 0 0,vI seq,(Zob x),slV false false kU8 b,vI h,vI i],[(Zoc d l),(Zod l)]⟩ _ _
 have hx1:=hx.1
 have hfw:=fun y=>blk_few hw y
 have hfh:=hfw h
 refine sR [] (T.seq (sR [hR 1 rfl rfl (rCa (X3m false false b ‹_›) Tryz.func50 [] [(.tmp 28,slV false false kU8 b)] 0 0)] ?_))
 by_cases hq1:(unE ((b.length:Nat):Int) b)≠0
 ·have h3:=hq1;have hx9:=Xea (bf:=(Yz 0 l)) (n:=l.length) (seq:=seq) (x:=x) (b:=b) (h:=h) (i:=i) (.inl h3)
  refine sR (Xr (hN · false (dT hq1)) [3,4,5] (hP 6 (dT hq1)::[])) (cT (b:=true) rfl (sR [] (T.ret (rT ?_))))
  refine eN ⟨(Zog seq x b h i),(Zoj d l)⟩ ?_
  refine X8 (s':=⟨(Zog seq x b h i),(Zop d l)⟩) (fun _ _ hG=>Ym (s:=⟨(Zog seq x b h i),(Zoj d l)⟩) ⟨.inl rfl,p2y⟩ p4s hG) ?_
  exact eX [.c 12 2 49 0 49 [dI 0,Zok,Zol,Zom,dI 0,dI 0,Zol,dI 0,dI 0,Zon] (.agg Zoo),.t 13 (.one (dI 12))] ⟨⟨rfl,rfl,by kernel_rfl,by kernel_rfl,.inl ⟨10,Fe,rfl,Nat.le_of_ble_eq_true rfl⟩⟩,⟨⟨rfl,by kernel_rfl⟩,trivial⟩⟩ [0,1] pc (ix (ix trivial))
 have h3:=hq1;have hur:=un_rng h3
 refine sR (Xr (hY · (dF hq1)) [3,4,5] (hP 6 (dF hq1)::[])) ?_
 by_cases hq2:(unH ((b.length:Nat):Int) b)≠seq
 ·have h4:=hq2;have hx9:=Xea (bf:=(Yz 0 l)) (n:=l.length) (seq:=seq) (x:=x) (b:=b) (h:=h) (i:=i) (.inr h4)
  refine cT (dT hq2) (sR [] (T.ret (rT ?_)))
  refine eN ⟨(Zor seq x b h i),(Zoj d l)⟩ ?_
  refine X8 (s':=⟨(Zor seq x b h i),(Zop d l)⟩) (fun _ _ hG=>Ym (s:=⟨(Zor seq x b h i),(Zoj d l)⟩) ⟨.inl rfl,p2y⟩ p4s hG) ?_
  exact eX [.c 12 2 49 0 49 [dI 0,Zok,Zol,Zom,dI 0,dI 0,Zol,dI 0,dI 0,Zon] (.agg Zoo),.t 13 (.one (dI 12))] ⟨⟨rfl,rfl,by kernel_rfl,by kernel_rfl,.inl ⟨10,Fe,rfl,Nat.le_of_ble_eq_true rfl⟩⟩,⟨⟨rfl,by kernel_rfl⟩,trivial⟩⟩ [0,1] pc (ix (ix trivial))
 have h4:=hq2; 
 refine cF (dF hq2) (T.skip (nT (T.seq ?_)))
 by_cases hq3:h<1
 ·have hx9:=Xcg (bf:=(Yz 0 l)) (n:=l.length) (seq:=seq) (x:=x) (b:=b) (h:=h) (i:=i) h3 h4 (by omega)
  refine sR (Xr (hN · false (dT hq3)) [3,4,5] (hP 6 (dT hq3)::(Xr hN0 [8,9,10,11] (hP1 12::[])))) (cT (b:=true) rfl (sR [] (T.ret (rT ?_))))
  refine eN ⟨(Zos seq x b h i),(Zoj d l)⟩ ?_
  refine X8 (s':=⟨(Zos seq x b h i),(Zop d l)⟩) (fun _ _ hG=>Ym (s:=⟨(Zos seq x b h i),(Zoj d l)⟩) ⟨.inl rfl,(kk2 (kk4 X7c))⟩ p4s hG) ?_
  exact eX [.c 12 2 49 0 49 [dI 0,Zok,Zol,Zom,dI 0,dI 0,Zol,dI 0,dI 0,Zon] (.agg Zoo),.t 13 (Zot)] ⟨⟨rfl,rfl,by kernel_rfl,by kernel_rfl,.inl ⟨10,Fe,rfl,Nat.le_of_ble_eq_true rfl⟩⟩,⟨⟨rfl,by kernel_rfl⟩,trivial⟩⟩ [0,1] pc (ix (ix trivial))
 by_cases hq4:h>seq
 ·have hx9:=Xcg (bf:=(Yz 0 l)) (n:=l.length) (seq:=seq) (x:=x) (b:=b) (h:=h) (i:=i) h3 h4 (by omega)
  refine sR (Xr (hY · (dF hq3)) [3,4,5] (hP 6 (dF hq3)::(Xr (hN · false (dT hq4)) [8,9,10,11] (hP 12 (dT hq4)::[])))) (cT (b:=true) rfl (sR [] (T.ret (rT ?_))))
  refine eN ⟨(Zos seq x b h i),(Zoj d l)⟩ ?_
  refine X8 (s':=⟨(Zos seq x b h i),(Zop d l)⟩) (fun _ _ hG=>Ym (s:=⟨(Zos seq x b h i),(Zoj d l)⟩) ⟨.inl rfl,(kk2 (kk4 X7c))⟩ p4s hG) ?_
  exact eX [.c 12 2 49 0 49 [dI 0,Zok,Zol,Zom,dI 0,dI 0,Zol,dI 0,dI 0,Zon] (.agg Zoo),.t 13 (Zot)] ⟨⟨rfl,rfl,by kernel_rfl,by kernel_rfl,.inl ⟨10,Fe,rfl,Nat.le_of_ble_eq_true rfl⟩⟩,⟨⟨rfl,by kernel_rfl⟩,trivial⟩⟩ [0,1] pc (ix (ix trivial))
 refine sR (Xr (hY · (dF hq3)) [3,4,5] (hP 6 (dF hq3)::(hY 8 (dF hq4)::(hY 9 (dF hq4)::(hS 10 (oY rfl rfl rfl rfl (X3 rfl) (dF hq4) (Yg (u1:=.int .i64 seq) (u2:=.int .i64 h) (v:=.int .i64 (seq-h)) (Uu pb) (X3 rfl) p1s))::(hY 11 (dF hq4)::(hP 12 (dF hq4)::[]))))))) ?_
 by_cases hq5:(seq-h)>999
 ·have hx9:=Xcg (bf:=(Yz 0 l)) (n:=l.length) (seq:=seq) (x:=x) (b:=b) (h:=h) (i:=i) h3 h4 (by omega)
  refine cT (dT hq5) (sR [] (T.ret (rT ?_)))
  refine eN ⟨(Zov seq x b h i),(Zoj d l)⟩ ?_
  refine X8 (s':=⟨(Zov seq x b h i),(Zop d l)⟩) (fun _ _ hG=>Ym (s:=⟨(Zov seq x b h i),(Zoj d l)⟩) ⟨.inl rfl,(kk2 (kk4 X7c))⟩ p4s hG) ?_
  exact eX [.c 12 2 49 0 49 [dI 0,Zok,Zol,Zom,dI 0,dI 0,Zol,dI 0,dI 0,Zon] (.agg Zoo),.t 13 (Zot)] ⟨⟨rfl,rfl,by kernel_rfl,by kernel_rfl,.inl ⟨10,Fe,rfl,Nat.le_of_ble_eq_true rfl⟩⟩,⟨⟨rfl,by kernel_rfl⟩,trivial⟩⟩ [0,1] pc (ix (ix trivial))
 have h5:¬(h<1∨h>seq∨seq-h>999):=(by omega)
 refine cF (dF hq5) (T.skip (nT (sR [hR 2 rfl rfl (rCa (E1 false false b (by omega)) Tryz.func51 [3] [(.tmp 57,slV false false kU8 b)] 0 1)] (T.seq (sR [] (T.block ?_))))))
 refine tN ⟨(Zox seq x b h i),[(Zoc d l),(Zod l),Zoi,.live (Xf 5 kU8 b),.live (.box 49 [(Zoy seq),Zoh,(Zoz b),Zoh,dI i,dI 0,Zoh,dI 0,dI 0,Zoh])]⟩ ?_
 refine Wr (s':=⟨(Zox seq x b h i),(Zp0 d l seq b i)⟩) (fun _ _ hG=>J6 5 4 1 43 (kE false) (Tb:=49) (cs:=[(Zoy seq),Zoh,(Zoz b),Zoh,dI i,dI 0,Zoh,dI 0,dI 0,Zoh]) rfl rfl rfl hG) ?_
 refine T.loop (ι:=Nat) (fun (k:Nat)=>⟨(Zp1 seq x b h i k),(Zp2 d l seq x b i k)⟩) (fun (k:Nat)=>(k≤x.length)) (fun (k:Nat)=>x.length-k) (0) (Nat.zero_le _) (fun _ _ hG=>Yp [0,1,2,3,4,5] (bm 64 16158916562517389375) (h2:=(Zp0 d l seq b i)) rfl (cg2 (fun (q1:Nat) (q2:List aE)=>([(Zoc d l),(Zod l),Zoi,.live (Xf 5 kU8 b),.live (.box 49 [(Zoy seq),.own 5 (kE false).sz 0 q1,(Zoz b),Zoh,dI i,dI 0,Zoh,dI 0,dI 0,Zoh]),.live (Xf 43 (kE false) q2)]:List HS)) (by rfl) (by rfl)) hG) ?_
 rintro k hk
 show T _ _ ⟨(Zp1 seq x b h i k),(Zp2 d l seq x b i k)⟩ _ _
 replace hk:k≤x.length:=hk
 have htk:(x.take k).length=k:=p1r
 refine sR [] (T.seq ?_)
 by_cases hq6:((k:Nat):Int)<((x.length:Nat):Int)
 ·have hgk:=Fr hx (k:=k) (by omega);have hgk1:=hgk.1.1;have hgk2:=hgk.1.2;have hgk3:=hgk.2
  refine cT (dT hq6) (T.skip (nT (T.seq (T.block (sR [hR 0 rfl rfl (W9 false false (kE false) x k (k:=.i64) (i:=((k:Nat):Int)) Tryz.underlying37 Wy rfl rfl (by omega) (X3 rfl) trivial)] (sR [hR 2 rfl rfl (rCa (E1 false false (x.getD k zE).X7 (by omega)) Tryz.func51 [7] [(.tmp 68,slV false false kU8 (x.getD k zE).X7)] 0 1)] ?_))))))
  refine xR [hR 3 rfl rfl (Ug 0 73 7 5 kU8 (x.getD k zE).X7 (av:=.tv (.agg [dI (x.getD k zE).X2,.own 7 kU8.sz 0 (x.getD k zE).X7.length])) (Ye 8 43 (kE false) (Yt false) [(x.getD k zE)] [⟨0,.tmp 73,.agg [dI (x.getD k zE).X2,dU (x.getD k zE).X7],0⟩] (cs:=[dI (x.getD k zE).X2,dU (x.getD k zE).X7]) Tryz.underlying37 Wy rfl H8 rfl rfl rfl pd (Yq rfl rfl pd W5) pZ8 (V6 pZ8) (X3 rfl) trivial) rfl p52 p2g rfl rfl),hR 4 rfl rfl (W0 5 9 43 32 (kE false) (Yt false) (x.take k) [(x.getD k zE)] ((x.take k)++[(x.getD k zE)]) (x.take k).length (sy:=(.own 8 (kE false).sz 0 [(x.getD k zE)].length)) (rhs:=[(8,.live (Xf 43 (kE false) [(x.getD k zE)]))]) Hh (by omega) (V0 8 43 (kE false) [(x.getD k zE)]) I7 (by (simp [maxLen,-List.getD_eq_getElem?_getD]<;>omega)) (by (simp [maxLen,-List.getD_eq_getElem?_getD]<;>omega)) (X3 rfl) trivial)] pZ8 pZ8 ?_
  refine nB (nT (xK [hR 0 rfl rfl (Yg (u1:=.int .i64 ((k:Nat):Int)) (u2:=.int .i64 1) (v:=.int .i64 ((k+1:Nat):Int)) (W8 pb) (X3 rfl) ⟨rfl,trivial⟩)] ?_))
  refine nL (k+1) (show (k+1)≤x.length from (by omega)) (show (x.length-(k+1):Nat)<x.length-k from (by omega)) (fun _ _ hG=>Wi [0,1,2,3,4,9] (bm 64 16158916562517389375) (h1:=[(Zoc d l),(Zod l),Zoi,.live (Xf 5 kU8 b),.live (.box 49 [(Zoy seq),.own 9 (kE false).sz 0 (x.take (k+1)).length,(Zoz b),Zoh,dI i,dI 0,Zoh,dI 0,dI 0,Zoh]),.live (Xf 43 (kE false) (x.take (k+1)))]) (h2:=[(Zoc d l),(Zod l),Zoi,.live (Xf 5 kU8 b),.live (.box 49 [(Zoy seq),.own 9 (kE false).sz 0 ((x.take k)++[(x.getD k zE)]).length,(Zoz b),Zoh,dI i,dI 0,Zoh,dI 0,dI 0,Zoh]),.live (Xf 43 (kE false) ((x.take k)++[(x.getD k zE)]))]) (t1:=(Zp4 seq x b h i k)) rfl (by have e1:((x.take (k+1)).length:Nat)=((x.take k)++[(x.getD k zE)]).length:=p42;have e2:((x.take (k+1)):List aE)=(x.take k)++[(x.getD k zE)]:=p42;have hE:=congr (congrArg (fun (q1:Nat) (q2:List aE)=>([(Zoc d l),(Zod l),Zoi,.live (Xf 5 kU8 b),.live (.box 49 [(Zoy seq),.own 9 (kE false).sz 0 q1,(Zoz b),Zoh,dI i,dI 0,Zoh,dI 0,dI 0,Zoh]),.live (Xf 43 (kE false) q2)]:List HS)) e1) e2;exact hE) hG)
 refine cF (dF hq6) (T.exit (xT (xT (xH (nT ?_)))))
 refine tN ⟨[pv 0 0,vI seq,(Zob x),slV false false kU8 b,vI h,vI i,aa,aa,aa,aa,aa,aa,pv 2 0,vI 0,(Zoe b),aa,aa,(Zof b),pv 4 0,aa,aa,aa,aa,aa,aa,aa,aa,aa,aa,aa,aa,aa,aa,aa,aa,aa,aa,aa,aa,aa,(Zoq seq b),aa,aa,aa,aa,aa,aa,aa,aa,aa,aa,aa,aa,aa,(Zou seq h),aa,aa,aa,aa,aa,aa,(Zob x),(Zow x),vI ((k:Nat):Int),vB (decide (((k:Nat):Int)<((x.length:Nat):Int)))],(Zp2 d l seq x b i k)⟩ ?_
 refine Wr (s':=⟨(Zp5 seq h i),[(Zoc d l),(Zod l),Zoi,.live (Xf 5 kU8 b),(Zp7 seq x b i),(Zp8 x)]⟩) (fun _ _ hG=>Yp [0,1,2,3,4,5] (bm 19 266291) (h2:=(Zp2 d l seq x b i k)) rfl (by have e1:(x.length:Nat)=(x.take k).length:=p1i;have e2:(x:List aE)=(x.take k):=p1i;have hE:=congr (congrArg (fun (q1:Nat) (q2:List aE)=>([(Zoc d l),(Zod l),Zoi,.live (Xf 5 kU8 b),.live (.box 49 [(Zoy seq),.own 5 (kE false).sz 0 q1,(Zoz b),Zoh,dI i,dI 0,Zoh,dI 0,dI 0,Zoh]),.live (Xf 43 (kE false) q2)]:List HS)) e1) e2;exact hE) hG) (sR [] (T.seq (sR [] (T.block ?_))))
 refine tN ⟨(Zp9 seq h i),[(Zoc d l),(Zod l),Zoi,.live (Xf 5 kU8 b),(Zp7 seq x b i),(Zp8 x),Zpa]⟩ ?_
 refine Wr (s':=⟨(Zp9 seq h i),[(Zoc d l),(Zod l),Zoi,.live (Xf 5 kU8 b),(Zpb seq x b i),(Zp8 x),Zpa,Zpc]⟩) (fun _ _ hG=>J6 7 4 3 69 (Xm false) (Tb:=49) (cs:=[(Zoy seq),(Zp6 x),(Zoz b),Zoh,dI i,dI 0,Zoh,dI 0,dI 0,Zoh]) rfl rfl rfl hG) ?_
 refine Wr (s':=⟨(Zp9 seq h i),[(Zoc d l),(Zod l),Zoi,.live (Xf 5 kU8 b),(Zpb seq x b i),(Zp8 x),Zpd,Zpc]⟩) (fun _ _ hG=>Ym (s:=⟨(Zp9 seq h i),[(Zoc d l),(Zod l),Zoi,.live (Xf 5 kU8 b),(Zpb seq x b i),(Zp8 x),Zpa,Zpc]⟩) ⟨.inl rfl,p3l⟩ (kk2 (kk4 ⟨p4k,⟨.inl rfl,trivial⟩⟩)) hG) ?_
 refine T.loop (ι:=Nat) (fun (k2:Nat)=>⟨(Zpf seq h i k2),(Zpk d l seq x b h i k2)⟩) (fun (k2:Nat)=>(((k2:Nat):Int)≤seq-h+1)∧(k2=0∨h+((k2:Nat):Int)≤((l.length:Nat):Int)+1)) (fun (k2:Nat)=>(seq-h+1).toNat-k2) (0) ⟨(show ((0:Nat):Int)≤seq-h+1 from (by omega)),(show 0=0∨h+((0:Nat):Int)≤((l.length:Nat):Int)+1 from (.inl rfl))⟩ (fun _ _ hG=>Yp [0,1,2,3,4,5,6,7] (bm 23 6557747) (t2:=(Zp9 seq h i)) (h2:=[(Zoc d l),(Zod l),Zoi,.live (Xf 5 kU8 b),(Zpb seq x b i),(Zp8 x),Zpd,Zpc]) p1u (cg6 (fun (q1:Nat) (q2:Int) (q3:List UInt8) (q4:List aE) (q5:List Y4) (q6:List Yh)=>([(Zoc d l),(Zod l),Zoi,.live (Xf 5 kU8 b),.live (.box 49 [(Zoy seq),(Zp6 x),(Zoz b),.own 7 (Xm false).sz 0 q1,dI i,dI 0,Zoh,dI 0,dI 0,Zoh]),(Zp8 x),.live (.box 65 [dI q2,dS q3,.d (dsl false false (kE false) q4),.d (dsl false false (Xk false) q5)]),.live (Xf 69 (Xm false) q6)]:List HS)) (by rfl) (by rfl) (by rfl) (by rfl) (by rfl) (by rfl)) hG) ?_
 rintro k2 ⟨hk2,hb2⟩
 show T _ _ ⟨(Zpf seq h i k2),(Zpk d l seq x b h i k2)⟩ _ _
 replace hk2:((k2:Nat):Int)≤seq-h+1:=hk2
 replace hb2:k2=0∨h+((k2:Nat):Int)≤((l.length:Nat):Int)+1:=hb2
 have hhl:=Xf2 (Yz 0 l) h k2
 have hfk:=hfw (h+((k2:Nat):Int))
 refine T.seq (sR [] ?_)
 by_cases hq7:(h+((k2:Nat):Int))≤seq
 ·have hks:h+((k2:Nat):Int)≤seq:=(by omega)
  refine cT (dT hq7) (T.skip (nT (T.seq (T.block (sR [hR 2 rfl rfl (rCa (Xcw 0 d l (h+((k2:Nat):Int)) (by omega) ‹_› ‹_›) Tryz.func52 [0,1] [(.tmp 85,pv 0 0),(.tmp 86,(Zpe h k2))] 2 2)] (T.seq (sR [] ?_)))))))
  by_cases hq8:(Xa3 0 l.length (h+((k2:Nat):Int)))≠0
  ·have hx9:=prv_none (bf:=(Yz 0 l)) (n:=l.length) (seq:=seq) (x:=x) (b:=b) (h:=h) (i:=i) h3 h4 h5 (by have h9:=blk_out hq8 (by omega);omega)
   refine cT (dT hq8) (sR [] (T.ret (rT (rB (rT (rT (rB (rT ?_))))))))
   refine eN ⟨(Zpo l seq h i k2),[(Zoc d l),(Zod l),Zoi,.live (Xf 5 kU8 b),(Zph l seq x b h i k2),(Zp8 x),(Zpi l h k2),(Zpj l h k2),.live (.box 65 (Zpp l h k2))]⟩ ?_
   refine X8 (s':=⟨(Zpo l seq h i k2),[(Zoc d l),(Zod l),.live (.box 49 Zoo),.live (Xf 5 kU8 b),(Zph l seq x b h i k2),(Zp8 x),(Zpi l h k2),(Zpj l h k2),.live (.box 65 (Zpp l h k2))]⟩) (fun _ _ hG=>Ym (s:=⟨(Zpo l seq h i k2),[(Zoc d l),(Zod l),Zoi,.live (Xf 5 kU8 b),(Zph l seq x b h i k2),(Zp8 x),(Zpi l h k2),(Zpj l h k2),.live (.box 65 (Zpp l h k2))]⟩) (kk4 (kk8 (X05 p1w))) (kk2 ⟨pZl,p4x⟩) hG) ?_
   exact eX [.c 12 2 49 0 49 [dI 0,Zok,Zol,Zom,dI 0,dI 0,Zol,dI 0,dI 0,Zon] (.agg Zoo),.t 13 (.one (dI 4))] ⟨⟨rfl,rfl,by kernel_rfl,by kernel_rfl,.inl ⟨10,Fe,rfl,Nat.le_of_ble_eq_true rfl⟩⟩,⟨⟨rfl,by kernel_rfl⟩,trivial⟩⟩ [0,1] pc (ix (ix trivial))
  have hbi:=blk_in hq8
  refine cF (dF hq8) (T.skip (nT (T.seq (sR [] ?_))))
  by_cases hq9:(h+((k2:Nat):Int))=h
  ·have hfr:=frs_0 (bf:=(Yz 0 l)) hq9
   refine cT (dT hq9) (xK [] (nT ?_))
   refine xD [[],[0],[],[2],[2,3],[0,1,2,3,4],[0,1,2,3,4,5],[0,1,2,3,4,5,6]] [hR 3 rfl rfl (rCa (X14 false (Yz 0 l (h+((k2:Nat):Int))) ‹_›) Tryz.func53 [] [(.tmp 99,.tv (.agg (Zpp l h k2)))] 0 0),hR 4 rfl rfl (Ye 9 69 (Xm false) (Ui false) [(V2 (Yz 0 l (h+((k2:Nat):Int))))] [⟨0,.tmp 100,(Zpr l h k2),0⟩] (cs:=[dI (Zpq l h k2).Xq,dS (Zpq l h k2).Y9,dI (Zpq l h k2).Yl,dS (Zpq l h k2).Wf]) Tryz.underlying41 H1 rfl Xc1 rfl rfl rfl pd (Yq rfl rfl pd W5) pZ8 (V6 pZ8) (X3 rfl) trivial),hR 5 rfl rfl (W0 7 10 69 48 (Xm false) (Ui false) (hdrs (Yz 0 l) h k2) [(V2 (Yz 0 l (h+((k2:Nat):Int))))] ((hdrs (Yz 0 l) h k2)++[(V2 (Yz 0 l (h+((k2:Nat):Int))))]) (hdrs (Yz 0 l) h k2).length (sy:=(.own 9 (Xm false).sz 0 [(Zpq l h k2)].length)) (rhs:=[(9,.live (Xf 69 (Xm false) [(Zpq l h k2)]))]) X80 (by omega) (V0 9 69 (Xm false) [(V2 (Yz 0 l (h+((k2:Nat):Int))))]) I7 (by (simp [maxLen,-List.getD_eq_getElem?_getD]<;>omega)) (by (simp [maxLen,-List.getD_eq_getElem?_getD]<;>omega)) (X3 rfl) trivial)] pZ8 pZ8 pZ8 pZ8 pZ8 pZ8 ?_
   refine nB (nT (xK [hR 1 rfl rfl (Yg (u1:=.int .i64 (h+((k2:Nat):Int))) (u2:=.int .i64 1) (v:=.int .i64 ((h+((k2:Nat):Int))+1)) (W8 pb) (X3 rfl) ⟨rfl,trivial⟩)] ?_))
   refine nL (k2+1) ⟨(show (((k2+1):Nat):Int)≤seq-h+1 from (by omega)),(show (k2+1)=0∨h+(((k2+1):Nat):Int)≤((l.length:Nat):Int)+1 from (.inr (by omega)))⟩ (show ((seq-h+1).toNat-(k2+1):Nat)<(seq-h+1).toNat-k2 from (by omega)) (fun _ _ hG=>Wi [0,1,2,3,4,5,6,10] (bm 23 6557747) (t1:=(Zps seq h i k2)) (t2:=(Zpv seq h i k2)) (h1:=(Zpw d l seq x b h i k2)) (h2:=[(Zoc d l),(Zod l),Zoi,.live (Xf 5 kU8 b),(Zpx l seq x b h i k2),(Zp8 x),.live (.box 65 (Zpp l h k2)),.live (Xf 69 (Xm false) ((hdrs (Yz 0 l) h k2)++[(Zpq l h k2)]))]) p1u (by have e1:((hdrs (Yz 0 l) h (k2+1)).length:Nat)=((hdrs (Yz 0 l) h k2)++[(V2 (Yz 0 l (h+((k2:Nat):Int))))]).length:=(by (rw [X2z]));have e2:((Hf (Yz 0 l) h (k2+1)).Xq:Int)=(Yz 0 l (h+((k2:Nat):Int))).Xq:=p4t;have e3:((Hf (Yz 0 l) h (k2+1)).Y9:List UInt8)=(Yz 0 l (h+((k2:Nat):Int))).Y9:=p4t;have e4:((Hf (Yz 0 l) h (k2+1)).Xh:List aE)=(Yz 0 l (h+((k2:Nat):Int))).Xh:=p4t;have e5:((Hf (Yz 0 l) h (k2+1)).Xt:List Y4)=(Yz 0 l (h+((k2:Nat):Int))).Xt:=p4t;have e6:((hdrs (Yz 0 l) h (k2+1)):List Yh)=(hdrs (Yz 0 l) h k2)++[(V2 (Yz 0 l (h+((k2:Nat):Int))))]:=(by (rw [X2z]));have hE:=congr p1b e6;exact hE) hG)
  have hfr:=frs_s (bf:=(Yz 0 l)) hq9
  refine cF (dF hq9) (T.skip (nT ?_))
  refine xD [[],[0],[],[2],[2,3],[0,1,2,3,4],[0,1,2,3,4,5],[0,1,2,3,4,5,6]] [hR 3 rfl rfl (rCa (X14 false (Yz 0 l (h+((k2:Nat):Int))) ‹_›) Tryz.func53 [] [(.tmp 99,.tv (.agg (Zpp l h k2)))] 0 0),hR 4 rfl rfl (Ye 9 69 (Xm false) (Ui false) [(V2 (Yz 0 l (h+((k2:Nat):Int))))] [⟨0,.tmp 100,(Zpr l h k2),0⟩] (cs:=[dI (Zpq l h k2).Xq,dS (Zpq l h k2).Y9,dI (Zpq l h k2).Yl,dS (Zpq l h k2).Wf]) Tryz.underlying41 H1 rfl Xc1 rfl rfl rfl pd (Yq rfl rfl pd W5) pZ8 (V6 pZ8) (X3 rfl) trivial),hR 5 rfl rfl (W0 7 10 69 48 (Xm false) (Ui false) (hdrs (Yz 0 l) h k2) [(V2 (Yz 0 l (h+((k2:Nat):Int))))] ((hdrs (Yz 0 l) h k2)++[(V2 (Yz 0 l (h+((k2:Nat):Int))))]) (hdrs (Yz 0 l) h k2).length (sy:=(.own 9 (Xm false).sz 0 [(Zpq l h k2)].length)) (rhs:=[(9,.live (Xf 69 (Xm false) [(Zpq l h k2)]))]) X80 (by omega) (V0 9 69 (Xm false) [(V2 (Yz 0 l (h+((k2:Nat):Int))))]) I7 (by (simp [maxLen,-List.getD_eq_getElem?_getD]<;>omega)) (by (simp [maxLen,-List.getD_eq_getElem?_getD]<;>omega)) (X3 rfl) trivial)] pZ8 pZ8 pZ8 pZ8 pZ8 pZ8 ?_
  refine nB (nT (xK [hR 1 rfl rfl (Yg (u1:=.int .i64 (h+((k2:Nat):Int))) (u2:=.int .i64 1) (v:=.int .i64 ((h+((k2:Nat):Int))+1)) (W8 pb) (X3 rfl) ⟨rfl,trivial⟩)] ?_))
  refine nL (k2+1) ⟨(show (((k2+1):Nat):Int)≤seq-h+1 from (by omega)),(show (k2+1)=0∨h+(((k2+1):Nat):Int)≤((l.length:Nat):Int)+1 from (.inr (by omega)))⟩ (show ((seq-h+1).toNat-(k2+1):Nat)<(seq-h+1).toNat-k2 from (by omega)) (fun _ _ hG=>Wi [0,1,2,3,4,5,6,10] (bm 23 6557747) (t1:=(Zps seq h i k2)) (t2:=(Zpv seq h i k2)) (h1:=(Zpw d l seq x b h i k2)) (h2:=[(Zoc d l),(Zod l),Zoi,.live (Xf 5 kU8 b),(Zpx l seq x b h i k2),(Zp8 x),(Zpi l h k2),.live (Xf 69 (Xm false) ((hdrs (Yz 0 l) h k2)++[(Zpq l h k2)]))]) p1u (by have e1:((hdrs (Yz 0 l) h (k2+1)).length:Nat)=((hdrs (Yz 0 l) h k2)++[(V2 (Yz 0 l (h+((k2:Nat):Int))))]).length:=(by (rw [X2z]));have e2:((Hf (Yz 0 l) h (k2+1)).Xq:Int)=(Hf (Yz 0 l) h k2).Xq:=p4t;have e3:((Hf (Yz 0 l) h (k2+1)).Y9:List UInt8)=(Hf (Yz 0 l) h k2).Y9:=p4t;have e4:((Hf (Yz 0 l) h (k2+1)).Xh:List aE)=(Hf (Yz 0 l) h k2).Xh:=p4t;have e5:((Hf (Yz 0 l) h (k2+1)).Xt:List Y4)=(Hf (Yz 0 l) h k2).Xt:=p4t;have e6:((hdrs (Yz 0 l) h (k2+1)):List Yh)=(hdrs (Yz 0 l) h k2)++[(V2 (Yz 0 l (h+((k2:Nat):Int))))]:=(by (rw [X2z]));have hE:=congr p1b e6;exact hE) hG)
 have hkn:((k2:Nat):Int)=seq-h+1:=(by omega);have h6:¬seq>((l.length:Nat):Int):=(by omega)
 refine cF (dF hq7) (T.exit (xT (xT (xH (nT ?_)))))
 refine tN ⟨(Zpy seq h i k2),(Zpk d l seq x b h i k2)⟩ ?_
 refine Wr (s':=⟨(Zpy seq h i k2),(Zq0 d l seq x b h i k2)⟩) (fun _ _ hG=>Yp [0,1,2,3,4,5,6,7] (bm 82 2417851639229258355970099) (h2:=(Zpk d l seq x b h i k2)) rfl (by have e1:((Yz 0 l h).Xq:Int)=(Hf (Yz 0 l) h k2).Xq:=p4w;have e2:((Yz 0 l h).Y9:List UInt8)=(Hf (Yz 0 l) h k2).Y9:=p4w;have e3:((Yz 0 l h).Xh:List aE)=(Hf (Yz 0 l) h k2).Xh:=p4w;have e4:((Yz 0 l h).Xt:List Y4)=(Hf (Yz 0 l) h k2).Xt:=p4w;have hE:=congr (congr (congr (congrArg (fun (q1:Int) (q2:List UInt8) (q3:List aE) (q4:List Y4)=>([(Zoc d l),(Zod l),Zoi,.live (Xf 5 kU8 b),(Zph l seq x b h i k2),(Zp8 x),.live (.box 65 [dI q1,dS q2,.d (dsl false false (kE false) q3),.d (dsl false false (Xk false) q4)]),(Zpj l h k2)]:List HS)) e1) e2) e3) e4;exact hE) hG) ?_
 refine sR [hR 2 rfl rfl (rCa (Xft false (Yz 0 l h) i ‹_›) Tryz.func54 [] [(.tmp 105,.tv (.agg (Zpz l h))),(.tmp 106,vI i)] 0 0)] (T.seq (sR [] ?_))
 by_cases hq10:(H2 (Yz 0 l h) i)≠0
 ·have hx9:=prv_err (bf:=(Yz 0 l)) (n:=l.length) (seq:=seq) (x:=x) (b:=b) (h:=h) (i:=i) h3 h4 h5 h6 hq10
  refine cT (dT hq10) (sR [] (T.ret (rT ?_)))
  refine eN ⟨(Zq1 l seq h i k2),(Zq0 d l seq x b h i k2)⟩ ?_
  refine X8 (s':=⟨(Zq1 l seq h i k2),[(Zoc d l),(Zod l),.live (.box 49 Zoo),.live (Xf 5 kU8 b),(Zph l seq x b h i k2),(Zp8 x),.live (.box 65 (Zpz l h)),(Zpj l h k2)]⟩) (fun _ _ hG=>Ym (s:=⟨(Zq1 l seq h i k2),(Zq0 d l seq x b h i k2)⟩) p4f (kk2 ⟨pZl,⟨.inl rfl,(kk4 trivial)⟩⟩) hG) ?_
  exact eX [.c 12 2 49 0 49 [dI 0,Zok,Zol,Zom,dI 0,dI 0,Zol,dI 0,dI 0,Zon] (.agg Zoo),.t 13 (.one (dI (H2 (Yz 0 l h) i)))] ⟨⟨rfl,rfl,by kernel_rfl,by kernel_rfl,.inl ⟨10,Fe,rfl,Nat.le_of_ble_eq_true rfl⟩⟩,⟨⟨rfl,by kernel_rfl⟩,trivial⟩⟩ [0,1] pc (ix (ix trivial))
 have hx9:=prv_ok (bf:=(Yz 0 l)) (n:=l.length) (seq:=seq) (x:=x) (b:=b) (h:=h) (i:=i) h3 h4 h5 h6 hq10 hkn;obtain ⟨p1,p2,p3,p4,p5,p6,p7⟩:=Xii (hfw h) (Classical.not_not.1 hq10)
 refine cF (dF hq10) (T.skip (nT ?_))
 refine sD [[],[],[1],[],[1,2,3],[1,2,3,4],[],[6],[],[6,7,8],[6,7,8,9],[0],[0,11],[0,1,2,3,4,5,11,12],[0,1,2,3,4,5,11,12,13],[0,1,2,3,4,5,6,7,8,9,10,11,12,13,14],[0,1,2,3,4,5,6,7,8,9,10,11,12,13,14,15]] [hR 4 rfl rfl (W9 false false (kE false) (Yz 0 l h).Xh (i).toNat (k:=.i64) (i:=i) Tryz.underlying37 Wy rfl (by omega) (by omega) (X3 rfl) trivial),hR 9 rfl rfl (W9 false false (Xk false) (Yz 0 l h).Xt (i).toNat (k:=.i64) (i:=i) Tryz.underlying63 X0v rfl (by omega) (by omega) (X3 rfl) trivial)] (sR [] (T.ret ?_))
 refine eN ⟨(Zq2 l seq h i k2),[(Zoc d l),(Zod l),(Zq8 l seq x b h i k2),.live (Xf 5 kU8 b),(Zq8 l seq x b h i k2),(Zp8 x),.live (.box 65 (Zpz l h)),(Zpj l h k2)]⟩ ?_
 refine X8 (s':=(Zqa d l seq x b h i k2)) (fun _ _ hG=>Gs.freeze (s:=⟨(Zq2 l seq h i k2),[(Zoc d l),(Zod l),(Zq8 l seq x b h i k2),.live (Xf 5 kU8 b),(Zq8 l seq x b h i k2),(Zp8 x),.live (.box 65 (Zpz l h)),(Zpj l h k2)]⟩) 5 (el:=W6 (kE false) x) (sz:=(kE false).sz) (n:=x.length) rfl p4f ⟨pZ5,⟨pZ5,⟨p50,⟨pZ5,⟨p50,⟨(.inl ⟨rfl,rfl⟩),⟨pZ5,⟨pZ5,trivial⟩⟩⟩⟩⟩⟩⟩⟩ hG) ?_
 refine eN (Zqa d l seq x b h i k2) ?_
 refine X8 (s':=(Zqc d l seq x b h i k2)) (fun _ _ hG=>Gs.freeze (s:=(Zqa d l seq x b h i k2)) 3 (el:=W6 kU8 b) (sz:=kU8.sz) (n:=b.length) rfl p4f ⟨pZ5,⟨pZ5,⟨p39,⟨(.inl ⟨rfl,rfl⟩),⟨p39,⟨pZ5,⟨pZ5,⟨pZ5,trivial⟩⟩⟩⟩⟩⟩⟩⟩ hG) ?_
 refine eN (Zqc d l seq x b h i k2) ?_
 refine X8 (s':=⟨(Zq2 l seq h i k2),[(Zoc d l),(Zod l),.live (.box 49 (Zqd l seq x b h i k2)),.dead,.live (.box 49 (Zqd l seq x b h i k2)),.dead,.live (.box 65 (Zpz l h)),.dead]⟩) (fun _ _ hG=>Gs.freeze (s:=(Zqc d l seq x b h i k2)) 7 (el:=W6 (Xm false) (hdrs (Yz 0 l) h k2)) (sz:=(Xm false).sz) (n:=(hdrs (Yz 0 l) h k2).length) rfl p4f ⟨pZ5,⟨pZ5,⟨pr,⟨pZ5,⟨pr,⟨pZ5,⟨pZ5,⟨(.inl ⟨rfl,rfl⟩),trivial⟩⟩⟩⟩⟩⟩⟩⟩ hG) ?_
 exact eX [.c 12 2 49 0 49 [(Zoy seq),(Zq9 x),dU b,.d (dsl false false (Xm false) (hdrs (Yz 0 l) h k2)),dI i,(Zq3 l h i),(Zq4 l h i),(Zq5 l h i),(Zq6 l h i),(Zq7 l h i)] (.agg (Zqd l seq x b h i k2)),.t 13 (.one (dI 0))] ⟨⟨rfl,rfl,by kernel_rfl,by kernel_rfl,.inl ⟨10,Fe,rfl,Nat.le_of_ble_eq_true rfl⟩⟩,⟨⟨rfl,by kernel_rfl⟩,trivial⟩⟩ [0,1] pc (ix (ix trivial))
section
variable (d:List UInt8) (L:List Xs) (seq:Int) (x:List aE) (b:List UInt8) (h:Int) (i:Int) (k2:Nat)
end
end Go.Proofs.YtnaopgohccacmaaGreat.Q
namespace Go.Proofs.YtnaopgohccacmaaGreat.Q
set_option linter.unusedVariables false
set_option linter.unusedSimpArgs false
set_option maxRecDepth 100000
abbrev d9:List UInt8:=ofB 6 ([]:List (List UInt8))
theorem dig_len9 {b:Xs} (h:Fb b):(E0 (V2 b)).length≤b.Y9.length+26000:=by
  have h2:=J2 (Jh h)
  have h3:(V2 b).Wf.length≤25400:=h2
  have h4:(V2 b).Y9=b.Y9:=rfl
  unfold E0
  rw [X0q,sz4,Wt,Wt,h4]
  omega
theorem at_snoc9 (d:List UInt8) (L:List Xs) (b:Xs):atB d (L++[b]) (L++[b]).length=E0 (V2 b):=by
  unfold atB
  rw [if_neg (by simp),List.length_append,List.getD_eq_getElem?_getD,List.getElem?_append_right (by simp)]
  simp
def Il (i n:Nat):List aE:=(List.range n).map fun (k:Nat)=>⟨((1000+k:Nat):Int),[UInt8.ofNat i,UInt8.ofNat k]⟩
def Ik (i n:Nat):List Y4:=(List.range n).map fun (k:Nat)=>⟨0,((i+k:Nat):Int)⟩
theorem X8q (i n:Nat):Il i (n+1)=Il i n++[⟨((1000+n:Nat):Int),[UInt8.ofNat i,UInt8.ofNat n]⟩]:=by unfold Il;rw [List.range_succ,List.map_append];rfl
theorem X8p (i n:Nat):Ik i (n+1)=Ik i n++[⟨0,((i+n:Nat):Int)⟩]:=by unfold Ik;rw [List.range_succ,List.map_append];rfl
theorem X5s (i n:Nat):(Il i n).length=n:=by unfold Il;rw [List.length_map,List.length_range]
theorem X5r (i n:Nat):(Ik i n).length=n:=by unfold Ik;rw [List.length_map,List.length_range]
def Uw (b:Int):Int:=(Int.tmod b 5+5) % 5
theorem X33 (b:Int):0≤Uw b∧Uw b≤4:=by
  unfold Uw
  have h1:=Int.emod_nonneg (Int.tmod b 5+5) (b:=5) (by decide)
  have h2:=Int.emod_lt_of_pos (Int.tmod b 5+5) (b:=5) (by decide)
  omega
theorem tmod5 (a:Int):-5<a.tmod 5∧a.tmod 5<5:=by
  rcases Int.le_total 0 a with h|h
  · rw [Int.tmod_eq_emod_of_nonneg h];omega
  · have e:a.tmod 5=-((-a).tmod 5):=by rw [Int.neg_tmod,Int.neg_neg]
    rw [e,Int.tmod_eq_emod_of_nonneg (by omega)];omega
def Jy (L:List Xs) (i n:Nat):Xs:=⟨((i+1:Nat):Int),atB d9 L L.length,Il i n,Ik i n⟩
def Wl (bs:List Int):Nat→List Xs
  | 0=>[]
  | i+1=>Wl bs i++[Jy (Wl bs i) i (Uw (bs.getD i 0)).toNat]
theorem X2f (bs:List Int):∀ i,(Wl bs i).length=i
  | 0=>rfl
  | i+1=>by rw [Wl,List.length_append,X2f bs i];rfl
theorem X6f {L:List Xs} {i n:Nat} (hn:n≤4) (hL:(atB d9 L L.length).length≤10000000):Fb (Jy L i n):=by
  refine ⟨⟨by rw [show (Jy L i n).Xh=Il i n from rfl,X5s];omega,fun e he=>?_⟩,by rw [show (Jy L i n).Xt=Ik i n from rfl,X5r];omega,hL⟩
  obtain ⟨k,_,rfl⟩:=List.mem_map.1 he
  show (2:Nat)≤500
  decide
theorem blk_chk9 {L:List Xs} {i n:Nat} (hn:n≤4) (hi:i≤1000000):Vx (Jy L i n)=0:=by
  have h1:(Jy L i n).Xh.length=n:=X5s i n
  have h2:(Jy L i n).Xt.length=n:=X5r i n
  have h3:(Jy L i n).Xq=((i+1:Nat):Int):=rfl
  unfold Vx
  rw [h1,h2,h3,if_neg (by omega),if_neg (by omega)]
theorem X34 (bs:List Int):∀ i,i≤100→(atB d9 (Wl bs i) (Wl bs i).length).length≤5000+26000*i∧X72 (Wl bs i)
  | 0,_=>⟨by show (ofB 6 ([]:List (List UInt8))).length≤_;decide +kernel,fun b hb=>by cases hb⟩
  | i+1,hi=>by
    obtain ⟨h1,h2⟩:=X34 bs i (by omega)
    have hc:=X33 (bs.getD i 0)
    have hf:Fb (Jy (Wl bs i) i (Uw (bs.getD i 0)).toNat):=X6f (by omega) (by omega)
    refine ⟨?_,fun b hb=>?_⟩
    · rw [Wl,at_snoc9]
      have h3:=dig_len9 hf
      have h4:(Jy (Wl bs i) i (Uw (bs.getD i 0)).toNat).Y9=atB d9 (Wl bs i) (Wl bs i).length:=rfl
      rw [h4] at h3
      omega
    · rw [Wl] at hb
      rcases List.mem_append.1 hb with hb|hb
      · exact h2 b hb
      · rw [List.mem_singleton] at hb;rw [hb];exact hf
theorem Xh7 (L:List Xs) (b:Xs):W3 (L++[b])=W3 L++[lnk b]:=by unfold W3;rw [List.map_append];rfl
theorem app_chn9 {bs:List Int} {i:Nat} (hi:i≤100):X16 0 d9 (W3 (Wl bs i)) (Jy (Wl bs i) i (Uw (bs.getD i 0)).toNat)=W3 (Wl bs (i+1))∧Hc 0 d9 (Wl bs i) (Jy (Wl bs i) i (Uw (bs.getD i 0)).toNat)=Wl bs (i+1):=by
  have hc:=X33 (bs.getD i 0)
  have hl:=X2f bs i
  have h1:¬Vx (Jy (Wl bs i) i (Uw (bs.getD i 0)).toNat)≠0:=fun q=>q (blk_chk9 (by omega) (by omega))
  have h2:(Jy (Wl bs i) i (Uw (bs.getD i 0)).toNat).Xq=((i+1:Nat):Int):=rfl
  refine ⟨?_,(X7s h1 (by rw [h2,hl];omega) (fun q=>q rfl)).2⟩
  rw [(Xaa h1 (by rw [h2,Id,hl];omega) (by rw [X9i];exact fun q=>q rfl)).2,Wl,Xh7]
abbrev chL (c:Yc):List Xs:=Wl c.Xn c.Xn.length
def Fc (c:Yc):List UInt8:=X3k ((c.Xn.length:Nat):Int) (atB d9 (chL c) (chL c).length) c.F0
def Xim:List UInt8:=[97,110,111,116,104,101,114,32,111,110,101]
def ckD9 (c:Yc):List UInt8:=if c.X31=true then Xim else ofB 7 [Fc c]
def Un (c:Yc):aM:=⟨5,0,max 1 ((c.Xn.length:Nat):Int),0,0,ckD9 c,[],Yk,[],[],[]⟩
def votE9 (c:Yc) (s:Int):aE:=⟨s,Vh (Un c)⟩
def Ib (c:Yc) (k:Nat):List aE:=(c.Xv.take k).map (votE9 c)
def Hv (f u:Int) (c:Yc):Nat→List aE
  | 0=>[]
  | k+1=>Vg f u (Hv f u c k) (c.Xv.getD k 0) (Vh (Un c))
theorem Xay {c:Yc} {k:Nat} (hk:k<c.Xv.length):Ib c (k+1)=Ib c k++[votE9 c (c.Xv.getD k 0)]:=by unfold Ib;rw [Ic (z:=0) hk,List.map_append];rfl
theorem vot_len9 {c:Yc} {k:Nat} (hk:k≤c.Xv.length):(Ib c k).length=k:=by unfold Ib;rw [List.length_map,List.length_take];omega
theorem Xfw (f u:Int) (c:Yc):∀ k,(Hv f u c k).length≤k
  | 0=>Nat.le_refl _
  | k+1=>by have:=X2r f u (Hv f u c k) (c.Xv.getD k 0) (Vh (Un c));have:=Xfw f u c k;rw [Hv];omega
def F8 (c:Yc):Prop:=c.Xn.length≤20∧c.F0.length≤500∧c.Xv.length≤12
instance (c:Yc):Decidable (F8 c):=inferInstanceAs (Decidable (_∧_∧_))
theorem X57 {c:Yc} (h:F8 c):(Fc c).length≤600000:=by
  have h1:(atB d9 (chL c) (chL c).length).length≤5000+26000*c.Xn.length:=(X34 c.Xn c.Xn.length (by have:=h.1;omega)).1
  have h2:=h.1
  have h3:=h.2.1
  unfold Fc
  rw [pack_len]
  omega
theorem Xfl {c:Yc} (h:F8 c):(ckD9 c).length≤700000:=by
  unfold ckD9
  split
  · decide
  · rw [X0q]
    have h1:=X57 h
    show 5+(4+(Fc c).length)≤_
    omega
theorem Xfk {c:Yc} (h:F8 c):(Ya (Un c) 9).length≤800000:=by
  have e:=X10 (Un c)
  have e1:(Un c).X6=ckD9 c:=rfl
  have e2:(Un c).Xc=[]:=rfl
  have e3:(Vd (Un c).Xa).length=4:=rfl
  have e4:(Vd (Un c).Xw).length=4:=rfl
  have e5:(Hs (Un c).X5).length=4:=rfl
  rw [e1,e2,e3,e4,e5,List.length_nil] at e
  have:=Xfl h
  omega
theorem Xfm {c:Yc} (h:F8 c):(Vh (Un c)).length≤800000:=by
  unfold Vh
  split
  · exact Xfk h
  · simp
def rngW (c:Yc):Prop:=∀ s,s∈c.Xv→X0w s
theorem Xhy {c:Yc} (h:F8 c) (hr:rngW c) {k:Nat}:F9 (Ib c k):=⟨by
  unfold Ib;rw [List.length_map,List.length_take];have:=h.2.2;omega,fun e he=>by
  obtain ⟨s,hs,rfl⟩:=List.mem_map.1 he
  exact ⟨hr s (List.mem_of_mem_take hs),Nat.le_trans (Xfm h) (by decide)⟩⟩
end Go.Proofs.YtnaopgohccacmaaGreat.Q
namespace Go.Proofs.YtnaopgohccacmaaGreat.Q
open Go Go.RowKit
set_option linter.unusedVariables false
set_option linter.unusedSimpArgs false
set_option maxRecDepth 100000
set_option maxHeartbeats 4000000
theorem iat_39:Tryz.prog.info? 39=some Tryz.t39:=by kernel_rfl
theorem wide_39:Wide Tryz.prog 39 (some 6):=⟨_,_,Tryz.underlying39,.inl ⟨_,rfl⟩,iat_39,rfl⟩
section
variable (x:V5) (c:Yc) (k:Nat) (k2:Nat) (k3:Nat)
abbrev Zrn:List SV:=[.d (dsl false false (U5 .i64) c.Xn),dU c.F0,.d (dsl false false (U5 .i64) c.Xv),dB c.X31]
abbrev Zro:AV:=vI ((k:Nat):Int)
abbrev Zrp:SV:=dI (cOf x.Xx)
abbrev Zrq:HS:=.live (.box 130 [dI (3*(fOf x.V8)+1),(Zrp x),.mref 1])
abbrev Zrr:HS:=.live (mpK Xi Y8 ([]:List (Yb×Bool)))
abbrev Zrs:SV:=dI (fOf x.V8)
abbrev Zrt:HS:=.live (.box 135 [dB true,(Zrs x),(Zrp x),.own 3 (kE false).sz 0 ([]:List aE).length])
abbrev Zru:HS:=.live (Xf 43 (kE false) ([]:List aE))
abbrev Zrv:=(ofB 6 ([]:List (List UInt8)))
abbrev Zrw:SV:=dS Zrv
abbrev Zrx:HS:=.live (.box 149 [dI 0,Zrw,dB true,.own 5 (Xj false).sz 0 (W3 (Wl c.Xn k)).length])
abbrev Zry:HS:=.live (Xf 152 (Xj false) (W3 (Wl c.Xn k)))
abbrev Zrz:HS:=.live (.box 106 [dB true,dI 0,Zrw,.own 7 (Xy false).sz 0 (Wl c.Xn k).length])
abbrev Zs0:HS:=.live (Xf 65 (Xy false) (Wl c.Xn k))
abbrev Zs1:HS:=.live (.box 27 (Zrn c))
abbrev Zs2:SV:=.d (.val (.pointer none))
abbrev Zs3:SV:=.d (.val (.slice none 0 0))
abbrev Zs4:HS:=.live (.box 39 [Zs2,Zs2,Zs2,Zs2,Zs3,Zs3])
abbrev Zs5:HS:=.live (.box 39 [.ptr 0 0,.ptr 2 0,.ptr 4 0,.ptr 6 0,Zs3,Zs3])
abbrev Zs6:List HS:=[(Zrq x),Zrr,(Zrt x),Zru,(Zrx c k),(Zry c k),(Zrz c k),(Zs0 c k),(Zs1 c),Zs4,Zs5]
abbrev Zs7:HS:=.live (.box 130 [dI (3*(fOf x.V8)+1),(Zrp x),.mref 4])
abbrev Zs8:HS:=.live (.box 135 [dB true,(Zrs x),(Zrp x),.own 6 (kE false).sz 0 ([]:List aE).length])
abbrev Zs9:HS:=.live (.box 39 [.ptr 3 0,.ptr 5 0,.ptr 7 0,.ptr 9 0,Zs3,Zs3])
abbrev Zsa:List AV:=[aa,aa,aa,pv 8 0,pv 9 0,pv 10 0,(Zro k),pv 11 0,vI 0,aa,aa,aa,aa,aa,aa,aa,aa,aa,aa,aa,aa,aa,aa,aa,aa,aa,aa,aa,aa,aa,vB (decide (((k:Nat):Int)<((c.Xn.length:Nat):Int)))]
abbrev Zsb:SV:=dI ((k+1:Nat):Int)
abbrev Zsc:SV:=dS (atB Zrv (Wl c.Xn k) (Wl c.Xn k).length)
abbrev Zsd:SV:=.own 12 (kE false).sz 0 0
abbrev Zse:List HS:=[(Zrq x),Zrr,(Zrt x),Zru,(Zrx c k),(Zry c k),(Zrz c k),(Zs0 c k),(Zs1 c),Zs4,Zs5,.live (.box 65 [(Zsb k),(Zsc c k),Zsd,.own 13 (Xk false).sz 0 0]),Zru,.live (Xf 46 (Xk false) ([]:List Y4))]
abbrev Zsf:List AV:=[aa,aa,aa,pv 8 0,pv 9 0,pv 10 0,(Zro k),pv 11 0,vI ((k2:Nat):Int)]
abbrev Zsg:SV:=dI (Jy (Wl c.Xn k) k 0).Xq
abbrev Zsh:SV:=dS (Jy (Wl c.Xn k) k 0).Y9
abbrev Zsi:List HS:=[(Zrq x),Zrr,(Zrt x),Zru,(Zrx c k),(Zry c k),(Zrz c k),(Zs0 c k),(Zs1 c),Zs4,Zs5,.live (.box 65 [(Zsg c k),(Zsh c k),.own 12 (kE false).sz 0 (Il k k2).length,.own 13 (Xk false).sz 0 (Ik k k2).length]),.live (Xf 43 (kE false) (Il k k2)),.live (Xf 46 (Xk false) (Ik k k2))]
abbrev Zsl:=(aE.mk ((1000+k2:Nat):Int) [(UInt8.ofNat k),(UInt8.ofNat k2)])
abbrev Zsm:=(Y4.mk 0 ((k+k2:Nat):Int))
abbrev Zsn:List AV:=[aa,aa,aa,pv 8 0,pv 9 0,pv 10 0,(Zro k),pv 11 0,vI ((k2+1:Nat):Int)]
abbrev Zso:List AV:=[aa,aa,aa,pv 8 0,pv 9 0,pv 10 0,(Zro k),pv 11 0,vI ((k2:Nat):Int),aa,aa,aa,aa,aa,aa,aa,aa,aa,aa,aa,aa,aa,aa,aa,aa,aa,aa,aa,aa,aa,aa,aa,aa,aa,aa,aa,aa,aa,aa,aa,aa,aa,aa,aa,aa,aa,aa,aa,vB (decide (((k2:Nat):Int)<(((Int.tmod (c.Xn.getD k 0) 5)+5) % 5)))]
abbrev Zsp:=(Jy (Wl c.Xn k) k (Uw (c.Xn.getD k 0)).toNat)
abbrev Zsq:List HS:=[(Zrq x),Zrr,(Zrt x),Zru,(Zrx c k),(Zry c k),(Zrz c k),(Zs0 c k),(Zs1 c),Zs4,Zs5,.live (.box 65 [dI (Zsp c k).Xq,dS (Zsp c k).Y9,.own 12 (kE false).sz 0 (Zsp c k).Xh.length,.own 13 (Xk false).sz 0 (Zsp c k).Xt.length]),.live (Xf 43 (kE false) (Zsp c k).Xh),.live (Xf 46 (Xk false) (Zsp c k).Xt)]
abbrev Zsr:St:=⟨(Zso c k k2),[(Zrq x),Zrr,(Zrt x),Zru,(Zrx c k),(Zry c k),(Zrz c k),(Zs0 c k),(Zs1 c),Zs4,Zs5,.live (.box 65 [dI (Zsp c k).Xq,dS (Zsp c k).Y9,.d (dsl false false (kE false) (Zsp c k).Xh),.own 13 (Xk false).sz 0 (Zsp c k).Xt.length]),.dead,.live (Xf 46 (Xk false) (Zsp c k).Xt)]⟩
abbrev Zss:List SV:=[dI (Zsp c k).Xq,dS (Zsp c k).Y9,.d (dsl false false (kE false) (Zsp c k).Xh),.d (dsl false false (Xk false) (Zsp c k).Xt)]
abbrev Zst:List AV:=[aa,aa,aa,pv 8 0,pv 9 0,pv 10 0,vI ((k+1:Nat):Int)]
abbrev Zsu:List AV:=[aa,aa,aa,pv 8 0,pv 9 0,pv 10 0]
abbrev Zsv:=(Wl c.Xn c.Xn.length)
abbrev Zsw:HS:=.live (.box 149 [dI 0,Zrw,dB true,.own 5 (Xj false).sz 0 (W3 (Zsv c)).length])
abbrev Zsx:HS:=.live (Xf 152 (Xj false) (W3 (Zsv c)))
abbrev Zsy:HS:=.live (.box 106 [dB true,dI 0,Zrw,.own 7 (Xy false).sz 0 (Zsv c).length])
abbrev Zsz:HS:=.live (Xf 65 (Xy false) (Zsv c))
abbrev Zt0:List HS:=[(Zrq x),Zrr,(Zrt x),Zru,(Zsw c),(Zsx c),(Zsy c),(Zsz c),(Zs1 c),Zs4,Zs5]
abbrev Zt1:List AV:=[aa,aa,aa,pv 8 0,pv 9 0,pv 10 0,aa,aa,aa,vI (0+(((Zsv c).length:Nat):Int))]
abbrev Zt2:List HS:=[(Zrq x),Zrr,(Zrt x),Zru,(Zsw c),(Zsx c),(Zsy c),(Zsz c),(Zs1 c),Zs4,.live (.box 39 [.ptr 0 0,.ptr 2 0,.ptr 4 0,.ptr 6 0,.own 11 kU8.sz 0 (X3k (0+(((Zsv c).length:Nat):Int)) (atB Zrv (Zsv c) (Zsv c).length) c.F0).length,Zs3]),.live (Xf 5 kU8 (X3k (0+(((Zsv c).length:Nat):Int)) (atB Zrv (Zsv c) (Zsv c).length) c.F0))]
abbrev Zt3:AV:=vI ((c.Xn.length:Nat):Int)
abbrev Zt4:List AV:=[aa,aa,aa,pv 8 0,pv 9 0,pv 10 0,aa,aa,aa,(Zt3 c)]
abbrev Zt5:List HS:=[(Zrq x),Zrr,(Zrt x),Zru,(Zsw c),(Zsx c),(Zsy c),(Zsz c),(Zs1 c),Zs4,.live (.box 39 [.ptr 0 0,.ptr 2 0,.ptr 4 0,.ptr 6 0,.own 11 kU8.sz 0 (Fc c).length,Zs3]),.live (Xf 5 kU8 (Fc c))]
abbrev Zt6:SV:=dU (Fc c)
abbrev Zt7:HS:=.live (.box 39 [.ptr 0 0,.ptr 2 0,.ptr 4 0,.ptr 6 0,(Zt6 c),Zs3])
abbrev Zt8:List AV:=[aa,aa,aa,pv 8 0,pv 9 0,pv 10 0,aa,aa,aa,(Zt3 c),pv 12 0,aa,aa,aa,aa,aa,aa,aa,aa,aa,aa,aa,aa,aa,aa,aa,aa,aa,aa,aa,aa,aa,aa,aa,aa,aa,aa,aa,aa,aa,aa,aa,aa,aa,aa,aa,aa,aa,aa,aa,aa,aa,aa,aa,aa,aa,aa,aa,aa,aa,aa,aa,aa,aa,aa,aa,aa,aa,aa,aa,aa,aa,aa,aa,aa,aa,aa,aa,aa,aa,aa,aa,aa,aa,aa,aa,aa,aa,aa,aa,aa,aa,aa,aa,aa,aa,aa,aa,aa,vB c.X31]
abbrev Zt9:List SV:=[dI (Un c).X1,dI (Un c).Xb,dI (Un c).Xg,dI (Un c).Xe,dI (Un c).Y3,dS (Un c).X6,dU (Un c).Xc,dI (Un c).X0.Xu,dI (Un c).X0.Xl,.d (dsl false false (kE false) (Un c).Xa),.d (dsl false false (kE false) (Un c).Xw),.d (dsl false false (kC false) (Un c).X5)]
abbrev Zta:HS:=.live (.box 78 (Zt9 c))
abbrev Ztb:List HS:=[(Zrq x),Zrr,(Zrt x),Zru,(Zsw c),(Zsx c),(Zsy c),(Zsz c),(Zs1 c),Zs4,(Zt7 c),.dead,(Zta c)]
abbrev Ztc:SV:=dI (max 1 ((c.Xn.length:Nat):Int))
abbrev Ztd:St:=⟨(Zt8 c),[(Zrq x),Zrr,(Zrt x),Zru,(Zsw c),(Zsx c),(Zsy c),(Zsz c),(Zs1 c),Zs4,(Zt7 c),.dead,.live (.box 78 [dI 5,dI 0,(Ztc c),dI 0,dI 0,dS [97,110,111,116,104,101,114,32,111,110,101],Zs3,dI 0,dI 0,Zs3,Zs3,Zs3])]⟩
abbrev Zte:SV:=.d (dsl false false (kE false) ([]:List aE))
abbrev Ztf:List HS:=[(Zrq x),Zrr,(Zrt x),Zru,(Zsw c),(Zsx c),(Zsy c),(Zsz c),(Zs1 c),Zs4,(Zt7 c),.dead,.live (.box 78 [dI 5,dI 0,(Ztc c),dI 0,dI 0,dS [97,110,111,116,104,101,114,32,111,110,101],dU ([]:List UInt8),dI 0,dI 0,Zte,Zte,.d (dsl false false (kC false) ([]:List aC))])]
abbrev Ztg:St:=⟨(Zt8 c),[(Zrq x),Zrr,(Zrt x),Zru,(Zsw c),(Zsx c),(Zsy c),(Zsz c),(Zs1 c),Zs4,(Zt7 c),.dead,.live (.box 78 [dI 5,dI 0,(Ztc c),dI 0,dI 0,dS (ofB 7 [(Fc c)]),Zs3,dI 0,dI 0,Zs3,Zs3,Zs3])]⟩
abbrev Zth:List HS:=[(Zrq x),Zrr,(Zrt x),Zru,(Zsw c),(Zsx c),(Zsy c),(Zsz c),(Zs1 c),Zs4,(Zt7 c),.dead,.live (.box 78 [dI 5,dI 0,(Ztc c),dI 0,dI 0,dS (ofB 7 [(Fc c)]),dU ([]:List UInt8),dI 0,dI 0,Zte,Zte,.d (dsl false false (kC false) ([]:List aC))])]
abbrev Zti:List AV:=[aa,aa,aa,pv 8 0,pv 9 0,pv 10 0,aa,aa,aa,(Zt3 c),pv 12 0,vI 0,aa,aa,aa,aa,aa,aa,aa,aa,aa,aa,aa,aa,aa,aa,aa,aa,aa,aa,aa,aa,aa,aa,aa,aa,aa,aa,aa,aa,aa,aa,aa,aa,aa,aa,aa,aa,aa,aa,aa,aa,aa,aa,aa,aa,aa,aa,aa,aa,aa,aa,aa,aa,aa,aa,aa,aa,aa,aa,aa,aa,aa,aa,aa,aa,aa,aa,aa,aa,aa,aa,aa,aa,aa,aa,aa,aa,aa,aa,aa,aa,aa,aa,aa,aa,aa,aa,aa,vB c.X31]
abbrev Ztj:HS:=.live (.box 39 [.ptr 0 0,.ptr 2 0,.ptr 4 0,.ptr 6 0,(Zt6 c),.own 13 (kE false).sz 0 0])
abbrev Ztk:=(Hv (fOf x.V8) (cOf x.Xx) c k3)
abbrev Ztl:HS:=.live (.box 135 [dB true,(Zrs x),(Zrp x),.own 3 (kE false).sz 0 (Ztk x c k3).length])
abbrev Ztm:HS:=.live (.box 39 [.ptr 0 0,.ptr 2 0,.ptr 4 0,.ptr 6 0,(Zt6 c),.own 12 (kE false).sz 0 (Ib c k3).length])
abbrev Ztn:St:=⟨[aa,aa,aa,pv 8 0,pv 9 0,pv 10 0,aa,aa,aa,aa,pv 11 0,vI ((k3:Nat):Int)],[(Zrq x),.live (mpK Xi Y8 (Vr (Ztk x c k3))),(Ztl x c k3),.live (Xf 43 (kE false) (Ztk x c k3)),(Zsw c),(Zsx c),(Zsy c),(Zsz c),(Zs1 c),Zs4,(Ztm c k3),(Zta c),.live (Xf 43 (kE false) (Ib c k3))]⟩
abbrev Zto:=(Hv (fOf x.V8) (cOf x.Xx) c 0)
abbrev Ztp:=(aE.mk (c.Xv.getD k3 0) (Vh (Un c)))
abbrev Ztq:List AV:=[aa,aa,aa,pv 8 0,pv 9 0,pv 10 0,aa,aa,aa,aa,pv 11 0,vI ((k3+1:Nat):Int)]
abbrev Ztr:=(Hv (fOf x.V8) (cOf x.Xx) c (k3+1))
abbrev Zts:List AV:=[aa,aa,aa,pv 8 0,pv 9 0,pv 10 0,aa,aa,aa,aa,pv 11 0,vI ((k3:Nat):Int),aa,aa,aa,aa,aa,aa,aa,aa,aa,aa,aa,aa,aa,aa,aa,aa,aa,aa,aa,aa,aa,aa,aa,aa,aa,aa,aa,aa,aa,aa,aa,aa,aa,aa,aa,aa,aa,aa,aa,aa,aa,aa,aa,aa,aa,aa,aa,aa,aa,aa,aa,aa,aa,aa,aa,aa,aa,aa,aa,aa,aa,aa,aa,aa,aa,aa,aa,aa,aa,aa,aa,aa,aa,aa,aa,aa,aa,aa,aa,aa,aa,aa,aa,aa,aa,aa,aa,aa,aa,aa,aa,aa,aa,vB (decide (((k3:Nat):Int)<((c.Xv.length:Nat):Int)))]
abbrev Ztt:St:=⟨(Zts c k3),[(Zrq x),.live (mpK Xi Y8 (Vr (Ztk x c k3))),(Ztl x c k3),.live (Xf 43 (kE false) (Ztk x c k3)),(Zsw c),(Zsx c),(Zsy c),(Zsz c),(Zs1 c),(Ztm c k3),(Ztm c k3),(Zta c),.live (Xf 43 (kE false) (Ib c k3))]⟩
abbrev Ztu:List SV:=[.ptr 0 0,.ptr 2 0,.ptr 4 0,.ptr 6 0,(Zt6 c),.d (dsl false false (kE false) (Ib c k3))]
end
theorem Xex (x:V5) (c:Yc) (hs:F8 c) (hr:rngW c):Holds Tryz.prog 10 ⟨[.tv (.agg [dI x.V8,dI x.Xx]),.tv (.agg [.d (dsl false false (U5 .i64) c.Xn),dU c.F0,.d (dsl false false (U5 .i64) c.Xv),dB c.X31])],[],.tv (.agg [.ptr 0 0,.ptr 2 0,.ptr 4 0,.ptr 6 0,dU (Fc c),.d (dsl false false (kE false) (Ib c c.Xv.length))]),[.live (.box 130 [dI (3*(fOf x.V8)+1),dI (cOf x.Xx),.mref 1]),.live (mpK Xi Y8 (Vr (Hv (fOf x.V8) (cOf x.Xx) c c.Xv.length))),.live (.box 135 [dB true,dI (fOf x.V8),dI (cOf x.Xx),.own 3 (kE false).sz 0 (Hv (fOf x.V8) (cOf x.Xx) c c.Xv.length).length]),.live (Xf 43 (kE false) (Hv (fOf x.V8) (cOf x.Xx) c c.Xv.length)),.live (.box 149 [dI 0,dS (ofB 6 ([]:List (List UInt8))),dB true,.own 5 (Xj false).sz 0 (W3 (Wl c.Xn c.Xn.length)).length]),.live (Xf 152 (Xj false) (W3 (Wl c.Xn c.Xn.length))),.live (.box 106 [dB true,dI 0,dS (ofB 6 ([]:List (List UInt8))),.own 7 (Xy false).sz 0 (Wl c.Xn c.Xn.length).length]),.live (Xf 65 (Xy false) (Wl c.Xn c.Xn.length))]⟩:=by
 refine Holds.of Tryz.func10 rfl (N:=137) Tryz.ntmps10 rfl fun w0 B0 S0 U0=>?_
 show T _ (Y5 137 0 w0 S0 U0 B0) ⟨[.tv (.agg [dI x.V8,dI x.Xx]),.tv (.agg (Zrn c))],[]⟩ _ _
 have hfx:=Xhf x.V8
 have hux:=Xho x.Xx
 obtain ⟨hs1,hs2,hs3⟩:=hs
 have hsm:F8 c:=⟨hs1,hs2,hs3⟩
 have hdl:=X57 hsm
 have hml:=Xfk hsm
 have hbl:=Xfm hsm
 have hcdl:=Xfl hsm
 have ok1:(Ya (Un c) 9).length≤10000000:=(by omega)
 have ok2:(Un c).Xa.length≤1:=Nat.zero_le _
 have ok3:(Un c).Xw.length≤1:=Nat.zero_le _
 have ok4:(Un c).X5.length≤1:=Nat.zero_le _
 have ok5:(Un c).Xc.length≤1:=Nat.zero_le _
 have ok6:(Un c).X6.length≤1000000:=Nat.le_trans hcdl (by decide)
 refine sR [] ?_
 refine sD [[],[0],[],[2],[0,1,2,3],[],[5],[],[7],[0,1,2,3,4,5,6,7,8],[0,1,2,3,4,5,6,7,8,9],[0,1,2,3,4,5,6,7,8,9,10],[0,1,2,3,4,5,6,7,8,9,10,11],[],[0,1,2,3,4,5,6,7,8,9,10,11,12,13]] [hR 4 rfl rfl (rCa (Xl4 x.V8 x.Xx ) Tryz.func34 [3,4] [(.tmp 14,vI x.V8),(.tmp 16,vI x.Xx)] 0 2),hR 9 rfl rfl (rCa (Xk1 x.V8 x.Xx ) Tryz.func35 [5,6] [(.tmp 19,vI x.V8),(.tmp 21,vI x.Xx)] 0 2),hR 10 rfl rfl (rCa (Xh9  ) Tryz.func36 [7,8] [] 0 2),hR 11 rfl rfl (rCa (Xk0  ) Tryz.func37 [9,10] [] 0 2)] (T.seq (sR [] (T.block ?_)))
 refine T.loop (ι:=Nat) (fun (k:Nat)=>⟨[aa,aa,aa,pv 8 0,pv 9 0,pv 10 0,(Zro k)],(Zs6 x c k)⟩) (fun (k:Nat)=>(k≤c.Xn.length)) (fun (k:Nat)=>c.Xn.length-k) (0) (Nat.zero_le _) (fun _ _ hG=>Wi [3,4,5,6,7,8,9,10,1,2,11] (bm 7 120) (h1:=[(Zs7 x),Zrr,(Zs8 x),Zru,.live (.box 149 [dI 0,Zrw,dB true,.own 8 (Xj false).sz 0 (W3 (Wl c.Xn 0)).length]),.live (Xf 152 (Xj false) (W3 (Wl c.Xn 0))),.live (.box 106 [dB true,dI 0,Zrw,.own 10 (Xy false).sz 0 (Wl c.Xn 0).length]),.live (Xf 65 (Xy false) (Wl c.Xn 0)),(Zs1 c),Zs4,Zs9]) (h2:=[(Zs7 x),Zrr,(Zs8 x),Zru,.live (.box 149 [dI 0,Zrw,dB true,.own 8 (Xj false).sz 0 ([]:List Yi).length]),.live (Xf 152 (Xj false) ([]:List Yi)),.live (.box 106 [dB true,dI 0,Zrw,.own 10 (Xy false).sz 0 ([]:List Xs).length]),.live (Xf 65 (Xy false) ([]:List Xs)),(Zs1 c),Zs4,Zs9]) (t1:=[aa,aa,aa,pv 1 0,pv 2 0,pv 11 0,vI 0]) rfl (cg4 (fun (q1:Nat) (q2:List Yi) (q3:Nat) (q4:List Xs)=>([(Zs7 x),Zrr,(Zs8 x),Zru,.live (.box 149 [dI 0,Zrw,dB true,.own 8 (Xj false).sz 0 q1]),.live (Xf 152 (Xj false) q2),.live (.box 106 [dB true,dI 0,Zrw,.own 10 (Xy false).sz 0 q3]),.live (Xf 65 (Xy false) q4),(Zs1 c),Zs4,Zs9]:List HS)) (by rfl) (by rfl) (by rfl) (by rfl)) hG) ?_
 rintro k hk
 show T _ _ ⟨[aa,aa,aa,pv 8 0,pv 9 0,pv 10 0,(Zro k)],(Zs6 x c k)⟩ _ _
 replace hk:k≤c.Xn.length:=hk
 have hcl:=X2f c.Xn k
 have hco:=X34 c.Xn k (by omega)
 have hco1:=hco.1
 have hco2:=hco.2
 have hll:=Id (Wl c.Xn k)
 have hlk:=Xbi hco2
 have hcb:=X33 (c.Xn.getD k 0)
 have ht5:=tmod5 (c.Xn.getD k 0)
 refine T.seq (sR [] ?_)
 by_cases hq1:((k:Nat):Int)<((c.Xn.length:Nat):Int)
 ·refine cT (dT hq1) (T.skip (nT (T.seq (T.block (sR [hR 1 rfl rfl (Yg (u1:=.int .i64 ((k:Nat):Int)) (u2:=.int .i64 1) (v:=.int .i64 ((k+1:Nat):Int)) (W8 pb) (X3 rfl) ⟨rfl,trivial⟩),hR 4 rfl rfl (rCa (X3y 0 (ofB 6 ([]:List (List UInt8))) (Wl c.Xn k) (by omega) (by omega) (by omega)) Tryz.func38 [6,7] [(.tmp 36,pv 6 0)] 2 2)] (T.seq (sR [] (T.block ?_))))))))
  refine tN ⟨(Zsa c k),[(Zrq x),Zrr,(Zrt x),Zru,(Zrx c k),(Zry c k),(Zrz c k),(Zs0 c k),(Zs1 c),Zs4,Zs5,.live (.box 65 [(Zsb k),(Zsc c k),Zs3,Zs3])]⟩ ?_
  refine Wr (s':=⟨(Zsa c k),[(Zrq x),Zrr,(Zrt x),Zru,(Zrx c k),(Zry c k),(Zrz c k),(Zs0 c k),(Zs1 c),Zs4,Zs5,.live (.box 65 [(Zsb k),(Zsc c k),Zsd,Zs3]),Zru]⟩) (fun _ _ hG=>J6 12 11 2 43 (kE false) (Tb:=65) (cs:=[(Zsb k),(Zsc c k),Zs3,Zs3]) rfl rfl rfl hG) ?_
  refine Wr (s':=⟨(Zsa c k),(Zse x c k)⟩) (fun _ _ hG=>J6 13 11 3 46 (Xk false) (Tb:=65) (cs:=[(Zsb k),(Zsc c k),Zsd,Zs3]) rfl rfl rfl hG) ?_
  refine T.loop (ι:=Nat) (fun (k2:Nat)=>⟨(Zsf k k2),(Zsi x c k k2)⟩) (fun (k2:Nat)=>(((k2:Nat):Int)≤Uw (c.Xn.getD k 0))) (fun (k2:Nat)=>(Uw (c.Xn.getD k 0)).toNat-k2) (0) (by omega) (fun _ _ hG=>Yp [0,1,2,3,4,5,6,7,8,9,10,11,12,13] (bm 9 504) (h2:=(Zse x c k)) rfl (cg6 (fun (q1:Int) (q2:List UInt8) (q3:Nat) (q4:Nat) (q5:List aE) (q6:List Y4)=>([(Zrq x),Zrr,(Zrt x),Zru,(Zrx c k),(Zry c k),(Zrz c k),(Zs0 c k),(Zs1 c),Zs4,Zs5,.live (.box 65 [dI q1,dS q2,.own 12 (kE false).sz 0 q3,.own 13 (Xk false).sz 0 q4]),.live (Xf 43 (kE false) q5),.live (Xf 46 (Xk false) q6)]:List HS)) (by rfl) (by rfl) (by rfl) (by rfl) (by rfl) (by rfl)) hG) ?_
  rintro k2 hk2
  show T _ _ ⟨(Zsf k k2),(Zsi x c k k2)⟩ _ _
  replace hk2:((k2:Nat):Int)≤Uw (c.Xn.getD k 0):=hk2
  have hrl:=X5s k k2
  have hsl:=X5r k k2
  have hcb:=X33 (c.Xn.getD k 0)
  have ht5:=tmod5 (c.Xn.getD k 0)
  refine T.seq (sR [hR 4 rfl rfl (W9 false false (U5 .i64) c.Xn k (k:=.i64) (i:=((k:Nat):Int)) Tryz.underlying24 X19 rfl rfl (by omega) (X3 rfl) trivial),hR 6 rfl rfl (Yg (u1:=.int .i64 (c.Xn.getD k 0)) (u2:=.int .i64 5) (v:=.int .i64 (Int.tmod (c.Xn.getD k 0) 5)) (Xfu (by omega) rfl) (X3 rfl) ⟨rfl,trivial⟩),hR 7 rfl rfl (Yg (u1:=.int .i64 (Int.tmod (c.Xn.getD k 0) 5)) (u2:=.int .i64 5) (v:=.int .i64 ((Int.tmod (c.Xn.getD k 0) 5)+5)) (W8 pb) (X3 rfl) ⟨rfl,trivial⟩),hR 8 rfl rfl (Yg (u1:=.int .i64 ((Int.tmod (c.Xn.getD k 0) 5)+5)) (u2:=.int .i64 5) (v:=.int .i64 (((Int.tmod (c.Xn.getD k 0) 5)+5) % 5)) (X6g (by omega) (by omega)) (X3 rfl) ⟨rfl,trivial⟩)] ?_)
  by_cases hq2:((k2:Nat):Int)<(((Int.tmod (c.Xn.getD k 0) 5)+5) % 5)
  ·have hk3:((k2:Nat):Int)<Uw (c.Xn.getD k 0):=hq2
   refine cT (dT hq2) (T.skip (nT (T.seq (T.block ?_))))
   refine sR [hR 3 rfl rfl (Yg (u1:=.int .i64 1000) (u2:=.int .i64 ((k2:Nat):Int)) (v:=.int .i64 ((1000+k2:Nat):Int)) (W8 pb) (X3 rfl) ⟨rfl,trivial⟩),hR 5 rfl rfl (Ve (u:=.int .i64 ((k:Nat):Int)) (v:=.int .u8 (((UInt8.ofNat k).toNat:Nat):Int)) (Ht Tryz.underlying3 Tryz.underlying5) (X3 rfl) trivial),hR 7 rfl rfl (Ve (u:=.int .i64 ((k2:Nat):Int)) (v:=.int .u8 (((UInt8.ofNat k2).toNat:Nat):Int)) (Ht Tryz.underlying3 Tryz.underlying5) (X3 rfl) trivial),hR 8 rfl rfl (Ye 14 5 kU8 Vs [(UInt8.ofNat k),(UInt8.ofNat k2)] [⟨0,.tmp 56,.one (.d (.val (.int .u8 (((UInt8.ofNat k).toNat:Nat):Int)))),0⟩,⟨1,.tmp 58,.one (.d (.val (.int .u8 (((UInt8.ofNat k2).toNat:Nat):Int)))),1⟩] (cs:=[.d (.val (.int .u8 (((UInt8.ofNat k).toNat:Nat):Int))),.d (.val (.int .u8 (((UInt8.ofNat k2).toNat:Nat):Int)))]) Tryz.underlying25 J1 rfl Im rfl rfl rfl pd (Yq rfl rfl pd (Yq rfl rfl pd W5)) pZ8 (V6 pZ8) (X3 rfl) trivial),hR 10 rfl rfl (Ug 0 60 14 5 kU8 [(UInt8.ofNat k),(UInt8.ofNat k2)] (av:=.tv (.agg [dI ((1000+k2:Nat):Int),.own 14 kU8.sz 0 [(UInt8.ofNat k),(UInt8.ofNat k2)].length])) (Ye 15 43 (kE false) (Yt false) [(aE.mk ((1000+k2:Nat):Int) [(UInt8.ofNat k),(UInt8.ofNat k2)])] [⟨0,.tmp 60,.agg [dI ((1000+k2:Nat):Int),dU [(UInt8.ofNat k),(UInt8.ofNat k2)]],0⟩] (cs:=[dI ((1000+k2:Nat):Int),dU [(UInt8.ofNat k),(UInt8.ofNat k2)]]) Tryz.underlying37 Wy rfl H8 rfl rfl rfl pd (Yq rfl rfl pd W5) pZ8 (V6 pZ8) (X3 rfl) trivial) rfl p52 p2g rfl rfl),hR 11 rfl rfl (W0 12 16 43 32 (kE false) (Yt false) (Il k k2) [(aE.mk ((1000+k2:Nat):Int) [(UInt8.ofNat k),(UInt8.ofNat k2)])] ((Il k k2)++[(aE.mk ((1000+k2:Nat):Int) [(UInt8.ofNat k),(UInt8.ofNat k2)])]) (Il k k2).length (sy:=(.own 15 (kE false).sz 0 [(Zsl k k2)].length)) (rhs:=[(15,.live (Xf 43 (kE false) [(Zsl k k2)]))]) Hh (by omega) (V0 15 43 (kE false) [(aE.mk ((1000+k2:Nat):Int) [(UInt8.ofNat k),(UInt8.ofNat k2)])]) I7 pz pz (X3 rfl) trivial)] ?_
   refine xR [hR 4 rfl rfl (Yg (u1:=.int .i64 ((k:Nat):Int)) (u2:=.int .i64 ((k2:Nat):Int)) (v:=.int .i64 ((k+k2:Nat):Int)) (W8 pb) (X3 rfl) trivial),hR 6 rfl rfl (Ye 17 46 (Xk false) (U1 false) [(Y4.mk 0 ((k+k2:Nat):Int))] [⟨0,.tmp 69,.agg [dI 0,dI ((k+k2:Nat):Int)],0⟩] (cs:=[dI 0,dI ((k+k2:Nat):Int)]) Tryz.underlying63 X0v rfl X7l rfl rfl rfl pd (Yq rfl rfl pd W5) pZ8 (V6 pZ8) (X3 rfl) trivial),hR 7 rfl rfl (W0 13 18 46 16 (Xk false) (U1 false) (Ik k k2) [(Y4.mk 0 ((k+k2:Nat):Int))] ((Ik k k2)++[(Y4.mk 0 ((k+k2:Nat):Int))]) (Ik k k2).length (sy:=(.own 17 (Xk false).sz 0 [(Zsm k k2)].length)) (rhs:=[(17,.live (Xf 46 (Xk false) [(Zsm k k2)]))]) X7z (by omega) (V0 17 46 (Xk false) [(Y4.mk 0 ((k+k2:Nat):Int))]) I7 pz pz (X3 rfl) trivial)] pZ8 pZ8 ?_
   refine nB (nT (xK [hR 1 rfl rfl (Yg (u1:=.int .i64 ((k2:Nat):Int)) (u2:=.int .i64 1) (v:=.int .i64 ((k2+1:Nat):Int)) (W8 pb) (X3 rfl) ⟨rfl,trivial⟩)] ?_))
   refine nL (k2+1) (show (((k2+1):Nat):Int)≤Uw (c.Xn.getD k 0) from (by omega)) (show ((Uw (c.Xn.getD k 0)).toNat-(k2+1):Nat)<(Uw (c.Xn.getD k 0)).toNat-k2 from (by omega)) (fun _ _ hG=>Wi [0,1,2,3,4,5,6,7,8,9,10,11,16,18] (bm 9 504) (h1:=[(Zrq x),Zrr,(Zrt x),Zru,(Zrx c k),(Zry c k),(Zrz c k),(Zs0 c k),(Zs1 c),Zs4,Zs5,.live (.box 65 [(Zsg c k),(Zsh c k),.own 16 (kE false).sz 0 (Il k (k2+1)).length,.own 18 (Xk false).sz 0 (Ik k (k2+1)).length]),.live (Xf 43 (kE false) (Il k (k2+1))),.live (Xf 46 (Xk false) (Ik k (k2+1)))]) (h2:=[(Zrq x),Zrr,(Zrt x),Zru,(Zrx c k),(Zry c k),(Zrz c k),(Zs0 c k),(Zs1 c),Zs4,Zs5,.live (.box 65 [(Zsg c k),(Zsh c k),.own 16 (kE false).sz 0 ((Il k k2)++[(Zsl k k2)]).length,.own 18 (Xk false).sz 0 ((Ik k k2)++[(Zsm k k2)]).length]),.live (Xf 43 (kE false) ((Il k k2)++[(Zsl k k2)])),.live (Xf 46 (Xk false) ((Ik k k2)++[(Zsm k k2)]))]) (t1:=(Zsn k k2)) rfl (by have e1:((Il k (k2+1)).length:Nat)=((Il k k2)++[(aE.mk ((1000+k2:Nat):Int) [(UInt8.ofNat k),(UInt8.ofNat k2)])]).length:=(by (rw [X8q]));have e2:((Ik k (k2+1)).length:Nat)=((Ik k k2)++[(Y4.mk 0 ((k+k2:Nat):Int))]).length:=(by (rw [X8p]));have e3:((Il k (k2+1)):List aE)=(Il k k2)++[(aE.mk ((1000+k2:Nat):Int) [(UInt8.ofNat k),(UInt8.ofNat k2)])]:=(by (rw [X8q]));have e4:((Ik k (k2+1)):List Y4)=(Ik k k2)++[(Y4.mk 0 ((k+k2:Nat):Int))]:=(by (rw [X8p]));have hE:=congr (congr (congr (congrArg (fun (q1:Nat) (q2:Nat) (q3:List aE) (q4:List Y4)=>([(Zrq x),Zrr,(Zrt x),Zru,(Zrx c k),(Zry c k),(Zrz c k),(Zs0 c k),(Zs1 c),Zs4,Zs5,.live (.box 65 [(Zsg c k),(Zsh c k),.own 16 (kE false).sz 0 q1,.own 18 (Xk false).sz 0 q2]),.live (Xf 43 (kE false) q3),.live (Xf 46 (Xk false) q4)]:List HS)) e1) e2) e3) e4;exact hE) hG)
  have hk3:¬((k2:Nat):Int)<Uw (c.Xn.getD k 0):=hq2;have hke:(Uw (c.Xn.getD k 0)).toNat=k2:=(by omega);have hfb:=X6f (L:=(Wl c.Xn k)) (i:=k) (n:=(Uw (c.Xn.getD k 0)).toNat) (by omega) (by omega);have hap:=app_chn9 (bs:=c.Xn) (i:=k) (by omega)
  refine cF (dF hq2) (T.exit (xT (xT (xH (nT ?_)))))
  refine tN ⟨(Zso c k k2),(Zsi x c k k2)⟩ ?_
  refine Wr (s':=⟨(Zso c k k2),(Zsq x c k)⟩) (fun _ _ hG=>Yp [0,1,2,3,4,5,6,7,8,9,10,11,12,13] (bm 49 281474976711160) (h2:=(Zsi x c k k2)) rfl (by have e1:((Jy (Wl c.Xn k) k (Uw (c.Xn.getD k 0)).toNat).Xq:Int)=(Jy (Wl c.Xn k) k 0).Xq:=(by rfl);have e2:((Jy (Wl c.Xn k) k (Uw (c.Xn.getD k 0)).toNat).Y9:List UInt8)=(Jy (Wl c.Xn k) k 0).Y9:=(by rfl);have e3:((Jy (Wl c.Xn k) k (Uw (c.Xn.getD k 0)).toNat).Xh.length:Nat)=(Il k k2).length:=(by (rw [hke];rfl));have e4:((Jy (Wl c.Xn k) k (Uw (c.Xn.getD k 0)).toNat).Xt.length:Nat)=(Ik k k2).length:=(by (rw [hke];rfl));have e5:((Jy (Wl c.Xn k) k (Uw (c.Xn.getD k 0)).toNat).Xh:List aE)=(Il k k2):=(by (rw [hke];rfl));have e6:((Jy (Wl c.Xn k) k (Uw (c.Xn.getD k 0)).toNat).Xt:List Y4)=(Ik k k2):=(by (rw [hke];rfl));have hE:=congr (congr (congr (congr (congr (congrArg (fun (q1:Int) (q2:List UInt8) (q3:Nat) (q4:Nat) (q5:List aE) (q6:List Y4)=>([(Zrq x),Zrr,(Zrt x),Zru,(Zrx c k),(Zry c k),(Zrz c k),(Zs0 c k),(Zs1 c),Zs4,Zs5,.live (.box 65 [dI q1,dS q2,.own 12 (kE false).sz 0 q3,.own 13 (Xk false).sz 0 q4]),.live (Xf 43 (kE false) q5),.live (Xf 46 (Xk false) q6)]:List HS)) e1) e2) e3) e4) e5) e6;exact hE) hG) ?_
  refine Wr (s':=(Zsr x c k k2)) (fun _ _ hG=>Gs.freeze (s:=⟨(Zso c k k2),(Zsq x c k)⟩) 12 (el:=W6 (kE false) (Jy (Wl c.Xn k) k (Uw (c.Xn.getD k 0)).toNat).Xh) (sz:=(kE false).sz) (n:=(Jy (Wl c.Xn k) k (Uw (c.Xn.getD k 0)).toNat).Xh.length) rfl ⟨.inl rfl,X7c⟩ ⟨pZ5,⟨pZ5,⟨pZ5,⟨pZ5,⟨pZ5,⟨pZ5,⟨pZ5,⟨pZ5,⟨pZ5,⟨pZ5,⟨pZ5,⟨pZ23,⟨(.inl ⟨rfl,rfl⟩),⟨pZ5,trivial⟩⟩⟩⟩⟩⟩⟩⟩⟩⟩⟩⟩⟩⟩ hG) ?_
  refine Wr (s':=⟨(Zso c k k2),[(Zrq x),Zrr,(Zrt x),Zru,(Zrx c k),(Zry c k),(Zrz c k),(Zs0 c k),(Zs1 c),Zs4,Zs5,.live (.box 65 (Zss c k)),.dead,.dead]⟩) (fun _ _ hG=>Gs.freeze (s:=(Zsr x c k k2)) 13 (el:=W6 (Xk false) (Jy (Wl c.Xn k) k (Uw (c.Xn.getD k 0)).toNat).Xt) (sz:=(Xk false).sz) (n:=(Jy (Wl c.Xn k) k (Uw (c.Xn.getD k 0)).toNat).Xt.length) rfl ⟨.inl rfl,X7c⟩ ⟨pZ5,⟨pZ5,⟨pZ5,⟨pZ5,⟨pZ5,⟨pZ5,⟨pZ5,⟨pZ5,⟨pZ5,⟨pZ5,⟨pZ5,⟨pZ22,⟨pZ5,⟨(.inl ⟨rfl,rfl⟩),trivial⟩⟩⟩⟩⟩⟩⟩⟩⟩⟩⟩⟩⟩⟩ hG) ?_
  refine sR [hR 3 rfl rfl (rCa (Xaq 0 (ofB 6 ([]:List (List UInt8))) (W3 (Wl c.Xn k)) (Jy (Wl c.Xn k) k (Uw (c.Xn.getD k 0)).toNat) (by omega) (by omega) ‹_›) Tryz.func39 [4,5,14] [(.tmp 74,pv 4 0),(.tmp 75,.tv (.agg (Zss c k)))] 2 3)] (xK [hR 3 rfl rfl (rCa (Xc7 0 (ofB 6 ([]:List (List UInt8))) (Wl c.Xn k) (Jy (Wl c.Xn k) k (Uw (c.Xn.getD k 0)).toNat) (by omega) (by omega) (by omega) (by omega)) Tryz.func40 [6,7,15] [(.tmp 78,pv 6 0),(.tmp 79,.tv (.agg (Zss c k)))] 2 3)] (nB (nT (xK [hR 1 rfl rfl (Yg (u1:=.int .i64 ((k:Nat):Int)) (u2:=.int .i64 1) (v:=.int .i64 ((k+1:Nat):Int)) (W8 pb) (X3 rfl) ⟨rfl,trivial⟩)] ?_))))
  refine nL (k+1) (show (k+1)≤c.Xn.length from (by omega)) (show (c.Xn.length-(k+1):Nat)<c.Xn.length-k from (by omega)) (fun _ _ hG=>Wi [0,1,2,3,4,14,6,15,8,9,10] (bm 7 120) (h1:=[(Zrq x),Zrr,(Zrt x),Zru,.live (.box 149 [dI 0,Zrw,dB true,.own 14 (Xj false).sz 0 (W3 (Wl c.Xn (k+1))).length]),.live (Xf 152 (Xj false) (W3 (Wl c.Xn (k+1)))),.live (.box 106 [dB true,dI 0,Zrw,.own 15 (Xy false).sz 0 (Wl c.Xn (k+1)).length]),.live (Xf 65 (Xy false) (Wl c.Xn (k+1))),(Zs1 c),Zs4,Zs5]) (h2:=[(Zrq x),Zrr,(Zrt x),Zru,.live (.box 149 [dI 0,Zrw,dB true,.own 14 (Xj false).sz 0 (X16 0 Zrv (W3 (Wl c.Xn k)) (Zsp c k)).length]),.live (Xf 152 (Xj false) (X16 0 Zrv (W3 (Wl c.Xn k)) (Zsp c k))),.live (.box 106 [dB true,dI 0,Zrw,.own 15 (Xy false).sz 0 (Hc 0 Zrv (Wl c.Xn k) (Zsp c k)).length]),.live (Xf 65 (Xy false) (Hc 0 Zrv (Wl c.Xn k) (Zsp c k))),(Zs1 c),Zs4,Zs5]) (t1:=(Zst k)) rfl (by have e1:((W3 (Wl c.Xn (k+1))).length:Nat)=(X16 0 (ofB 6 ([]:List (List UInt8))) (W3 (Wl c.Xn k)) (Jy (Wl c.Xn k) k (Uw (c.Xn.getD k 0)).toNat)).length:=(by (rw [hap.1]));have e2:((W3 (Wl c.Xn (k+1))):List Yi)=(X16 0 (ofB 6 ([]:List (List UInt8))) (W3 (Wl c.Xn k)) (Jy (Wl c.Xn k) k (Uw (c.Xn.getD k 0)).toNat)):=(by exact hap.1.symm);have e3:((Wl c.Xn (k+1)).length:Nat)=(Hc 0 (ofB 6 ([]:List (List UInt8))) (Wl c.Xn k) (Jy (Wl c.Xn k) k (Uw (c.Xn.getD k 0)).toNat)).length:=(by (rw [hap.2]));have e4:((Wl c.Xn (k+1)):List Xs)=(Hc 0 (ofB 6 ([]:List (List UInt8))) (Wl c.Xn k) (Jy (Wl c.Xn k) k (Uw (c.Xn.getD k 0)).toNat)):=(by exact hap.2.symm);have hE:=congr (congr (congr (congrArg (fun (q1:Nat) (q2:List Yi) (q3:Nat) (q4:List Xs)=>([(Zrq x),Zrr,(Zrt x),Zru,.live (.box 149 [dI 0,Zrw,dB true,.own 14 (Xj false).sz 0 q1]),.live (Xf 152 (Xj false) q2),.live (.box 106 [dB true,dI 0,Zrw,.own 15 (Xy false).sz 0 q3]),.live (Xf 65 (Xy false) q4),(Zs1 c),Zs4,Zs5]:List HS)) e1) e2) e3) e4;exact hE) hG)
 have hkb:k=c.Xn.length:=(by omega);have hcl:=X2f c.Xn c.Xn.length;have hco:=X34 c.Xn c.Xn.length (by omega);have hco1:=hco.1;have hco2:=hco.2;have hco3:(atB (ofB 6 ([]:List (List UInt8))) (Wl c.Xn c.Xn.length) (Wl c.Xn c.Xn.length).length).length≤1000000:=Nat.le_trans hco1 (by omega);have hdt:Fc c=X3k (0+(((Wl c.Xn c.Xn.length).length:Nat):Int)) (atB d9 (Wl c.Xn c.Xn.length) (Wl c.Xn c.Xn.length).length) c.F0:=(by unfold Fc;rw [hcl,Int.zero_add])
 refine cF (dF hq1) (T.exit (xT (xT (xH (nT ?_)))))
 refine tN ⟨[aa,aa,aa,pv 8 0,pv 9 0,pv 10 0,(Zro k),aa,aa,aa,aa,aa,aa,aa,aa,aa,aa,aa,aa,aa,aa,aa,aa,aa,aa,aa,aa,aa,aa,aa,vB (decide (((k:Nat):Int)<((c.Xn.length:Nat):Int)))],(Zs6 x c k)⟩ ?_
 refine Wr (s':=⟨Zsu,(Zt0 x c)⟩) (fun _ _ hG=>Yp [0,1,2,3,4,5,6,7,8,9,10] (bm 6 56) (h2:=(Zs6 x c k)) rfl (by have e1:((W3 (Wl c.Xn c.Xn.length)).length:Nat)=(W3 (Wl c.Xn k)).length:=(by (rw [hkb]));have e2:((W3 (Wl c.Xn c.Xn.length)):List Yi)=(W3 (Wl c.Xn k)):=(by (rw [hkb]));have e3:((Wl c.Xn c.Xn.length).length:Nat)=(Wl c.Xn k).length:=(by (rw [hkb]));have e4:((Wl c.Xn c.Xn.length):List Xs)=(Wl c.Xn k):=(by (rw [hkb]));have hE:=congr (congr (congr (congrArg (fun (q1:Nat) (q2:List Yi) (q3:Nat) (q4:List Xs)=>([(Zrq x),Zrr,(Zrt x),Zru,.live (.box 149 [dI 0,Zrw,dB true,.own 5 (Xj false).sz 0 q1]),.live (Xf 152 (Xj false) q2),.live (.box 106 [dB true,dI 0,Zrw,.own 7 (Xy false).sz 0 q3]),.live (Xf 65 (Xy false) q4),(Zs1 c),Zs4,Zs5]:List HS)) e1) e2) e3) e4;exact hE) hG) ?_
 refine sR [hR 2 rfl rfl (rCa (X4k 0 (ofB 6 ([]:List (List UInt8))) (Wl c.Xn c.Xn.length) (by omega) (by omega)) Tryz.func12 [6,7] [(.tmp 82,pv 6 0)] 2 2)] ?_
 refine sD [[],[],[1],[1,2],[],[4],[0,1,2,3,4,5],[0,1,2,3,4,5,6],[0,1,2,3,4,5,6,7]] [hR 3 rfl rfl (rCa (X3y 0 (ofB 6 ([]:List (List UInt8))) (Wl c.Xn c.Xn.length) (by omega) (by omega) (by omega)) Tryz.func38 [6,7] [(.tmp 86,pv 6 0)] 2 2),hR 6 rfl rfl (rCa (Xgd (0+(((Wl c.Xn c.Xn.length).length:Nat):Int)) (atB (ofB 6 ([]:List (List UInt8))) (Wl c.Xn c.Xn.length) (Wl c.Xn c.Xn.length).length) false false c.F0 (by omega) (by omega)) Tryz.func41 [11] [(.tmp 84,vI (0+(((Zsv c).length:Nat):Int))),(.tmp 87,dv (Ys (atB Zrv (Zsv c) (Zsv c).length))),(.tmp 89,slV false false kU8 c.F0)] 0 1)] ?_
 refine tN ⟨(Zt1 c),(Zt2 x c)⟩ ?_
 refine Wr (s':=⟨(Zt4 c),(Zt5 x c)⟩) (fun _ _ hG=>Yp [0,1,2,3,4,5,6,7,8,9,10,11] (bm 10 568) (t2:=(Zt1 c)) (h2:=(Zt2 x c)) (congrArg (fun (q1:Int)=>([aa,aa,aa,pv 8 0,pv 9 0,pv 10 0,aa,aa,aa,vI q1]:List AV)) (show (((c.Xn.length:Nat):Int):Int)=0+(((Wl c.Xn c.Xn.length).length:Nat):Int) from (by omega))) (cg2 (fun (q1:Nat) (q2:List UInt8)=>([(Zrq x),Zrr,(Zrt x),Zru,(Zsw c),(Zsx c),(Zsy c),(Zsz c),(Zs1 c),Zs4,.live (.box 39 [.ptr 0 0,.ptr 2 0,.ptr 4 0,.ptr 6 0,.own 11 kU8.sz 0 q1,Zs3]),.live (Xf 5 kU8 q2)]:List HS)) (by rfl) (show ((Fc c):List UInt8)=X3k (0+(((Wl c.Xn c.Xn.length).length:Nat):Int)) (atB (ofB 6 ([]:List (List UInt8))) (Wl c.Xn c.Xn.length) (Wl c.Xn c.Xn.length).length) c.F0 from (by omega))) hG) ?_
 refine Wr (s':=⟨(Zt4 c),[(Zrq x),Zrr,(Zrt x),Zru,(Zsw c),(Zsx c),(Zsy c),(Zsz c),(Zs1 c),Zs4,(Zt7 c),.dead]⟩) (fun _ _ hG=>Gs.freeze (s:=⟨(Zt4 c),(Zt5 x c)⟩) 11 (el:=W6 kU8 (Fc c)) (sz:=kU8.sz) (n:=(Fc c).length) rfl (kk2 (kk8 trivial)) ⟨pZ5,⟨pZ5,⟨pZ5,⟨pZ5,⟨pZ5,⟨pZ5,⟨pZ5,⟨pZ5,⟨pZ5,⟨pZ5,⟨(.inr ⟨by decide,.inr ⟨rfl,(kk4 ⟨pZ2,⟨.inl rfl,trivial⟩⟩)⟩⟩),⟨(.inl ⟨rfl,rfl⟩),trivial⟩⟩⟩⟩⟩⟩⟩⟩⟩⟩⟩⟩ hG) ?_
 refine sR [hR 1 rfl rfl (X3j (k:=.i64) (a:=1) (b:=((c.Xn.length:Nat):Int)) (X3 rfl) ⟨rfl,trivial⟩),hR 4 rfl rfl (rCa (Xgc false false (Fc c) (by omega)) Tryz.func42 [] [(.tmp 95,slV false false kU8 (Fc c))] 0 0)] ?_
 refine Uk ⟨(Zt8 c),(Ztb x c)⟩ ?_ ?_
 ·refine sR [] ?_
  by_cases hq3:c.X31=true
  ·have hcd:ckD9 c=Xim:=if_pos hq3
   refine cT hq3 (xK [] ?_)
   refine eN (Ztd x c) ?_
   refine X8 (s':=⟨(Zt8 c),(Ztf x c)⟩) (fun _ _ hG=>Ym (s:=(Ztd x c)) (kk4 (X41 p1w)) (kk4 (kk8 ⟨pZ1,trivial⟩)) hG) ?_
   refine X8 (s':=⟨(Zt8 c),(Ztb x c)⟩) (fun _ _ hG=>Wi [0,1,2,3,4,5,6,7,8,9,10,25,12] (bm 100 633825300114114700748351604280) (h1:=(Ztb x c)) (h2:=(Ztf x c)) (t1:=(Zt8 c)) rfl (cg12 (fun (q1:Int) (q2:Int) (q3:Int) (q4:Int) (q5:Int) (q6:List UInt8) (q7:List UInt8) (q8:Int) (q9:Int) (q10:List aE) (q11:List aE) (q12:List aC)=>([(Zrq x),Zrr,(Zrt x),Zru,(Zsw c),(Zsx c),(Zsy c),(Zsz c),(Zs1 c),Zs4,(Zt7 c),.dead,.live (.box 78 [dI q1,dI q2,dI q3,dI q4,dI q5,dS q6,dU q7,dI q8,dI q9,.d (dsl false false (kE false) q10),.d (dsl false false (kE false) q11),.d (dsl false false (kC false) q12)])]:List HS)) (by rfl) (by rfl) (by rfl) (by rfl) (by rfl) (by exact hcd) (by rfl) (by rfl) (by rfl) (by rfl) (by rfl) (by rfl)) hG) ?_
   exact nJ
  have hcd:ckD9 c=ofB 7 [Fc c]:=if_neg hq3
  replace hq3:=Bool.eq_false_iff.2 hq3
  refine cF hq3 (T.skip ?_)
  refine eN (Ztg x c) ?_
  refine X8 (s':=⟨(Zt8 c),(Zth x c)⟩) (fun _ _ hG=>Ym (s:=(Ztg x c)) (kk4 (X41 p1w)) (kk4 (kk8 ⟨pZ1,trivial⟩)) hG) ?_
  refine X8 (s':=⟨(Zt8 c),(Ztb x c)⟩) (fun _ _ hG=>Wi [0,1,2,3,4,5,6,7,8,9,10,25,12] (bm 100 633825300114114700748351604280) (h1:=(Ztb x c)) (h2:=(Zth x c)) (t1:=(Zt8 c)) rfl (cg12 (fun (q1:Int) (q2:Int) (q3:Int) (q4:Int) (q5:Int) (q6:List UInt8) (q7:List UInt8) (q8:Int) (q9:Int) (q10:List aE) (q11:List aE) (q12:List aC)=>([(Zrq x),Zrr,(Zrt x),Zru,(Zsw c),(Zsx c),(Zsy c),(Zsz c),(Zs1 c),Zs4,(Zt7 c),.dead,.live (.box 78 [dI q1,dI q2,dI q3,dI q4,dI q5,dS q6,dU q7,dI q8,dI q9,.d (dsl false false (kE false) q10),.d (dsl false false (kE false) q11),.d (dsl false false (kC false) q12)])]:List HS)) (by rfl) (by rfl) (by rfl) (by rfl) (by rfl) (by exact hcd) (by rfl) (by rfl) (by rfl) (by rfl) (by rfl) (by rfl)) hG) ?_
  exact nJ
 refine T.seq (sR [] (T.block ?_))
 refine tN ⟨(Zti c),(Ztb x c)⟩ ?_
 refine Wr (s':=⟨(Zti c),[(Zrq x),Zrr,(Zrt x),Zru,(Zsw c),(Zsx c),(Zsy c),(Zsz c),(Zs1 c),Zs4,(Ztj c),.dead,(Zta c),Zru]⟩) (fun _ _ hG=>J6 13 10 5 43 (kE false) (Tb:=39) (cs:=[.ptr 0 0,.ptr 2 0,.ptr 4 0,.ptr 6 0,(Zt6 c),Zs3]) rfl rfl rfl hG) ?_
 refine T.loop (ι:=Nat) (fun (k3:Nat)=>(Ztn x c k3)) (fun (k3:Nat)=>(k3≤c.Xv.length)) (fun (k3:Nat)=>c.Xv.length-k3) (0) (Nat.zero_le _) (fun _ _ hG=>Wi [0,1,2,3,4,5,6,7,8,9,10,12,13] (bm 12 3128) (h1:=[(Zrq x),.live (mpK Xi Y8 (Vr (Zto x c))),.live (.box 135 [dB true,(Zrs x),(Zrp x),.own 3 (kE false).sz 0 (Zto x c).length]),.live (Xf 43 (kE false) (Zto x c)),(Zsw c),(Zsx c),(Zsy c),(Zsz c),(Zs1 c),Zs4,.live (.box 39 [.ptr 0 0,.ptr 2 0,.ptr 4 0,.ptr 6 0,(Zt6 c),.own 13 (kE false).sz 0 (Ib c 0).length]),(Zta c),.live (Xf 43 (kE false) (Ib c 0))]) (h2:=[(Zrq x),Zrr,(Zrt x),Zru,(Zsw c),(Zsx c),(Zsy c),(Zsz c),(Zs1 c),Zs4,(Ztj c),(Zta c),Zru]) (t1:=[aa,aa,aa,pv 8 0,pv 9 0,pv 10 0,aa,aa,aa,aa,pv 12 0,vI 0]) rfl (cg5 (fun (q1:List (Yb×Bool)) (q2:Nat) (q3:List aE) (q4:Nat) (q5:List aE)=>([(Zrq x),.live (mpK Xi Y8 q1),.live (.box 135 [dB true,(Zrs x),(Zrp x),.own 3 (kE false).sz 0 q2]),.live (Xf 43 (kE false) q3),(Zsw c),(Zsx c),(Zsy c),(Zsz c),(Zs1 c),Zs4,.live (.box 39 [.ptr 0 0,.ptr 2 0,.ptr 4 0,.ptr 6 0,(Zt6 c),.own 13 (kE false).sz 0 q4]),(Zta c),.live (Xf 43 (kE false) q5)]:List HS)) (by rfl) (by rfl) (by rfl) (by rfl) (by rfl)) hG) ?_
 rintro k3 hk3
 show T _ _ (Ztn x c k3) _ _
 replace hk3:k3≤c.Xv.length:=hk3
 have hvl:=vot_len9 (c:=c) hk3
 have hal:=Xfw (fOf x.V8) (cOf x.Xx) c k3
 refine T.seq (sR [] ?_)
 by_cases hq4:((k3:Nat):Int)<((c.Xv.length:Nat):Int)
 ·have hrs:-9223372036854775808≤(c.Xv.getD k3 0)∧(c.Xv.getD k3 0)≤9223372036854775807:=hr _ (Ur (z:=0) (show k3<c.Xv.length by omega))
  refine cT (dT hq4) (T.skip (nT (T.seq (T.block ?_))))
  refine sD [[],[0],[],[0,1,2],[0,1,2,3],[],[5],[0,1,2,3,4,5,6],[],[0,1,2,3,4,5,6,7,8]] [hR 3 rfl rfl (W9 false false (U5 .i64) c.Xv k3 (k:=.i64) (i:=((k3:Nat):Int)) Tryz.underlying24 X19 rfl rfl (by omega) (X3 rfl) trivial),hR 6 rfl rfl (rCa (X4j false (Un c) (Nat.le_trans ok1 (by decide)) (Nat.le_trans ok2 (by decide)) (Nat.le_trans ok3 (by decide)) (Nat.le_trans ok4 (by decide)) (Nat.le_trans ok5 (by decide)) (Nat.le_trans ok6 (by decide))) Tryz.func25 [] [(.tmp 113,.tv (.agg (Zt9 c)))] 0 0)] ?_
  refine sR [hR 6 rfl rfl (rCa (Xa8 (fOf x.V8) (cOf x.Xx) (Vr (Hv (fOf x.V8) (cOf x.Xx) c k3)) (c.Xv.getD k3 0) false false (Vh (Un c)) (by omega) (by omega) (by omega) (by omega)) Tryz.func26 [0,1] [(.tmp 117,pv 0 0),(.tmp 119,vI (c.Xv.getD k3 0)),(.tmp 121,slV false false kU8 (Vh (Un c)))] 2 2)] (sR [hR 6 rfl rfl (rCa (X8u (fOf x.V8) (cOf x.Xx) (Hv (fOf x.V8) (cOf x.Xx) c k3) (c.Xv.getD k3 0) false false (Vh (Un c)) (by omega) (by omega) (by omega) (by omega) (by omega)) Tryz.func27 [2,3,14] [(.tmp 124,pv 2 0),(.tmp 126,vI (c.Xv.getD k3 0)),(.tmp 128,slV false false kU8 (Vh (Un c)))] 2 3)] ?_)
  refine xR [hR 3 rfl rfl (Ye 15 43 (kE false) (Yt false) [(aE.mk (c.Xv.getD k3 0) (Vh (Un c)))] [⟨0,.tmp 132,.agg [dI (c.Xv.getD k3 0),dU (Vh (Un c))],0⟩] (cs:=[dI (c.Xv.getD k3 0),dU (Vh (Un c))]) Tryz.underlying37 Wy rfl H8 rfl rfl rfl pd (Yq rfl rfl pd W5) pZ8 (V6 pZ8) (X3 rfl) trivial),hR 4 rfl rfl (W0 12 16 43 32 (kE false) (Yt false) (Ib c k3) [(aE.mk (c.Xv.getD k3 0) (Vh (Un c)))] ((Ib c k3)++[(aE.mk (c.Xv.getD k3 0) (Vh (Un c)))]) (Ib c k3).length (sy:=(.own 15 (kE false).sz 0 [(Ztp c k3)].length)) (rhs:=[(15,.live (Xf 43 (kE false) [(Ztp c k3)]))]) Hh (by omega) (V0 15 43 (kE false) [(aE.mk (c.Xv.getD k3 0) (Vh (Un c)))]) I7 pz pz (X3 rfl) trivial)] pZ8 pZ8 ?_
  refine nB (nT (xK [hR 1 rfl rfl (Yg (u1:=.int .i64 ((k3:Nat):Int)) (u2:=.int .i64 1) (v:=.int .i64 ((k3+1:Nat):Int)) (W8 pb) (X3 rfl) ⟨rfl,trivial⟩)] ?_))
  refine nL (k3+1) (show (k3+1)≤c.Xv.length from (by omega)) (show (c.Xv.length-(k3+1):Nat)<c.Xv.length-k3 from (by omega)) (fun _ _ hG=>Wi [0,1,2,14,4,5,6,7,8,9,10,11,16] (bm 12 3128) (h1:=[(Zrq x),.live (mpK Xi Y8 (Vr (Ztr x c k3))),.live (.box 135 [dB true,(Zrs x),(Zrp x),.own 14 (kE false).sz 0 (Ztr x c k3).length]),.live (Xf 43 (kE false) (Ztr x c k3)),(Zsw c),(Zsx c),(Zsy c),(Zsz c),(Zs1 c),Zs4,.live (.box 39 [.ptr 0 0,.ptr 2 0,.ptr 4 0,.ptr 6 0,(Zt6 c),.own 16 (kE false).sz 0 (Ib c (k3+1)).length]),(Zta c),.live (Xf 43 (kE false) (Ib c (k3+1)))]) (h2:=[(Zrq x),.live (mpK Xi Y8 (X4e (fOf x.V8) (cOf x.Xx) (Vr (Ztk x c k3)) (c.Xv.getD k3 0) (Vh (Un c)))),.live (.box 135 [dB true,(Zrs x),(Zrp x),.own 14 (kE false).sz 0 (Vg (fOf x.V8) (cOf x.Xx) (Ztk x c k3) (c.Xv.getD k3 0) (Vh (Un c))).length]),.live (Xf 43 (kE false) (Vg (fOf x.V8) (cOf x.Xx) (Ztk x c k3) (c.Xv.getD k3 0) (Vh (Un c)))),(Zsw c),(Zsx c),(Zsy c),(Zsz c),(Zs1 c),Zs4,.live (.box 39 [.ptr 0 0,.ptr 2 0,.ptr 4 0,.ptr 6 0,(Zt6 c),.own 16 (kE false).sz 0 ((Ib c k3)++[(Ztp c k3)]).length]),(Zta c),.live (Xf 43 (kE false) ((Ib c k3)++[(Ztp c k3)]))]) (t1:=(Ztq k3)) rfl (by have e1:((Vr (Hv (fOf x.V8) (cOf x.Xx) c (k3+1))):List (Yb×Bool))=(X4e (fOf x.V8) (cOf x.Xx) (Vr (Hv (fOf x.V8) (cOf x.Xx) c k3)) (c.Xv.getD k3 0) (Vh (Un c))):=(by (rw [Xdo];rfl));have e2:((Hv (fOf x.V8) (cOf x.Xx) c (k3+1)).length:Nat)=(Vg (fOf x.V8) (cOf x.Xx) (Hv (fOf x.V8) (cOf x.Xx) c k3) (c.Xv.getD k3 0) (Vh (Un c))).length:=(by rfl);have e3:((Hv (fOf x.V8) (cOf x.Xx) c (k3+1)):List aE)=(Vg (fOf x.V8) (cOf x.Xx) (Hv (fOf x.V8) (cOf x.Xx) c k3) (c.Xv.getD k3 0) (Vh (Un c))):=(by rfl);have e4:((Ib c (k3+1)).length:Nat)=((Ib c k3)++[(aE.mk (c.Xv.getD k3 0) (Vh (Un c)))]).length:=(by (rw [Xay (by omega)];rfl));have e5:((Ib c (k3+1)):List aE)=(Ib c k3)++[(aE.mk (c.Xv.getD k3 0) (Vh (Un c)))]:=(by (rw [Xay (by omega)];rfl));have hE:=congr (congr (congr (congr (congrArg (fun (q1:List (Yb×Bool)) (q2:Nat) (q3:List aE) (q4:Nat) (q5:List aE)=>([(Zrq x),.live (mpK Xi Y8 q1),.live (.box 135 [dB true,(Zrs x),(Zrp x),.own 14 (kE false).sz 0 q2]),.live (Xf 43 (kE false) q3),(Zsw c),(Zsx c),(Zsy c),(Zsz c),(Zs1 c),Zs4,.live (.box 39 [.ptr 0 0,.ptr 2 0,.ptr 4 0,.ptr 6 0,(Zt6 c),.own 16 (kE false).sz 0 q4]),(Zta c),.live (Xf 43 (kE false) q5)]:List HS)) e1) e2) e3) e4) e5;exact hE) hG)
 have hks:k3=c.Xv.length:=(by omega)
 refine cF (dF hq4) (T.exit (xT (xT (xH (nT (sR [] (T.ret ?_)))))))
 refine eN (Ztt x c k3) ?_
 refine X8 (s':=⟨(Zts c k3),[(Zrq x),.live (mpK Xi Y8 (Vr (Ztk x c k3))),(Ztl x c k3),.live (Xf 43 (kE false) (Ztk x c k3)),(Zsw c),(Zsx c),(Zsy c),(Zsz c),(Zs1 c),.live (.box 39 (Ztu c k3)),.live (.box 39 (Ztu c k3)),(Zta c),.dead]⟩) (fun _ _ hG=>Gs.freeze (s:=(Ztt x c k3)) 12 (el:=W6 (kE false) (Ib c k3)) (sz:=(kE false).sz) (n:=(Ib c k3).length) rfl (kk2 (kk8 (X41 p1w))) ⟨pZ5,⟨pZ5,⟨pZ5,⟨pZ5,⟨pZ5,⟨pZ5,⟨pZ5,⟨pZ5,⟨pZ5,⟨p51,⟨p51,⟨pZ5,⟨(.inl ⟨rfl,rfl⟩),trivial⟩⟩⟩⟩⟩⟩⟩⟩⟩⟩⟩⟩⟩ hG) ?_
 exact eX [.c 4 9 39 0 39 [.ptr 0 0,.ptr 2 0,.ptr 4 0,.ptr 6 0,(Zt6 c),.d (dsl false false (kE false) (Ib c k3))] (.agg (Ztu c k3))] ⟨⟨rfl,rfl,by kernel_rfl,by kernel_rfl,.inl ⟨6,wide_39,rfl,Nat.le_of_ble_eq_true rfl⟩⟩,trivial⟩ [0,1,2,3,4,5,6,7] (by have e1:((Ib c c.Xv.length):List aE)=(Ib c k3):=(by (rw [hks];done));have hE:=congrArg (fun (q1:List aE)=>(.tv (.agg [.ptr 0 0,.ptr 2 0,.ptr 4 0,.ptr 6 0,(Zt6 c),.d (dsl false false (kE false) q1)]):AV)) e1;exact hE) (ix ⟨⟨rfl,(by have e1:((Vr (Hv (fOf x.V8) (cOf x.Xx) c k3)):List (Yb×Bool))=(Vr (Hv (fOf x.V8) (cOf x.Xx) c c.Xv.length)):=(by (rw [hks];done));have hE:=congrArg (fun (q1:List (Yb×Bool))=>(.live (mpK Xi Y8 q1):HS)) e1;exact Eq.trans pZ8 hE)⟩,⟨⟨rfl,(by have e1:((Hv (fOf x.V8) (cOf x.Xx) c k3).length:Nat)=(Hv (fOf x.V8) (cOf x.Xx) c c.Xv.length).length:=(by (rw [hks];done));have hE:=congrArg (fun (q1:Nat)=>(.live (.box 135 [dB true,(Zrs x),(Zrp x),.own 3 (kE false).sz 0 q1]):HS)) e1;exact Eq.trans pZ8 hE)⟩,⟨⟨rfl,(by have e1:((Hv (fOf x.V8) (cOf x.Xx) c k3):List aE)=(Hv (fOf x.V8) (cOf x.Xx) c c.Xv.length):=(by (rw [hks];done));have hE:=congrArg (fun (q1:List aE)=>(.live (Xf 43 (kE false) q1):HS)) e1;exact Eq.trans pZ8 hE)⟩,(ix (ix (ix (ix trivial))))⟩⟩⟩)
end Go.Proofs.YtnaopgohccacmaaGreat.Q
namespace Go.Proofs.YtnaopgohccacmaaGreat.Q
set_option linter.unusedVariables false
set_option linter.unusedSimpArgs false
set_option maxRecDepth 100000
def ix9 (l:List Yh) (a:Int):Nat:=if 0<l.length then ((Int.tmod a ((l.length:Nat):Int)+((l.length:Nat):Int)) % ((l.length:Nat):Int)).toNat else 0
theorem X67 {l:List Yh} {a:Int} (h:0<l.length):((ix9 l a:Nat):Int)=(Int.tmod a ((l.length:Nat):Int)+((l.length:Nat):Int)) % ((l.length:Nat):Int)∧ix9 l a<l.length:=by
  unfold ix9
  rw [if_pos h]
  have h1:=Int.emod_nonneg (Int.tmod a ((l.length:Nat):Int)+((l.length:Nat):Int)) (b:=((l.length:Nat):Int)) (by omega)
  have h2:=Int.emod_lt_of_pos (Int.tmod a ((l.length:Nat):Int)+((l.length:Nat):Int)) (b:=((l.length:Nat):Int)) (by omega)
  omega
theorem ix_09 {l:List Yh} {a:Int} (h:¬0<l.length):ix9 l a=0:=if_neg h
def hdX9 (h:Yh):Yh:=⟨h.Xq,h.Y9++[120],h.Yl,h.Wf⟩
section
variable (c:V4) (t:Yo)
abbrev J9:Nat:=ix9 c.X4 t.Wh
def Yw:V4 :=
  if t.Wu=1∧0<c.X4.length then ⟨c.Xg,c.Xo,c.Xc,c.X4.take (J9 c t)++c.X4.drop (J9 c t+1),c.Ji,c.Y1,c.X0,c.W4⟩
  else if t.Wu=2 then ⟨c.Xg,c.Xo,c.Xc,c.X4,c.Ji,c.Y1,⟨c.X0.Xu,c.X0.Xl+1⟩,c.W4⟩
  else if t.Wu=3 then ⟨c.Xg,c.Xo,c.Xc,c.X4,c.Ji+1,c.Y1,c.X0,c.W4⟩
  else if t.Wu=4 then ⟨c.Xg+1,c.Xo,c.Xc,c.X4,c.Ji,c.Y1,c.X0,c.W4⟩
  else if t.Wu=5∧0<c.X4.length then ⟨c.Xg,c.Xo,c.Xc,c.X4.set (J9 c t) (hdX9 (c.X4.getD (J9 c t) Y2)),c.Ji,c.Y1,c.X0,c.W4⟩
  else if t.Wu=6 then ⟨c.Xg,c.Xo,c.Xc++[0],c.X4,c.Ji,c.Y1,c.X0,c.W4⟩
  else if t.Wu=7 then ⟨c.Xg,c.Xo,c.Xc,c.X4,c.Ji,⟨c.Y1.X2+1,c.Y1.X7⟩,c.X0,c.W4⟩
  else if t.Wu=8∧0<c.W4.length then ⟨c.Xg,c.Xo,c.Xc,c.X4,c.Ji,c.Y1,c.X0,c.W4.drop 1⟩
  else if t.Wu=9∧0<c.Xo.length then ⟨c.Xg,c.Xo.drop 1,c.Xc,c.X4,c.Ji,c.Y1,c.X0,c.W4⟩
  else c
end
section
variable {c:V4} {t:Yo}
theorem trn_1 (h:t.Wu=1) (h0:0<c.X4.length):Yw c t=⟨c.Xg,c.Xo,c.Xc,c.X4.take (J9 c t)++c.X4.drop (J9 c t+1),c.Ji,c.Y1,c.X0,c.W4⟩:=if_pos ⟨h,h0⟩
theorem trn_2 (h:t.Wu=2):Yw c t=⟨c.Xg,c.Xo,c.Xc,c.X4,c.Ji,c.Y1,⟨c.X0.Xu,c.X0.Xl+1⟩,c.W4⟩:=by unfold Yw;rw [if_neg (by omega),if_pos h]
theorem trn_3 (h:t.Wu=3):Yw c t=⟨c.Xg,c.Xo,c.Xc,c.X4,c.Ji+1,c.Y1,c.X0,c.W4⟩:=by unfold Yw;rw [if_neg (by omega),if_neg (by omega),if_pos h]
theorem trn_4 (h:t.Wu=4):Yw c t=⟨c.Xg+1,c.Xo,c.Xc,c.X4,c.Ji,c.Y1,c.X0,c.W4⟩:=by unfold Yw;rw [if_neg (by omega),if_neg (by omega),if_neg (by omega),if_pos h]
theorem trn_5 (h:t.Wu=5) (h0:0<c.X4.length):Yw c t=⟨c.Xg,c.Xo,c.Xc,c.X4.set (J9 c t) (hdX9 (c.X4.getD (J9 c t) Y2)),c.Ji,c.Y1,c.X0,c.W4⟩:=by unfold Yw;rw [if_neg (by omega),if_neg (by omega),if_neg (by omega),if_neg (by omega),if_pos ⟨h,h0⟩]
theorem trn_6 (h:t.Wu=6):Yw c t=⟨c.Xg,c.Xo,c.Xc++[0],c.X4,c.Ji,c.Y1,c.X0,c.W4⟩:=by unfold Yw;rw [if_neg (by omega),if_neg (by omega),if_neg (by omega),if_neg (by omega),if_neg (by omega),if_pos h]
theorem trn_7 (h:t.Wu=7):Yw c t=⟨c.Xg,c.Xo,c.Xc,c.X4,c.Ji,⟨c.Y1.X2+1,c.Y1.X7⟩,c.X0,c.W4⟩:=by unfold Yw;rw [if_neg (by omega),if_neg (by omega),if_neg (by omega),if_neg (by omega),if_neg (by omega),if_neg (by omega),if_pos h]
theorem trn_8 (h:t.Wu=8) (h0:0<c.W4.length):Yw c t=⟨c.Xg,c.Xo,c.Xc,c.X4,c.Ji,c.Y1,c.X0,c.W4.drop 1⟩:=by unfold Yw;rw [if_neg (by omega),if_neg (by omega),if_neg (by omega),if_neg (by omega),if_neg (by omega),if_neg (by omega),if_neg (by omega),if_pos ⟨h,h0⟩]
theorem trn_9 (h:t.Wu=9) (h0:0<c.Xo.length):Yw c t=⟨c.Xg,c.Xo.drop 1,c.Xc,c.X4,c.Ji,c.Y1,c.X0,c.W4⟩:=by unfold Yw;rw [if_neg (by omega),if_neg (by omega),if_neg (by omega),if_neg (by omega),if_neg (by omega),if_neg (by omega),if_neg (by omega),if_neg (by omega),if_pos ⟨h,h0⟩]
theorem Xdj (h1:¬(t.Wu=1∧0<c.X4.length)) (h2:¬t.Wu=2) (h3:¬t.Wu=3) (h4:¬t.Wu=4) (h5:¬(t.Wu=5∧0<c.X4.length)) (h6:¬t.Wu=6) (h7:¬t.Wu=7) (h8:¬(t.Wu=8∧0<c.W4.length)) (h9:¬(t.Wu=9∧0<c.Xo.length)):Yw c t=c:=by
  unfold Yw;rw [if_neg h1,if_neg h2,if_neg h3,if_neg h4,if_neg h5,if_neg h6,if_neg h7,if_neg h8,if_neg h9]
end
def smT9 (c:V4):Prop:=c.X4.length≤1000000∧c.Xc.length≤1000000000∧(0≤c.Xg∧c.Xg≤1000000000000000)∧(0≤c.Ji∧c.Ji≤1000000000000000)∧(0≤c.X0.Xl∧c.X0.Xl≤1000000000000000)∧(0≤c.Y1.X2∧c.Y1.X2≤1000000000000000)∧(c.W4.length≤1000000∧c.Xo.length≤1000000)∧∀ h,h∈c.X4→h.Y9.length≤10000000
instance (c:V4):Decidable (smT9 c):=by unfold smT9;infer_instance
theorem smT_prev {c:V4} (h:smT9 c) (k:Nat):(c.X4.getD k Y2).Y9.length≤10000000:=by
  by_cases hk:k<c.X4.length
  · exact h.2.2.2.2.2.2.2 _ (Ur hk)
  · rw [List.getD_eq_getElem?_getD,List.getElem?_eq_none (by omega)];exact Nat.zero_le _
theorem cut9 {l:List Yh} {j:Nat} (hj:j<l.length):l.take j++(l.take (j+1+l.length-(j+1))).drop (j+1)=l.take j++l.drop (j+1):=by
  rw [List.take_of_length_le (l:=l) (i:=j+1+l.length-(j+1)) (by omega)]
end Go.Proofs.YtnaopgohccacmaaGreat.Q
