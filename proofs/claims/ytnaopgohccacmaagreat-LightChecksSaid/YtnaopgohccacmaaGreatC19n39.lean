import Derived.Test.YtnaopgohccacmaaGreatC19n38
namespace Go.Proofs.YtnaopgohccacmaaGreat.Q
open Go Go.RowKit
set_option linter.unusedVariables false
set_option linter.unusedSimpArgs false
set_option maxRecDepth 100000
set_option maxHeartbeats 4000000
theorem iat_49:Tryz.prog.info? 49=some Tryz.t49:=by kernel_rfl
theorem V2:Wide Tryz.prog 49 (some 10):=⟨_,_,Tryz.underlying49,.inl ⟨_,rfl⟩,iat_49,rfl⟩
theorem X52:Elem Tryz.prog 41 69 4 48:=⟨Tryz.underlying41,_,_,Ja,rfl,rfl,rfl,rfl,by decide⟩
section
variable (d:List UInt8) (l:List Yq) (seq:Int) (x:List aE) (b:List UInt8) (h:Int) (i:Int) (k:Nat) (k2:Nat)
abbrev Zob:AV:=slV false false (kE false) x
abbrev Zoc:HS:=.live (.box 149 [dI 0,dS d,dB true,.own 1 (Xk false).sz 0 l.length])
abbrev Zod:HS:=.live (Xe 152 (Xk false) l)
abbrev Zoe:AV:=vI (unH ((b.length:Nat):Int) b)
abbrev Zof:AV:=vI (unE ((b.length:Nat):Int) b)
abbrev Zog:List AV:=[pv 0 0,vI seq,(Zob x),slV false false kU8 b,vI h,vI i,aa,aa,aa,aa,aa,aa,pv 2 0,vI 12,(Zoe b),aa,aa,(Zof b),aa,aa,aa,aa,aa,aa,aa,aa,aa,aa,aa,aa,aa,aa,aa,aa,aa,aa,aa,aa,aa,aa,vB true]
abbrev Zoh:SV:=.d (.val (.slice none 0 0))
abbrev Zoi:HS:=.live (.box 49 [dI 0,Zoh,Zoh,Zoh,dI 0,dI 0,Zoh,dI 0,dI 0,Zoh])
abbrev Zoj:List HS:=[(Zoc d l),(Zod l),Zoi]
abbrev Zok:SV:=.d (dsl false false (kE false) ([]:List aE))
abbrev Zol:SV:=dU ([]:List UInt8)
abbrev Zom:SV:=.d (dsl false false (X7 false) ([]:List Yf))
abbrev Zon:SV:=.d (dsl false false (Xb false) ([]:List Y7))
abbrev Zoo:List SV:=[dI 0,Zok,Zol,Zom,dI 0,dI 0,Zol,dI 0,dI 0,Zon]
abbrev Zop:List HS:=[(Zoc d l),(Zod l),.live (.box 49 Zoo)]
abbrev Zoq:AV:=vB (decide ((unH ((b.length:Nat):Int) b)≠seq))
abbrev Zor:List AV:=[pv 0 0,vI seq,(Zob x),slV false false kU8 b,vI h,vI i,aa,aa,aa,aa,aa,aa,pv 2 0,vI 12,(Zoe b),aa,aa,(Zof b),aa,aa,aa,aa,aa,aa,aa,aa,aa,aa,aa,aa,aa,aa,aa,aa,aa,aa,aa,aa,aa,aa,(Zoq seq b)]
abbrev Zos:List AV:=[pv 0 0,vI seq,(Zob x),slV false false kU8 b,vI h,vI i,aa,aa,aa,aa,aa,aa,pv 2 0,vI 2,(Zoe b),aa,aa,(Zof b),aa,aa,aa,aa,aa,aa,aa,aa,aa,aa,aa,aa,aa,aa,aa,aa,aa,aa,aa,aa,aa,aa,(Zoq seq b),aa,aa,aa,aa,aa,aa,aa,aa,aa,aa,aa,aa,aa,vB true]
abbrev Zot:TV:=.one (dI 2)
abbrev Zou:AV:=vB (decide ((seq-h)>999))
abbrev Zov:List AV:=[pv 0 0,vI seq,(Zob x),slV false false kU8 b,vI h,vI i,aa,aa,aa,aa,aa,aa,pv 2 0,vI 2,(Zoe b),aa,aa,(Zof b),aa,aa,aa,aa,aa,aa,aa,aa,aa,aa,aa,aa,aa,aa,aa,aa,aa,aa,aa,aa,aa,aa,(Zoq seq b),aa,aa,aa,aa,aa,aa,aa,aa,aa,aa,aa,aa,aa,(Zou seq h)]
abbrev Zow:AV:=vI ((x.length:Nat):Int)
abbrev Zox:List AV:=[pv 0 0,vI seq,(Zob x),slV false false kU8 b,vI h,vI i,aa,aa,aa,aa,aa,aa,pv 2 0,vI 0,(Zoe b),aa,aa,(Zof b),pv 4 0,aa,aa,aa,aa,aa,aa,aa,aa,aa,aa,aa,aa,aa,aa,aa,aa,aa,aa,aa,aa,aa,(Zoq seq b),aa,aa,aa,aa,aa,aa,aa,aa,aa,aa,aa,aa,aa,(Zou seq h),aa,aa,aa,aa,aa,aa,(Zob x),(Zow x),vI 0]
abbrev Zoy:SV:=dI seq
abbrev Zoz:SV:=.own 3 kU8.sz 0 b.length
abbrev Zp0:List HS:=[(Zoc d l),(Zod l),Zoi,.live (Xe 5 kU8 b),.live (.box 49 [(Zoy seq),.own 5 (kE false).sz 0 0,(Zoz b),Zoh,dI i,dI 0,Zoh,dI 0,dI 0,Zoh]),.live (Xe 43 (kE false) ([]:List aE))]
abbrev Zp1:List AV:=[pv 0 0,vI seq,(Zob x),slV false false kU8 b,vI h,vI i,aa,aa,aa,aa,aa,aa,pv 2 0,vI 0,(Zoe b),aa,aa,(Zof b),pv 4 0,aa,aa,aa,aa,aa,aa,aa,aa,aa,aa,aa,aa,aa,aa,aa,aa,aa,aa,aa,aa,aa,(Zoq seq b),aa,aa,aa,aa,aa,aa,aa,aa,aa,aa,aa,aa,aa,(Zou seq h),aa,aa,aa,aa,aa,aa,(Zob x),(Zow x),vI ((k:Nat):Int)]
abbrev Zp2:List HS:=[(Zoc d l),(Zod l),Zoi,.live (Xe 5 kU8 b),.live (.box 49 [(Zoy seq),.own 5 (kE false).sz 0 (x.take k).length,(Zoz b),Zoh,dI i,dI 0,Zoh,dI 0,dI 0,Zoh]),.live (Xe 43 (kE false) (x.take k))]
abbrev Zp4:List AV:=[pv 0 0,vI seq,(Zob x),slV false false kU8 b,vI h,vI i,aa,aa,aa,aa,aa,aa,pv 2 0,vI 0,(Zoe b),aa,aa,(Zof b),pv 4 0,aa,aa,aa,aa,aa,aa,aa,aa,aa,aa,aa,aa,aa,aa,aa,aa,aa,aa,aa,aa,aa,(Zoq seq b),aa,aa,aa,aa,aa,aa,aa,aa,aa,aa,aa,aa,aa,(Zou seq h),aa,aa,aa,aa,aa,aa,(Zob x),(Zow x),vI ((k+1:Nat):Int)]
abbrev Zp5:List AV:=[pv 0 0,vI seq,aa,aa,vI h,vI i,aa,aa,aa,aa,aa,aa,pv 2 0,aa,aa,aa,aa,aa,pv 4 0]
abbrev Zp6:SV:=.own 5 (kE false).sz 0 x.length
abbrev Zp7:HS:=.live (.box 49 [(Zoy seq),(Zp6 x),(Zoz b),Zoh,dI i,dI 0,Zoh,dI 0,dI 0,Zoh])
abbrev Zp8:HS:=.live (Xe 43 (kE false) x)
abbrev Zp9:List AV:=[pv 0 0,vI seq,aa,aa,vI h,vI i,aa,aa,aa,aa,aa,aa,pv 2 0,aa,aa,aa,aa,aa,pv 4 0,aa,aa,pv 6 0,vI h]
abbrev Zpa:HS:=.live (.box 65 [dI 0,dS [],Zoh,Zoh])
abbrev Zpb:HS:=.live (.box 49 [(Zoy seq),(Zp6 x),(Zoz b),.own 7 (X7 false).sz 0 0,dI i,dI 0,Zoh,dI 0,dI 0,Zoh])
abbrev Zpc:HS:=.live (Xe 69 (X7 false) ([]:List Yf))
abbrev Zpd:HS:=.live (.box 65 [dI 0,dS [],Zok,.d (dsl false false (Xd false) ([]:List Y6))])
abbrev Zpe:AV:=vI (h+((k2:Nat):Int))
abbrev Zpf:List AV:=[pv 0 0,vI seq,aa,aa,vI h,vI i,aa,aa,aa,aa,aa,aa,pv 2 0,aa,aa,aa,aa,aa,pv 4 0,aa,aa,pv 6 0,(Zpe h k2)]
abbrev Zpg:SV:=.own 7 (X7 false).sz 0 (hdrs (W0 0 l) h k2).length
abbrev Zph:HS:=.live (.box 49 [(Zoy seq),(Zp6 x),(Zoz b),(Zpg l h k2),dI i,dI 0,Zoh,dI 0,dI 0,Zoh])
abbrev Zpi:HS:=.live (.box 65 [dI (Hd (W0 0 l) h k2).Xg,dS (Hd (W0 0 l) h k2).Y4,.d (dsl false false (kE false) (Hd (W0 0 l) h k2).X9),.d (dsl false false (Xd false) (Hd (W0 0 l) h k2).Xl)])
abbrev Zpj:HS:=.live (Xe 69 (X7 false) (hdrs (W0 0 l) h k2))
abbrev Zpk:List HS:=[(Zoc d l),(Zod l),Zoi,.live (Xe 5 kU8 b),(Zph l seq x b h i k2),(Zp8 x),(Zpi l h k2),(Zpj l h k2)]
abbrev Zpn:AV:=vB (decide ((h+((k2:Nat):Int))≤seq))
abbrev Zpo:List AV:=[pv 0 0,vI seq,aa,aa,vI h,vI i,aa,aa,aa,aa,aa,aa,pv 2 0,vI 4,aa,aa,aa,aa,pv 4 0,aa,aa,pv 6 0,(Zpe h k2),pv 8 0,vI (X10 0 l.length (h+((k2:Nat):Int))),aa,aa,aa,aa,aa,aa,aa,aa,aa,aa,aa,aa,aa,aa,aa,aa,aa,aa,aa,aa,aa,aa,aa,aa,aa,aa,aa,aa,aa,aa,aa,aa,aa,aa,aa,aa,aa,aa,aa,aa,aa,aa,aa,aa,aa,aa,aa,aa,aa,aa,aa,aa,aa,aa,aa,aa,(Zpn seq h k2),aa,aa,aa,aa,aa,aa,aa,aa,aa,vB (decide ((X10 0 l.length (h+((k2:Nat):Int)))≠0))]
abbrev Zpp:List SV:=[dI (W0 0 l (h+((k2:Nat):Int))).Xg,dS (W0 0 l (h+((k2:Nat):Int))).Y4,.d (dsl false false (kE false) (W0 0 l (h+((k2:Nat):Int))).X9),.d (dsl false false (Xd false) (W0 0 l (h+((k2:Nat):Int))).Xl)]
abbrev Zpq:=(Ws (W0 0 l (h+((k2:Nat):Int))))
abbrev Zpr:TV:=.agg [dI (Zpq l h k2).Xg,dS (Zpq l h k2).Y4,dI (Zpq l h k2).Yg,dS (Zpq l h k2).W2]
abbrev Zps:List AV:=[pv 0 0,vI seq,aa,aa,vI h,vI i,aa,aa,aa,aa,aa,aa,pv 2 0,aa,aa,aa,aa,aa,pv 4 0,aa,aa,pv 6 0,vI (h+(((k2+1):Nat):Int))]
abbrev Zpt:HS:=.live (.box 65 [dI (Hd (W0 0 l) h (k2+1)).Xg,dS (Hd (W0 0 l) h (k2+1)).Y4,.d (dsl false false (kE false) (Hd (W0 0 l) h (k2+1)).X9),.d (dsl false false (Xd false) (Hd (W0 0 l) h (k2+1)).Xl)])
abbrev Zpv:List AV:=[pv 0 0,vI seq,aa,aa,vI h,vI i,aa,aa,aa,aa,aa,aa,pv 2 0,aa,aa,aa,aa,aa,pv 4 0,aa,aa,pv 6 0,vI ((h+((k2:Nat):Int))+1)]
abbrev Zpw:List HS:=[(Zoc d l),(Zod l),Zoi,.live (Xe 5 kU8 b),.live (.box 49 [(Zoy seq),(Zp6 x),(Zoz b),.own 10 (X7 false).sz 0 (hdrs (W0 0 l) h (k2+1)).length,dI i,dI 0,Zoh,dI 0,dI 0,Zoh]),(Zp8 x),(Zpt l h k2),.live (Xe 69 (X7 false) (hdrs (W0 0 l) h (k2+1)))]
abbrev Zpx:HS:=.live (.box 49 [(Zoy seq),(Zp6 x),(Zoz b),.own 10 (X7 false).sz 0 ((hdrs (W0 0 l) h k2)++[(Zpq l h k2)]).length,dI i,dI 0,Zoh,dI 0,dI 0,Zoh])
abbrev Zpy:List AV:=[pv 0 0,vI seq,aa,aa,vI h,vI i,aa,aa,aa,aa,aa,aa,pv 2 0,aa,aa,aa,aa,aa,pv 4 0,aa,aa,pv 6 0,(Zpe h k2),aa,aa,aa,aa,aa,aa,aa,aa,aa,aa,aa,aa,aa,aa,aa,aa,aa,aa,aa,aa,aa,aa,aa,aa,aa,aa,aa,aa,aa,aa,aa,aa,aa,aa,aa,aa,aa,aa,aa,aa,aa,aa,aa,aa,aa,aa,aa,aa,aa,aa,aa,aa,aa,aa,aa,aa,aa,aa,(Zpn seq h k2)]
abbrev Zpz:List SV:=[dI (W0 0 l h).Xg,dS (W0 0 l h).Y4,.d (dsl false false (kE false) (W0 0 l h).X9),.d (dsl false false (Xd false) (W0 0 l h).Xl)]
abbrev Zq0:List HS:=[(Zoc d l),(Zod l),Zoi,.live (Xe 5 kU8 b),(Zph l seq x b h i k2),(Zp8 x),.live (.box 65 (Zpz l h)),(Zpj l h k2)]
abbrev Zq1:List AV:=[pv 0 0,vI seq,aa,aa,vI h,vI i,aa,aa,aa,aa,aa,aa,pv 2 0,vI (Je (W0 0 l h) i),aa,aa,aa,aa,pv 4 0,aa,aa,pv 6 0,(Zpe h k2),aa,aa,slV false false (Xb false) (Iz (W0 0 l h) i),vI (Je (W0 0 l h) i),aa,aa,aa,aa,aa,aa,aa,aa,aa,aa,aa,aa,aa,aa,aa,aa,aa,aa,aa,aa,aa,aa,aa,aa,aa,aa,aa,aa,aa,aa,aa,aa,aa,aa,aa,aa,aa,aa,aa,aa,aa,aa,aa,aa,aa,aa,aa,aa,aa,aa,aa,aa,aa,aa,(Zpn seq h k2),aa,aa,aa,aa,aa,aa,aa,aa,aa,aa,aa,aa,aa,aa,aa,aa,aa,aa,aa,aa,aa,aa,aa,aa,aa,aa,aa,aa,aa,vB (decide ((Je (W0 0 l h) i)≠0))]
abbrev Zq2:List AV:=[pv 0 0,vI seq,aa,aa,vI h,vI i,aa,aa,aa,aa,aa,aa,pv 2 0,vI 0,aa,aa,aa,aa,pv 4 0,aa,aa,pv 6 0,(Zpe h k2),aa,aa,slV false false (Xb false) (Iz (W0 0 l h) i),vI (Je (W0 0 l h) i),aa,aa,aa,aa,aa,aa,aa,aa,aa,aa,aa,aa,aa,aa,aa,aa,aa,aa,aa,aa,aa,aa,aa,aa,aa,aa,aa,aa,aa,aa,aa,aa,aa,aa,aa,aa,aa,aa,aa,aa,aa,aa,aa,aa,aa,aa,aa,aa,aa,aa,aa,aa,aa,aa,(Zpn seq h k2),aa,aa,aa,aa,aa,aa,aa,aa,aa,aa,aa,aa,aa,aa,aa,aa,aa,aa,aa,aa,aa,aa,aa,aa,aa,aa,aa,aa,aa,vB (decide ((Je (W0 0 l h) i)≠0))]
abbrev Zq3:SV:=dI ((W0 0 l h).X9.getD (i).toNat zE).X4
abbrev Zq4:SV:=dU ((W0 0 l h).X9.getD (i).toNat zE).Xf
abbrev Zq5:SV:=dI ((W0 0 l h).Xl.getD (i).toNat Ym).Xw
abbrev Zq6:SV:=dI ((W0 0 l h).Xl.getD (i).toNat Ym).Xn
abbrev Zq7:SV:=.d (dsl false false (Xb false) (Iz (W0 0 l h) i))
abbrev Zq8:HS:=.live (.box 49 [(Zoy seq),(Zp6 x),(Zoz b),(Zpg l h k2),dI i,(Zq3 l h i),(Zq4 l h i),(Zq5 l h i),(Zq6 l h i),(Zq7 l h i)])
abbrev Zq9:SV:=.d (dsl false false (kE false) x)
abbrev Zqa:St:=⟨(Zq2 l seq h i k2),[(Zoc d l),(Zod l),.live (.box 49 [(Zoy seq),(Zq9 x),(Zoz b),(Zpg l h k2),dI i,(Zq3 l h i),(Zq4 l h i),(Zq5 l h i),(Zq6 l h i),(Zq7 l h i)]),.live (Xe 5 kU8 b),.live (.box 49 [(Zoy seq),(Zq9 x),(Zoz b),(Zpg l h k2),dI i,(Zq3 l h i),(Zq4 l h i),(Zq5 l h i),(Zq6 l h i),(Zq7 l h i)]),.dead,.live (.box 65 (Zpz l h)),(Zpj l h k2)]⟩
abbrev Zqb:HS:=.live (.box 49 [(Zoy seq),(Zq9 x),dU b,(Zpg l h k2),dI i,(Zq3 l h i),(Zq4 l h i),(Zq5 l h i),(Zq6 l h i),(Zq7 l h i)])
abbrev Zqc:St:=⟨(Zq2 l seq h i k2),[(Zoc d l),(Zod l),(Zqb l seq x b h i k2),.dead,(Zqb l seq x b h i k2),.dead,.live (.box 65 (Zpz l h)),(Zpj l h k2)]⟩
abbrev Zqd:List SV:=[(Zoy seq),(Zq9 x),dU b,.d (dsl false false (X7 false) (hdrs (W0 0 l) h k2)),dI i,(Zq3 l h i),(Zq4 l h i),(Zq5 l h i),(Zq6 l h i),(Zq7 l h i)]
end
theorem Xef (d:List UInt8) (l:List Yq) (seq:Int) (x:List aE) (b:List UInt8) (h:Int) (i:Int) (hl:l.length≤100) (hw:Xbj l) (hx:X0l x) (hb:b.length≤100000000) (hsq:-9223372036854775808≤seq∧seq≤9223372036854775807) (hh:-9223372036854775808≤h∧h≤9223372036854775807) (hi:-9223372036854775808≤i∧i≤9223372036854775807):Holds Tryz.prog 17 ⟨[pv 0 0,vI seq,slV false false (kE false) x,slV false false kU8 b,vI h,vI i],[.box 149 [dI 0,dS d,dB true,.own 1 (Xk false).sz 0 l.length],Xe 152 (Xk false) l],.tup [.agg [dI (J1 (W0 0 l) l.length seq x b h i).Xo,.d (dsl false false (kE false) (J1 (W0 0 l) l.length seq x b h i).Xv),dU (J1 (W0 0 l) l.length seq x b h i).Xa,.d (dsl false false (X7 false) (J1 (W0 0 l) l.length seq x b h i).X0),dI (J1 (W0 0 l) l.length seq x b h i).J6,dI (J1 (W0 0 l) l.length seq x b h i).Xs.X4,dU (J1 (W0 0 l) l.length seq x b h i).Xs.Xf,dI (J1 (W0 0 l) l.length seq x b h i).X1.Xw,dI (J1 (W0 0 l) l.length seq x b h i).X1.Xn,.d (dsl false false (Xb false) (J1 (W0 0 l) l.length seq x b h i).Yv)],.one (dI (X3s (W0 0 l) l.length seq b h i))],[.live (.box 149 [dI 0,dS d,dB true,.own 1 (Xk false).sz 0 l.length]),.live (Xe 152 (Xk false) l)]⟩:=by
 refine Holds.of Tryz.func17 rfl (N:=129) Tryz.ntmps17 rfl fun w0 B0 S0 U0=>?_
 show T _ (Y2 129 2 w0 S0 U0 B0) ⟨[pv 0 0,vI seq,(Zob x),slV false false kU8 b,vI h,vI i],[(Zoc d l),(Zod l)]⟩ _ _
 have hx1:=hx.1
 have hfw:=fun y=>blk_few hw y
 have hfh:=hfw h
 refine sR [] ?_
 refine T.seq ?_
 refine sR [hR 1 rfl rfl (rCa (X3c false false b ‹_›) Tryz.func50 [] [(.tmp 28,slV false false kU8 b)] 0 0)] ?_
 by_cases hq1:(unE ((b.length:Nat):Int) b)≠0
 ·have h3:=hq1;have hx9:=X4q (bf:=(W0 0 l)) (n:=l.length) (seq:=seq) (x:=x) (b:=b) (h:=h) (i:=i) (.inl h3)
  refine sR (Xm (hN · false (dT hq1)) [3,4,5] (hP 6 (dT hq1)::[])) ?_
  refine cT (b:=true) rfl ?_
  refine sR [] ?_
  refine T.ret (rT ?_)
  refine eN ⟨(Zog seq x b h i),(Zoj d l)⟩ ?_
  refine Xc (s':=⟨(Zog seq x b h i),(Zop d l)⟩) (fun _ _ hG=>Ys (s:=⟨(Zog seq x b h i),(Zoj d l)⟩) ⟨.inl rfl,p3u⟩ p3g hG) ?_
  exact eX [.c 12 2 49 0 49 [dI 0,Zok,Zol,Zom,dI 0,dI 0,Zol,dI 0,dI 0,Zon] (.agg Zoo),.t 13 (.one (dI 12))] ⟨⟨rfl,rfl,by kernel_rfl,by kernel_rfl,.inl ⟨10,V2,rfl,Nat.le_of_ble_eq_true rfl⟩⟩,⟨⟨rfl,by kernel_rfl⟩,trivial⟩⟩ [0,1] pZ3 (ix (ix trivial))
 have h3:=hq1;have hur:=un_rng h3
 refine sR (Xm (hY · (dF hq1)) [3,4,5] (hP 6 (dF hq1)::[])) ?_
 by_cases hq2:(unH ((b.length:Nat):Int) b)≠seq
 ·have h4:=hq2;have hx9:=X4q (bf:=(W0 0 l)) (n:=l.length) (seq:=seq) (x:=x) (b:=b) (h:=h) (i:=i) (.inr h4)
  refine cT (dT hq2) ?_
  refine sR [] ?_
  refine T.ret (rT ?_)
  refine eN ⟨(Zor seq x b h i),(Zoj d l)⟩ ?_
  refine Xc (s':=⟨(Zor seq x b h i),(Zop d l)⟩) (fun _ _ hG=>Ys (s:=⟨(Zor seq x b h i),(Zoj d l)⟩) ⟨.inl rfl,p3u⟩ p3g hG) ?_
  exact eX [.c 12 2 49 0 49 [dI 0,Zok,Zol,Zom,dI 0,dI 0,Zol,dI 0,dI 0,Zon] (.agg Zoo),.t 13 (.one (dI 12))] ⟨⟨rfl,rfl,by kernel_rfl,by kernel_rfl,.inl ⟨10,V2,rfl,Nat.le_of_ble_eq_true rfl⟩⟩,⟨⟨rfl,by kernel_rfl⟩,trivial⟩⟩ [0,1] pZ3 (ix (ix trivial))
 have h4:=hq2; 
 refine cF (dF hq2) ?_
 refine T.skip (nT (T.seq ?_))
 by_cases hq3:h<1
 ·have hx9:=X2o (bf:=(W0 0 l)) (n:=l.length) (seq:=seq) (x:=x) (b:=b) (h:=h) (i:=i) h3 h4 (by omega)
  refine sR (Xm (hN · false (dT hq3)) [3,4,5] (hP 6 (dT hq3)::(Xm hN0 [8,9,10,11] (hP1 12::[])))) ?_
  refine cT (b:=true) rfl ?_
  refine sR [] ?_
  refine T.ret (rT ?_)
  refine eN ⟨(Zos seq x b h i),(Zoj d l)⟩ ?_
  refine Xc (s':=⟨(Zos seq x b h i),(Zop d l)⟩) (fun _ _ hG=>Ys (s:=⟨(Zos seq x b h i),(Zoj d l)⟩) ⟨.inl rfl,(kk2 (kk4 X5v))⟩ p3g hG) ?_
  exact eX [.c 12 2 49 0 49 [dI 0,Zok,Zol,Zom,dI 0,dI 0,Zol,dI 0,dI 0,Zon] (.agg Zoo),.t 13 (Zot)] ⟨⟨rfl,rfl,by kernel_rfl,by kernel_rfl,.inl ⟨10,V2,rfl,Nat.le_of_ble_eq_true rfl⟩⟩,⟨⟨rfl,by kernel_rfl⟩,trivial⟩⟩ [0,1] pZ3 (ix (ix trivial))
 by_cases hq4:h>seq
 ·have hx9:=X2o (bf:=(W0 0 l)) (n:=l.length) (seq:=seq) (x:=x) (b:=b) (h:=h) (i:=i) h3 h4 (by omega)
  refine sR (Xm (hY · (dF hq3)) [3,4,5] (hP 6 (dF hq3)::(Xm (hN · false (dT hq4)) [8,9,10,11] (hP 12 (dT hq4)::[])))) ?_
  refine cT (b:=true) rfl ?_
  refine sR [] ?_
  refine T.ret (rT ?_)
  refine eN ⟨(Zos seq x b h i),(Zoj d l)⟩ ?_
  refine Xc (s':=⟨(Zos seq x b h i),(Zop d l)⟩) (fun _ _ hG=>Ys (s:=⟨(Zos seq x b h i),(Zoj d l)⟩) ⟨.inl rfl,(kk2 (kk4 X5v))⟩ p3g hG) ?_
  exact eX [.c 12 2 49 0 49 [dI 0,Zok,Zol,Zom,dI 0,dI 0,Zol,dI 0,dI 0,Zon] (.agg Zoo),.t 13 (Zot)] ⟨⟨rfl,rfl,by kernel_rfl,by kernel_rfl,.inl ⟨10,V2,rfl,Nat.le_of_ble_eq_true rfl⟩⟩,⟨⟨rfl,by kernel_rfl⟩,trivial⟩⟩ [0,1] pZ3 (ix (ix trivial))
 refine sR (Xm (hY · (dF hq3)) [3,4,5] (hP 6 (dF hq3)::(hY 8 (dF hq4)::(hY 9 (dF hq4)::(hS 10 (oY rfl rfl rfl rfl (X3 rfl) (dF hq4) (Ye (u1:=.int .i64 seq) (u2:=.int .i64 h) (v:=.int .i64 (seq-h)) (Ve pa) (X3 rfl) F2))::(hY 11 (dF hq4)::(hP 12 (dF hq4)::[]))))))) ?_
 by_cases hq5:(seq-h)>999
 ·have hx9:=X2o (bf:=(W0 0 l)) (n:=l.length) (seq:=seq) (x:=x) (b:=b) (h:=h) (i:=i) h3 h4 (by omega)
  refine cT (dT hq5) ?_
  refine sR [] ?_
  refine T.ret (rT ?_)
  refine eN ⟨(Zov seq x b h i),(Zoj d l)⟩ ?_
  refine Xc (s':=⟨(Zov seq x b h i),(Zop d l)⟩) (fun _ _ hG=>Ys (s:=⟨(Zov seq x b h i),(Zoj d l)⟩) ⟨.inl rfl,(kk2 (kk4 X5v))⟩ p3g hG) ?_
  exact eX [.c 12 2 49 0 49 [dI 0,Zok,Zol,Zom,dI 0,dI 0,Zol,dI 0,dI 0,Zon] (.agg Zoo),.t 13 (Zot)] ⟨⟨rfl,rfl,by kernel_rfl,by kernel_rfl,.inl ⟨10,V2,rfl,Nat.le_of_ble_eq_true rfl⟩⟩,⟨⟨rfl,by kernel_rfl⟩,trivial⟩⟩ [0,1] pZ3 (ix (ix trivial))
 have h5:¬(h<1∨h>seq∨seq-h>999):=(by omega)
 refine cF (dF hq5) ?_
 refine T.skip (nT ?_)
 refine sR [hR 2 rfl rfl (rCa (Fu false false b (by omega)) Tryz.func51 [3] [(.tmp 57,slV false false kU8 b)] 0 1)] ?_
 refine T.seq ?_
 refine sR [] ?_
 refine T.block ?_
 refine tN ⟨(Zox seq x b h i),[(Zoc d l),(Zod l),Zoi,.live (Xe 5 kU8 b),.live (.box 49 [(Zoy seq),Zoh,(Zoz b),Zoh,dI i,dI 0,Zoh,dI 0,dI 0,Zoh])]⟩ ?_
 refine Wv (s':=⟨(Zox seq x b h i),(Zp0 d l seq b i)⟩) (fun _ _ hG=>Jd 5 4 1 43 (kE false) (Tb:=49) (cs:=[(Zoy seq),Zoh,(Zoz b),Zoh,dI i,dI 0,Zoh,dI 0,dI 0,Zoh]) rfl rfl rfl hG) ?_
 refine T.loop (ι:=Nat) (fun (k:Nat)=>⟨(Zp1 seq x b h i k),(Zp2 d l seq x b i k)⟩) (fun (k:Nat)=>(k≤x.length)) (fun (k:Nat)=>x.length-k) (0) (Nat.zero_le _) (fun _ _ hG=>Yt [0,1,2,3,4,5] (bm 64 16158916562517389375) (h2:=(Zp0 d l seq b i)) rfl (cg2 (fun (q1:Nat) (q2:List aE)=>([(Zoc d l),(Zod l),Zoi,.live (Xe 5 kU8 b),.live (.box 49 [(Zoy seq),.own 5 (kE false).sz 0 q1,(Zoz b),Zoh,dI i,dI 0,Zoh,dI 0,dI 0,Zoh]),.live (Xe 43 (kE false) q2)]:List HS)) (by rfl) (by rfl)) hG) ?_
 rintro k hk
 show T _ _ ⟨(Zp1 seq x b h i k),(Zp2 d l seq x b i k)⟩ _ _
 replace hk:k≤x.length:=hk
 have htk:(x.take k).length=k:=p1z
 refine sR [] ?_
 refine T.seq ?_
 by_cases hq6:((k:Nat):Int)<((x.length:Nat):Int)
 ·have hgk:=X9d hx (k:=k) (by omega);have hgk1:=hgk.1.1;have hgk2:=hgk.1.2;have hgk3:=hgk.2
  refine cT (dT hq6) ?_
  refine T.skip (nT (T.seq ?_))
  refine T.block ?_
  refine sR [hR 0 rfl rfl (Wd false false (kE false) x k (k:=.i64) (i:=((k:Nat):Int)) Tryz.underlying37 Vs rfl rfl (by omega) (X3 rfl) trivial)] ?_
  refine sR [hR 2 rfl rfl (rCa (Fu false false (x.getD k zE).Xf (by omega)) Tryz.func51 [7] [(.tmp 68,slV false false kU8 (x.getD k zE).Xf)] 0 1)] ?_
  refine xR [hR 3 rfl rfl (J0 0 73 7 5 kU8 (x.getD k zE).Xf (av:=.tv (.agg [dI (x.getD k zE).X4,.own 7 kU8.sz 0 (x.getD k zE).Xf.length])) (Yd 8 43 (kE false) (W5 false) [(x.getD k zE)] [⟨0,.tmp 73,.agg [dI (x.getD k zE).X4,dU (x.getD k zE).Xf],0⟩] (cs:=[dI (x.getD k zE).X4,dU (x.getD k zE).Xf]) Tryz.underlying37 Vs rfl F7 rfl rfl rfl pd (Yp rfl rfl pd W4) pZ7 (V1 pZ7) (X3 rfl) trivial) rfl p5c p3c rfl rfl),hR 4 rfl rfl (Yy 5 9 43 32 (kE false) (W5 false) (x.take k) [(x.getD k zE)] ((x.take k)++[(x.getD k zE)]) (x.take k).length (sy:=(.own 8 (kE false).sz 0 [(x.getD k zE)].length)) (rhs:=[(8,.live (Xe 43 (kE false) [(x.getD k zE)]))]) Fb (by omega) (Wu 8 43 (kE false) [(x.getD k zE)]) Jn (by (simp [maxLen,-List.getD_eq_getElem?_getD]<;>omega)) (by (simp [maxLen,-List.getD_eq_getElem?_getD]<;>omega)) (X3 rfl) trivial)] pZ7 pZ7 ?_
  refine nB ?_
  refine nT ?_
  refine xK [hR 0 rfl rfl (Ye (u1:=.int .i64 ((k:Nat):Int)) (u2:=.int .i64 1) (v:=.int .i64 ((k+1:Nat):Int)) (Wa pa) (X3 rfl) ⟨rfl,trivial⟩)] ?_
  refine nL (k+1) (show (k+1)≤x.length from (by omega)) (show (x.length-(k+1):Nat)<x.length-k from (by omega)) (fun _ _ hG=>Vb [0,1,2,3,4,9] (bm 64 16158916562517389375) (h1:=[(Zoc d l),(Zod l),Zoi,.live (Xe 5 kU8 b),.live (.box 49 [(Zoy seq),.own 9 (kE false).sz 0 (x.take (k+1)).length,(Zoz b),Zoh,dI i,dI 0,Zoh,dI 0,dI 0,Zoh]),.live (Xe 43 (kE false) (x.take (k+1)))]) (h2:=[(Zoc d l),(Zod l),Zoi,.live (Xe 5 kU8 b),.live (.box 49 [(Zoy seq),.own 9 (kE false).sz 0 ((x.take k)++[(x.getD k zE)]).length,(Zoz b),Zoh,dI i,dI 0,Zoh,dI 0,dI 0,Zoh]),.live (Xe 43 (kE false) ((x.take k)++[(x.getD k zE)]))]) (t1:=(Zp4 seq x b h i k)) rfl (by have e1:((x.take (k+1)).length:Nat)=((x.take k)++[(x.getD k zE)]).length:=p4d;have e2:((x.take (k+1)):List aE)=(x.take k)++[(x.getD k zE)]:=p4d;have hE:=congr (congrArg (fun (q1:Nat) (q2:List aE)=>([(Zoc d l),(Zod l),Zoi,.live (Xe 5 kU8 b),.live (.box 49 [(Zoy seq),.own 9 (kE false).sz 0 q1,(Zoz b),Zoh,dI i,dI 0,Zoh,dI 0,dI 0,Zoh]),.live (Xe 43 (kE false) q2)]:List HS)) e1) e2;exact hE) hG)
 refine cF (dF hq6) ?_
 refine T.exit ?_
 refine xT ?_
 refine xT ?_
 refine xH ?_
 refine nT ?_
 refine tN ⟨[pv 0 0,vI seq,(Zob x),slV false false kU8 b,vI h,vI i,aa,aa,aa,aa,aa,aa,pv 2 0,vI 0,(Zoe b),aa,aa,(Zof b),pv 4 0,aa,aa,aa,aa,aa,aa,aa,aa,aa,aa,aa,aa,aa,aa,aa,aa,aa,aa,aa,aa,aa,(Zoq seq b),aa,aa,aa,aa,aa,aa,aa,aa,aa,aa,aa,aa,aa,(Zou seq h),aa,aa,aa,aa,aa,aa,(Zob x),(Zow x),vI ((k:Nat):Int),vB (decide (((k:Nat):Int)<((x.length:Nat):Int)))],(Zp2 d l seq x b i k)⟩ ?_
 refine Wv (s':=⟨(Zp5 seq h i),[(Zoc d l),(Zod l),Zoi,.live (Xe 5 kU8 b),(Zp7 seq x b i),(Zp8 x)]⟩) (fun _ _ hG=>Yt [0,1,2,3,4,5] (bm 19 266291) (h2:=(Zp2 d l seq x b i k)) rfl (by have e1:(x.length:Nat)=(x.take k).length:=pZ25;have e2:(x:List aE)=(x.take k):=pZ25;have hE:=congr (congrArg (fun (q1:Nat) (q2:List aE)=>([(Zoc d l),(Zod l),Zoi,.live (Xe 5 kU8 b),.live (.box 49 [(Zoy seq),.own 5 (kE false).sz 0 q1,(Zoz b),Zoh,dI i,dI 0,Zoh,dI 0,dI 0,Zoh]),.live (Xe 43 (kE false) q2)]:List HS)) e1) e2;exact hE) hG) ?_
 refine sR [] ?_
 refine T.seq ?_
 refine sR [] ?_
 refine T.block ?_
 refine tN ⟨(Zp9 seq h i),[(Zoc d l),(Zod l),Zoi,.live (Xe 5 kU8 b),(Zp7 seq x b i),(Zp8 x),Zpa]⟩ ?_
 refine Wv (s':=⟨(Zp9 seq h i),[(Zoc d l),(Zod l),Zoi,.live (Xe 5 kU8 b),(Zpb seq x b i),(Zp8 x),Zpa,Zpc]⟩) (fun _ _ hG=>Jd 7 4 3 69 (X7 false) (Tb:=49) (cs:=[(Zoy seq),(Zp6 x),(Zoz b),Zoh,dI i,dI 0,Zoh,dI 0,dI 0,Zoh]) rfl rfl rfl hG) ?_
 refine Wv (s':=⟨(Zp9 seq h i),[(Zoc d l),(Zod l),Zoi,.live (Xe 5 kU8 b),(Zpb seq x b i),(Zp8 x),Zpd,Zpc]⟩) (fun _ _ hG=>Ys (s:=⟨(Zp9 seq h i),[(Zoc d l),(Zod l),Zoi,.live (Xe 5 kU8 b),(Zpb seq x b i),(Zp8 x),Zpa,Zpc]⟩) ⟨.inl rfl,p3q⟩ (kk2 (kk4 ⟨(.inr ⟨rfl,(kk2 ⟨pZ5,⟨pZ5,trivial⟩⟩)⟩),⟨.inl rfl,trivial⟩⟩)) hG) ?_
 refine T.loop (ι:=Nat) (fun (k2:Nat)=>⟨(Zpf seq h i k2),(Zpk d l seq x b h i k2)⟩) (fun (k2:Nat)=>(((k2:Nat):Int)≤seq-h+1)∧(k2=0∨h+((k2:Nat):Int)≤((l.length:Nat):Int)+1)) (fun (k2:Nat)=>(seq-h+1).toNat-k2) (0) ⟨(show ((0:Nat):Int)≤seq-h+1 from (by omega)),(show 0=0∨h+((0:Nat):Int)≤((l.length:Nat):Int)+1 from (.inl rfl))⟩ (fun _ _ hG=>Yt [0,1,2,3,4,5,6,7] (bm 23 6557747) (t2:=(Zp9 seq h i)) (h2:=[(Zoc d l),(Zod l),Zoi,.live (Xe 5 kU8 b),(Zpb seq x b i),(Zp8 x),Zpd,Zpc]) pZ22 (cg6 (fun (q1:Nat) (q2:Int) (q3:List UInt8) (q4:List aE) (q5:List Y6) (q6:List Yf)=>([(Zoc d l),(Zod l),Zoi,.live (Xe 5 kU8 b),.live (.box 49 [(Zoy seq),(Zp6 x),(Zoz b),.own 7 (X7 false).sz 0 q1,dI i,dI 0,Zoh,dI 0,dI 0,Zoh]),(Zp8 x),.live (.box 65 [dI q2,dS q3,.d (dsl false false (kE false) q4),.d (dsl false false (Xd false) q5)]),.live (Xe 69 (X7 false) q6)]:List HS)) (by rfl) (by rfl) (by rfl) (by rfl) (by rfl) (by rfl)) hG) ?_
 rintro k2 ⟨hk2,hb2⟩
 show T _ _ ⟨(Zpf seq h i k2),(Zpk d l seq x b h i k2)⟩ _ _
 replace hk2:((k2:Nat):Int)≤seq-h+1:=hk2
 replace hb2:k2=0∨h+((k2:Nat):Int)≤((l.length:Nat):Int)+1:=hb2
 have hhl:=X9m (W0 0 l) h k2
 have hfk:=hfw (h+((k2:Nat):Int))
 refine T.seq ?_
 refine sR [] ?_
 by_cases hq7:(h+((k2:Nat):Int))≤seq
 ·have hks:h+((k2:Nat):Int)≤seq:=(by omega)
  refine cT (dT hq7) ?_
  refine T.skip (nT (T.seq ?_))
  refine T.block ?_
  refine sR [hR 2 rfl rfl (rCa (Xci 0 d l (h+((k2:Nat):Int)) (by omega) ‹_› ‹_›) Tryz.func52 [0,1] [(.tmp 85,pv 0 0),(.tmp 86,(Zpe h k2))] 2 2)] ?_
  refine T.seq ?_
  refine sR [] ?_
  by_cases hq8:(X10 0 l.length (h+((k2:Nat):Int)))≠0
  ·have hx9:=Xdy (bf:=(W0 0 l)) (n:=l.length) (seq:=seq) (x:=x) (b:=b) (h:=h) (i:=i) h3 h4 h5 (by have h9:=Xif hq8 (by omega);omega)
   refine cT (dT hq8) ?_
   refine sR [] ?_
   refine T.ret (rT (rB (rT (rT (rB (rT ?_))))))
   refine eN ⟨(Zpo l seq h i k2),[(Zoc d l),(Zod l),Zoi,.live (Xe 5 kU8 b),(Zph l seq x b h i k2),(Zp8 x),(Zpi l h k2),(Zpj l h k2),.live (.box 65 (Zpp l h k2))]⟩ ?_
   refine Xc (s':=⟨(Zpo l seq h i k2),[(Zoc d l),(Zod l),.live (.box 49 Zoo),.live (Xe 5 kU8 b),(Zph l seq x b h i k2),(Zp8 x),(Zpi l h k2),(Zpj l h k2),.live (.box 65 (Zpp l h k2))]⟩) (fun _ _ hG=>Ys (s:=⟨(Zpo l seq h i k2),[(Zoc d l),(Zod l),Zoi,.live (Xe 5 kU8 b),(Zph l seq x b h i k2),(Zp8 x),(Zpi l h k2),(Zpj l h k2),.live (.box 65 (Zpp l h k2))]⟩) (kk4 (kk8 (Fq p4f))) (kk2 ⟨pZs,p4s⟩) hG) ?_
   exact eX [.c 12 2 49 0 49 [dI 0,Zok,Zol,Zom,dI 0,dI 0,Zol,dI 0,dI 0,Zon] (.agg Zoo),.t 13 (.one (dI 4))] ⟨⟨rfl,rfl,by kernel_rfl,by kernel_rfl,.inl ⟨10,V2,rfl,Nat.le_of_ble_eq_true rfl⟩⟩,⟨⟨rfl,by kernel_rfl⟩,trivial⟩⟩ [0,1] pZ3 (ix (ix trivial))
  have hbi:=blk_in hq8
  refine cF (dF hq8) ?_
  refine T.skip (nT (T.seq ?_))
  refine sR [] ?_
  by_cases hq9:(h+((k2:Nat):Int))=h
  ·have hfr:=frs_0 (bf:=(W0 0 l)) hq9
   refine cT (dT hq9) ?_
   refine xK [] ?_
   refine nT ?_
   refine xD [[],[0],[],[2],[2,3],[0,1,2,3,4],[0,1,2,3,4,5],[0,1,2,3,4,5,6]] [hR 3 rfl rfl (rCa (X0z false (W0 0 l (h+((k2:Nat):Int))) ‹_›) Tryz.func53 [] [(.tmp 99,.tv (.agg (Zpp l h k2)))] 0 0),hR 4 rfl rfl (Yd 9 69 (X7 false) (Vn false) [(Ws (W0 0 l (h+((k2:Nat):Int))))] [⟨0,.tmp 100,(Zpr l h k2),0⟩] (cs:=[dI (Zpq l h k2).Xg,dS (Zpq l h k2).Y4,dI (Zpq l h k2).Yg,dS (Zpq l h k2).W2]) Tryz.underlying41 Ja rfl X7i rfl rfl rfl pd (Yp rfl rfl pd W4) pZ7 (V1 pZ7) (X3 rfl) trivial),hR 5 rfl rfl (Yy 7 10 69 48 (X7 false) (Vn false) (hdrs (W0 0 l) h k2) [(Ws (W0 0 l (h+((k2:Nat):Int))))] ((hdrs (W0 0 l) h k2)++[(Ws (W0 0 l (h+((k2:Nat):Int))))]) (hdrs (W0 0 l) h k2).length (sy:=(.own 9 (X7 false).sz 0 [(Zpq l h k2)].length)) (rhs:=[(9,.live (Xe 69 (X7 false) [(Zpq l h k2)]))]) X52 (by omega) (Wu 9 69 (X7 false) [(Ws (W0 0 l (h+((k2:Nat):Int))))]) Jn (by (simp [maxLen,-List.getD_eq_getElem?_getD]<;>omega)) (by (simp [maxLen,-List.getD_eq_getElem?_getD]<;>omega)) (X3 rfl) trivial)] pZ7 pZ7 pZ7 pZ7 pZ7 pZ7 ?_
   refine nB ?_
   refine nT ?_
   refine xK [hR 1 rfl rfl (Ye (u1:=.int .i64 (h+((k2:Nat):Int))) (u2:=.int .i64 1) (v:=.int .i64 ((h+((k2:Nat):Int))+1)) (Wa pa) (X3 rfl) ⟨rfl,trivial⟩)] ?_
   refine nL (k2+1) ⟨(show (((k2+1):Nat):Int)≤seq-h+1 from (by omega)),(show (k2+1)=0∨h+(((k2+1):Nat):Int)≤((l.length:Nat):Int)+1 from (.inr (by omega)))⟩ (show ((seq-h+1).toNat-(k2+1):Nat)<(seq-h+1).toNat-k2 from (by omega)) (fun _ _ hG=>Vb [0,1,2,3,4,5,6,10] (bm 23 6557747) (t1:=(Zps seq h i k2)) (t2:=(Zpv seq h i k2)) (h1:=(Zpw d l seq x b h i k2)) (h2:=[(Zoc d l),(Zod l),Zoi,.live (Xe 5 kU8 b),(Zpx l seq x b h i k2),(Zp8 x),.live (.box 65 (Zpp l h k2)),.live (Xe 69 (X7 false) ((hdrs (W0 0 l) h k2)++[(Zpq l h k2)]))]) pZ22 (by have e1:((hdrs (W0 0 l) h (k2+1)).length:Nat)=((hdrs (W0 0 l) h k2)++[(Ws (W0 0 l (h+((k2:Nat):Int))))]).length:=p4x;have e2:((Hd (W0 0 l) h (k2+1)).Xg:Int)=(W0 0 l (h+((k2:Nat):Int))).Xg:=p54;have e3:((Hd (W0 0 l) h (k2+1)).Y4:List UInt8)=(W0 0 l (h+((k2:Nat):Int))).Y4:=p54;have e4:((Hd (W0 0 l) h (k2+1)).X9:List aE)=(W0 0 l (h+((k2:Nat):Int))).X9:=p54;have e5:((Hd (W0 0 l) h (k2+1)).Xl:List Y6)=(W0 0 l (h+((k2:Nat):Int))).Xl:=p54;have e6:((hdrs (W0 0 l) h (k2+1)):List Yf)=(hdrs (W0 0 l) h k2)++[(Ws (W0 0 l (h+((k2:Nat):Int))))]:=p4x;have hE:=congr p1h e6;exact hE) hG)
  have hfr:=frs_s (bf:=(W0 0 l)) hq9
  refine cF (dF hq9) ?_
  refine T.skip (nT ?_)
  refine xD [[],[0],[],[2],[2,3],[0,1,2,3,4],[0,1,2,3,4,5],[0,1,2,3,4,5,6]] [hR 3 rfl rfl (rCa (X0z false (W0 0 l (h+((k2:Nat):Int))) ‹_›) Tryz.func53 [] [(.tmp 99,.tv (.agg (Zpp l h k2)))] 0 0),hR 4 rfl rfl (Yd 9 69 (X7 false) (Vn false) [(Ws (W0 0 l (h+((k2:Nat):Int))))] [⟨0,.tmp 100,(Zpr l h k2),0⟩] (cs:=[dI (Zpq l h k2).Xg,dS (Zpq l h k2).Y4,dI (Zpq l h k2).Yg,dS (Zpq l h k2).W2]) Tryz.underlying41 Ja rfl X7i rfl rfl rfl pd (Yp rfl rfl pd W4) pZ7 (V1 pZ7) (X3 rfl) trivial),hR 5 rfl rfl (Yy 7 10 69 48 (X7 false) (Vn false) (hdrs (W0 0 l) h k2) [(Ws (W0 0 l (h+((k2:Nat):Int))))] ((hdrs (W0 0 l) h k2)++[(Ws (W0 0 l (h+((k2:Nat):Int))))]) (hdrs (W0 0 l) h k2).length (sy:=(.own 9 (X7 false).sz 0 [(Zpq l h k2)].length)) (rhs:=[(9,.live (Xe 69 (X7 false) [(Zpq l h k2)]))]) X52 (by omega) (Wu 9 69 (X7 false) [(Ws (W0 0 l (h+((k2:Nat):Int))))]) Jn (by (simp [maxLen,-List.getD_eq_getElem?_getD]<;>omega)) (by (simp [maxLen,-List.getD_eq_getElem?_getD]<;>omega)) (X3 rfl) trivial)] pZ7 pZ7 pZ7 pZ7 pZ7 pZ7 ?_
  refine nB ?_
  refine nT ?_
  refine xK [hR 1 rfl rfl (Ye (u1:=.int .i64 (h+((k2:Nat):Int))) (u2:=.int .i64 1) (v:=.int .i64 ((h+((k2:Nat):Int))+1)) (Wa pa) (X3 rfl) ⟨rfl,trivial⟩)] ?_
  refine nL (k2+1) ⟨(show (((k2+1):Nat):Int)≤seq-h+1 from (by omega)),(show (k2+1)=0∨h+(((k2+1):Nat):Int)≤((l.length:Nat):Int)+1 from (.inr (by omega)))⟩ (show ((seq-h+1).toNat-(k2+1):Nat)<(seq-h+1).toNat-k2 from (by omega)) (fun _ _ hG=>Vb [0,1,2,3,4,5,6,10] (bm 23 6557747) (t1:=(Zps seq h i k2)) (t2:=(Zpv seq h i k2)) (h1:=(Zpw d l seq x b h i k2)) (h2:=[(Zoc d l),(Zod l),Zoi,.live (Xe 5 kU8 b),(Zpx l seq x b h i k2),(Zp8 x),(Zpi l h k2),.live (Xe 69 (X7 false) ((hdrs (W0 0 l) h k2)++[(Zpq l h k2)]))]) pZ22 (by have e1:((hdrs (W0 0 l) h (k2+1)).length:Nat)=((hdrs (W0 0 l) h k2)++[(Ws (W0 0 l (h+((k2:Nat):Int))))]).length:=p4x;have e2:((Hd (W0 0 l) h (k2+1)).Xg:Int)=(Hd (W0 0 l) h k2).Xg:=p54;have e3:((Hd (W0 0 l) h (k2+1)).Y4:List UInt8)=(Hd (W0 0 l) h k2).Y4:=p54;have e4:((Hd (W0 0 l) h (k2+1)).X9:List aE)=(Hd (W0 0 l) h k2).X9:=p54;have e5:((Hd (W0 0 l) h (k2+1)).Xl:List Y6)=(Hd (W0 0 l) h k2).Xl:=p54;have e6:((hdrs (W0 0 l) h (k2+1)):List Yf)=(hdrs (W0 0 l) h k2)++[(Ws (W0 0 l (h+((k2:Nat):Int))))]:=p4x;have hE:=congr p1h e6;exact hE) hG)
 have hkn:((k2:Nat):Int)=seq-h+1:=(by omega);have h6:¬seq>((l.length:Nat):Int):=(by omega)
 refine cF (dF hq7) ?_
 refine T.exit ?_
 refine xT ?_
 refine xT ?_
 refine xH ?_
 refine nT ?_
 refine tN ⟨(Zpy seq h i k2),(Zpk d l seq x b h i k2)⟩ ?_
 refine Wv (s':=⟨(Zpy seq h i k2),(Zq0 d l seq x b h i k2)⟩) (fun _ _ hG=>Yt [0,1,2,3,4,5,6,7] (bm 82 2417851639229258355970099) (h2:=(Zpk d l seq x b h i k2)) rfl (by have e1:((W0 0 l h).Xg:Int)=(Hd (W0 0 l) h k2).Xg:=p57;have e2:((W0 0 l h).Y4:List UInt8)=(Hd (W0 0 l) h k2).Y4:=p57;have e3:((W0 0 l h).X9:List aE)=(Hd (W0 0 l) h k2).X9:=p57;have e4:((W0 0 l h).Xl:List Y6)=(Hd (W0 0 l) h k2).Xl:=p57;have hE:=congr (congr (congr (congrArg (fun (q1:Int) (q2:List UInt8) (q3:List aE) (q4:List Y6)=>([(Zoc d l),(Zod l),Zoi,.live (Xe 5 kU8 b),(Zph l seq x b h i k2),(Zp8 x),.live (.box 65 [dI q1,dS q2,.d (dsl false false (kE false) q3),.d (dsl false false (Xd false) q4)]),(Zpj l h k2)]:List HS)) e1) e2) e3) e4;exact hE) hG) ?_
 refine sR [hR 2 rfl rfl (rCa (Xfg false (W0 0 l h) i ‹_›) Tryz.func54 [] [(.tmp 105,.tv (.agg (Zpz l h))),(.tmp 106,vI i)] 0 0)] ?_
 refine T.seq ?_
 refine sR [] ?_
 by_cases hq10:(Je (W0 0 l h) i)≠0
 ·have hx9:=Xhk (bf:=(W0 0 l)) (n:=l.length) (seq:=seq) (x:=x) (b:=b) (h:=h) (i:=i) h3 h4 h5 h6 hq10
  refine cT (dT hq10) ?_
  refine sR [] ?_
  refine T.ret (rT ?_)
  refine eN ⟨(Zq1 l seq h i k2),(Zq0 d l seq x b h i k2)⟩ ?_
  refine Xc (s':=⟨(Zq1 l seq h i k2),[(Zoc d l),(Zod l),.live (.box 49 Zoo),.live (Xe 5 kU8 b),(Zph l seq x b h i k2),(Zp8 x),.live (.box 65 (Zpz l h)),(Zpj l h k2)]⟩) (fun _ _ hG=>Ys (s:=⟨(Zq1 l seq h i k2),(Zq0 d l seq x b h i k2)⟩) (Fq p1i) (kk2 ⟨pZs,⟨.inl rfl,(kk4 trivial)⟩⟩) hG) ?_
  exact eX [.c 12 2 49 0 49 [dI 0,Zok,Zol,Zom,dI 0,dI 0,Zol,dI 0,dI 0,Zon] (.agg Zoo),.t 13 (.one (dI (Je (W0 0 l h) i)))] ⟨⟨rfl,rfl,by kernel_rfl,by kernel_rfl,.inl ⟨10,V2,rfl,Nat.le_of_ble_eq_true rfl⟩⟩,⟨⟨rfl,by kernel_rfl⟩,trivial⟩⟩ [0,1] pZ3 (ix (ix trivial))
 have hx9:=prv_ok (bf:=(W0 0 l)) (n:=l.length) (seq:=seq) (x:=x) (b:=b) (h:=h) (i:=i) h3 h4 h5 h6 hq10 hkn;obtain ⟨p1,p2,p3,p4,p5,p6,p7⟩:=Xc7 (hfw h) (Classical.not_not.1 hq10)
 refine cF (dF hq10) ?_
 refine T.skip (nT ?_)
 refine sD [[],[],[1],[],[1,2,3],[1,2,3,4],[],[6],[],[6,7,8],[6,7,8,9],[0],[0,11],[0,1,2,3,4,5,11,12],[0,1,2,3,4,5,11,12,13],[0,1,2,3,4,5,6,7,8,9,10,11,12,13,14],[0,1,2,3,4,5,6,7,8,9,10,11,12,13,14,15]] [hR 4 rfl rfl (Wd false false (kE false) (W0 0 l h).X9 (i).toNat (k:=.i64) (i:=i) Tryz.underlying37 Vs rfl (by omega) (by omega) (X3 rfl) trivial),hR 9 rfl rfl (Wd false false (Xd false) (W0 0 l h).Xl (i).toNat (k:=.i64) (i:=i) Tryz.underlying63 Em rfl (by omega) (by omega) (X3 rfl) trivial)] ?_
 refine sR [] ?_
 refine T.ret ?_
 refine eN ⟨(Zq2 l seq h i k2),[(Zoc d l),(Zod l),(Zq8 l seq x b h i k2),.live (Xe 5 kU8 b),(Zq8 l seq x b h i k2),(Zp8 x),.live (.box 65 (Zpz l h)),(Zpj l h k2)]⟩ ?_
 refine Xc (s':=(Zqa d l seq x b h i k2)) (fun _ _ hG=>Gs.freeze (s:=⟨(Zq2 l seq h i k2),[(Zoc d l),(Zod l),(Zq8 l seq x b h i k2),.live (Xe 5 kU8 b),(Zq8 l seq x b h i k2),(Zp8 x),.live (.box 65 (Zpz l h)),(Zpj l h k2)]⟩) 5 (el:=W6 (kE false) x) (sz:=(kE false).sz) (n:=x.length) rfl (Fq p1i) ⟨pc,⟨pc,⟨p5a,⟨pc,⟨p5a,⟨(.inl ⟨rfl,rfl⟩),⟨pc,⟨pc,trivial⟩⟩⟩⟩⟩⟩⟩⟩ hG) ?_
 refine eN (Zqa d l seq x b h i k2) ?_
 refine Xc (s':=(Zqc d l seq x b h i k2)) (fun _ _ hG=>Gs.freeze (s:=(Zqa d l seq x b h i k2)) 3 (el:=W6 kU8 b) (sz:=kU8.sz) (n:=b.length) rfl (Fq p1i) ⟨pc,⟨pc,⟨p2l,⟨(.inl ⟨rfl,rfl⟩),⟨p2l,⟨pc,⟨pc,⟨pc,trivial⟩⟩⟩⟩⟩⟩⟩⟩ hG) ?_
 refine eN (Zqc d l seq x b h i k2) ?_
 refine Xc (s':=⟨(Zq2 l seq h i k2),[(Zoc d l),(Zod l),.live (.box 49 (Zqd l seq x b h i k2)),.dead,.live (.box 49 (Zqd l seq x b h i k2)),.dead,.live (.box 65 (Zpz l h)),.dead]⟩) (fun _ _ hG=>Gs.freeze (s:=(Zqc d l seq x b h i k2)) 7 (el:=W6 (X7 false) (hdrs (W0 0 l) h k2)) (sz:=(X7 false).sz) (n:=(hdrs (W0 0 l) h k2).length) rfl (Fq p1i) ⟨pc,⟨pc,⟨pp,⟨pc,⟨pp,⟨pc,⟨pc,⟨(.inl ⟨rfl,rfl⟩),trivial⟩⟩⟩⟩⟩⟩⟩⟩ hG) ?_
 exact eX [.c 12 2 49 0 49 [(Zoy seq),(Zq9 x),dU b,.d (dsl false false (X7 false) (hdrs (W0 0 l) h k2)),dI i,(Zq3 l h i),(Zq4 l h i),(Zq5 l h i),(Zq6 l h i),(Zq7 l h i)] (.agg (Zqd l seq x b h i k2)),.t 13 (.one (dI 0))] ⟨⟨rfl,rfl,by kernel_rfl,by kernel_rfl,.inl ⟨10,V2,rfl,Nat.le_of_ble_eq_true rfl⟩⟩,⟨⟨rfl,by kernel_rfl⟩,trivial⟩⟩ [0,1] pZ3 (ix (ix trivial))
end Go.Proofs.YtnaopgohccacmaaGreat.Q
