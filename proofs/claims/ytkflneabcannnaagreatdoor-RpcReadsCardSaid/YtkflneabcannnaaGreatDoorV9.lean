/- Go functions: what they come to, and that they do. Printed by a program of the session (gen). -/
import Derived.Test.YtkflneabcannnaaGreatDoorVF
import Derived.Test.YtkflneabcannnaaGreatDoorV2
import Derived.Test.YtkflneabcannnaaGreatDoorV3
import Derived.Test.YtkflneabcannnaaGreatDoorV5
import Derived.Test.YtkflneabcannnaaGreatDoorV8
import Derived.Test.YtkflneabcannnaaGreatDoorKConv
import Derived.Test.YtkflneabcannnaaGreatDoorKShar2
import Derived.Test.YtkflneabcannnaaGreatDoorKTight2
set_option linter.unusedVariables false
set_option linter.unusedSimpArgs false
set_option maxHeartbeats 8000000
set_option maxRecDepth 100000
namespace Go.Proofs.YtkflneabcannnaaGreatDoor.G
open Go Go.KK
open PO EO IntKind Sum Tryz

noncomputable def f_ref05_Same (a0:T_api_Record) (a1:T_api_Record):Option Bool:=
 (((if(decide (a0.Kind≠a1.Kind))=true then(some true)else(if(decide (a0.Broker≠a1.Broker))=true then(some true)else(if(decide (a0.Epoch≠a1.Epoch))=true then(some true)else(if(decide (a0.Topic≠a1.Topic))=true then(some true)else(if(decide (a0.Part≠a1.Part))=true then(some true)else(some (decide (a0.Leader≠a1.Leader)))))))):Option Bool).bind fun a=>(if a=true then(some false)else(((if(decide (a0.Client≠a1.Client))=true then(some true)else(if(decide (a0.Serial≠a1.Serial))=true then(some true)else(if(decide (a0.Code≠a1.Code))=true then(some true)else(some (!(a0.Flag==a1.Flag)))))):Option Bool).bind fun b=>(if b=true then(some false)else(((if(!decide (a0.Name=a1.Name))=true then(some true)else(if(!decide (a0.Key=a1.Key))=true then(some true)else(if(!decide (a0.Value=a1.Value))=true then(some true)else(some (!decide (a0.Rack=a1.Rack)))))):Option Bool).bind fun c=>(if c=true then(some false)else((((f_ref02_Ints a0.Ids a1.Ids).bind fun d=>(if d=true then((f_ref02_Ints a0.Isr a1.Isr).bind fun e=>(some e))else(some false))):Option Bool).bind fun f=>(((if f=true then((f_ref02_Ints a0.Add a1.Add).bind fun g=>(if g=true then((f_ref02_Ints a0.Drop a1.Drop).bind fun i=>(some i))else(some false)))else(some false)):Option Bool).bind fun j=>(some j)))))))))
def f_ref05_Same_post (a0:T_api_Record) (a1:T_api_Record) (a b c d e f g i:Value):Bool→Value→IM→HL→Prop:=
 fun(j:Bool) (v:Value) (M':IM) (H':HL)=>(.bool j)=v∧H'=[]
theorem f_ref05_Same_ok (a0:T_api_Record) (a1:T_api_Record) (M:IM) (c d e f g i j k:Value) (J:RS (Kd.int .i64) M c a0.Ids) (K:RS (Kd.int .i64) M d a0.Isr) (L:RS (Kd.int .i64) M e a0.Add) (N:RS (Kd.int .i64) M f a0.Drop) (O:RS (Kd.int .i64) M g a1.Ids) (P:RS (Kd.int .i64) M i a1.Isr) (Q:RS (Kd.int .i64) M j a1.Add) (R:RS (Kd.int .i64) M k a1.Drop) (res:Bool) (h:f_ref05_Same a0 a1=some res):
 Tri prog 103 #[(a58_ a0 c d e f),(a58_ a1 g i j k)] M [] (f_ref05_Same_post a0 a1 c d e f g i j k res):=by
 unfold f_ref05_Same at h
 refine Te func103 Z Z ?_
 intro F ρ hρ
 refine Sr (We (box (cs:=(l58 a0 c d e f).toArray) (congrArg Value.cells (asE (a58_ a0 c d e f) (hρ 0)))) Z ?_)
 rintro _ _ _ - ⟨rfl,a,rfl,rfl⟩
 refine We (box (cs:=(l58 a1 g i j k).toArray) (congrArg Value.cells (asE (a58_ a1 g i j k) (hρ 1)))) Z ?_
 rintro _ _ _ - ⟨rfl,b,rfl,rfl⟩
 refine qa (Bv false) (Nt (Cs ?_))
 obtain ⟨a6,b9,h⟩:=bnd h
 refine Jf (fun(a6:Bool) ρ' M' H'=>M.le M'∧[(b, .cells (l58 a1 g i j k).toArray 58 (0,0))]::[(a, .cells (l58 a0 c d e f).toArray 58 (0,0))]::F=H'∧ρ' 2=(pt a 0)∧ρ' 3=(pt b 0)∧ρ' 45=(Bv a6)) a6 ?_ ?_
 have h:=b9
 refine Cg (qu (pt a 0) (Fa fo58_0 Z Z) (qu (Iv a0.Kind) (Lb 1 pl3 Z Z Z) (qu (pt b 0) (Fa fo58_0 Z Z) (qu (Iv a1.Kind) (Lb 0 pl3 Z Z Z) (qu (Bv (decide (a0.Kind≠a1.Kind))) (neq Z Z) (qm (Bv (decide (a0.Kind≠a1.Kind))) ?_))))))
 rcases Bi h with⟨p,h⟩ |⟨p,h⟩
 iterate 5 refine Of 11 Z Z p Z ?_
 refine qu (Bv true) (Pt Z p Z) (qm (Bv true) ?_)
 iterate 5 refine Of 18 Z Z Z Z ?_
 refine qu (Bv true) (Pt Z Z Z) (qm (Bv true) ?_)
 iterate 5 refine Of 25 Z Z Z Z ?_
 refine qu (Bv true) (Pt Z Z Z) (qm (Bv true) ?_)
 iterate 5 refine Of 32 Z Z Z Z ?_
 refine qu (Bv true) (Pt Z Z Z) (qm (Bv true) ?_)
 iterate 5 refine Of 39 Z Z Z Z ?_
 refine qu (Bv true) (Pt Z Z Z) (Wz ?_)
 obtain rfl:=oi h
 exact Tj ⟨lr,Z,Z,Z,Z⟩
 refine qo 11 p (pt a 1) (Fa fo58_1 Z Z) (qo 11 p (Iv a0.Broker) (Lb 1 pl3 Z Z Z) (qo 11 p (pt b 1) (Fa fo58_1 Z Z) (qo 11 p (Iv a1.Broker) (Lb 0 pl3 Z Z Z) (qo 11 p (Bv (decide (a0.Broker≠a1.Broker))) (neq Z Z) (qu (Bv (decide (a0.Broker≠a1.Broker))) (Pf Z p Z) (qm (Bv (decide (a0.Broker≠a1.Broker))) ?_))))))
 rcases Bi h with⟨q,h⟩ |⟨q,h⟩
 iterate 5 refine Of 18 Z Z q Z ?_
 refine qu (Bv true) (Pt Z q Z) (qm (Bv true) ?_)
 iterate 5 refine Of 25 Z Z Z Z ?_
 refine qu (Bv true) (Pt Z Z Z) (qm (Bv true) ?_)
 iterate 5 refine Of 32 Z Z Z Z ?_
 refine qu (Bv true) (Pt Z Z Z) (qm (Bv true) ?_)
 iterate 5 refine Of 39 Z Z Z Z ?_
 refine qu (Bv true) (Pt Z Z Z) (Wz ?_)
 obtain rfl:=oi h
 exact Tj ⟨lr,Z,Z,Z,Z⟩
 refine qo 18 q (pt a 2) (Fa fo58_2 Z Z) (qo 18 q (Iv a0.Epoch) (Lb 1 pl3 Z Z Z) (qo 18 q (pt b 2) (Fa fo58_2 Z Z) (qo 18 q (Iv a1.Epoch) (Lb 0 pl3 Z Z Z) (qo 18 q (Bv (decide (a0.Epoch≠a1.Epoch))) (neq Z Z) (qu (Bv (decide (a0.Epoch≠a1.Epoch))) (Pf Z q Z) (qm (Bv (decide (a0.Epoch≠a1.Epoch))) ?_))))))
 rcases Bi h with⟨r,h⟩ |⟨r,h⟩
 iterate 5 refine Of 25 Z Z r Z ?_
 refine qu (Bv true) (Pt Z r Z) (qm (Bv true) ?_)
 iterate 5 refine Of 32 Z Z Z Z ?_
 refine qu (Bv true) (Pt Z Z Z) (qm (Bv true) ?_)
 iterate 5 refine Of 39 Z Z Z Z ?_
 refine qu (Bv true) (Pt Z Z Z) (Wz ?_)
 obtain rfl:=oi h
 exact Tj ⟨lr,Z,Z,Z,Z⟩
 refine qo 25 r (pt a 3) (Fa fo58_3 Z Z) (qo 25 r (Iv a0.Topic) (Lb 1 pl3 Z Z Z) (qo 25 r (pt b 3) (Fa fo58_3 Z Z) (qo 25 r (Iv a1.Topic) (Lb 0 pl3 Z Z Z) (qo 25 r (Bv (decide (a0.Topic≠a1.Topic))) (neq Z Z) (qu (Bv (decide (a0.Topic≠a1.Topic))) (Pf Z r Z) (qm (Bv (decide (a0.Topic≠a1.Topic))) ?_))))))
 rcases Bi h with⟨s,h⟩ |⟨s,h⟩
 iterate 5 refine Of 32 Z Z s Z ?_
 refine qu (Bv true) (Pt Z s Z) (qm (Bv true) ?_)
 iterate 5 refine Of 39 Z Z Z Z ?_
 refine qu (Bv true) (Pt Z Z Z) (Wz ?_)
 obtain rfl:=oi h
 exact Tj ⟨lr,Z,Z,Z,Z⟩
 refine qo 32 s (pt a 4) (Fa fo58_4 Z Z) (qo 32 s (Iv a0.Part) (Lb 1 pl3 Z Z Z) (qo 32 s (pt b 4) (Fa fo58_4 Z Z) (qo 32 s (Iv a1.Part) (Lb 0 pl3 Z Z Z) (qo 32 s (Bv (decide (a0.Part≠a1.Part))) (neq Z Z) (qu (Bv (decide (a0.Part≠a1.Part))) (Pf Z s Z) (qm (Bv (decide (a0.Part≠a1.Part))) ?_))))))
 rcases Bi h with⟨t,h⟩ |⟨t,h⟩
 iterate 5 refine Of 39 Z Z t Z ?_
 refine qu (Bv true) (Pt Z t Z) (Wz ?_)
 obtain rfl:=oi h
 exact Tj ⟨lr,Z,Z,Z,Z⟩
 refine qo 39 t (pt a 5) (Fa fo58_5 Z Z) (qo 39 t (Iv a0.Leader) (Lb 1 pl3 Z Z Z) (qo 39 t (pt b 5) (Fa fo58_5 Z Z) (qo 39 t (Iv a1.Leader) (Lb 0 pl3 Z Z Z) (qo 39 t (Bv (decide (a0.Leader≠a1.Leader))) (neq Z Z) (qu (Bv (decide (a0.Leader≠a1.Leader))) (Pf Z t Z) (Wz ?_))))))
 obtain rfl:=oi h
 exact Tj ⟨lr,Z,Z,Z,Z⟩
 rintro d7 d3 d8 ⟨V,rfl,l,m,W⟩
 refine Ch h W (fun c0 h=> ?_) (fun c0 h=> ?_)
 exact Sr (qa (Bv false) (Nt (Cr (Tr (Dr (Dr (Rf h [] Z (Rs Z Z) V ⟨Z,Z⟩)))))))
 refine Ck (Tc (Cs ?_))
 obtain ⟨a7,c1,h⟩:=bnd h
 refine Jf (fun(a7:Bool) ρ' M' H'=>d3.le M'∧[(b, .cells (l58 a1 g i j k).toArray 58 (0,0))]::[(a, .cells (l58 a0 c d e f).toArray 58 (0,0))]::F=H'∧ρ' 2=(pt a 0)∧ρ' 3=(pt b 0)∧ρ' 71=(Bv a7)) a7 ?_ ?_
 have h:=c1
 refine Cg (qu (pt a 6) (Fa fo58_6 l Z) (qu (Iv a0.Client) (Lb 1 pl3 Z Z Z) (qu (pt b 6) (Fa fo58_6 m Z) (qu (Iv a1.Client) (Lb 0 pl3 Z Z Z) (qu (Bv (decide (a0.Client≠a1.Client))) (neq Z Z) (qm (Bv (decide (a0.Client≠a1.Client))) ?_))))))
 rcases Bi h with⟨u,h⟩ |⟨u,h⟩
 iterate 5 refine Of 51 Z Z u Z ?_
 refine qu (Bv true) (Pt Z u Z) (qm (Bv true) ?_)
 iterate 5 refine Of 58 Z Z Z Z ?_
 refine qu (Bv true) (Pt Z Z Z) (qm (Bv true) ?_)
 iterate 5 refine Of 65 Z Z Z Z ?_
 refine qu (Bv true) (Pt Z Z Z) (Wz ?_)
 obtain rfl:=oi h
 exact Tj ⟨lr,Z,l,m,Z⟩
 refine qo 51 u (pt a 7) (Fa fo58_7 l Z) (qo 51 u (Iv a0.Serial) (Lb 1 pl3 Z Z Z) (qo 51 u (pt b 7) (Fa fo58_7 m Z) (qo 51 u (Iv a1.Serial) (Lb 0 pl3 Z Z Z) (qo 51 u (Bv (decide (a0.Serial≠a1.Serial))) (neq Z Z) (qu (Bv (decide (a0.Serial≠a1.Serial))) (Pf Z u Z) (qm (Bv (decide (a0.Serial≠a1.Serial))) ?_))))))
 rcases Bi h with⟨v,h⟩ |⟨v,h⟩
 iterate 5 refine Of 58 Z Z v Z ?_
 refine qu (Bv true) (Pt Z v Z) (qm (Bv true) ?_)
 iterate 5 refine Of 65 Z Z Z Z ?_
 refine qu (Bv true) (Pt Z Z Z) (Wz ?_)
 obtain rfl:=oi h
 exact Tj ⟨lr,Z,l,m,Z⟩
 refine qo 58 v (pt a 8) (Fa fo58_8 l Z) (qo 58 v (Iv a0.Code) (Lb 1 pl3 Z Z Z) (qo 58 v (pt b 8) (Fa fo58_8 m Z) (qo 58 v (Iv a1.Code) (Lb 0 pl3 Z Z Z) (qo 58 v (Bv (decide (a0.Code≠a1.Code))) (neq Z Z) (qu (Bv (decide (a0.Code≠a1.Code))) (Pf Z v Z) (qm (Bv (decide (a0.Code≠a1.Code))) ?_))))))
 rcases Bi h with⟨w,h⟩ |⟨w,h⟩
 iterate 5 refine Of 65 Z Z w Z ?_
 refine qu (Bv true) (Pt Z w Z) (Wz ?_)
 obtain rfl:=oi h
 exact Tj ⟨lr,Z,l,m,Z⟩
 refine qo 65 w (pt a 9) (Fa fo58_9 l Z) (qo 65 w (Bv a0.Flag) (Lb 1 pl4 Z Z Z) (qo 65 w (pt b 9) (Fa fo58_9 m Z) (qo 65 w (Bv a1.Flag) (Lb 0 pl4 Z Z Z) (qo 65 w (Bv (!(a0.Flag==a1.Flag))) (bneq underlying4 Z Z) (qu (Bv (!(a0.Flag==a1.Flag))) (Pf Z w Z) (Wz ?_))))))
 obtain rfl:=oi h
 exact Tj ⟨lr,Z,l,m,Z⟩
 rintro d9 d4 e0 ⟨a8,rfl,n,o,X⟩
 have c2:=V.trans a8
 refine Ch h X (fun c3 h=> ?_) (fun c3 h=> ?_)
 exact Sr (qa (Bv false) (Nt (Cr (Tr (Dr (Dr (Rf h [] Z (Rs Z Z) c2 ⟨Z,Z⟩)))))))
 refine Ck (Tc (Cs ?_))
 obtain ⟨a9,c4,h⟩:=bnd h
 refine Jf (fun(a9:Bool) ρ' M' H'=>d4.le M'∧[(b, .cells (l58 a1 g i j k).toArray 58 (0,0))]::[(a, .cells (l58 a0 c d e f).toArray 58 (0,0))]::F=H'∧ρ' 2=(pt a 0)∧ρ' 3=(pt b 0)∧ρ' 97=(Bv a9)) a9 ?_ ?_
 have h:=c4
 refine Cg (qu (pt a 10) (Fa fo58_10 n Z) (qu (Sv a0.Name) (Lb 1 pl9 Z Z Z) (qu (pt b 10) (Fa fo58_10 o Z) (qu (Sv a1.Name) (Lb 0 pl9 Z Z Z) (qu (Bv (!decide (a0.Name=a1.Name))) (sneq Z Z) (qm (Bv (!decide (a0.Name=a1.Name))) ?_))))))
 rcases Bi h with⟨x,h⟩ |⟨x,h⟩
 iterate 5 refine Of 77 Z Z x Z ?_
 refine qu (Bv true) (Pt Z x Z) (qm (Bv true) ?_)
 iterate 5 refine Of 84 Z Z Z Z ?_
 refine qu (Bv true) (Pt Z Z Z) (qm (Bv true) ?_)
 iterate 5 refine Of 91 Z Z Z Z ?_
 refine qu (Bv true) (Pt Z Z Z) (Wz ?_)
 obtain rfl:=oi h
 exact Tj ⟨lr,Z,n,o,Z⟩
 refine qo 77 x (pt a 11) (Fa fo58_11 n Z) (qo 77 x (Sv a0.Key) (Lb 1 pl9 Z Z Z) (qo 77 x (pt b 11) (Fa fo58_11 o Z) (qo 77 x (Sv a1.Key) (Lb 0 pl9 Z Z Z) (qo 77 x (Bv (!decide (a0.Key=a1.Key))) (sneq Z Z) (qu (Bv (!decide (a0.Key=a1.Key))) (Pf Z x Z) (qm (Bv (!decide (a0.Key=a1.Key))) ?_))))))
 rcases Bi h with⟨y,h⟩ |⟨y,h⟩
 iterate 5 refine Of 84 Z Z y Z ?_
 refine qu (Bv true) (Pt Z y Z) (qm (Bv true) ?_)
 iterate 5 refine Of 91 Z Z Z Z ?_
 refine qu (Bv true) (Pt Z Z Z) (Wz ?_)
 obtain rfl:=oi h
 exact Tj ⟨lr,Z,n,o,Z⟩
 refine qo 84 y (pt a 12) (Fa fo58_12 n Z) (qo 84 y (Sv a0.Value) (Lb 1 pl9 Z Z Z) (qo 84 y (pt b 12) (Fa fo58_12 o Z) (qo 84 y (Sv a1.Value) (Lb 0 pl9 Z Z Z) (qo 84 y (Bv (!decide (a0.Value=a1.Value))) (sneq Z Z) (qu (Bv (!decide (a0.Value=a1.Value))) (Pf Z y Z) (qm (Bv (!decide (a0.Value=a1.Value))) ?_))))))
 rcases Bi h with⟨z,h⟩ |⟨z,h⟩
 iterate 5 refine Of 91 Z Z z Z ?_
 refine qu (Bv true) (Pt Z z Z) (Wz ?_)
 obtain rfl:=oi h
 exact Tj ⟨lr,Z,n,o,Z⟩
 refine qo 91 z (pt a 13) (Fa fo58_13 n Z) (qo 91 z (Sv a0.Rack) (Lb 1 pl9 Z Z Z) (qo 91 z (pt b 13) (Fa fo58_13 o Z) (qo 91 z (Sv a1.Rack) (Lb 0 pl9 Z Z Z) (qo 91 z (Bv (!decide (a0.Rack=a1.Rack))) (sneq Z Z) (qu (Bv (!decide (a0.Rack=a1.Rack))) (Pf Z z Z) (Wz ?_))))))
 obtain rfl:=oi h
 exact Tj ⟨lr,Z,n,o,Z⟩
 rintro e1 d5 e2 ⟨b0,rfl,D,E,Y⟩
 have U:=c2.trans b0
 refine Ch h Y (fun c5 h=> ?_) (fun c5 h=> ?_)
 exact Sr (qa (Bv false) (Nt (Cr (Tr (Dr (Dr (Rf h [] Z (Rs Z Z) U ⟨Z,Z⟩)))))))
 refine Ck (Tc ?_)
 obtain ⟨a2,c6,h⟩:=bnd h
 refine Jf (fun(a2:Bool) ρ' M' H'=>d5.le M'∧[(b, .cells (l58 a1 g i j k).toArray 58 (0,0))]::[(a, .cells (l58 a0 c d e f).toArray 58 (0,0))]::F=H'∧ρ' 2=(pt a 0)∧ρ' 3=(pt b 0)∧ρ' 5=(Bv a2)) a2 ?_ ?_
 have h:=c6
 refine Cg (qu (pt a 14) (Fa fo58_14 D Z) (qu c (Lb 1 pl56 Z Z Z) (qu (pt b 14) (Fa fo58_14 E Z) (qu g (Lb 0 pl56 Z Z Z) ?_))))
 obtain ⟨c7,c8,h⟩:=bnd h
 have J:=J.mono U
 have O:=O.mono U
 refine We (Ca co133 (f_ref02_Ints_ok a0.Ids a1.Ids _ _ _ J O c7 c8) (args2 Z Z)) Z ?_
 rintro _ e3 _ G ⟨_,⟨rfl,rfl⟩,rfl⟩
 refine WL.a0 (qm (Bv c7) ?_)
 rcases Bi h with⟨A,h⟩ |⟨A,h⟩
 refine qo 103 A (pt a 15) (Fa fo58_15 D Z) (qo 103 A d (Lb 1 pl56 Z Z Z) (qo 103 A (pt b 15) (Fa fo58_15 E Z) (qo 103 A i (Lb 0 pl56 Z Z Z) (On 103 Z Z A ?_))))
 obtain ⟨b1,c9,h⟩:=bnd h
 have K:=K.mono (U.trans G)
 have P:=P.mono (U.trans G)
 refine We (Ca co133 (f_ref02_Ints_ok a0.Isr a1.Isr _ _ _ K P b1 c9) (args2 Z Z)) Z ?_
 rintro _ e4 _ b2 ⟨_,⟨rfl,rfl⟩,rfl⟩
 refine WL.a0 (qu (Bv b1) (Pt Z A Z) (qa (Bv b1) (Wz ?_)))
 obtain rfl:=oi h
 exact Tj ⟨(G.trans b2),Z,D,E,Z⟩
 iterate 5 refine Of 103 Z Z A Z ?_
 refine qu (Bv false) (Pf Z A Z) (qa (Bv false) (Wz ?_))
 obtain rfl:=oi h
 exact Tj ⟨G,Z,D,E,Z⟩
 rintro e5 d6 e6 ⟨b3,rfl,S,T,a4⟩
 have a3:=U.trans b3
 obtain ⟨b4,d0,h⟩:=bnd h
 refine Jf (fun(b4:Bool) ρ' M' H'=>d6.le M'∧[(b, .cells (l58 a1 g i j k).toArray 58 (0,0))]::[(a, .cells (l58 a0 c d e f).toArray 58 (0,0))]::F=H'∧ρ' 4=(Bv b4)) b4 ?_ ?_
 have h:=d0
 refine Cg (qM (Bv a2) a4 (qm (Bv a2) ?_))
 rcases Bi h with⟨B,h⟩ |⟨B,h⟩
 refine qo 111 B (pt a 16) (Fa fo58_16 S Z) (qo 111 B e (Lb 1 pl56 Z Z Z) (qo 111 B (pt b 16) (Fa fo58_16 T Z) (qo 111 B j (Lb 0 pl56 Z Z Z) (On 111 Z Z B ?_))))
 obtain ⟨b5,d1,h⟩:=bnd h
 have L:=L.mono a3
 have Q:=Q.mono a3
 refine We (Ca co133 (f_ref02_Ints_ok a0.Add a1.Add _ _ _ L Q b5 d1) (args2 Z Z)) Z ?_
 rintro _ e7 _ I ⟨_,⟨rfl,rfl⟩,rfl⟩
 refine WL.a0 (qu (Bv b5) (Pt Z B Z) (qm (Bv b5) ?_))
 rcases Bi h with⟨C,h⟩ |⟨C,h⟩
 refine qo 118 C (pt a 17) (Fa fo58_17 S Z) (qo 118 C f (Lb 1 pl56 Z Z Z) (qo 118 C (pt b 17) (Fa fo58_17 T Z) (qo 118 C k (Lb 0 pl56 Z Z Z) (On 118 Z Z C ?_))))
 obtain ⟨b6,d2,h⟩:=bnd h
 have N:=N.mono (a3.trans I)
 have R:=R.mono (a3.trans I)
 refine We (Ca co133 (f_ref02_Ints_ok a0.Drop a1.Drop _ _ _ N R b6 d2) (args2 Z Z)) Z ?_
 rintro _ e8 _ b7 ⟨_,⟨rfl,rfl⟩,rfl⟩
 refine WL.a0 (qu (Bv b6) (Pt Z C Z) (qa (Bv b6) (Wz ?_)))
 obtain rfl:=oi h
 exact Tj ⟨(I.trans b7),Z,Z⟩
 iterate 5 refine Of 118 Z Z C Z ?_
 refine qu (Bv false) (Pf Z C Z) (qa (Bv false) (Wz ?_))
 obtain rfl:=oi h
 exact Tj ⟨I,Z,Z⟩
 iterate 5 refine Of 111 Z Z B Z ?_
 refine qu (Bv false) (Pf Z B Z) (qm (Bv false) ?_)
 iterate 5 refine Of 118 Z Z Z Z ?_
 refine qu (Bv false) (Pf Z Z Z) (qa (Bv false) (Wz ?_))
 obtain rfl:=oi h
 exact Tj ⟨lr,Z,Z⟩
 rintro e9 f0 f1 ⟨b8,rfl,a5⟩
 exact Cr (Dr (Dr (Rf h [] Z (Rs Z a5) (a3.trans b8) ⟨Z,Z⟩)))
noncomputable def f_ref06_Same_l0 (a0:T_api_Batch) (a1:T_api_Batch) (s_:Int):Option (Int⊕(Unit⊕Unit)):=
 match s_ with
 |a=>
 (if(decide (a<(a0.Records.length:Int)))=true then(grd (0≤a∧a<a0.Records.length) (grd (0≤a∧a<a1.Records.length) ((f_ref05_Same (rd a0.Records a) (rd a1.Records a)).bind fun b=>(if(!b)=true then(some (inr (inr ())))else(some (inl (i64.wrap (a+(1:Int)))))))))else(some (inr (inl ()))))
noncomputable def f_ref06_Same (a0:T_api_Batch) (a1:T_api_Batch):Option Bool:=
 (((if(decide (a0.Term≠a1.Term))=true then(some true)else(if(decide (a0.Base≠a1.Base))=true then(some true)else(some (decide ((a0.Records.length:Int)≠(a1.Records.length:Int)))))):Option Bool).bind fun a=>(if a=true then(some false)else((((iter (f_ref06_Same_l0 a0 a1) (0:Int)).bind (Sum.elim (fun _=>(some (inl ()))) (fun _=>(((some false)).bind fun r=>some (inr r))))):Option (Unit⊕Bool)).bind (Sum.elim (fun _=>(some true)) some))))
def f_ref06_Same_post (a0:T_api_Batch) (a1:T_api_Batch) (a b:Value):Bool→Value→IM→HL→Prop:=
 fun(c:Bool) (v:Value) (M':IM) (H':HL)=>(.bool c)=v∧H'=[]
theorem f_ref06_Same_ok (a0:T_api_Batch) (a1:T_api_Batch) (M:IM) (a d:Value) (m:RS kd_api_Record M a a0.Records) (x:RS kd_api_Record M d a1.Records) (res:Bool) (h:f_ref06_Same a0 a1=some res):
 Tri prog 73 #[(a55_ a0 a),(a55_ a1 d)] M [] (f_ref06_Same_post a0 a1 a d res):=by
 unfold f_ref06_Same at h
 refine Te func73 Z Z ?_
 intro F ρ hρ
 refine Sr (We (box (cs:=(l55 a0 a).toArray) (congrArg Value.cells (asE (a55_ a0 a) (hρ 0)))) Z ?_)
 rintro _ _ _ - ⟨rfl,j,rfl,rfl⟩
 refine We (box (cs:=(l55 a1 d).toArray) (congrArg Value.cells (asE (a55_ a1 d) (hρ 1)))) Z ?_
 rintro _ _ _ - ⟨rfl,k,rfl,rfl⟩
 refine qa (Bv false) (Nt (Cs ?_))
 obtain ⟨R,X,h⟩:=bnd h
 refine Jf (fun(R:Bool) ρ' M' H'=>M.le M'∧[(k, .cells (l55 a1 d).toArray 55 (0,0))]::[(j, .cells (l55 a0 a).toArray 55 (0,0))]::F=H'∧ρ' 2=(pt j 0)∧ρ' 3=(pt k 0)∧ρ' 26=(Bv R)) R ?_ ?_
 have h:=X
 refine Cg (qu (pt j 0) (Fa fo55_0 Z Z) (qu (Iv a0.Term) (Lb 1 pl3 Z Z Z) (qu (pt k 0) (Fa fo55_0 Z Z) (qu (Iv a1.Term) (Lb 0 pl3 Z Z Z) (qu (Bv (decide (a0.Term≠a1.Term))) (neq Z Z) (qm (Bv (decide (a0.Term≠a1.Term))) ?_))))))
 rcases Bi h with⟨e,h⟩ |⟨e,h⟩
 iterate 5 refine Of 11 Z Z e Z ?_
 refine qu (Bv true) (Pt Z e Z) (qm (Bv true) ?_)
 iterate 7 refine Of 18 Z Z Z Z ?_
 refine qu (Bv true) (Pt Z Z Z) (Wz ?_)
 obtain rfl:=oi h
 exact Tj ⟨lr,Z,Z,Z,Z⟩
 refine qo 11 e (pt j 1) (Fa fo55_1 Z Z) (qo 11 e (Iv a0.Base) (Lb 1 pl3 Z Z Z) (qo 11 e (pt k 1) (Fa fo55_1 Z Z) (qo 11 e (Iv a1.Base) (Lb 0 pl3 Z Z Z) (qo 11 e (Bv (decide (a0.Base≠a1.Base))) (neq Z Z) (qu (Bv (decide (a0.Base≠a1.Base))) (Pf Z e Z) (qm (Bv (decide (a0.Base≠a1.Base))) ?_))))))
 rcases Bi h with⟨b,h⟩ |⟨b,h⟩
 iterate 7 refine Of 18 Z Z b Z ?_
 refine qu (Bv true) (Pt Z b Z) (Wz ?_)
 obtain rfl:=oi h
 exact Tj ⟨lr,Z,Z,Z,Z⟩
 refine qo 18 b (pt j 2) (Fa fo55_2 Z Z) (qo 18 b a (Lb 1 pl53 Z Z Z) (qo 18 b (Iv (a0.Records.length:Int)) (lenS underlying53 Z m.len) (qo 18 b (pt k 2) (Fa fo55_2 Z Z) (qo 18 b d (Lb 0 pl53 Z Z Z) (qo 18 b (Iv (a1.Records.length:Int)) (lenS underlying53 Z x.len) (qo 18 b (Bv (decide ((a0.Records.length:Int)≠(a1.Records.length:Int)))) (neq Z Z) (qu (Bv (decide ((a0.Records.length:Int)≠(a1.Records.length:Int)))) (Pf Z b Z) (Wz ?_))))))))
 obtain rfl:=oi h
 exact Tj ⟨lr,Z,Z,Z,Z⟩
 rintro b5 Y b6 ⟨g,rfl,O,P,B⟩
 refine Ch h B (fun a2 h=> ?_) (fun a2 h=> ?_)
 exact Sr (qa (Bv false) (Nt (Cr (Tr (Dr (Dr (Rf h [] Z (Rs Z Z) g ⟨Z,Z⟩)))))))
 refine Ck (Tc ?_)
 obtain ⟨b0,a3,h⟩:=bnd h
 refine WC.joinE (fun(_:Unit) ρ' M' H'=>Y.le M'∧[(k, .cells (l55 a1 d).toArray 55 (0,0))]::[(j, .cells (l55 a0 a).toArray 55 (0,0))]::F=H') b0 ?_ ?_
 have a4:=h
 have h:=a3
 refine Sr (qa (Iv 0) (Nt (Bk ?_)))
 obtain ⟨b7,a5,Q⟩:=bnd h
 clear h
 refine WC.loop a5 (fun(c:Int) ρ' M' H'=>Y.le M'∧[(k, .cells (l55 a1 d).toArray 55 (0,0))]::[(j, .cells (l55 a0 a).toArray 55 (0,0))]::F=H'∧ρ' 2=(pt j 0)∧ρ' 3=(pt k 0)∧ρ' 5=(Iv c)) ?_ ?_
 exact⟨lr,Z,O,P,Z⟩
 rintro c b8 b9 c0 c1 h ⟨i,rfl,l,y,f⟩
 unfold f_ref06_Same_l0 at h
 refine Cs (Sr (qM (Iv c) f (qu (pt j 2) (Fa fo55_2 l Z) (qu a (Lb 1 pl53 Z Z Z) ?_))))
 have m:=m.mono (g.trans i)
 refine qu (Iv (a0.Records.length:Int)) (lenS underlying53 Z m.len) (qu (Bv (decide (c<(a0.Records.length:Int)))) (lss Z Z) (Nt (Ch h Z (fun a6 h=> ?_) (fun a6 h=> ?_))))
 refine Ck (Tc (Cs (Bk (Cs (WC.draw [0,1,0,7,15,0,32,0,224,480,1023,2047] (.pure 0 (.pure 1 (.pure 2 (.pure 3 (.pure 4 (.pure 5 (.pure 6 (.pure 7 (.pure 8 (.pure 9 (.alt 10 (.pure 11 .done) .none))))))))))) mixed (by kernel_rfl) (qt (pt j 2) Z (Fa fo55_2 l Z) (qt a Z (Lb 1 pl53 Z Z Z) (qt (Iv c) Z (Mv f) ?_))))))))
 obtain ⟨z,h⟩:=grd_i h
 obtain ⟨b1,b3,S,T,hhas37⟩:=m.at z.1 z.2 (by decide)
 obtain ⟨o,p,q,r,rfl,C,D,E,G⟩:=kd_api_Record_open T
 refine qt (.pointer (some b1)) Z (indexAddr (n:=a0.Records.length) underlying53 sz58 Z Z z.1 z.2 S) (qt (a58_ (rd a0.Records c) o p q r) Z (loadMA (cs:=(l58 (rd a0.Records c) o p q r)) ag58 sz58 Z hhas37) (qt (pt k 2) Z (Fa fo55_2 y Z) (qt d Z (Lb 0 pl53 Z Z Z) (qt (Iv c) Z (Mv f) ?_))))
 obtain ⟨A,h⟩:=grd_i h
 have x:=x.mono (g.trans i)
 obtain ⟨b2,b4,U,V,hhas44⟩:=x.at A.1 A.2 (by decide)
 obtain ⟨s,t,u,v,rfl,I,J,K,L⟩:=kd_api_Record_open V
 refine qt (.pointer (some b2)) Z (indexAddr (n:=a1.Records.length) underlying53 sz58 Z Z A.1 A.2 U) (qt (a58_ (rd a1.Records c) s t u v) Z (loadMA (cs:=(l58 (rd a1.Records c) s t u v)) ag58 sz58 Z hhas44) ?_)
 obtain ⟨a7,a8,h⟩:=bnd h
 refine Ta Z (Ca co103 (f_ref05_Same_ok (rd a0.Records c) (rd a1.Records c) _ _ _ _ _ _ _ _ _ C D E G I J K L a7 a8) (args2 Z Z)) Z ?_ ?_
 rintro _ c2 _ N ⟨_,⟨rfl,rfl⟩,rfl⟩
 refine⟨(Sl Z), ?_⟩
 refine WT.a0 (qt (Bv (!a7)) Z (PO.not Z) (Ti (Tc (Ch h Z (fun a9 h=> ?_) (fun a9 h=> ?_)))))
 refine Sr (qa (Bv false) (Nt (Cr (Br (Tr (WQ.leaveR (inr ()) (oi h).symm (fun w=> ?_)))))))
 subst w
 have h:=(elimR Q)
 refine Br (Tr ?_)
 have h:=KK.early h a4
 exact Dr (Dr (Rf h [] Z (Rs Z Z) ((g.trans i).trans N) ⟨Z,Z⟩))
 exact Ck (Bn (Tc (Cg (qM (Iv c) f (qu (Iv (i64.wrap (c+1))) (add Z Z) (qa (Iv (i64.wrap (c+1))) (Wz (WQ.again (i64.wrap (c+1)) (oi h).symm ⟨(i.trans N),Z,l,y,Z⟩))))))))
 exact Tz
 refine WC.exit (WQ.thenE (WQ.leaveE (inl ()) (oi h).symm (fun w=> ?_)))
 subst w
 have h:=elimL Q
 exact WQ.blockH (WQ.thenFE h ⟨i,Z⟩)
 rintro _ c3 c4 c5 rfl ⟨W,rfl⟩
 have h:=(Sum.elim_inl _ _ _).symm.trans h
 exact Sr (qa (Bv true) (Nt (Cr (Dr (Dr (Rf h [] Z (Rs Z Z) (g.trans W) ⟨Z,Z⟩))))))
noncomputable def f_ref06_All_l0 (a0:(List T_api_Batch)) (a1:(List T_api_Batch)) (s_:Int):Option (Int⊕(Unit⊕Unit)):=
 match s_ with
 |a=>
 (if(decide (a<(a0.length:Int)))=true then(grd (0≤a∧a<a0.length) (grd (0≤a∧a<a1.length) ((f_ref06_Same (rd a0 a) (rd a1 a)).bind fun b=>(if(!b)=true then(some (inr (inr ())))else(some (inl (i64.wrap (a+(1:Int)))))))))else(some (inr (inl ()))))
noncomputable def f_ref06_All (a0:(List T_api_Batch)) (a1:(List T_api_Batch)):Option Bool:=
 (if(decide ((a0.length:Int)≠(a1.length:Int)))=true then(some false)else((((iter (f_ref06_All_l0 a0 a1) (0:Int)).bind (Sum.elim (fun _=>(some (inl ()))) (fun _=>(((some false)).bind fun r=>some (inr r))))):Option (Unit⊕Bool)).bind (Sum.elim (fun _=>(some true)) some)))
def f_ref06_All_post (a0:(List T_api_Batch)) (a1:(List T_api_Batch)) (b c:Value):Bool→Value→IM→HL→Prop:=
 fun(a:Bool) (v:Value) (M':IM) (H':HL)=>(.bool a)=v∧H'=[]
theorem f_ref06_All_ok (a0:(List T_api_Batch)) (a1:(List T_api_Batch)) (M:IM) (q w:Value) (x:RS kd_api_Batch M q a0) (I:RS kd_api_Batch M w a1) (res:Bool) (h:f_ref06_All a0 a1=some res):
 Tri prog 39 #[q,w] M [] (f_ref06_All_post a0 a1 q w res):=by
 unfold f_ref06_All at h
 refine Te func39 Z Z ?_
 intro F ρ hρ
 refine Sr (qa (Bv false) (Nt (Cs (Sr (qM q (hρ 0) (qu (Iv (a0.length:Int)) (lenS underlying22 Z x.len) (qM w (hρ 1) (qu (Iv (a1.length:Int)) (lenS underlying22 Z I.len) (qu (Bv (decide ((a0.length:Int)≠(a1.length:Int)))) (neq Z Z) (Nt (Ch h Z (fun y h=> ?_) (fun y h=> ?_))))))))))))
 exact Sr (qa (Bv false) (Nt (Cr (Tr (Rf h [] Z (Rs Z Z) lr ⟨Z,Z⟩)))))
 refine Ck (Tc ?_)
 obtain ⟨J,z,h⟩:=bnd h
 refine WC.joinE (fun(_:Unit) ρ' M' H'=>M.le M'∧F=H') J ?_ ?_
 have A:=h
 have h:=z
 refine Sr (qa (Iv 0) (Nt (Bk ?_)))
 obtain ⟨P,B,p⟩:=bnd h
 clear h
 refine WC.loop B (fun(a:Int) ρ' M' H'=>M.le M'∧F=H'∧ρ' 0=q∧ρ' 1=w∧ρ' 5=(Iv a)) ?_ ?_
 exact⟨lr,Z,(hρ 0),(hρ 1),Z⟩
 rintro a Q R S T h ⟨c,rfl,d,f,b⟩
 unfold f_ref06_All_l0 at h
 refine Cs (Sr (qM (Iv a) b (qM q d ?_)))
 have x:=x.mono c
 refine qu (Iv (a0.length:Int)) (lenS underlying22 Z x.len) (qu (Bv (decide (a<(a0.length:Int)))) (lss Z Z) (Nt (Ch h Z (fun C h=> ?_) (fun C h=> ?_))))
 refine Ck (Tc (Cs (Bk (Cs (WC.draw [0,0,3,7,0,0,48,112,255,511] (.pure 0 (.pure 1 (.pure 2 (.pure 3 (.pure 4 (.pure 5 (.pure 6 (.pure 7 (.alt 8 (.pure 9 .done) .none))))))))) mixed (by kernel_rfl) (qt q Z (Mv d) (qt (Iv a) Z (Mv b) ?_)))))))
 obtain ⟨g,h⟩:=grd_i h
 obtain ⟨K,N,r,s,hhas31⟩:=x.at g.1 g.2 (by decide)
 obtain ⟨i,rfl,m⟩:=kd_api_Batch_open s
 refine qt (.pointer (some K)) Z (indexAddr (n:=a0.length) underlying22 sz55 Z Z g.1 g.2 r) (qt (a55_ (rd a0 a) i) Z (loadMA (cs:=(l55 (rd a0 a) i)) ag55 sz55 Z hhas31) (qt w Z (Mv f) (qt (Iv a) Z (Mv b) ?_)))
 obtain ⟨j,h⟩:=grd_i h
 have I:=I.mono c
 obtain ⟨L,O,t,u,hhas38⟩:=I.at j.1 j.2 (by decide)
 obtain ⟨k,rfl,o⟩:=kd_api_Batch_open u
 refine qt (.pointer (some L)) Z (indexAddr (n:=a1.length) underlying22 sz55 Z Z j.1 j.2 t) (qt (a55_ (rd a1 a) k) Z (loadMA (cs:=(l55 (rd a1 a) k)) ag55 sz55 Z hhas38) ?_)
 obtain ⟨D,E,h⟩:=bnd h
 refine Ta Z (Ca co73 (f_ref06_Same_ok (rd a0 a) (rd a1 a) _ _ _ m o D E) (args2 Z Z)) Z ?_ ?_
 rintro _ U _ l ⟨_,⟨rfl,rfl⟩,rfl⟩
 refine⟨(Sl Z), ?_⟩
 refine WT.a0 (qt (Bv (!D)) Z (PO.not Z) (Ti (Tc (Ch h Z (fun G h=> ?_) (fun G h=> ?_)))))
 refine Sr (qa (Bv false) (Nt (Cr (Br (Tr (WQ.leaveR (inr ()) (oi h).symm (fun e=> ?_)))))))
 subst e
 have h:=(elimR p)
 refine Br (Tr ?_)
 have h:=KK.early h A
 exact Rf h [] Z (Rs Z Z) (c.trans l) ⟨Z,Z⟩
 exact Ck (Bn (Tc (Cg (qM (Iv a) b (qu (Iv (i64.wrap (a+1))) (add Z Z) (qa (Iv (i64.wrap (a+1))) (Wz (WQ.again (i64.wrap (a+1)) (oi h).symm ⟨(c.trans l),Z,d,f,Z⟩))))))))
 exact Tz
 refine WC.exit (WQ.thenE (WQ.leaveE (inl ()) (oi h).symm (fun e=> ?_)))
 subst e
 have h:=elimL p
 exact WQ.blockH (WQ.thenFE h ⟨c,Z⟩)
 rintro _ V W X rfl ⟨v,rfl⟩
 have h:=(Sum.elim_inl _ _ _).symm.trans h
 exact Sr (qa (Bv true) (Nt (Cr (Rf h [] Z (Rs Z Z) v ⟨Z,Z⟩))))
noncomputable def f_ref07_Same (a0:T_api_Rpc) (a1:T_api_Rpc):Option Bool:=
 (((if(decide (a0.Kind≠a1.Kind))=true then(some true)else(if(decide (a0.From≠a1.From))=true then(some true)else(if(decide (a0.To≠a1.To))=true then(some true)else(if(decide (a0.Term≠a1.Term))=true then(some true)else(if(!(a0.Pre==a1.Pre))=true then(some true)else(if(!(a0.Ok==a1.Ok))=true then(some true)else(some (decide (a0.Leader≠a1.Leader))))))))):Option Bool).bind fun a=>(if a=true then(some false)else(((if(decide (a0.At≠a1.At))=true then(some true)else(if(decide (a0.AtTerm≠a1.AtTerm))=true then(some true)else(if(decide (a0.High≠a1.High))=true then(some true)else(if(decide (a0.Code≠a1.Code))=true then(some true)else(if(decide (a0.Size≠a1.Size))=true then(some true)else(some (decide (a0.Pos≠a1.Pos)))))))):Option Bool).bind fun b=>(if b=true then(some false)else((((f_ref02_Same a0.Data a1.Data).bind fun c=>(if c=true then((f_ref06_All a0.Batches a1.Batches).bind fun d=>(some d))else(some false))):Option Bool).bind fun e=>(some e))))))
def f_ref07_Same_post (a0:T_api_Rpc) (a1:T_api_Rpc) (a b c d:Value):Bool→Value→IM→HL→Prop:=
 fun(e:Bool) (v:Value) (M':IM) (H':HL)=>(.bool e)=v∧H'=[]
theorem f_ref07_Same_ok (a0:T_api_Rpc) (a1:T_api_Rpc) (M:IM) (e f g i:Value) (y:RS kd_api_Batch M e a0.Batches) (z:RS (Kd.int .u8) M f a0.Data) (A:RS kd_api_Batch M g a1.Batches) (B:RS (Kd.int .u8) M i a1.Data) (res:Bool) (h:f_ref07_Same a0 a1=some res):
 Tri prog 12 #[(a25_ a0 e f),(a25_ a1 g i)] M [] (f_ref07_Same_post a0 a1 e f g i res):=by
 unfold f_ref07_Same at h
 refine Te func12 Z Z ?_
 intro F ρ hρ
 refine Sr (We (box (cs:=(l25 a0 e f).toArray) (congrArg Value.cells (asE (a25_ a0 e f) (hρ 0)))) Z ?_)
 rintro _ _ _ - ⟨rfl,c,rfl,rfl⟩
 refine We (box (cs:=(l25 a1 g i).toArray) (congrArg Value.cells (asE (a25_ a1 g i) (hρ 1)))) Z ?_
 rintro _ _ _ - ⟨rfl,d,rfl,rfl⟩
 refine qa (Bv false) (Nt (Cs ?_))
 obtain ⟨J,Q,h⟩:=bnd h
 refine Jf (fun(J:Bool) ρ' M' H'=>M.le M'∧[(d, .cells (l25 a1 g i).toArray 25 (0,0))]::[(c, .cells (l25 a0 e f).toArray 25 (0,0))]::F=H'∧ρ' 2=(pt c 0)∧ρ' 3=(pt d 0)∧ρ' 51=(Bv J)) J ?_ ?_
 have h:=Q
 refine Cg (qu (pt c 0) (Fa fo25_0 Z Z) (qu (Iv a0.Kind) (Lb 1 pl3 Z Z Z) (qu (pt d 0) (Fa fo25_0 Z Z) (qu (Iv a1.Kind) (Lb 0 pl3 Z Z Z) (qu (Bv (decide (a0.Kind≠a1.Kind))) (neq Z Z) (qm (Bv (decide (a0.Kind≠a1.Kind))) ?_))))))
 rcases Bi h with⟨k,h⟩ |⟨k,h⟩
 iterate 5 refine Of 10 Z Z k Z ?_
 refine qu (Bv true) (Pt Z k Z) (qm (Bv true) ?_)
 iterate 5 refine Of 17 Z Z Z Z ?_
 refine qu (Bv true) (Pt Z Z Z) (qm (Bv true) ?_)
 iterate 5 refine Of 24 Z Z Z Z ?_
 refine qu (Bv true) (Pt Z Z Z) (qm (Bv true) ?_)
 iterate 5 refine Of 31 Z Z Z Z ?_
 refine qu (Bv true) (Pt Z Z Z) (qm (Bv true) ?_)
 iterate 5 refine Of 38 Z Z Z Z ?_
 refine qu (Bv true) (Pt Z Z Z) (qm (Bv true) ?_)
 iterate 5 refine Of 45 Z Z Z Z ?_
 refine qu (Bv true) (Pt Z Z Z) (Wz ?_)
 obtain rfl:=oi h
 exact Tj ⟨lr,Z,Z,Z,Z⟩
 refine qo 10 k (pt c 1) (Fa fo25_1 Z Z) (qo 10 k (Iv a0.From) (Lb 1 pl3 Z Z Z) (qo 10 k (pt d 1) (Fa fo25_1 Z Z) (qo 10 k (Iv a1.From) (Lb 0 pl3 Z Z Z) (qo 10 k (Bv (decide (a0.From≠a1.From))) (neq Z Z) (qu (Bv (decide (a0.From≠a1.From))) (Pf Z k Z) (qm (Bv (decide (a0.From≠a1.From))) ?_))))))
 rcases Bi h with⟨l,h⟩ |⟨l,h⟩
 iterate 5 refine Of 17 Z Z l Z ?_
 refine qu (Bv true) (Pt Z l Z) (qm (Bv true) ?_)
 iterate 5 refine Of 24 Z Z Z Z ?_
 refine qu (Bv true) (Pt Z Z Z) (qm (Bv true) ?_)
 iterate 5 refine Of 31 Z Z Z Z ?_
 refine qu (Bv true) (Pt Z Z Z) (qm (Bv true) ?_)
 iterate 5 refine Of 38 Z Z Z Z ?_
 refine qu (Bv true) (Pt Z Z Z) (qm (Bv true) ?_)
 iterate 5 refine Of 45 Z Z Z Z ?_
 refine qu (Bv true) (Pt Z Z Z) (Wz ?_)
 obtain rfl:=oi h
 exact Tj ⟨lr,Z,Z,Z,Z⟩
 refine qo 17 l (pt c 2) (Fa fo25_2 Z Z) (qo 17 l (Iv a0.To) (Lb 1 pl3 Z Z Z) (qo 17 l (pt d 2) (Fa fo25_2 Z Z) (qo 17 l (Iv a1.To) (Lb 0 pl3 Z Z Z) (qo 17 l (Bv (decide (a0.To≠a1.To))) (neq Z Z) (qu (Bv (decide (a0.To≠a1.To))) (Pf Z l Z) (qm (Bv (decide (a0.To≠a1.To))) ?_))))))
 rcases Bi h with⟨m,h⟩ |⟨m,h⟩
 iterate 5 refine Of 24 Z Z m Z ?_
 refine qu (Bv true) (Pt Z m Z) (qm (Bv true) ?_)
 iterate 5 refine Of 31 Z Z Z Z ?_
 refine qu (Bv true) (Pt Z Z Z) (qm (Bv true) ?_)
 iterate 5 refine Of 38 Z Z Z Z ?_
 refine qu (Bv true) (Pt Z Z Z) (qm (Bv true) ?_)
 iterate 5 refine Of 45 Z Z Z Z ?_
 refine qu (Bv true) (Pt Z Z Z) (Wz ?_)
 obtain rfl:=oi h
 exact Tj ⟨lr,Z,Z,Z,Z⟩
 refine qo 24 m (pt c 3) (Fa fo25_3 Z Z) (qo 24 m (Iv a0.Term) (Lb 1 pl3 Z Z Z) (qo 24 m (pt d 3) (Fa fo25_3 Z Z) (qo 24 m (Iv a1.Term) (Lb 0 pl3 Z Z Z) (qo 24 m (Bv (decide (a0.Term≠a1.Term))) (neq Z Z) (qu (Bv (decide (a0.Term≠a1.Term))) (Pf Z m Z) (qm (Bv (decide (a0.Term≠a1.Term))) ?_))))))
 rcases Bi h with⟨n,h⟩ |⟨n,h⟩
 iterate 5 refine Of 31 Z Z n Z ?_
 refine qu (Bv true) (Pt Z n Z) (qm (Bv true) ?_)
 iterate 5 refine Of 38 Z Z Z Z ?_
 refine qu (Bv true) (Pt Z Z Z) (qm (Bv true) ?_)
 iterate 5 refine Of 45 Z Z Z Z ?_
 refine qu (Bv true) (Pt Z Z Z) (Wz ?_)
 obtain rfl:=oi h
 exact Tj ⟨lr,Z,Z,Z,Z⟩
 refine qo 31 n (pt c 4) (Fa fo25_4 Z Z) (qo 31 n (Bv a0.Pre) (Lb 1 pl4 Z Z Z) (qo 31 n (pt d 4) (Fa fo25_4 Z Z) (qo 31 n (Bv a1.Pre) (Lb 0 pl4 Z Z Z) (qo 31 n (Bv (!(a0.Pre==a1.Pre))) (bneq underlying4 Z Z) (qu (Bv (!(a0.Pre==a1.Pre))) (Pf Z n Z) (qm (Bv (!(a0.Pre==a1.Pre))) ?_))))))
 rcases Bi h with⟨o,h⟩ |⟨o,h⟩
 iterate 5 refine Of 38 Z Z o Z ?_
 refine qu (Bv true) (Pt Z o Z) (qm (Bv true) ?_)
 iterate 5 refine Of 45 Z Z Z Z ?_
 refine qu (Bv true) (Pt Z Z Z) (Wz ?_)
 obtain rfl:=oi h
 exact Tj ⟨lr,Z,Z,Z,Z⟩
 refine qo 38 o (pt c 5) (Fa fo25_5 Z Z) (qo 38 o (Bv a0.Ok) (Lb 1 pl4 Z Z Z) (qo 38 o (pt d 5) (Fa fo25_5 Z Z) (qo 38 o (Bv a1.Ok) (Lb 0 pl4 Z Z Z) (qo 38 o (Bv (!(a0.Ok==a1.Ok))) (bneq underlying4 Z Z) (qu (Bv (!(a0.Ok==a1.Ok))) (Pf Z o Z) (qm (Bv (!(a0.Ok==a1.Ok))) ?_))))))
 rcases Bi h with⟨p,h⟩ |⟨p,h⟩
 iterate 5 refine Of 45 Z Z p Z ?_
 refine qu (Bv true) (Pt Z p Z) (Wz ?_)
 obtain rfl:=oi h
 exact Tj ⟨lr,Z,Z,Z,Z⟩
 refine qo 45 p (pt c 6) (Fa fo25_6 Z Z) (qo 45 p (Iv a0.Leader) (Lb 1 pl3 Z Z Z) (qo 45 p (pt d 6) (Fa fo25_6 Z Z) (qo 45 p (Iv a1.Leader) (Lb 0 pl3 Z Z Z) (qo 45 p (Bv (decide (a0.Leader≠a1.Leader))) (neq Z Z) (qu (Bv (decide (a0.Leader≠a1.Leader))) (Pf Z p Z) (Wz ?_))))))
 obtain rfl:=oi h
 exact Tj ⟨lr,Z,Z,Z,Z⟩
 rintro a3 Y a4 ⟨j,rfl,a,b,E⟩
 refine Ch h E (fun R h=> ?_) (fun R h=> ?_)
 exact Sr (qa (Bv false) (Nt (Cr (Tr (Dr (Dr (Rf h [] Z (Rs Z Z) j ⟨Z,Z⟩)))))))
 refine Ck (Tc (Cs ?_))
 obtain ⟨K,S,h⟩:=bnd h
 refine Jf (fun(K:Bool) ρ' M' H'=>Y.le M'∧[(d, .cells (l25 a1 g i).toArray 25 (0,0))]::[(c, .cells (l25 a0 e f).toArray 25 (0,0))]::F=H'∧ρ' 2=(pt c 0)∧ρ' 3=(pt d 0)∧ρ' 91=(Bv K)) K ?_ ?_
 have h:=S
 refine Cg (qu (pt c 7) (Fa fo25_7 a Z) (qu (Iv a0.At) (Lb 1 pl3 Z Z Z) (qu (pt d 7) (Fa fo25_7 b Z) (qu (Iv a1.At) (Lb 0 pl3 Z Z Z) (qu (Bv (decide (a0.At≠a1.At))) (neq Z Z) (qm (Bv (decide (a0.At≠a1.At))) ?_))))))
 rcases Bi h with⟨q,h⟩ |⟨q,h⟩
 iterate 5 refine Of 57 Z Z q Z ?_
 refine qu (Bv true) (Pt Z q Z) (qm (Bv true) ?_)
 iterate 5 refine Of 64 Z Z Z Z ?_
 refine qu (Bv true) (Pt Z Z Z) (qm (Bv true) ?_)
 iterate 5 refine Of 71 Z Z Z Z ?_
 refine qu (Bv true) (Pt Z Z Z) (qm (Bv true) ?_)
 iterate 5 refine Of 78 Z Z Z Z ?_
 refine qu (Bv true) (Pt Z Z Z) (qm (Bv true) ?_)
 iterate 5 refine Of 85 Z Z Z Z ?_
 refine qu (Bv true) (Pt Z Z Z) (Wz ?_)
 obtain rfl:=oi h
 exact Tj ⟨lr,Z,a,b,Z⟩
 refine qo 57 q (pt c 8) (Fa fo25_8 a Z) (qo 57 q (Iv a0.AtTerm) (Lb 1 pl3 Z Z Z) (qo 57 q (pt d 8) (Fa fo25_8 b Z) (qo 57 q (Iv a1.AtTerm) (Lb 0 pl3 Z Z Z) (qo 57 q (Bv (decide (a0.AtTerm≠a1.AtTerm))) (neq Z Z) (qu (Bv (decide (a0.AtTerm≠a1.AtTerm))) (Pf Z q Z) (qm (Bv (decide (a0.AtTerm≠a1.AtTerm))) ?_))))))
 rcases Bi h with⟨r,h⟩ |⟨r,h⟩
 iterate 5 refine Of 64 Z Z r Z ?_
 refine qu (Bv true) (Pt Z r Z) (qm (Bv true) ?_)
 iterate 5 refine Of 71 Z Z Z Z ?_
 refine qu (Bv true) (Pt Z Z Z) (qm (Bv true) ?_)
 iterate 5 refine Of 78 Z Z Z Z ?_
 refine qu (Bv true) (Pt Z Z Z) (qm (Bv true) ?_)
 iterate 5 refine Of 85 Z Z Z Z ?_
 refine qu (Bv true) (Pt Z Z Z) (Wz ?_)
 obtain rfl:=oi h
 exact Tj ⟨lr,Z,a,b,Z⟩
 refine qo 64 r (pt c 9) (Fa fo25_9 a Z) (qo 64 r (Iv a0.High) (Lb 1 pl3 Z Z Z) (qo 64 r (pt d 9) (Fa fo25_9 b Z) (qo 64 r (Iv a1.High) (Lb 0 pl3 Z Z Z) (qo 64 r (Bv (decide (a0.High≠a1.High))) (neq Z Z) (qu (Bv (decide (a0.High≠a1.High))) (Pf Z r Z) (qm (Bv (decide (a0.High≠a1.High))) ?_))))))
 rcases Bi h with⟨s,h⟩ |⟨s,h⟩
 iterate 5 refine Of 71 Z Z s Z ?_
 refine qu (Bv true) (Pt Z s Z) (qm (Bv true) ?_)
 iterate 5 refine Of 78 Z Z Z Z ?_
 refine qu (Bv true) (Pt Z Z Z) (qm (Bv true) ?_)
 iterate 5 refine Of 85 Z Z Z Z ?_
 refine qu (Bv true) (Pt Z Z Z) (Wz ?_)
 obtain rfl:=oi h
 exact Tj ⟨lr,Z,a,b,Z⟩
 refine qo 71 s (pt c 10) (Fa fo25_10 a Z) (qo 71 s (Iv a0.Code) (Lb 1 pl3 Z Z Z) (qo 71 s (pt d 10) (Fa fo25_10 b Z) (qo 71 s (Iv a1.Code) (Lb 0 pl3 Z Z Z) (qo 71 s (Bv (decide (a0.Code≠a1.Code))) (neq Z Z) (qu (Bv (decide (a0.Code≠a1.Code))) (Pf Z s Z) (qm (Bv (decide (a0.Code≠a1.Code))) ?_))))))
 rcases Bi h with⟨t,h⟩ |⟨t,h⟩
 iterate 5 refine Of 78 Z Z t Z ?_
 refine qu (Bv true) (Pt Z t Z) (qm (Bv true) ?_)
 iterate 5 refine Of 85 Z Z Z Z ?_
 refine qu (Bv true) (Pt Z Z Z) (Wz ?_)
 obtain rfl:=oi h
 exact Tj ⟨lr,Z,a,b,Z⟩
 refine qo 78 t (pt c 12) (Fa fo25_12 a Z) (qo 78 t (Iv a0.Size) (Lb 1 pl3 Z Z Z) (qo 78 t (pt d 12) (Fa fo25_12 b Z) (qo 78 t (Iv a1.Size) (Lb 0 pl3 Z Z Z) (qo 78 t (Bv (decide (a0.Size≠a1.Size))) (neq Z Z) (qu (Bv (decide (a0.Size≠a1.Size))) (Pf Z t Z) (qm (Bv (decide (a0.Size≠a1.Size))) ?_))))))
 rcases Bi h with⟨u,h⟩ |⟨u,h⟩
 iterate 5 refine Of 85 Z Z u Z ?_
 refine qu (Bv true) (Pt Z u Z) (Wz ?_)
 obtain rfl:=oi h
 exact Tj ⟨lr,Z,a,b,Z⟩
 refine qo 85 u (pt c 13) (Fa fo25_13 a Z) (qo 85 u (Iv a0.Pos) (Lb 1 pl3 Z Z Z) (qo 85 u (pt d 13) (Fa fo25_13 b Z) (qo 85 u (Iv a1.Pos) (Lb 0 pl3 Z Z Z) (qo 85 u (Bv (decide (a0.Pos≠a1.Pos))) (neq Z Z) (qu (Bv (decide (a0.Pos≠a1.Pos))) (Pf Z u Z) (Wz ?_))))))
 obtain rfl:=oi h
 exact Tj ⟨lr,Z,a,b,Z⟩
 rintro a5 a2 a6 ⟨w,rfl,C,D,G⟩
 refine Ch h G (fun T h=> ?_) (fun T h=> ?_)
 exact Sr (qa (Bv false) (Nt (Cr (Tr (Dr (Dr (Rf h [] Z (Rs Z Z) (j.trans w) ⟨Z,Z⟩)))))))
 refine Ck (Tc ?_)
 obtain ⟨L,U,h⟩:=bnd h
 refine Jf (fun(L:Bool) ρ' M' H'=>a2.le M'∧[(d, .cells (l25 a1 g i).toArray 25 (0,0))]::[(c, .cells (l25 a0 e f).toArray 25 (0,0))]::F=H'∧ρ' 4=(Bv L)) L ?_ ?_
 have h:=U
 refine Cg (qu (pt c 14) (Fa fo25_14 C Z) (qu f (Lb 1 pl23 Z Z Z) (qu (pt d 14) (Fa fo25_14 D Z) (qu i (Lb 0 pl23 Z Z Z) ?_))))
 obtain ⟨V,W,h⟩:=bnd h
 have z:=z.mono (j.trans w)
 have B:=B.mono (j.trans w)
 refine We (Ca co13 (f_ref02_Same_ok a0.Data a1.Data _ _ _ z B V W) (args2 Z Z)) Z ?_
 rintro _ a7 _ x ⟨_,⟨rfl,rfl⟩,rfl⟩
 refine WL.a0 (qm (Bv V) ?_)
 rcases Bi h with⟨v,h⟩ |⟨v,h⟩
 refine qo 97 v (pt c 11) (Fa fo25_11 C Z) (qo 97 v e (Lb 1 pl22 Z Z Z) (qo 97 v (pt d 11) (Fa fo25_11 D Z) (qo 97 v g (Lb 0 pl22 Z Z Z) (On 97 Z Z v ?_))))
 obtain ⟨N,X,h⟩:=bnd h
 have y:=y.mono ((j.trans w).trans x)
 have A:=A.mono ((j.trans w).trans x)
 refine We (Ca co39 (f_ref06_All_ok a0.Batches a1.Batches _ _ _ y A N X) (args2 Z Z)) Z ?_
 rintro _ a8 _ O ⟨_,⟨rfl,rfl⟩,rfl⟩
 refine WL.a0 (qu (Bv N) (Pt Z v Z) (qa (Bv N) (Wz ?_)))
 obtain rfl:=oi h
 exact Tj ⟨(x.trans O),Z,Z⟩
 iterate 5 refine Of 97 Z Z v Z ?_
 refine qu (Bv false) (Pf Z v Z) (qa (Bv false) (Wz ?_))
 obtain rfl:=oi h
 exact Tj ⟨x,Z,Z⟩
 rintro a9 b0 b1 ⟨P,rfl,I⟩
 exact Cr (Dr (Dr (Rf h [] Z (Rs Z I) ((j.trans w).trans P) ⟨Z,Z⟩)))
noncomputable def f_errors_as_fault_l0 (a1:T_api_Fault) (s_:GErr):Option (GErr⊕(Bool×ByteArray×Int×GErr)):=
 match s_ with
 |a=>
 (match a with | .nil=>none | .code d=>(some (inr (false,a1.Op,a1.At,a1.Err))) | .fault b a30 c=>(some (inr (true,b,a30,c))) | .other e=>(some (inr (false,a1.Op,a1.At,a1.Err))))
noncomputable def f_errors_as_fault (a0:GErr) (a1:T_api_Fault):Option (Bool×ByteArray×Int×GErr):=
 ((iter (f_errors_as_fault_l0 a1) a0).bind (fun(a,b,c,d)=>(some (a,b,c,d))))
def f_errors_as_fault_post (a0:GErr) (a1:T_api_Fault) (a b:Nat):(Bool×ByteArray×Int×GErr)→Value→IM→HL→Prop:=
 fun(p_:(Bool×ByteArray×Int×GErr)) (v:Value) (M':IM) (H':HL)=>match p_ with |(c,d,e,f)=>(.bool c)=v∧H'=[[(a, .cells #[(.string d),(.int .i64 e),(GV f)] 108 (0,0))],[(b, .cells #[(.pointer (some ⟨a,0,none⟩))] 118 (0,0))]]
theorem f_errors_as_fault_ok (a0:GErr) (a1:T_api_Fault) (M:IM) (l m:Nat) (res:(Bool×ByteArray×Int×GErr)) (h:f_errors_as_fault a0 a1=some res):
 Tri prog 111 #[(GV a0),(.iface 118 (pt l 0)),(.agg #[(pt 1 118),(pt m 0),(Uv 150)]),(.iface 184 (.agg #[.pointer (some ⟨1,108,none⟩)]))] M [[(l, .cells (l108 a1).toArray 108 (0,0))],[(m, .cells #[(pt l 0)] 118 (0,0))]] (f_errors_as_fault_post a0 a1 l m res):=by
 unfold f_errors_as_fault at h
 refine Te func111 Z Z ?_
 intro F ρ hρ
 refine Sr (We (box (cs:=#[(pt 1 118),(pt m 0),(Uv 150)]) (congrArg Value.cells (asE (.agg #[(pt 1 118),(pt m 0),(Uv 150)]) (hρ 2)))) Z ?_)
 rintro _ _ _ - ⟨rfl,s,rfl,rfl⟩
 refine qa (Bv false) (Nt (Bk ?_))
 obtain ⟨x,t,n⟩:=bnd h
 clear h
 refine WC.loop t (fun(o:GErr) ρ' M' H'=>M.le M'∧[(s, .cells #[(pt 1 118),(pt m 0),(Uv 150)] 153 (0,0))]::[(l, .cells (l108 a1).toArray 108 (0,0))]::[(m, .cells #[(pt l 0)] 118 (0,0))]::F=H'∧ρ' 0=(GV o)∧ρ' 1=(.iface 118 (pt l 0))∧ρ' 3=(.iface 184 (.agg #[.pointer (some ⟨1,108,none⟩)]))∧ρ' 6=(pt s 0)) ?_ ?_
 exact⟨lr,Z,(hρ 0),(hρ 1),(hρ 3),Z⟩
 rintro o y z A B h ⟨g,rfl,a,u,c,q⟩
 unfold f_errors_as_fault_l0 at h
 refine Bk (Cs (Sr (qM (GV o) a ?_)))
 rcases o with _ |j |⟨e,a30,f⟩ |k
 refine We (extP xt91 (args1 (show ev _ _= .nilIface from Z)) tyNil) Z ?_
 rintro _ _ _ - ⟨rfl,rfl,rfl⟩
 exact qM (.iface 184 (.agg #[.pointer (some ⟨1,108,none⟩)])) c (nones h)
 refine We (extP xt91 (args1 (show ev _ _=(.iface 38 (Iv j)) from Z)) (ty38 _)) Z ?_
 rintro _ _ _ - ⟨rfl,rfl,rfl⟩
 refine qM (.iface 184 (.agg #[.pointer (some ⟨1,108,none⟩)])) c (We (invE (show ev _ _=(.iface 184 (.agg #[.pointer (some ⟨1,38,none⟩)])) from Z) (mm_AssignableTo (pt 1 38)) xt173 (inv1 Z) mr_AssignableTo_38_108) Z ?_)
 rintro _ _ _ - ⟨rfl,rfl,rfl⟩
 refine Nt (WC.condF (b:=false) Z Z (Ck (Tc (Cs (Sr (qM (GV (GErr.code j)) a (qu (.tuple #[.nilIface,(Bv false)]) (asserts (show ev _ _=(.iface 38 (Iv j)) from Z) (la38_196 _ _)) (qm (.tuple #[.nilIface,(Bv false)]) (qu .nilIface (Xt Z Z) (qu (Bv false) (Xt Z Z) (qa .nilIface ?_)))))))))))
 refine qa (Bv false) (Ns (qm (Bv false) (qm (Bv false) ?_)))
 iterate 3 refine Of 31 Z Z Z Z ?_
 refine qu (Bv false) (Pf Z Z Z) (Nt (WC.condF (b:=false) Z Z (Ck (Tc (Sr (qM (GV (GErr.code j)) a (Nt (Bk (Sr (qu (.tuple #[.nilIface,(Bv false)]) (asserts (show ev _ _=(.iface 38 (Iv j)) from Z) (la38_189 _ _)) (qu (Bv false) (Xt Z Z) ?_)))))))))))
 refine qu .nilIface (Xt Z Z) (Nt (WC.condF (b:=false) Z Z (Sr (qu (.tuple #[.nilIface,(Bv false)]) (asserts (show ev _ _=(.iface 38 (Iv j)) from Z) (la38_190 _ _)) (qu (Bv false) (Xt Z Z) (qu .nilIface (Xt Z Z) (Nt (WC.condF (b:=false) Z Z (Sr (qa (GV (GErr.code j)) (Ns ?_)))))))))))
 refine qa (Bv false) (Nt (Cr (Br (Br (WQ.leaveR (false,a1.Op,a1.At,a1.Err) (oi h).symm (fun d=> ?_))))))
 subst d
 have h:=n
 exact Br (Dr (Rf h [[(l, .cells (l108 a1).toArray 108 (0,0))],[(m, .cells #[(pt l 0)] 118 (0,0))]] Z (Rs Z Z) g ⟨Z,Z⟩))
 refine We (extP xt91 (args1 (show ev _ _=(.iface 108 (.agg #[.string e, .int .i64 a30,GV f])) from Z)) (ty108 _)) Z ?_
 rintro _ _ _ - ⟨rfl,rfl,rfl⟩
 refine qM (.iface 184 (.agg #[.pointer (some ⟨1,108,none⟩)])) c (We (invE (show ev _ _=(.iface 184 (.agg #[.pointer (some ⟨1,108,none⟩)])) from Z) (mm_AssignableTo (pt 1 108)) xt173 (inv1 Z) mr_AssignableTo_108_108) Z ?_)
 rintro _ _ _ - ⟨rfl,rfl,rfl⟩
 refine Nt (WC.condT (b:=true) Z Z (Sr (qu (.agg #[(pt 1 118),(pt m 0),(Uv 150)]) (La (cs:=[(pt 1 118),(pt m 0),(Uv 150)]) 0 ag153 sz153 q Z Z) (We (rvElem (r:=fun p=> .agg #[(pt 1 108), .pointer (some p), .int .u64 409]) 2 xt137 pp118_150 Z pl118 el118 mk108 (args1 (show ev _ _=(.agg #[(pt 1 118),(pt m 0),(Uv 150)]) from Z)) Z) Z ?_))))
 rintro _ _ _ - ⟨rfl,rfl,rfl⟩
 refine qM (GV (GErr.fault e a30 f)) a (We (valueOf xt108 (args1 (show ev _ _=(.iface 108 (.agg #[.string e, .int .i64 a30,GV f])) from Z)) (vo108 e a30 (GV f))) Z ?_)
 rintro _ _ _ - ⟨rfl,w,rfl,rfl⟩
 refine Wb (We (rvSet (arr:=(l108 a1)) (vl:=[(Sv e),(Iv a30),(GV f)]) (v:=(.agg #[(Sv e),(Iv a30),(GV f)])) xt138 pp108_409 pp108_153 Z da108 (args2 (show ev _ _=(.agg #[(pt 1 108),(pt l 0),(Uv 409)]) from Z) (show ev _ _=(.agg #[(pt 1 108),(pt w 0),(Uv 153)]) from Z)) (fun _ hs=>run_loadAgg (cs:=[(Sv e),(Iv a30),(GV f)]) ag108 sz108 (fun i v hi=>by rw [add_lit];exact hs.cellC 1 Z (chunkCell_lit.trans (by simpa using hi)))) Z sz108 Z (onesOf (Oc Z (Oc Z (Oc (GErr.val_one _ _ _ _) Oz))))) Z ?_)
 rintro _ _ _ - ⟨rfl,rfl,rfl⟩
 refine Ns (qa (Bv true) (Nt (Cr (Tr (Br (WQ.leaveR (true,e,a30,f) (oi h).symm (fun d=> ?_)))))))
 subst d
 have h:=n
 exact Br (Qa (Dr (Qa (Dr (Rf h [[(l, .cells #[(Sv e),(Iv a30),(GV f)] 108 (0,0))],[(m, .cells #[(pt l 0)] 118 (0,0))]] Z (Rs Z Z) g ⟨Z,Z⟩)))))
 refine We (extP xt91 (args1 (show ev _ _=(.iface 0 (.pointer (some k))) from Z)) (ty0 _)) Z ?_
 rintro _ _ _ - ⟨rfl,rfl,rfl⟩
 refine qM (.iface 184 (.agg #[.pointer (some ⟨1,108,none⟩)])) c (We (invE (show ev _ _=(.iface 184 (.agg #[.pointer (some ⟨1,0,none⟩)])) from Z) (mm_AssignableTo (pt 1 0)) xt173 (inv1 Z) mr_AssignableTo_0_108) Z ?_)
 rintro _ _ _ - ⟨rfl,rfl,rfl⟩
 refine Nt (WC.condF (b:=false) Z Z (Ck (Tc (Cs (Sr (qM (GV (GErr.other k)) a (qu (.tuple #[.nilIface,(Bv false)]) (asserts (show ev _ _=(.iface 0 (.pointer (some k))) from Z) (la0_196 _ _)) (qm (.tuple #[.nilIface,(Bv false)]) (qu .nilIface (Xt Z Z) (qu (Bv false) (Xt Z Z) (qa .nilIface ?_)))))))))))
 refine qa (Bv false) (Ns (qm (Bv false) (qm (Bv false) ?_)))
 iterate 3 refine Of 31 Z Z Z Z ?_
 refine qu (Bv false) (Pf Z Z Z) (Nt (WC.condF (b:=false) Z Z (Ck (Tc (Sr (qM (GV (GErr.other k)) a (Nt (Bk (Sr (qu (.tuple #[.nilIface,(Bv false)]) (asserts (show ev _ _=(.iface 0 (.pointer (some k))) from Z) (la0_189 _ _)) (qu (Bv false) (Xt Z Z) ?_)))))))))))
 refine qu .nilIface (Xt Z Z) (Nt (WC.condF (b:=false) Z Z (Sr (qu (.tuple #[.nilIface,(Bv false)]) (asserts (show ev _ _=(.iface 0 (.pointer (some k))) from Z) (la0_190 _ _)) (qu (Bv false) (Xt Z Z) (qu .nilIface (Xt Z Z) (Nt (WC.condF (b:=false) Z Z (Sr (qa (GV (GErr.other k)) (Ns ?_)))))))))))
 refine qa (Bv false) (Nt (Cr (Br (Br (WQ.leaveR (false,a1.Op,a1.At,a1.Err) (oi h).symm (fun d=> ?_))))))
 subst d
 have h:=n
 exact Br (Dr (Rf h [[(l, .cells (l108 a1).toArray 108 (0,0))],[(m, .cells #[(pt l 0)] 118 (0,0))]] Z (Rs Z Z) g ⟨Z,Z⟩))
noncomputable def f_errors_As_fault (a0:GErr) (a1:T_api_Fault):Option (Bool×ByteArray×Int×GErr):=
 (if a0.isNil=true then(some (false,a1.Op,a1.At,a1.Err))else((f_errors_as_fault a0 a1).bind fun(a,b,c,d)=>(some (a,b,c,d))))
def f_errors_As_fault_post (a0:GErr) (a1:T_api_Fault) (a:Nat):(Bool×ByteArray×Int×GErr)→Value→IM→HL→Prop:=
 fun(p_:(Bool×ByteArray×Int×GErr)) (v:Value) (M':IM) (H':HL)=>match p_ with |(b,c,d,e)=>(.bool b)=v∧H'=[[(a, .cells #[(.string c),(.int .i64 d),(GV e)] 108 (0,0))]]
theorem f_errors_As_fault_ok (a0:GErr) (a1:T_api_Fault) (M:IM) (c:Nat) (hE:Env M) (res:(Bool×ByteArray×Int×GErr)) (h:f_errors_As_fault a0 a1=some res):
 Tri prog 75 #[(GV a0),(.iface 118 (pt c 0))] M [[(c, .cells (l108 a1).toArray 108 (0,0))]] (f_errors_As_fault_post a0 a1 c res):=by
 unfold f_errors_As_fault at h
 refine Te func75 Z Z ?_
 intro F ρ hρ
 refine Sr (qa (Bv false) (Nt (Cs (Sr (qM (GV a0) (hρ 0) (qu (Bv a0.isNil) (errNil underlying31 Z) (Nt (Ch h Z (fun e h=> ?_) (fun e h=> ?_)))))))))
 exact Sr (qa (Bv false) (Nt (Cr (Tr (Rf h [[(c, .cells (l108 a1).toArray 108 (0,0))]] Z (Rs Z Z) lr ⟨Z,Z⟩)))))
 refine Ck (Tc (Cs (Sr (qM (.iface 118 (pt c 0)) (hρ 1) (qu (Bv false) (ifcNil underlying20 Z) (Nt (WC.condF (b:=false) Z Z (Ck (Tc (Sr (qM (.iface 118 (pt c 0)) (hρ 1) ?_)))))))))))
 refine We (valueOf xt108 (args1 (show ev _ _=(.iface 118 (pt c 0)) from Z)) (vo118 ⟨c,0,none⟩)) Z ?_
 rintro _ _ _ - ⟨rfl,a,rfl,rfl⟩
 refine We (Al ze153 Z) Z ?_
 rintro _ _ _ - ⟨rfl,l,rfl,rfl⟩
 refine We (Sg (v:=(.agg #[(pt 1 118),(pt a 0),(Uv 150)])) (vl:=[(pt 1 118),(pt a 0),(Uv 150)]) (arr':=[(pt 1 118),(pt a 0),(Uv 150)]) Z sz153 Z Z (onb Z) Z Z Z) Z ?_
 rintro _ _ _ - ⟨rfl,rfl⟩
 refine Ns (qu (.agg #[(pt 1 118),(pt a 0),(Uv 150)]) (La (cs:=[(pt 1 118),(pt a 0),(Uv 150)]) 0 ag153 sz153 Z Z Z) (We (extP xt109 (args1 (show ev _ _=(.agg #[(pt 1 118),(pt a 0),(Uv 150)]) from Z)) (vt118_150 _)) Z ?_))
 rintro _ _ _ - ⟨rfl,rfl,rfl⟩
 refine qa (.iface 184 (.agg #[.pointer (some ⟨1,118,none⟩)])) (Nt (Cs (Sr (qm (.iface 184 (.agg #[.pointer (some ⟨1,118,none⟩)])) (We (invE (show ev _ _=(.iface 184 (.agg #[.pointer (some ⟨1,118,none⟩)])) from Z) (mm_Kind (pt 1 118)) xt163 inv0 mr_Kind_118) Z ?_)))))
 rintro _ _ _ - ⟨rfl,rfl,rfl⟩
 refine qu (Bv false) (neqR Z Z (by decide)) (qm (Bv false) (qo 20 Z (.agg #[(pt 1 118),(pt a 0),(Uv 150)]) (La (cs:=[(pt 1 118),(pt a 0),(Uv 150)]) 0 ag153 sz153 Z Z Z) (On 20 Z Z Z (We (isNil 1 xt110 pp118_150 Z pl118 (args1 (show ev _ _=(.agg #[(pt 1 118),(pt a 0),(Uv 150)]) from Z)) Z) Z ?_))))
 rintro _ _ _ - ⟨rfl,rfl,rfl⟩
 refine qu (Bv false) (Pf Z Z Z) (Nt (WC.condF (b:=false) Z Z (Ck (Tc (Sr (qm (.iface 184 (.agg #[.pointer (some ⟨1,118,none⟩)])) (We (invE (show ev _ _=(.iface 184 (.agg #[.pointer (some ⟨1,118,none⟩)])) from Z) (mm_Elem (pt 1 118)) xt175 inv0 mr_Elem_118) Z ?_)))))))
 rintro _ _ _ - ⟨rfl,rfl,rfl⟩
 refine qa (.iface 184 (.agg #[.pointer (some ⟨1,108,none⟩)])) (Nt (Cs (Sr (qm (.iface 184 (.agg #[.pointer (some ⟨1,108,none⟩)])) (We (invE (show ev _ _=(.iface 184 (.agg #[.pointer (some ⟨1,108,none⟩)])) from Z) (mm_Kind (pt 1 108)) xt163 inv0 mr_Kind_108) Z ?_)))))
 rintro _ _ _ - ⟨rfl,rfl,rfl⟩
 refine qu (Bv true) (neqR Z Z (by decide)) (qm (Bv true) (On 30 Z Z Z (qm (.iface 184 (.agg #[.pointer (some ⟨1,108,none⟩)])) (qo 30 Z (.iface 184 (.agg #[.pointer (some ⟨1,31,none⟩)])) (loadG pl138 hE) (On 30 Z Z Z (We (invE (show ev _ _=(.iface 184 (.agg #[.pointer (some ⟨1,108,none⟩)])) from Z) (mm_Implements (pt 1 108)) xt176 (inv1 Z) mr_Implements_108_31) Z ?_))))))
 rintro _ _ _ - ⟨rfl,rfl,rfl⟩
 refine qo 30 Z (Bv (!true)) (PO.not Z) (qu (Bv (!true)) (Pt Z Z Z) (Nt (WC.condF (b:= !true) Z Z (Ck (Tc (Sr (qM (GV a0) (hρ 0) (qM (.iface 118 (pt c 0)) (hρ 1) (qu (.agg #[(pt 1 118),(pt a 0),(Uv 150)]) (La (cs:=[(pt 1 118),(pt a 0),(Uv 150)]) 0 ag153 sz153 Z Z Z) (qm (.iface 184 (.agg #[.pointer (some ⟨1,108,none⟩)])) ?_))))))))))
 obtain ⟨⟨f,g,i,j⟩,k,h⟩:=bnd h
 refine WL.f1 (Wb (We (EO.call2 co111 (f_errors_as_fault_ok a0 a1 _ _ _ (f,g,i,j) k) (args4 Z Z Z Z)) Z ?_))
 rintro _ m _ d ⟨_,⟨rfl,rfl⟩,rfl⟩
 exact WL.a2 (qa (Bv f) (Nt (Cr (Qa (Dr (Qa (Dr (Rf h [[(c, .cells #[(Sv g),(Iv i),(GV j)] 108 (0,0))]] Z (Rs Z Z) d ⟨Z,Z⟩))))))))
noncomputable def f_fault_Where (a0:GErr):Option (Int×Bool):=
 ((f_errors_As_fault a0 (⟨(⟨#[]⟩:ByteArray),(0:Int),GErr.nil⟩:T_api_Fault)).bind fun(a,c,b,d)=>(if(!a)=true then(some ((0:Int),false))else(some (b,true))))
def f_fault_Where_post (a0:GErr):(Int×Bool)→Value→IM→HL→Prop:=
 fun(p_:(Int×Bool)) (v:Value) (M':IM) (H':HL)=>match p_ with |(a,b)=>(.tuple #[(.int .i64 a),(.bool b)])=v∧H'=[]
theorem f_fault_Where_ok (a0:GErr) (M:IM) (hE:Env M) (res:(Int×Bool)) (h:f_fault_Where a0=some res):
 Tri prog 44 #[(GV a0)] M [] (f_fault_Where_post a0 res):=by
 unfold f_fault_Where at h
 refine Te func44 Z Z ?_
 intro F ρ hρ
 refine Sr (qa (Iv 0) (qa (Bv false) (Ns (We (Al ze108 Z) Z ?_))))
 rintro _ _ _ - ⟨rfl,c,rfl,rfl⟩
 refine Nt (Cs (Sr (qM (GV a0) (hρ 0) (qu (.iface 118 (pt c 0)) (makeInterface cc118 Z) ?_))))
 obtain ⟨⟨d,g,b,i⟩,e,h⟩:=bnd h
 refine We (Cb co75 (f_errors_As_fault_ok a0 (⟨(⟨#[]⟩:ByteArray),(0:Int),GErr.nil⟩:T_api_Fault) _ _ hE (d,g,b,i) e) (args2 Z Z)) Z ?_
 rintro _ j _ a ⟨_,⟨rfl,rfl⟩,rfl⟩
 refine WL.a1 (qu (Bv (!d)) (PO.not Z) (Nt (Ch h Z (fun f h=> ?_) (fun f h=> ?_))))
 exact Sr (qa (Iv 0) (qa (Bv false) (Nt (Cr (Tr (Dr (Rf h [] Z (results2 Z Z Z) a ⟨Z,Z⟩)))))))
 exact Ck (Tc (Sr (qu (pt c 1) (Fa fo108_1 Z Z) (qu (Iv b) (Lb 0 pl3 Z Z Z) (qa (Iv b) (qa (Bv true) (Nt (Cr (Dr (Rf h [] Z (results2 Z Z Z) a ⟨Z,Z⟩))))))))))
noncomputable def f_fault_Path_l0 (s_:(GErr×(List ByteArray))):Option ((GErr×(List ByteArray))⊕(List ByteArray)):=
 match s_ with
 |(b,a)=>
 (if(!b.isNil)=true then((f_errors_As_fault b (⟨(⟨#[]⟩:ByteArray),(0:Int),GErr.nil⟩:T_api_Fault)).bind fun(d,c,f,e)=>(if(!d)=true then(some (inr a))else(grd (a.length+[c].length≤274877906944) (some (inl (e,a++[c]))))))else(some (inr a)))
noncomputable def f_fault_Path (a0:GErr):Option (List ByteArray):=
 ((((iter (f_fault_Path_l0) (a0,[])).bind (fun(a:(List ByteArray))=>(some a))):Option (List ByteArray)).bind fun b=>(some b))
def f_fault_Path_post (a0:GErr):(List ByteArray)→Value→IM→HL→Prop:=
 fun(c:(List ByteArray)) (v:Value) (M':IM) (H':HL)=>∃ a b,a=v∧H'=[b]∧OwnS Kd.str M' a c b
theorem f_fault_Path_ok (a0:GErr) (M:IM) (hE:Env M) (res:(List ByteArray)) (h:f_fault_Path a0=some res):
 Tri prog 76 #[(GV a0)] M [] (f_fault_Path_post a0 res):=by
 unfold f_fault_Path at h
 refine Te func76 Z Z ?_
 intro F ρ hρ
 refine Sr (qa Zs (Ns (qa Zs (Nt ?_))))
 obtain ⟨r,u,h⟩:=bnd h
 refine Jf (fun(r:(List ByteArray)) ρ' M' H'=>∃ b i,M.le M'∧i::F=H'∧ρ' 3=b∧OwnS Kd.str M' b r i) r ?_ ?_
 have h:=u
 refine Bk (WC.e0 ?_)
 obtain ⟨L,v,q⟩:=bnd h
 clear h
 refine WC.loop v (fun(p_:(GErr×(List ByteArray))) ρ' M' H'=>match p_ with |(m,n)=>∃ c j,M.le M'∧j::F=H'∧ρ' 0=(GV m)∧ρ' 3=c∧OwnS Kd.str M' c n j) ?_ ?_
 exact⟨Zs,[],lr,Z,(hρ 0),Z,(OwnS.nil _ _)⟩
 rintro ⟨m,n⟩ N O P Q h ⟨c,j,d,rfl,l,e,a⟩
 unfold f_fault_Path_l0 at h
 refine Cs (Sr (qM (GV m) l (qu (Bv (!m.isNil)) (errNotNil underlying31 Z) (Nt (Ch h Z (fun w h=> ?_) (fun w h=> ?_))))))
 refine Ck (Tc (Bk (Sr (We (Al ze108 Z) Z ?_))))
 rintro _ _ _ - ⟨rfl,s,rfl,rfl⟩
 refine Nt (Cs (Sr (qM (GV m) l (qu (.iface 118 (pt s 0)) (makeInterface cc118 Z) ?_))))
 obtain ⟨⟨x,f,E,o⟩,y,h⟩:=bnd h
 have hE:=hE.mono d
 refine We (Cb co75 (f_errors_As_fault_ok m (⟨(⟨#[]⟩:ByteArray),(0:Int),GErr.nil⟩:T_api_Fault) _ _ hE (x,f,E,o) y) (args2 Z Z)) Z ?_
 rintro _ G _ g ⟨_,⟨rfl,rfl⟩,rfl⟩
 refine WL.a1 (qu (Bv (!x)) (PO.not Z) (Nt (Ch h Z (fun z h=> ?_) (fun z h=> ?_))))
 refine WC.exit (WQ.thenE (WQ.blockM Z (WQ.leaveE n (oi h).symm (fun k=> ?_))))
 subst k
 have h:=q
 refine WQ.blockH (Dr ?_)
 obtain rfl:=oi h
 refine Tj ?_
 have a:=a.mono g
 exact⟨c,j,(d.trans g),Z,e,a⟩
 refine Ck (Tc (Sr (qM c e (qu (pt s 0) (Fa fo108_0 Z Z) (qu (Sv f) (Lb 0 pl9 Z Z Z) (We (buildSliceL (cl:=[(Sv f)]) underlying120 iz9 Z (Pc (Sv f) Z Z Pz) Z) Z ?_))))))
 rintro _ _ _ - ⟨rfl,A,rfl,rfl⟩
 have I:OwnS Kd.str G (.slice (some ⟨A,0,none⟩) 1 1) [f] [(A, .cells #[(Sv f)] 9 (0,0))]:=OwnS.rows (css:=[[(Sv f)]]) (Rows.cons Z Rows.nil) Z Z
 obtain ⟨B,h⟩:=grd_i h
 refine Wb ?_
 have a:=a.mono g
 refine We (append (dd:=Kd.str) (xs:=n) (ys:=[f]) underlying120 underlying120 in9 Z (appB (by decide) B) (by decide) Z Z a (I.src 1 Z)) Z ?_
 rintro C _ _ - ⟨rfl,J,rfl,K⟩
 refine qa C (Nt (Cg (qu (pt s 2) (Fa fo108_2 Z Z) (qu (GV o) (Lb 2 pl31 Z Z Z) (qa (GV o) (Wz (Bn (Qa (Dr (Qa (Dr ?_)))))))))))
 exact WQ.again (o,n++[f]) (oi h).symm ⟨C,J,(d.trans g),Z,Z,Z,K⟩
 refine WC.exit (WQ.thenE (WQ.leaveE n (oi h).symm (fun k=> ?_)))
 subst k
 have h:=q
 refine WQ.blockH ?_
 obtain rfl:=oi h
 exact Tj ⟨c,j,d,Z,e,a⟩
 rintro R S T ⟨b,i,t,rfl,p,D⟩
 exact Sr (qM b p (qa b (Nt (Cr (Rf h [i] Z (Rs Z Z) t ⟨b,i,Z,Z,D⟩)))))
noncomputable def f_fault_Under_l0 (a1:ByteArray) (b:(List ByteArray)) (s_:Int):Option (Int⊕(Unit⊕Unit)):=
 match s_ with
 |a=>
 (if(decide (a<(b.length:Int)))=true then(grd (0≤a∧a<b.length) (if(decide ((rd b a)=a1))=true then(some (inr (inr ())))else(some (inl (i64.wrap (a+(1:Int)))))))else(some (inr (inl ()))))
noncomputable def f_fault_Under (a0:GErr) (a1:ByteArray):Option Bool:=
 ((((f_fault_Path a0).bind fun a=>((iter (f_fault_Under_l0 a1 a) (0:Int)).bind (Sum.elim (fun _=>(some (inl ()))) (fun _=>(((some true)).bind fun r=>some (inr r)))))):Option (Unit⊕Bool)).bind (Sum.elim (fun _=>(some false)) some))
def f_fault_Under_post (a0:GErr) (a1:ByteArray):Bool→Value→IM→HL→Prop:=
 fun(a:Bool) (v:Value) (M':IM) (H':HL)=>(.bool a)=v∧H'=[]
theorem f_fault_Under_ok (a0:GErr) (a1:ByteArray) (M:IM) (hE:Env M) (res:Bool) (h:f_fault_Under a0 a1=some res):
 Tri prog 46 #[(GV a0),(Sv a1)] M [] (f_fault_Under_post a0 a1 res):=by
 unfold f_fault_Under at h
 refine Te func46 Z Z ?_
 intro F ρ hρ
 refine Sr (qa (Bv false) (Nt ?_))
 obtain ⟨z,r,h⟩:=bnd h
 refine WC.joinE (fun(_:Unit) ρ' M' H'=>M.le M'∧F=H') z ?_ ?_
 have s:=h
 have h:=r
 refine Sr (qM (GV a0) (hρ 0) ?_)
 obtain ⟨c,t,h⟩:=bnd h
 refine We (Ca co76 (f_fault_Path_ok a0 _ hE c t) (args1 Z)) Z ?_
 rintro _ A _ l ⟨_,⟨u,v,rfl,rfl,f⟩,rfl⟩
 refine WL.a1 (qu (Iv (c.length:Int)) (lenS underlying120 Z f.len) (qm (Iv 0) (Nt (Bk ?_))))
 obtain ⟨D,w,m⟩:=bnd h
 clear h
 refine WC.loop w (fun(b:Int) ρ' M' H'=>A.le M'∧v::F=H'∧ρ' 1=(Sv a1)∧ρ' 8=u∧ρ' 9=(Iv (c.length:Int))∧ρ' 10=(Iv b)) ?_ ?_
 exact⟨lr,Z,(hρ 1),Z,Z,Z⟩
 rintro b E G I J h ⟨d,rfl,g,i,j,a⟩
 unfold f_fault_Under_l0 at h
 refine Sr (qu (Bv (decide (b<(c.length:Int)))) (lss a j) (Nt (Cs (Ch h Z (fun x h=> ?_) (fun x h=> ?_)))))
 refine Ck (Tc (Cs (Bk (Sr ?_))))
 obtain ⟨k,h⟩:=grd_i h
 have f:=f.mono d
 obtain ⟨B,C,o,p,hhas35⟩:=f.at k.1 k.2
 obtain rfl:=p
 refine qu (.pointer (some B)) (indexAddr (n:=c.length) underlying120 sz9 i a k.1 k.2 o) (qu (Sv (rd c b)) (loadC 0 pl9 Z Z (chunkHas0 hhas35)) (qa (Sv (rd c b)) (Ns (qm (Sv (rd c b)) (qM (Sv a1) g (qu (Bv (decide ((rd c b)=a1))) (seql Z Z) (Nt (Ch h Z (fun y h=> ?_) (fun y h=> ?_)))))))))
 refine Sr (qa (Bv true) (Nt (Cr (Br (Tr (WQ.leaveR (inr ()) (oi h).symm (fun e=> ?_)))))))
 subst e
 have h:=(elimR m)
 refine Br (Tr ?_)
 have h:=KK.early h s
 exact Dr (Rf h [] Z (Rs Z Z) (l.trans d) ⟨Z,Z⟩)
 exact Ck (Bn (Tc (Cg (qu (Iv (i64.wrap (b+1))) (add a Z) (qm (Iv (i64.wrap (b+1))) (Wz (WQ.again (i64.wrap (b+1)) (oi h).symm ⟨d,Z,g,i,j,Z⟩)))))))
 refine WC.exit (WQ.thenE (WQ.leaveE (inl ()) (oi h).symm (fun e=> ?_)))
 subst e
 have h:=elimL m
 exact WQ.blockH (Dr (WQ.thenFE h ⟨(l.trans d),Z⟩))
 rintro _ K L N rfl ⟨q,rfl⟩
 have h:=(Sum.elim_inl _ _ _).symm.trans h
 exact Sr (qa (Bv false) (Nt (Cr (Rf h [] Z (Rs Z Z) q ⟨Z,Z⟩))))
noncomputable def f_law07_wrong (a0:GErr) (a1:T_ref06_Wrong):Option Bool:=
 (if a0.isNil=true then(some (decide (a1.W.Code=(0:Int))))else((f_fault_Where a0).bind fun(a,b)=>((((f_fault_Of a0).bind fun c=>(if(decide (c=a1.W.Code))=true then(if b=true then(if(decide (a=a1.W.At))=true then((f_fault_Under a0 a1.W.Op).bind fun d=>(some d))else(some false))else(some false))else(some false))):Option Bool).bind fun e=>(some e))))
def f_law07_wrong_post (a0:GErr) (a1:T_ref06_Wrong):Bool→Value→IM→HL→Prop:=
 fun(a:Bool) (v:Value) (M':IM) (H':HL)=>(.bool a)=v∧H'=[]
theorem f_law07_wrong_ok (a0:GErr) (a1:T_ref06_Wrong) (M:IM) (hE:Env M) (res:Bool) (h:f_law07_wrong a0 a1=some res):
 Tri prog 15 #[(GV a0),(a42_ a1)] M [] (f_law07_wrong_post a0 a1 res):=by
 unfold f_law07_wrong at h
 refine Te func15 Z Z ?_
 intro F ρ hρ
 refine Sr (We (box (cs:=(l42 a1).toArray) (congrArg Value.cells (asE (a42_ a1) (hρ 1)))) Z ?_)
 rintro _ _ _ - ⟨rfl,d,rfl,rfl⟩
 refine qa (Bv false) (Nt (Cs (Sr (qM (GV a0) (hρ 0) (qu (Bv a0.isNil) (errNil underlying31 Z) (Nt (Ch h Z (fun p h=> ?_) (fun p h=> ?_))))))))
 exact Sr (qu (pt d 0) (Fa fo42_0 Z Z) (qu (pt d 2) (Fa fo40_2 Z Z) (qu (Iv a1.W.Code) (Lb 0 pl38 Z Z Z) (qu (Bv (decide (a1.W.Code=0))) (eql Z Z) (qa (Bv (decide (a1.W.Code=0))) (Nt (Cr (Tr (Dr (Rf h [] Z (Rs Z Z) lr ⟨Z,Z⟩))))))))))
 refine Ck (Tc (Sr (qM (GV a0) (hρ 0) ?_)))
 obtain ⟨⟨e,g⟩,q,h⟩:=bnd h
 refine We (Ca co44 (f_fault_Where_ok a0 _ hE (e,g) q) (args1 Z)) Z ?_
 rintro _ u _ i ⟨_,⟨rfl,rfl⟩,rfl⟩
 refine WL.a0 (qm (.tuple #[(Iv e),(Bv g)]) (qu (Iv e) (Xt Z Z) (qu (Bv g) (Xt Z Z) (qa (Iv e) (qa (Bv g) (Nt ?_))))))
 obtain ⟨k,r,h⟩:=bnd h
 refine Jf (fun(k:Bool) ρ' M' H'=>u.le M'∧[(d, .cells (l42 a1).toArray 42 (0,0))]::F=H'∧ρ' 4=(Bv k)) k ?_ ?_
 have h:=r
 refine WC.draw [0,1,0,4,12,31,63,127,255,511,1023,1023,3071,7167,16383,32767,65535,131071,131071,393215,917503,2097151,4194303,8388607] (.pure 0 (.pure 2 (.pure 3 (.pure 4 (.alt 1 (.pure 5 (.pure 6 (.pure 7 (.pure 8 (.pure 9 (.pure 10 (.pure 11 (.pure 12 (.pure 13 (.pure 14 (.pure 15 (.pure 16 (.pure 17 (.pure 18 (.pure 19 (.pure 20 (.alt 21 (.pure 22 (.pure 23 .done)) .none))))))))))))))))) .none))))) mixed (by kernel_rfl) (qt (GV a0) Z (Mv (hρ 0)) (qt (pt d 0) Z (Fa fo42_0 Z Z) (qt (pt d 2) Z (Fa fo40_2 Z Z) (qt (Iv a1.W.Code) Z (Lb 0 pl38 Z Z Z) ?_))))
 obtain ⟨l,s,h⟩:=bnd h
 have hE:=hE.mono i
 refine Ta Z (Ca co45 (f_fault_Of_ok a0 _ hE l s) (args1 Z)) Z ?_ ?_
 rintro _ v _ c ⟨_,⟨rfl,rfl⟩,rfl⟩
 refine⟨(Ss Z (Lb 0 pl38 Z Z Z) Z (Ss Z (Fa fo40_2 Z Z) Z (Ss Z (Fa fo42_0 Z Z) Z (Sl Z)))), ?_⟩
 refine WT.a0 (qt (Bv (decide (l=a1.W.Code))) Z (eql Z Z) (qt (Bv (decide (l=a1.W.Code))) Z (Mv Z) ?_))
 rcases Bi h with⟨f,h⟩ |⟨f,h⟩
 refine Tn (Bv g) 24 Z Z Z f (Mv Z) Z (qt (Bv g) Z (Pt Z f Z) (qt (Bv g) Z (Mv Z) ?_))
 rcases Bi h with⟨a,h⟩ |⟨a,h⟩
 refine Tn (Iv e) 27 Z Z Z a (Mv Z) Z (Tn (pt d 0) 27 Z Z Z a (Fa fo42_0 Z Z) Z (Tn (pt d 1) 27 Z Z Z a (Fa fo40_1 Z Z) Z (Tn (Iv a1.W.At) 27 Z Z Z a (Lb 0 pl3 Z Z Z) Z (Tn (Bv (decide (e=a1.W.At))) 27 Z Z Z a (eql Z Z) Z (qt (Bv (decide (e=a1.W.At))) Z (Pt Z a Z) (qt (Bv (decide (e=a1.W.At))) Z (Mv Z) ?_))))))
 rcases Bi h with⟨b,h⟩ |⟨b,h⟩
 refine Tn (GV a0) 34 Z Z Z b (Mv (hρ 0)) Z (Tn (pt d 0) 34 Z Z Z b (Fa fo42_0 Z Z) Z (Tn (pt d 0) 34 Z Z Z b (Fa fo40_0 Z Z) Z (Tn (Sv a1.W.Op) 34 Z Z Z b (Lb 0 pl9 Z Z Z) Z ?_)))
 obtain ⟨m,t,h⟩:=bnd h
 have hE:=hE.mono c
 refine WT.altOn 34 Z Z Z b (Ca co46 (f_fault_Under_ok a0 a1.W.Op _ hE m t) (args2 Z Z)) Z ?_ ?_
 rintro _ w _ n ⟨_,⟨rfl,rfl⟩,rfl⟩
 refine⟨(Sl Z), ?_⟩
 refine WT.a0 (qt (Bv m) Z (Pt Z b Z) (qt (Bv m) Z (Ag Z) (Ti ?_)))
 obtain rfl:=oi h
 exact Tj ⟨(c.trans n),Z,Z⟩
 exact Tz
 refine Tf 34 Z Z Z b Z (Tf 34 Z Z Z b Z (Tf 34 Z Z Z b Z (Tf 34 Z Z Z b Z (Tg 34 Z Z Z b Z ⟨(Sl Z), ?_⟩ ?_))))
 refine qt (Bv false) Z (Pf Z b Z) (qt (Bv false) Z (Ag Z) (Ti ?_))
 obtain rfl:=oi h
 exact Tj ⟨c,Z,Z⟩
 exact Tz
 refine Tf 27 Z Z Z a Z (Tf 27 Z Z Z a Z (Tf 27 Z Z Z a Z (Tf 27 Z Z Z a Z (Tf 27 Z Z Z a Z (qt (Bv false) Z (Pf Z a Z) (qt (Bv false) Z (Mv Z) (Tf 34 Z Z Z Z Z (Tf 34 Z Z Z Z Z (Tf 34 Z Z Z Z Z (Tf 34 Z Z Z Z Z (Tg 34 Z Z Z Z Z ⟨(Sl Z), ?_⟩ ?_)))))))))))
 refine qt (Bv false) Z (Pf Z Z Z) (qt (Bv false) Z (Ag Z) (Ti ?_))
 obtain rfl:=oi h
 exact Tj ⟨c,Z,Z⟩
 exact Tz
 refine Tf 24 Z Z Z f Z (qt (Bv false) Z (Pf Z f Z) (qt (Bv false) Z (Mv Z) (Tf 27 Z Z Z Z Z (Tf 27 Z Z Z Z Z (Tf 27 Z Z Z Z Z (Tf 27 Z Z Z Z Z (Tf 27 Z Z Z Z Z (qt (Bv false) Z (Pf Z Z Z) (qt (Bv false) Z (Mv Z) (Tf 34 Z Z Z Z Z (Tf 34 Z Z Z Z Z ?_)))))))))))
 refine Tf 34 Z Z Z Z Z (Tf 34 Z Z Z Z Z (Tg 34 Z Z Z Z Z ⟨(Sl Z), ?_⟩ ?_))
 refine qt (Bv false) Z (Pf Z Z Z) (qt (Bv false) Z (Ag Z) (Ti ?_))
 obtain rfl:=oi h
 exact Tj ⟨c,Z,Z⟩
 exact Tz
 exact Tz
 rintro x y z ⟨o,rfl,j⟩
 exact Cr (Dr (Rf h [] Z (Rs Z j) (i.trans o) ⟨Z,Z⟩))
noncomputable def f_law07_RpcReads (a0:Int) (a1:(List Int)):Option Bool:=
 (if(decide ((1500:Int)<(a1.length:Int)))=true then((f_law07_works).bind fun a=>(some a))else((f_rpc_Read (⟨a0,a1⟩:T_api_Frame)).bind fun(b,c)=>((f_ref07_Read (⟨a0,a1⟩:T_api_Frame)).bind fun(d,e)=>((((f_ref07_Same b d).bind fun f=>(if f=true then((f_law07_wrong c e).bind fun g=>(if g=true then((f_law07_works).bind fun i=>(some i))else(some false)))else(some false))):Option Bool).bind fun j=>(some j)))))
def f_law07_RpcReads_post (a0:Int) (a1:(List Int)) (b:Value):Bool→Value→IM→HL→Prop:=
 fun(a:Bool) (v:Value) (M':IM) (H':HL)=>(.bool a)=v∧H'=[]
theorem f_law07_RpcReads_ok (a0:Int) (a1:(List Int)) (M:IM) (t:Value) (z:RS (Kd.int .u8) M t a1) (hE:Env M) (res:Bool) (h:f_law07_RpcReads a0 a1=some res):
 Tri prog 7 #[(Iv a0),t] M [] (f_law07_RpcReads_post a0 a1 t res):=by
 unfold f_law07_RpcReads at h
 refine Te func7 Z Z ?_
 intro F ρ hρ
 refine Sr (qa (Bv false) (Nt (Cs (Sr (qM t (hρ 1) (qu (Iv (a1.length:Int)) (lenS underlying23 Z z.len) (qu (Bv (decide ((1500:Int)<(a1.length:Int)))) (gtr Z Z) (Nt (Ch h Z (fun I h=> ?_) (fun I h=> ?_))))))))))
 refine Sr ?_
 obtain ⟨J,K,h⟩:=bnd h
 refine We (Ca co9 (f_law07_works_ok _ hE J K) (args0)) Z ?_
 rintro _ b1 _ A ⟨_,⟨rfl,rfl⟩,rfl⟩
 exact WL.a0 (qa (Bv J) (Nt (Cr (Tr (Rf h [] Z (Rs Z Z) A ⟨Z,Z⟩)))))
 refine Ck (Tc (Sr (qM (Iv a0) (hρ 0) (qM t (hρ 1) (qu (.agg #[(Iv a0),t]) (Bl (cl:=[(Iv a0),t]) ze29 fp29 (Pc (Iv a0) Z Z (Parts.cons ((congrArg Value.cells (show ev _ _=t from Z)).trans z.cells) Pz)) Z) ?_)))))
 obtain ⟨⟨j,s⟩,L,h⟩:=bnd h
 refine We (Ca co11 (f_rpc_Read_ok (⟨a0,a1⟩:T_api_Frame) _ _ z hE (j,s) L) (args1 Z)) Z ?_
 rintro _ b2 _ q ⟨_,⟨a,u,b,w,rfl,rfl,e,f⟩,rfl⟩
 refine WL.a2 (qm (.tuple #[(a25_ j a b),(GV s)]) (qu (a25_ j a b) (Xt Z Z) (qu (GV s) (Xt Z Z) (We (Al ze25 Z) Z ?_))))
 rintro _ _ _ - ⟨rfl,T,rfl,rfl⟩
 refine We (Sg (v:=(a25_ j a b)) (vl:=(l25 j a b)) (arr':=(l25 j a b)) Z sz25 Z Z (onesOf (Oc Z (Oc Z (Oc Z (Oc Z (Oc Z (Oc Z (Oc Z (Oc Z (Oc Z (Oc Z (Oc Z (Oc (Ow e) (Oc Z (Oc Z (Oc (Ow f) Oz)))))))))))))))) Z Z (by kernel_rfl)) Z ?_
 rintro _ _ _ - ⟨rfl,rfl⟩
 refine qa (GV s) (Ns (qM (Iv a0) (hρ 0) (qM t (hρ 1) ?_)))
 have z:=z.mono q
 refine qu (.agg #[(Iv a0),t]) (Bl (cl:=[(Iv a0),t]) ze29 fp29 (Pc (Iv a0) Z Z (Parts.cons ((congrArg Value.cells (show ev _ _=t from Z)).trans z.cells) Pz)) Z) ?_
 obtain ⟨⟨k,l⟩,N,h⟩:=bnd h
 refine We (Ca co20 (f_ref07_Read_ok (⟨a0,a1⟩:T_api_Frame) _ _ z (k,l) N) (args1 Z)) Z ?_
 rintro _ U _ m ⟨_,⟨c,x,d,rfl,rfl,g,o⟩,rfl⟩
 refine WL.a1 (qm (.tuple #[(a25_ k c d),(a42_ l)]) (qu (a25_ k c d) (Xt Z Z) (qu (a42_ l) (Xt Z Z) (We (Al ze25 Z) Z ?_))))
 rintro _ _ _ - ⟨rfl,V,rfl,rfl⟩
 refine We (Al ze42 Z) Z ?_
 rintro _ _ _ - ⟨rfl,W,rfl,rfl⟩
 refine WL.f1 (We (Sg (v:=(a25_ k c d)) (vl:=(l25 k c d)) (arr':=(l25 k c d)) Z sz25 Z Z (onesOf (Oc Z (Oc Z (Oc Z (Oc Z (Oc Z (Oc Z (Oc Z (Oc Z (Oc Z (Oc Z (Oc Z (Oc (Ow g) (Oc Z (Oc Z (Oc (RS.one o) Oz)))))))))))))))) Z Z (by kernel_rfl)) Z ?_)
 rintro _ _ _ - ⟨rfl,rfl⟩
 refine WL.f1 (We (Sg (v:=(a42_ l)) (vl:=(l42 l)) (arr':=(l42 l)) Z sz42 Z Z (onb Z) Z Z Z) Z ?_)
 rintro _ _ _ - ⟨rfl,rfl⟩
 refine Nt ?_
 obtain ⟨B,O,h⟩:=bnd h
 refine Jf (fun(B:Bool) ρ' M' H'=>U.le M'∧[(W, .cells (l42 l).toArray 42 (0,0))]::[(V, .cells (l25 k c d).toArray 25 (0,0))]::[(T, .cells (l25 j a b).toArray 25 (0,0))]::x::u::w::F=H'∧ρ' 4=(Bv B)) B ?_ ?_
 have h:=O
 refine Cg (qu (a25_ j a b) (La (cs:=(l25 j a b)) 3 ag25 sz25 Z Z Z) (qu (a25_ k c d) (La (cs:=(l25 k c d)) 1 ag25 sz25 Z Z Z) ?_))
 obtain ⟨P,Q,h⟩:=bnd h
 refine Wb (WL.f5 (WL.f5 ?_))
 have e:=e.mono m
 have f:=f.mono m
 refine We (EO.call3 co12 (Tri.lend e.excl fun w0_ H0_ hs0_=>(Tri.lend f.excl fun w1_ H1_ hs1_=>(Tri.lend g.excl fun w2_ H2_ hs2_=>(f_ref07_Same_ok j k _ _ _ _ _ (((e.rs hs0_).mono (IM.le_add _ _)).mono (IM.le_add _ _)) (((f.mono (IM.le_add _ _)).rs hs1_).mono (IM.le_add _ _)) (((g.mono (IM.le_add _ _)).mono (IM.le_add _ _)).rs hs2_) (((o.mono (IM.le_add _ _)).mono (IM.le_add _ _)).mono (IM.le_add _ _)) P Q)))) (args2 Z Z)) Z ?_
 rintro _ _ _ n ⟨_,⟨a5,a6,X,rfl,rfl,⟨a7,a8,Y,rfl,rfl,⟨a9,b0,a4,rfl,rfl,⟨rfl,rfl⟩⟩⟩⟩,rfl⟩
 refine WL.a3 (qm (Bv P) ?_)
 rcases Bi h with⟨i,h⟩ |⟨i,h⟩
 refine On 30 Z Z i (qm (GV s) (qo 30 i (a42_ l) (La (cs:=(l42 l)) 3 ag42 sz42 Z Z Z) (On 30 Z Z i ?_)))
 obtain ⟨C,R,h⟩:=bnd h
 have hE:=hE.mono ((q.trans m).trans n)
 refine We (Ca co15 (f_law07_wrong_ok s l _ hE C R) (args2 Z Z)) Z ?_
 rintro _ b3 _ r ⟨_,⟨rfl,rfl⟩,rfl⟩
 refine WL.a0 (qu (Bv C) (Pt Z i Z) (qm (Bv C) ?_))
 rcases Bi h with⟨p,h⟩ |⟨p,h⟩
 refine On 35 Z Z p ?_
 obtain ⟨D,S,h⟩:=bnd h
 have hE:=hE.mono r
 refine We (Ca co9 (f_law07_works_ok _ hE D S) (args0)) Z ?_
 rintro _ b4 _ E ⟨_,⟨rfl,rfl⟩,rfl⟩
 refine WL.a0 (qu (Bv D) (Pt Z p Z) (qa (Bv D) (Wz (Qa (Qa (Qb (WQ.f5 (WQ.f5 (WQ.f5 ?_)))))))))
 obtain rfl:=oi h
 exact Tj ⟨((n.trans r).trans E),Z,Z⟩
 refine Of 35 Z Z p Z (qu (Bv false) (Pf Z p Z) (qa (Bv false) (Wz (Qa (Qa (Qb (WQ.f5 (WQ.f5 (WQ.f5 ?_)))))))))
 obtain rfl:=oi h
 exact Tj ⟨(n.trans r),Z,Z⟩
 iterate 3 refine Of 30 Z Z i Z ?_
 refine qu (Bv false) (Pf Z i Z) (qm (Bv false) (Of 35 Z Z Z Z (qu (Bv false) (Pf Z Z Z) (qa (Bv false) (Wz (Qa (Qa (Qb (WQ.f5 (WQ.f5 (WQ.f5 ?_)))))))))))
 obtain rfl:=oi h
 exact Tj ⟨n,Z,Z⟩
 rintro b5 b6 b7 ⟨G,rfl,y⟩
 exact Cr (Dr (Dr (Dr (Dr (Dr (Dr (Rf h [] Z (Rs Z y) ((q.trans m).trans G) ⟨Z,Z⟩)))))))

end Go.Proofs.YtkflneabcannnaaGreatDoor.G
