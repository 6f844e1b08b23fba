/- Go functions: what they come to, and that they do. Printed by a program of the session (gen). -/
import Derived.Test.YtpmofealbmapiaaDoorSF
import Derived.Test.YtpmofealbmapiaaDoorS0
import Derived.Test.YtpmofealbmapiaaDoorS2
import Derived.Test.YtpmofealbmapiaaDoorS3
import Derived.Test.YtpmofealbmapiaaDoorKShar2
import Derived.Test.YtpmofealbmapiaaDoorKConv
import Derived.Test.YtpmofealbmapiaaDoorKShar
import Derived.Test.YtpmofealbmapiaaDoorKArith
import Derived.Test.YtpmofealbmapiaaDoorKTight2
set_option linter.unusedVariables false
set_option linter.unusedSimpArgs false
set_option maxHeartbeats 8000000
set_option maxRecDepth 100000
namespace Go.Proofs.YtpmofealbmapiaaDoor.G
open Go Go.KK
open PO EO IntKind Sum Tryd

noncomputable def f_ref05_Same (a0:T_api_Record) (a1:T_api_Record):Option Bool:=
 (((if(decide (a0.Kind≠a1.Kind))=true then(some true)else(if(decide (a0.Broker≠a1.Broker))=true then(some true)else(if(decide (a0.Epoch≠a1.Epoch))=true then(some true)else(if(decide (a0.Topic≠a1.Topic))=true then(some true)else(if(decide (a0.Part≠a1.Part))=true then(some true)else(some (decide (a0.Leader≠a1.Leader)))))))):Option Bool).bind fun a=>(if a=true then(some false)else(((if(decide (a0.Client≠a1.Client))=true then(some true)else(if(decide (a0.Serial≠a1.Serial))=true then(some true)else(if(decide (a0.Code≠a1.Code))=true then(some true)else(some (!(a0.Flag==a1.Flag)))))):Option Bool).bind fun b=>(if b=true then(some false)else(((if(!decide (a0.Name=a1.Name))=true then(some true)else(if(!decide (a0.Key=a1.Key))=true then(some true)else(if(!decide (a0.Value=a1.Value))=true then(some true)else(some (!decide (a0.Rack=a1.Rack)))))):Option Bool).bind fun c=>(if c=true then(some false)else((((f_ref02_Ints a0.Ids a1.Ids).bind fun d=>(if d=true then((f_ref02_Ints a0.Isr a1.Isr).bind fun e=>(some e))else(some false))):Option Bool).bind fun f=>(((if f=true then((f_ref02_Ints a0.Add a1.Add).bind fun g=>(if g=true then((f_ref02_Ints a0.Drop a1.Drop).bind fun i=>(some i))else(some false)))else(some false)):Option Bool).bind fun j=>(some j)))))))))
def f_ref05_Same_post (a0:T_api_Record) (a1:T_api_Record) (a b c d e f g i:Value):Bool→Value→IM→HL→Prop:=
 fun(j:Bool) (v:Value) (l:IM) (k:HL)=>(.bool j)=v∧k=[]
theorem f_ref05_Same_ok (a0:T_api_Record) (a1:T_api_Record) (M:IM) (c d e f g i j k:Value) (K:RS (Kd.int .i64) M c a0.Ids) (L:RS (Kd.int .i64) M d a0.Isr) (N:RS (Kd.int .i64) M e a0.Add) (O:RS (Kd.int .i64) M f a0.Drop) (P:RS (Kd.int .i64) M g a1.Ids) (Q:RS (Kd.int .i64) M i a1.Isr) (R:RS (Kd.int .i64) M j a1.Add) (S:RS (Kd.int .i64) M k a1.Drop) (c2:Bool) (h:f_ref05_Same a0 a1=some c2):
 Tri prog 30 #[(a36_ a0 c d e f),(a36_ a1 g i j k)] M [] (f_ref05_Same_post a0 a1 c d e f g i j k c2):=by
 unfold f_ref05_Same at h
 refine Te func30 Z Z ?_
 intro F ρ e1
 refine Sr (We (box (cs:=(l36 a0 c d e f).toArray) (congrArg Value.cells (asE (a36_ a0 c d e f) (e1 0)))) Z ?_)
 rintro _ _ _ - ⟨rfl,a,rfl,rfl⟩
 refine We (box (cs:=(l36 a1 g i j k).toArray) (congrArg Value.cells (asE (a36_ a1 g i j k) (e1 1)))) Z ?_
 rintro _ _ _ - ⟨rfl,b,rfl,rfl⟩
 refine qa (Bv false) (Nt (Cs ?_))
 obtain ⟨a9,c3,h⟩:=bnd h
 refine Jf (fun(a9:Bool) J M' H'=>M.le M'∧[(b, .cells (l36 a1 g i j k).toArray 36 (0,0))]::[(a, .cells (l36 a0 c d e f).toArray 36 (0,0))]::F=H'∧J 2=(pt a 0)∧J 3=(pt b 0)∧J 45=(Bv a9)) a9 ?_ ?_
 have h:=c3
 refine Cg (qu (pt a 0) (Fa fo36_0 Z Z) (qu (Iv a0.Kind) (Lb 1 pl3 Z Z Z) (qu (pt b 0) (Fa fo36_0 Z Z) (qu (Iv a1.Kind) (Lb 0 pl3 Z Z Z) (qu (Bv (decide (a0.Kind≠a1.Kind))) (neq Z Z) (qm (Bv (decide (a0.Kind≠a1.Kind))) ?_))))))
 rcases Bi h with⟨p,h⟩ |⟨p,h⟩
 iterate 5 refine Of 11 Z Z p Z ?_
 refine qu (Bv true) (Pt Z p Z) (qm (Bv true) ?_)
 iterate 5 refine Of 18 Z Z Z Z ?_
 refine qu (Bv true) (Pt Z Z Z) (qm (Bv true) ?_)
 iterate 5 refine Of 25 Z Z Z Z ?_
 refine qu (Bv true) (Pt Z Z Z) (qm (Bv true) ?_)
 iterate 5 refine Of 32 Z Z Z Z ?_
 refine qu (Bv true) (Pt Z Z Z) (qm (Bv true) ?_)
 iterate 5 refine Of 39 Z Z Z Z ?_
 refine qu (Bv true) (Pt Z Z Z) (Wz ?_)
 obtain rfl:=oi h
 exact Tj ⟨lr,Z,Z,Z,Z⟩
 refine qo 11 p (pt a 1) (Fa fo36_1 Z Z) (qo 11 p (Iv a0.Broker) (Lb 1 pl3 Z Z Z) (qo 11 p (pt b 1) (Fa fo36_1 Z Z) (qo 11 p (Iv a1.Broker) (Lb 0 pl3 Z Z Z) (qo 11 p (Bv (decide (a0.Broker≠a1.Broker))) (neq Z Z) (qu (Bv (decide (a0.Broker≠a1.Broker))) (Pf Z p Z) (qm (Bv (decide (a0.Broker≠a1.Broker))) ?_))))))
 rcases Bi h with⟨q,h⟩ |⟨q,h⟩
 iterate 5 refine Of 18 Z Z q Z ?_
 refine qu (Bv true) (Pt Z q Z) (qm (Bv true) ?_)
 iterate 5 refine Of 25 Z Z Z Z ?_
 refine qu (Bv true) (Pt Z Z Z) (qm (Bv true) ?_)
 iterate 5 refine Of 32 Z Z Z Z ?_
 refine qu (Bv true) (Pt Z Z Z) (qm (Bv true) ?_)
 iterate 5 refine Of 39 Z Z Z Z ?_
 refine qu (Bv true) (Pt Z Z Z) (Wz ?_)
 obtain rfl:=oi h
 exact Tj ⟨lr,Z,Z,Z,Z⟩
 refine qo 18 q (pt a 2) (Fa fo36_2 Z Z) (qo 18 q (Iv a0.Epoch) (Lb 1 pl3 Z Z Z) (qo 18 q (pt b 2) (Fa fo36_2 Z Z) (qo 18 q (Iv a1.Epoch) (Lb 0 pl3 Z Z Z) (qo 18 q (Bv (decide (a0.Epoch≠a1.Epoch))) (neq Z Z) (qu (Bv (decide (a0.Epoch≠a1.Epoch))) (Pf Z q Z) (qm (Bv (decide (a0.Epoch≠a1.Epoch))) ?_))))))
 rcases Bi h with⟨r,h⟩ |⟨r,h⟩
 iterate 5 refine Of 25 Z Z r Z ?_
 refine qu (Bv true) (Pt Z r Z) (qm (Bv true) ?_)
 iterate 5 refine Of 32 Z Z Z Z ?_
 refine qu (Bv true) (Pt Z Z Z) (qm (Bv true) ?_)
 iterate 5 refine Of 39 Z Z Z Z ?_
 refine qu (Bv true) (Pt Z Z Z) (Wz ?_)
 obtain rfl:=oi h
 exact Tj ⟨lr,Z,Z,Z,Z⟩
 refine qo 25 r (pt a 3) (Fa fo36_3 Z Z) (qo 25 r (Iv a0.Topic) (Lb 1 pl3 Z Z Z) (qo 25 r (pt b 3) (Fa fo36_3 Z Z) (qo 25 r (Iv a1.Topic) (Lb 0 pl3 Z Z Z) (qo 25 r (Bv (decide (a0.Topic≠a1.Topic))) (neq Z Z) (qu (Bv (decide (a0.Topic≠a1.Topic))) (Pf Z r Z) (qm (Bv (decide (a0.Topic≠a1.Topic))) ?_))))))
 rcases Bi h with⟨s,h⟩ |⟨s,h⟩
 iterate 5 refine Of 32 Z Z s Z ?_
 refine qu (Bv true) (Pt Z s Z) (qm (Bv true) ?_)
 iterate 5 refine Of 39 Z Z Z Z ?_
 refine qu (Bv true) (Pt Z Z Z) (Wz ?_)
 obtain rfl:=oi h
 exact Tj ⟨lr,Z,Z,Z,Z⟩
 refine qo 32 s (pt a 4) (Fa fo36_4 Z Z) (qo 32 s (Iv a0.Part) (Lb 1 pl3 Z Z Z) (qo 32 s (pt b 4) (Fa fo36_4 Z Z) (qo 32 s (Iv a1.Part) (Lb 0 pl3 Z Z Z) (qo 32 s (Bv (decide (a0.Part≠a1.Part))) (neq Z Z) (qu (Bv (decide (a0.Part≠a1.Part))) (Pf Z s Z) (qm (Bv (decide (a0.Part≠a1.Part))) ?_))))))
 rcases Bi h with⟨t,h⟩ |⟨t,h⟩
 iterate 5 refine Of 39 Z Z t Z ?_
 refine qu (Bv true) (Pt Z t Z) (Wz ?_)
 obtain rfl:=oi h
 exact Tj ⟨lr,Z,Z,Z,Z⟩
 refine qo 39 t (pt a 5) (Fa fo36_5 Z Z) (qo 39 t (Iv a0.Leader) (Lb 1 pl3 Z Z Z) (qo 39 t (pt b 5) (Fa fo36_5 Z Z) (qo 39 t (Iv a1.Leader) (Lb 0 pl3 Z Z Z) (qo 39 t (Bv (decide (a0.Leader≠a1.Leader))) (neq Z Z) (qu (Bv (decide (a0.Leader≠a1.Leader))) (Pf Z t Z) (Wz ?_))))))
 obtain rfl:=oi h
 exact Tj ⟨lr,Z,Z,Z,Z⟩
 rintro e2 d7 e3 ⟨W,rfl,l,m,X⟩
 refine Ch h X (fun c4 h=> ?_) (fun c4 h=> ?_)
 exact Sr (qa (Bv false) (Nt (Cr (Tr (Dr (Dr (Rf h [] Z (Rs Z Z) W ⟨Z,Z⟩)))))))
 refine Ck (Tc (Cs ?_))
 obtain ⟨b0,c5,h⟩:=bnd h
 refine Jf (fun(b0:Bool) J M' H'=>d7.le M'∧[(b, .cells (l36 a1 g i j k).toArray 36 (0,0))]::[(a, .cells (l36 a0 c d e f).toArray 36 (0,0))]::F=H'∧J 2=(pt a 0)∧J 3=(pt b 0)∧J 71=(Bv b0)) b0 ?_ ?_
 have h:=c5
 refine Cg (qu (pt a 6) (Fa fo36_6 l Z) (qu (Iv a0.Client) (Lb 1 pl3 Z Z Z) (qu (pt b 6) (Fa fo36_6 m Z) (qu (Iv a1.Client) (Lb 0 pl3 Z Z Z) (qu (Bv (decide (a0.Client≠a1.Client))) (neq Z Z) (qm (Bv (decide (a0.Client≠a1.Client))) ?_))))))
 rcases Bi h with⟨u,h⟩ |⟨u,h⟩
 iterate 5 refine Of 51 Z Z u Z ?_
 refine qu (Bv true) (Pt Z u Z) (qm (Bv true) ?_)
 iterate 5 refine Of 58 Z Z Z Z ?_
 refine qu (Bv true) (Pt Z Z Z) (qm (Bv true) ?_)
 iterate 5 refine Of 65 Z Z Z Z ?_
 refine qu (Bv true) (Pt Z Z Z) (Wz ?_)
 obtain rfl:=oi h
 exact Tj ⟨lr,Z,l,m,Z⟩
 refine qo 51 u (pt a 7) (Fa fo36_7 l Z) (qo 51 u (Iv a0.Serial) (Lb 1 pl3 Z Z Z) (qo 51 u (pt b 7) (Fa fo36_7 m Z) (qo 51 u (Iv a1.Serial) (Lb 0 pl3 Z Z Z) (qo 51 u (Bv (decide (a0.Serial≠a1.Serial))) (neq Z Z) (qu (Bv (decide (a0.Serial≠a1.Serial))) (Pf Z u Z) (qm (Bv (decide (a0.Serial≠a1.Serial))) ?_))))))
 rcases Bi h with⟨v,h⟩ |⟨v,h⟩
 iterate 5 refine Of 58 Z Z v Z ?_
 refine qu (Bv true) (Pt Z v Z) (qm (Bv true) ?_)
 iterate 5 refine Of 65 Z Z Z Z ?_
 refine qu (Bv true) (Pt Z Z Z) (Wz ?_)
 obtain rfl:=oi h
 exact Tj ⟨lr,Z,l,m,Z⟩
 refine qo 58 v (pt a 8) (Fa fo36_8 l Z) (qo 58 v (Iv a0.Code) (Lb 1 pl3 Z Z Z) (qo 58 v (pt b 8) (Fa fo36_8 m Z) (qo 58 v (Iv a1.Code) (Lb 0 pl3 Z Z Z) (qo 58 v (Bv (decide (a0.Code≠a1.Code))) (neq Z Z) (qu (Bv (decide (a0.Code≠a1.Code))) (Pf Z v Z) (qm (Bv (decide (a0.Code≠a1.Code))) ?_))))))
 rcases Bi h with⟨w,h⟩ |⟨w,h⟩
 iterate 5 refine Of 65 Z Z w Z ?_
 refine qu (Bv true) (Pt Z w Z) (Wz ?_)
 obtain rfl:=oi h
 exact Tj ⟨lr,Z,l,m,Z⟩
 refine qo 65 w (pt a 9) (Fa fo36_9 l Z) (qo 65 w (Bv a0.Flag) (Lb 1 pl4 Z Z Z) (qo 65 w (pt b 9) (Fa fo36_9 m Z) (qo 65 w (Bv a1.Flag) (Lb 0 pl4 Z Z Z) (qo 65 w (Bv (!(a0.Flag==a1.Flag))) (bneq underlying4 Z Z) (qu (Bv (!(a0.Flag==a1.Flag))) (Pf Z w Z) (Wz ?_))))))
 obtain rfl:=oi h
 exact Tj ⟨lr,Z,l,m,Z⟩
 rintro e4 d8 e5 ⟨b1,rfl,n,o,Y⟩
 have c6:=W.trans b1
 refine Ch h Y (fun c7 h=> ?_) (fun c7 h=> ?_)
 exact Sr (qa (Bv false) (Nt (Cr (Tr (Dr (Dr (Rf h [] Z (Rs Z Z) c6 ⟨Z,Z⟩)))))))
 refine Ck (Tc (Cs ?_))
 obtain ⟨b2,c8,h⟩:=bnd h
 refine Jf (fun(b2:Bool) J M' H'=>d8.le M'∧[(b, .cells (l36 a1 g i j k).toArray 36 (0,0))]::[(a, .cells (l36 a0 c d e f).toArray 36 (0,0))]::F=H'∧J 2=(pt a 0)∧J 3=(pt b 0)∧J 97=(Bv b2)) b2 ?_ ?_
 have h:=c8
 refine Cg (qu (pt a 10) (Fa fo36_10 n Z) (qu (Sv a0.Name) (Lb 1 pl9 Z Z Z) (qu (pt b 10) (Fa fo36_10 o Z) (qu (Sv a1.Name) (Lb 0 pl9 Z Z Z) (qu (Bv (!decide (a0.Name=a1.Name))) (sneq Z Z) (qm (Bv (!decide (a0.Name=a1.Name))) ?_))))))
 rcases Bi h with⟨x,h⟩ |⟨x,h⟩
 iterate 5 refine Of 77 Z Z x Z ?_
 refine qu (Bv true) (Pt Z x Z) (qm (Bv true) ?_)
 iterate 5 refine Of 84 Z Z Z Z ?_
 refine qu (Bv true) (Pt Z Z Z) (qm (Bv true) ?_)
 iterate 5 refine Of 91 Z Z Z Z ?_
 refine qu (Bv true) (Pt Z Z Z) (Wz ?_)
 obtain rfl:=oi h
 exact Tj ⟨lr,Z,n,o,Z⟩
 refine qo 77 x (pt a 11) (Fa fo36_11 n Z) (qo 77 x (Sv a0.Key) (Lb 1 pl9 Z Z Z) (qo 77 x (pt b 11) (Fa fo36_11 o Z) (qo 77 x (Sv a1.Key) (Lb 0 pl9 Z Z Z) (qo 77 x (Bv (!decide (a0.Key=a1.Key))) (sneq Z Z) (qu (Bv (!decide (a0.Key=a1.Key))) (Pf Z x Z) (qm (Bv (!decide (a0.Key=a1.Key))) ?_))))))
 rcases Bi h with⟨y,h⟩ |⟨y,h⟩
 iterate 5 refine Of 84 Z Z y Z ?_
 refine qu (Bv true) (Pt Z y Z) (qm (Bv true) ?_)
 iterate 5 refine Of 91 Z Z Z Z ?_
 refine qu (Bv true) (Pt Z Z Z) (Wz ?_)
 obtain rfl:=oi h
 exact Tj ⟨lr,Z,n,o,Z⟩
 refine qo 84 y (pt a 12) (Fa fo36_12 n Z) (qo 84 y (Sv a0.Value) (Lb 1 pl9 Z Z Z) (qo 84 y (pt b 12) (Fa fo36_12 o Z) (qo 84 y (Sv a1.Value) (Lb 0 pl9 Z Z Z) (qo 84 y (Bv (!decide (a0.Value=a1.Value))) (sneq Z Z) (qu (Bv (!decide (a0.Value=a1.Value))) (Pf Z y Z) (qm (Bv (!decide (a0.Value=a1.Value))) ?_))))))
 rcases Bi h with⟨z,h⟩ |⟨z,h⟩
 iterate 5 refine Of 91 Z Z z Z ?_
 refine qu (Bv true) (Pt Z z Z) (Wz ?_)
 obtain rfl:=oi h
 exact Tj ⟨lr,Z,n,o,Z⟩
 refine qo 91 z (pt a 13) (Fa fo36_13 n Z) (qo 91 z (Sv a0.Rack) (Lb 1 pl9 Z Z Z) (qo 91 z (pt b 13) (Fa fo36_13 o Z) (qo 91 z (Sv a1.Rack) (Lb 0 pl9 Z Z Z) (qo 91 z (Bv (!decide (a0.Rack=a1.Rack))) (sneq Z Z) (qu (Bv (!decide (a0.Rack=a1.Rack))) (Pf Z z Z) (Wz ?_))))))
 obtain rfl:=oi h
 exact Tj ⟨lr,Z,n,o,Z⟩
 rintro e6 d9 e7 ⟨b3,rfl,D,E,a2⟩
 have V:=c6.trans b3
 refine Ch h a2 (fun c9 h=> ?_) (fun c9 h=> ?_)
 exact Sr (qa (Bv false) (Nt (Cr (Tr (Dr (Dr (Rf h [] Z (Rs Z Z) V ⟨Z,Z⟩)))))))
 refine Ck (Tc ?_)
 obtain ⟨a3,d0,h⟩:=bnd h
 refine Jf (fun(a3:Bool) J M' H'=>d9.le M'∧[(b, .cells (l36 a1 g i j k).toArray 36 (0,0))]::[(a, .cells (l36 a0 c d e f).toArray 36 (0,0))]::F=H'∧J 2=(pt a 0)∧J 3=(pt b 0)∧J 5=(Bv a3)) a3 ?_ ?_
 have h:=d0
 refine Cg (qu (pt a 14) (Fa fo36_14 D Z) (qu c (Lb 1 pl34 Z Z Z) (qu (pt b 14) (Fa fo36_14 E Z) (qu g (Lb 0 pl34 Z Z Z) ?_))))
 obtain ⟨d1,d2,h⟩:=bnd h
 have K:=K.mono V
 have P:=P.mono V
 refine We (Ca co57 (f_ref02_Ints_ok a0.Ids a1.Ids _ _ _ K P d1 d2) (args2 Z Z)) Z ?_
 rintro _ e8 _ G ⟨_,⟨rfl,rfl⟩,rfl⟩
 refine WL.a0 (qm (Bv d1) ?_)
 rcases Bi h with⟨A,h⟩ |⟨A,h⟩
 refine qo 103 A (pt a 15) (Fa fo36_15 D Z) (qo 103 A d (Lb 1 pl34 Z Z Z) (qo 103 A (pt b 15) (Fa fo36_15 E Z) (qo 103 A i (Lb 0 pl34 Z Z Z) (On 103 Z Z A ?_))))
 obtain ⟨b4,d3,h⟩:=bnd h
 have L:=L.mono (V.trans G)
 have Q:=Q.mono (V.trans G)
 refine We (Ca co57 (f_ref02_Ints_ok a0.Isr a1.Isr _ _ _ L Q b4 d3) (args2 Z Z)) Z ?_
 rintro _ e9 _ b5 ⟨_,⟨rfl,rfl⟩,rfl⟩
 refine WL.a0 (qu (Bv b4) (Pt Z A Z) (qa (Bv b4) (Wz ?_)))
 obtain rfl:=oi h
 exact Tj ⟨(G.trans b5),Z,D,E,Z⟩
 iterate 5 refine Of 103 Z Z A Z ?_
 refine qu (Bv false) (Pf Z A Z) (qa (Bv false) (Wz ?_))
 obtain rfl:=oi h
 exact Tj ⟨G,Z,D,E,Z⟩
 rintro f0 e0 f1 ⟨b6,rfl,T,U,a7⟩
 have a4:=V.trans b6
 obtain ⟨b7,d4,h⟩:=bnd h
 refine Jf (fun(b7:Bool) J M' H'=>e0.le M'∧[(b, .cells (l36 a1 g i j k).toArray 36 (0,0))]::[(a, .cells (l36 a0 c d e f).toArray 36 (0,0))]::F=H'∧J 4=(Bv b7)) b7 ?_ ?_
 have h:=d4
 refine Cg (qM (Bv a3) a7 (qm (Bv a3) ?_))
 rcases Bi h with⟨B,h⟩ |⟨B,h⟩
 refine qo 111 B (pt a 16) (Fa fo36_16 T Z) (qo 111 B e (Lb 1 pl34 Z Z Z) (qo 111 B (pt b 16) (Fa fo36_16 U Z) (qo 111 B j (Lb 0 pl34 Z Z Z) (On 111 Z Z B ?_))))
 obtain ⟨b8,d5,h⟩:=bnd h
 have N:=N.mono a4
 have R:=R.mono a4
 refine We (Ca co57 (f_ref02_Ints_ok a0.Add a1.Add _ _ _ N R b8 d5) (args2 Z Z)) Z ?_
 rintro _ f2 _ I ⟨_,⟨rfl,rfl⟩,rfl⟩
 refine WL.a0 (qu (Bv b8) (Pt Z B Z) (qm (Bv b8) ?_))
 rcases Bi h with⟨C,h⟩ |⟨C,h⟩
 refine qo 118 C (pt a 17) (Fa fo36_17 T Z) (qo 118 C f (Lb 1 pl34 Z Z Z) (qo 118 C (pt b 17) (Fa fo36_17 U Z) (qo 118 C k (Lb 0 pl34 Z Z Z) (On 118 Z Z C ?_))))
 obtain ⟨b9,d6,h⟩:=bnd h
 have O:=O.mono (a4.trans I)
 have S:=S.mono (a4.trans I)
 refine We (Ca co57 (f_ref02_Ints_ok a0.Drop a1.Drop _ _ _ O S b9 d6) (args2 Z Z)) Z ?_
 rintro _ f3 _ c0 ⟨_,⟨rfl,rfl⟩,rfl⟩
 refine WL.a0 (qu (Bv b9) (Pt Z C Z) (qa (Bv b9) (Wz ?_)))
 obtain rfl:=oi h
 exact Tj ⟨(I.trans c0),Z,Z⟩
 iterate 5 refine Of 118 Z Z C Z ?_
 refine qu (Bv false) (Pf Z C Z) (qa (Bv false) (Wz ?_))
 obtain rfl:=oi h
 exact Tj ⟨I,Z,Z⟩
 iterate 5 refine Of 111 Z Z B Z ?_
 refine qu (Bv false) (Pf Z B Z) (qm (Bv false) ?_)
 iterate 5 refine Of 118 Z Z Z Z ?_
 refine qu (Bv false) (Pf Z Z Z) (qa (Bv false) (Wz ?_))
 obtain rfl:=oi h
 exact Tj ⟨lr,Z,Z⟩
 rintro f4 f5 f6 ⟨c1,rfl,a8⟩
 exact Cr (Dr (Dr (Rf h [] Z (Rs Z a8) (a4.trans c1) ⟨Z,Z⟩)))
noncomputable def f_ref06_Same_l0 (a0:T_api_Batch) (a1:T_api_Batch) (c:Int):Option (Int⊕(Unit⊕Unit)):=
 match c with
 |a=>
 (if(decide (a<(a0.Records.length:Int)))=true then(grd (0≤a∧a<a0.Records.length) (grd (0≤a∧a<a1.Records.length) ((f_ref05_Same (rd a0.Records a) (rd a1.Records a)).bind fun b=>(if(!b)=true then(some (inr (inr ())))else(some (inl (i64.wrap (a+(1:Int)))))))))else(some (inr (inl ()))))
noncomputable def f_ref06_Same (a0:T_api_Batch) (a1:T_api_Batch):Option Bool:=
 (((if(decide (a0.Term≠a1.Term))=true then(some true)else(if(decide (a0.Base≠a1.Base))=true then(some true)else(some (decide ((a0.Records.length:Int)≠(a1.Records.length:Int)))))):Option Bool).bind fun a=>(if a=true then(some false)else((((iter (f_ref06_Same_l0 a0 a1) (0:Int)).bind (Sum.elim (fun _=>(some (inl ()))) (fun _=>(((some false)).bind fun r=>some (inr r))))):Option (Unit⊕Bool)).bind (Sum.elim (fun _=>(some true)) some))))
def f_ref06_Same_post (a0:T_api_Batch) (a1:T_api_Batch) (a b:Value):Bool→Value→IM→HL→Prop:=
 fun(c:Bool) (v:Value) (e:IM) (d:HL)=>(.bool c)=v∧d=[]
theorem f_ref06_Same_ok (a0:T_api_Batch) (a1:T_api_Batch) (M:IM) (a d:Value) (m:RS kd_api_Record M a a0.Records) (x:RS kd_api_Record M d a1.Records) (Y:Bool) (h:f_ref06_Same a0 a1=some Y):
 Tri prog 17 #[(a31_ a0 a),(a31_ a1 d)] M [] (f_ref06_Same_post a0 a1 a d Y):=by
 unfold f_ref06_Same at h
 refine Te func17 Z Z ?_
 intro F ρ b7
 refine Sr (We (box (cs:=(l31 a0 a).toArray) (congrArg Value.cells (asE (a31_ a0 a) (b7 0)))) Z ?_)
 rintro _ _ _ - ⟨rfl,j,rfl,rfl⟩
 refine We (box (cs:=(l31 a1 d).toArray) (congrArg Value.cells (asE (a31_ a1 d) (b7 1)))) Z ?_
 rintro _ _ _ - ⟨rfl,k,rfl,rfl⟩
 refine qa (Bv false) (Nt (Cs ?_))
 obtain ⟨S,a2,h⟩:=bnd h
 refine Jf (fun(S:Bool) Q M' H'=>M.le M'∧[(k, .cells (l31 a1 d).toArray 31 (0,0))]::[(j, .cells (l31 a0 a).toArray 31 (0,0))]::F=H'∧Q 2=(pt j 0)∧Q 3=(pt k 0)∧Q 26=(Bv S)) S ?_ ?_
 have h:=a2
 refine Cg (qu (pt j 0) (Fa fo31_0 Z Z) (qu (Iv a0.Term) (Lb 1 pl3 Z Z Z) (qu (pt k 0) (Fa fo31_0 Z Z) (qu (Iv a1.Term) (Lb 0 pl3 Z Z Z) (qu (Bv (decide (a0.Term≠a1.Term))) (neq Z Z) (qm (Bv (decide (a0.Term≠a1.Term))) ?_))))))
 rcases Bi h with⟨e,h⟩ |⟨e,h⟩
 iterate 5 refine Of 11 Z Z e Z ?_
 refine qu (Bv true) (Pt Z e Z) (qm (Bv true) ?_)
 iterate 7 refine Of 18 Z Z Z Z ?_
 refine qu (Bv true) (Pt Z Z Z) (Wz ?_)
 obtain rfl:=oi h
 exact Tj ⟨lr,Z,Z,Z,Z⟩
 refine qo 11 e (pt j 1) (Fa fo31_1 Z Z) (qo 11 e (Iv a0.Base) (Lb 1 pl3 Z Z Z) (qo 11 e (pt k 1) (Fa fo31_1 Z Z) (qo 11 e (Iv a1.Base) (Lb 0 pl3 Z Z Z) (qo 11 e (Bv (decide (a0.Base≠a1.Base))) (neq Z Z) (qu (Bv (decide (a0.Base≠a1.Base))) (Pf Z e Z) (qm (Bv (decide (a0.Base≠a1.Base))) ?_))))))
 rcases Bi h with⟨b,h⟩ |⟨b,h⟩
 iterate 7 refine Of 18 Z Z b Z ?_
 refine qu (Bv true) (Pt Z b Z) (Wz ?_)
 obtain rfl:=oi h
 exact Tj ⟨lr,Z,Z,Z,Z⟩
 refine qo 18 b (pt j 2) (Fa fo31_2 Z Z) (qo 18 b a (Lb 1 pl23 Z Z Z) (qo 18 b (Iv (a0.Records.length:Int)) (lenS underlying23 Z m.len) (qo 18 b (pt k 2) (Fa fo31_2 Z Z) (qo 18 b d (Lb 0 pl23 Z Z Z) (qo 18 b (Iv (a1.Records.length:Int)) (lenS underlying23 Z x.len) (qo 18 b (Bv (decide ((a0.Records.length:Int)≠(a1.Records.length:Int)))) (neq Z Z) (qu (Bv (decide ((a0.Records.length:Int)≠(a1.Records.length:Int)))) (Pf Z b Z) (Wz ?_))))))))
 obtain rfl:=oi h
 exact Tj ⟨lr,Z,Z,Z,Z⟩
 rintro c0 a5 c1 ⟨g,rfl,O,P,B⟩
 refine Ch h B (fun a6 h=> ?_) (fun a6 h=> ?_)
 exact Sr (qa (Bv false) (Nt (Cr (Tr (Dr (Dr (Rf h [] Z (Rs Z Z) g ⟨Z,Z⟩)))))))
 refine Ck (Tc ?_)
 obtain ⟨b4,a7,h⟩:=bnd h
 refine WC.joinE (fun(_:Unit) Q M' H'=>a5.le M'∧[(k, .cells (l31 a1 d).toArray 31 (0,0))]::[(j, .cells (l31 a0 a).toArray 31 (0,0))]::F=H') b4 ?_ ?_
 have a8:=h
 have h:=a7
 refine Sr (qa (Iv 0) (Nt (Bk ?_)))
 obtain ⟨c2,a9,R⟩:=bnd h
 clear h
 refine WC.loop a9 (fun(c:Int) Q M' H'=>a5.le M'∧[(k, .cells (l31 a1 d).toArray 31 (0,0))]::[(j, .cells (l31 a0 a).toArray 31 (0,0))]::F=H'∧Q 2=(pt j 0)∧Q 3=(pt k 0)∧Q 5=(Iv c)) ?_ ?_
 exact⟨lr,Z,O,P,Z⟩
 rintro c c3 c4 c5 c6 h ⟨i,rfl,l,y,f⟩
 unfold f_ref06_Same_l0 at h
 refine Cs (Sr (qM (Iv c) f (qu (pt j 2) (Fa fo31_2 l Z) (qu a (Lb 1 pl23 Z Z Z) ?_))))
 have m:=m.mono (g.trans i)
 refine qu (Iv (a0.Records.length:Int)) (lenS underlying23 Z m.len) (qu (Bv (decide (c<(a0.Records.length:Int)))) (lss Z Z) (Nt (Ch h Z (fun b0 h=> ?_) (fun b0 h=> ?_))))
 refine Ck (Tc (Cs (Bk (Cs (WC.draw [0,1,0,7,15,0,32,0,224,480,1023,2047] (.pure 0 (.pure 1 (.pure 2 (.pure 3 (.pure 4 (.pure 5 (.pure 6 (.pure 7 (.pure 8 (.pure 9 (.alt 10 (.pure 11 .done) .none))))))))))) mixed (by kernel_rfl) (qt (pt j 2) Z (Fa fo31_2 l Z) (qt a Z (Lb 1 pl23 Z Z Z) (qt (Iv c) Z (Mv f) ?_))))))))
 obtain ⟨z,h⟩:=grd_i h
 obtain ⟨b5,b8,T,U,hhas37⟩:=m.at z.1 z.2 (by decide)
 obtain ⟨o,p,q,r,rfl,C,D,E,G⟩:=kd_api_Record_open U
 refine qt (.pointer (some b5)) Z (indexAddr (n:=a0.Records.length) underlying23 sz36 Z Z z.1 z.2 T) (qt (a36_ (rd a0.Records c) o p q r) Z (loadMA (cs:=(l36 (rd a0.Records c) o p q r)) ag36 sz36 Z hhas37) (qt (pt k 2) Z (Fa fo31_2 y Z) (qt d Z (Lb 0 pl23 Z Z Z) (qt (Iv c) Z (Mv f) ?_))))
 obtain ⟨A,h⟩:=grd_i h
 have x:=x.mono (g.trans i)
 obtain ⟨b6,b9,V,W,hhas44⟩:=x.at A.1 A.2 (by decide)
 obtain ⟨s,t,u,v,rfl,I,J,K,L⟩:=kd_api_Record_open W
 refine qt (.pointer (some b6)) Z (indexAddr (n:=a1.Records.length) underlying23 sz36 Z Z A.1 A.2 V) (qt (a36_ (rd a1.Records c) s t u v) Z (loadMA (cs:=(l36 (rd a1.Records c) s t u v)) ag36 sz36 Z hhas44) ?_)
 obtain ⟨b1,b2,h⟩:=bnd h
 refine Ta Z (Ca co30 (f_ref05_Same_ok (rd a0.Records c) (rd a1.Records c) _ _ _ _ _ _ _ _ _ C D E G I J K L b1 b2) (args2 Z Z)) Z ?_ ?_
 rintro _ c7 _ N ⟨_,⟨rfl,rfl⟩,rfl⟩
 refine⟨(Sl Z), ?_⟩
 refine WT.a0 (qt (Bv (!b1)) Z (PO.not Z) (Ti (Tc (Ch h Z (fun b3 h=> ?_) (fun b3 h=> ?_)))))
 refine Sr (qa (Bv false) (Nt (Cr (Br (Tr (WQ.leaveR (inr ()) (oi h).symm (fun w=> ?_)))))))
 subst w
 have h:=(elimR R)
 refine Br (Tr ?_)
 have h:=KK.early h a8
 exact Dr (Dr (Rf h [] Z (Rs Z Z) ((g.trans i).trans N) ⟨Z,Z⟩))
 exact Ck (Bn (Tc (Cg (qM (Iv c) f (qu (Iv (i64.wrap (c+1))) (add Z Z) (qa (Iv (i64.wrap (c+1))) (Wz (WQ.again (i64.wrap (c+1)) (oi h).symm ⟨(i.trans N),Z,l,y,Z⟩))))))))
 exact Tz
 refine WC.exit (WQ.thenE (WQ.leaveE (inl ()) (oi h).symm (fun w=> ?_)))
 subst w
 have h:=elimL R
 exact WQ.blockH (WQ.thenFE h ⟨i,Z⟩)
 rintro _ c8 c9 d0 rfl ⟨X,rfl⟩
 have h:=(Sum.elim_inl _ _ _).symm.trans h
 exact Sr (qa (Bv true) (Nt (Cr (Dr (Dr (Rf h [] Z (Rs Z Z) (g.trans X) ⟨Z,Z⟩))))))
noncomputable def f_ref06_All_l0 (a0:(List T_api_Batch)) (a1:(List T_api_Batch)) (c:Int):Option (Int⊕(Unit⊕Unit)):=
 match c with
 |a=>
 (if(decide (a<(a0.length:Int)))=true then(grd (0≤a∧a<a0.length) (grd (0≤a∧a<a1.length) ((f_ref06_Same (rd a0 a) (rd a1 a)).bind fun b=>(if(!b)=true then(some (inr (inr ())))else(some (inl (i64.wrap (a+(1:Int)))))))))else(some (inr (inl ()))))
noncomputable def f_ref06_All (a0:(List T_api_Batch)) (a1:(List T_api_Batch)):Option Bool:=
 (if(decide ((a0.length:Int)≠(a1.length:Int)))=true then(some false)else((((iter (f_ref06_All_l0 a0 a1) (0:Int)).bind (Sum.elim (fun _=>(some (inl ()))) (fun _=>(((some false)).bind fun r=>some (inr r))))):Option (Unit⊕Bool)).bind (Sum.elim (fun _=>(some true)) some)))
def f_ref06_All_post (a0:(List T_api_Batch)) (a1:(List T_api_Batch)) (c d:Value):Bool→Value→IM→HL→Prop:=
 fun(a:Bool) (v:Value) (e:IM) (b:HL)=>(.bool a)=v∧b=[]
theorem f_ref06_All_ok (a0:(List T_api_Batch)) (a1:(List T_api_Batch)) (M:IM) (q w:Value) (x:RS kd_api_Batch M q a0) (J:RS kd_api_Batch M w a1) (y:Bool) (h:f_ref06_All a0 a1=some y):
 Tri prog 7 #[q,w] M [] (f_ref06_All_post a0 a1 q w y):=by
 unfold f_ref06_All at h
 refine Te func7 Z Z ?_
 intro F ρ K
 refine Sr (qa (Bv false) (Nt (Cs (Sr (qM q (K 0) (qu (Iv (a0.length:Int)) (lenS underlying26 Z x.len) (qM w (K 1) (qu (Iv (a1.length:Int)) (lenS underlying26 Z J.len) (qu (Bv (decide ((a0.length:Int)≠(a1.length:Int)))) (neq Z Z) (Nt (Ch h Z (fun z h=> ?_) (fun z h=> ?_))))))))))))
 exact Sr (qa (Bv false) (Nt (Cr (Tr (Rf h [] Z (Rs Z Z) lr ⟨Z,Z⟩)))))
 refine Ck (Tc ?_)
 obtain ⟨N,A,h⟩:=bnd h
 refine WC.joinE (fun(_:Unit) L O P=>M.le O∧F=P) N ?_ ?_
 have B:=h
 have h:=A
 refine Sr (qa (Iv 0) (Nt (Bk ?_)))
 obtain ⟨U,C,p⟩:=bnd h
 clear h
 refine WC.loop C (fun(a:Int) L O P=>M.le O∧F=P∧L 0=q∧L 1=w∧L 5=(Iv a)) ?_ ?_
 exact⟨lr,Z,(K 0),(K 1),Z⟩
 rintro a V W X Y h ⟨c,rfl,d,f,b⟩
 unfold f_ref06_All_l0 at h
 refine Cs (Sr (qM (Iv a) b (qM q d ?_)))
 have x:=x.mono c
 refine qu (Iv (a0.length:Int)) (lenS underlying26 Z x.len) (qu (Bv (decide (a<(a0.length:Int)))) (lss Z Z) (Nt (Ch h Z (fun D h=> ?_) (fun D h=> ?_))))
 refine Ck (Tc (Cs (Bk (Cs (WC.draw [0,0,3,7,0,0,48,112,255,511] (.pure 0 (.pure 1 (.pure 2 (.pure 3 (.pure 4 (.pure 5 (.pure 6 (.pure 7 (.alt 8 (.pure 9 .done) .none))))))))) mixed (by kernel_rfl) (qt q Z (Mv d) (qt (Iv a) Z (Mv b) ?_)))))))
 obtain ⟨g,h⟩:=grd_i h
 obtain ⟨Q,S,r,s,hhas31⟩:=x.at g.1 g.2 (by decide)
 obtain ⟨i,rfl,m⟩:=kd_api_Batch_open s
 refine qt (.pointer (some Q)) Z (indexAddr (n:=a0.length) underlying26 sz31 Z Z g.1 g.2 r) (qt (a31_ (rd a0 a) i) Z (loadMA (cs:=(l31 (rd a0 a) i)) ag31 sz31 Z hhas31) (qt w Z (Mv f) (qt (Iv a) Z (Mv b) ?_)))
 obtain ⟨j,h⟩:=grd_i h
 have J:=J.mono c
 obtain ⟨R,T,t,u,hhas38⟩:=J.at j.1 j.2 (by decide)
 obtain ⟨k,rfl,o⟩:=kd_api_Batch_open u
 refine qt (.pointer (some R)) Z (indexAddr (n:=a1.length) underlying26 sz31 Z Z j.1 j.2 t) (qt (a31_ (rd a1 a) k) Z (loadMA (cs:=(l31 (rd a1 a) k)) ag31 sz31 Z hhas38) ?_)
 obtain ⟨E,G,h⟩:=bnd h
 refine Ta Z (Ca co17 (f_ref06_Same_ok (rd a0 a) (rd a1 a) _ _ _ m o E G) (args2 Z Z)) Z ?_ ?_
 rintro _ a2 _ l ⟨_,⟨rfl,rfl⟩,rfl⟩
 refine⟨(Sl Z), ?_⟩
 refine WT.a0 (qt (Bv (!E)) Z (PO.not Z) (Ti (Tc (Ch h Z (fun I h=> ?_) (fun I h=> ?_)))))
 refine Sr (qa (Bv false) (Nt (Cr (Br (Tr (WQ.leaveR (inr ()) (oi h).symm (fun e=> ?_)))))))
 subst e
 have h:=(elimR p)
 refine Br (Tr ?_)
 have h:=KK.early h B
 exact Rf h [] Z (Rs Z Z) (c.trans l) ⟨Z,Z⟩
 exact Ck (Bn (Tc (Cg (qM (Iv a) b (qu (Iv (i64.wrap (a+1))) (add Z Z) (qa (Iv (i64.wrap (a+1))) (Wz (WQ.again (i64.wrap (a+1)) (oi h).symm ⟨(c.trans l),Z,d,f,Z⟩))))))))
 exact Tz
 refine WC.exit (WQ.thenE (WQ.leaveE (inl ()) (oi h).symm (fun e=> ?_)))
 subst e
 have h:=elimL p
 exact WQ.blockH (WQ.thenFE h ⟨c,Z⟩)
 rintro _ a3 a4 a5 rfl ⟨v,rfl⟩
 have h:=(Sum.elim_inl _ _ _).symm.trans h
 exact Sr (qa (Bv true) (Nt (Cr (Rf h [] Z (Rs Z Z) v ⟨Z,Z⟩))))
noncomputable def f_law06_BatchSplits_l0 (a1:Int) (a2:Int) (b:(List T_api_Batch)) (e:(Int×Int)):Option ((Int×Int)⊕(Int⊕Unit)):=
 match e with
 |(c,a)=>
 (if(decide (a<(b.length:Int)))=true then(((grd (0≤a∧a<b.length) (if(decide ((((rd b a).Records).length:Int)=(0:Int)))=true then(some true)else(grd (0≤a∧a<b.length) (if(decide (a2<(((rd b a).Records).length:Int)))=true then(some true)else(grd (0≤a∧a<b.length) (some (decide (((rd b a).Base)≠(i64.wrap ((i64.wrap a1)+a)))))))))):Option Bool).bind fun d=>(if d=true then(some (inr (inr ())))else(grd (0≤a∧a<b.length) (some (inl (i64.wrap (c+(((rd b a).Records).length:Int)),i64.wrap (a+(1:Int))))))))else(some (inr (inl c))))
noncomputable def f_law06_BatchSplits (a0:Int) (a1:Int) (a2:Int) (a3:(List T_api_Record)):Option Bool:=
 ((f_ref06_Short a3).bind fun c=>(if(!c)=true then((f_law06_works).bind fun d=>(some d))else((f_batch_Split a0 (i64.wrap a1) a2 a3).bind fun a=>((f_ref06_Split a0 (i64.wrap a1) a2 a3).bind fun e=>((f_ref06_All a e).bind fun f=>(if(!f)=true then(some false)else((((iter (f_law06_BatchSplits_l0 a1 a2 a) ((0:Int),(0:Int))).bind (Sum.elim (fun(g:Int)=>(some (inl g))) (fun _=>(((some false)).bind fun r=>some (inr r))))):Option (Int⊕Bool)).bind (Sum.elim (fun(i:Int)=>(((if(decide (a2<(1:Int)))=true then((f_law06_works).bind fun j=>(some j))else(if(decide (i=(a3.length:Int)))=true then((f_law06_works).bind fun b=>(some b))else(some false))):Option Bool).bind fun k=>(some k))) some))))))))
def f_law06_BatchSplits_post (a0:Int) (a1:Int) (a2:Int) (a3:(List T_api_Record)) (c:Value):Bool→Value→IM→HL→Prop:=
 fun(a:Bool) (v:Value) (d:IM) (b:HL)=>(.bool a)=v∧b=[]
theorem f_law06_BatchSplits_ok (a0:Int) (a1:Int) (a2:Int) (a3:(List T_api_Record)) (M:IM) (Q:Value) (R:RS kd_api_Record M Q a3) (hE:Env M) (d3:Bool) (h:f_law06_BatchSplits a0 a1 a2 a3=some d3):
 Tri prog 3 #[(Iv a0),(.int .u32 a1),(Iv a2),Q] M [] (f_law06_BatchSplits_post a0 a1 a2 a3 Q d3):=by
 unfold f_law06_BatchSplits at h
 refine Te func3 Z Z ?_
 intro F ρ I
 refine Sr (qa (Bv false) (Nt (Cs (Sr (qM Q (I 3) ?_)))))
 obtain ⟨d4,d5,h⟩:=bnd h
 refine We (Ca co4 (f_ref06_Short_ok a3 _ _ R d4 d5) (args1 Z)) Z ?_
 rintro _ h7 _ r ⟨_,⟨rfl,rfl⟩,rfl⟩
 refine WL.a0 (qu (Bv (!d4)) (PO.not Z) (Nt (Ch h Z (fun d6 h=> ?_) (fun d6 h=> ?_))))
 refine Sr ?_
 obtain ⟨d7,d8,h⟩:=bnd h
 have hE:=hE.mono r
 refine We (Ca co5 (f_law06_works_ok _ hE d7 d8) (args0)) Z ?_
 rintro _ h8 _ b5 ⟨_,⟨rfl,rfl⟩,rfl⟩
 exact WL.a0 (qa (Bv d7) (Nt (Cr (Tr (Rf h [] Z (Rs Z Z) (r.trans b5) ⟨Z,Z⟩)))))
 refine Ck (Tc (Sr (qM (Iv a0) (I 0) (qM (.int .u32 a1) (I 1) (qu (Iv (i64.wrap a1)) (conv us22 underlying3 Z) (qM (Iv a2) (I 2) (qM Q (I 3) ?_)))))))
 obtain ⟨c,d9,h⟩:=bnd h
 have R:=R.mono r
 refine We (Ca co6 (f_batch_Split_ok a0 (i64.wrap a1) a2 a3 _ _ R c d9) (args4 Z Z Z Z)) Z ?_
 rintro _ h9 _ J ⟨_,⟨i,z,rfl,rfl,e⟩,rfl⟩
 refine WL.a1 (qa i (Nt (Cs (Sr (qm i (qM (Iv a0) (I 0) (qM (.int .u32 a1) (I 1) (qu (Iv (i64.wrap a1)) (conv us22 underlying3 Z) (qM (Iv a2) (I 2) (qM Q (I 3) ?_))))))))))
 obtain ⟨e0,e1,h⟩:=bnd h
 have R:=R.mono J
 refine We (Ca co8 (f_ref06_Split_ok a0 (i64.wrap a1) a2 a3 _ _ R e0 e1) (args4 Z Z Z Z)) Z ?_
 rintro _ i0 _ v ⟨_,⟨g7,b1,rfl,rfl,b2⟩,rfl⟩
 have g1:=(r.trans J).trans v
 refine WL.a1 ?_
 obtain ⟨e2,e3,h⟩:=bnd h
 refine WL.f1 ?_
 have e:=e.mono v
 refine We (EO.call2 co7 (Tri.lend e.excl fun i1 i2 e4=>(Tri.lend b2.excl fun w1_ H1_ hs1_=>(f_ref06_All_ok c e0 _ _ _ ((e.rs e4).mono (IM.le_add _ _)) ((b2.mono (IM.le_add _ _)).rs hs1_) e2 e3))) (args2 Z Z)) Z ?_
 rintro _ _ _ w ⟨_,⟨g8,g9,g2,rfl,rfl,⟨b3,h0,g3,rfl,rfl,⟨rfl,rfl⟩⟩⟩,rfl⟩
 have b6:=g1.trans w
 refine WL.a2 (qu (Bv (!e2)) (PO.not Z) (Nt (Ch h Z (fun e5 h=> ?_) (fun e5 h=> ?_))))
 exact Sr (qa (Bv false) (Nt (Cr (Tr (Dr (Dr (Rf h [] Z (Rs Z Z) b6 ⟨Z,Z⟩)))))))
 refine Ck (Tc (Sr (qa (Iv 0) (Nt ?_))))
 obtain ⟨g4,e6,h⟩:=bnd h
 refine WC.joinE (fun(G:Int) q M' H'=>((b3.minus b1).minus z).le M'∧F=H'∧q 2=(Iv a2)∧q 3=Q∧q 10=(Iv G)) g4 ?_ ?_
 have e7:=h
 have h:=e6
 refine Sr (qa (Iv 0) (Nt (Bk (WC.f1 (WC.drop ?_)))))
 obtain ⟨i3,e8,b4⟩:=bnd h
 clear h
 refine WC.loop e8 (fun(p_:(Int×Int)) q M' H'=>match p_ with |(t,a)=>((b3.minus b1).minus z).le M'∧z::F=H'∧q 1=(.int .u32 a1)∧q 2=(Iv a2)∧q 3=Q∧q 9=i∧q 10=(Iv t)∧q 11=(Iv a)) ?_ ?_
 exact⟨lr,Z,(I 1),(I 2),(I 3),Z,Z,Z⟩
 rintro ⟨t,a⟩ i5 i6 g5 i7 h ⟨s,rfl,m,j,o,f,k,b⟩
 unfold f_law06_BatchSplits_l0 at h
 refine Cs (Sr (qM (Iv a) b (qM i f ?_)))
 have e:=e.mono (w.trans s)
 refine qu (Iv (c.length:Int)) (lenS underlying26 Z e.len) (qu (Bv (decide (a<(c.length:Int)))) (lss Z Z) (Nt (Ch h Z (fun e9 h=> ?_) (fun e9 h=> ?_))))
 refine Ck (Tc (Cs (Bk (Cs ?_))))
 obtain ⟨b9,f0,h⟩:=bnd h
 refine Jf (fun(b9:Bool) q M' H'=>g5.le M'∧z::F=H'∧q 1=(.int .u32 a1)∧q 2=(Iv a2)∧q 3=Q∧q 9=i∧q 10=(Iv t)∧q 11=(Iv a)∧q 65=(Bv b9)) b9 ?_ ?_
 have h:=f0
 refine Cg (qM i f (qM (Iv a) b ?_))
 obtain ⟨A,h⟩:=grd_i h
 obtain ⟨f2,h1,c0,c1,hhas68⟩:=e.at A.1 A.2
 obtain ⟨S,rfl,T⟩:=kd_api_Batch_open c1
 refine qu (.pointer (some f2)) (indexAddr (n:=c.length) underlying26 sz31 Z Z A.1 A.2 c0) (qu (.pointer (some (f2.add 2))) (Fa fo31_2 Z Z) (qu S (loadC 0 pl23 Z Z (hhas68 2 _ Z)) (qu (Iv (((rd c a).Records).length:Int)) (lenS underlying23 Z T.len) (qu (Bv (decide ((((rd c a).Records).length:Int)=(0:Int)))) (eql Z Z) (qm (Bv (decide ((((rd c a).Records).length:Int)=(0:Int)))) ?_)))))
 rcases Bi h with⟨g,h⟩ |⟨g,h⟩
 iterate 8 refine Of 44 Z Z g Z ?_
 refine qu (Bv true) (Pt Z g Z) (qm (Bv true) ?_)
 iterate 10 refine Of 54 Z Z Z Z ?_
 refine qu (Bv true) (Pt Z Z Z) (Wz ?_)
 obtain rfl:=oi h
 exact Tj ⟨lr,Z,m,j,o,f,k,b,Z⟩
 refine On 44 Z Z g (qM i f (On 44 Z Z g (qM (Iv a) b (On 44 Z Z g ?_))))
 obtain ⟨B,h⟩:=grd_i h
 obtain ⟨f3,h2,c2,c3,hhas76⟩:=e.at B.1 B.2
 obtain ⟨U,rfl,V⟩:=kd_api_Batch_open c3
 refine qu (.pointer (some f3)) (indexAddr (n:=c.length) underlying26 sz31 Z Z B.1 B.2 c2) (qo 44 g (.pointer (some (f3.add 2))) (Fa fo31_2 Z Z) (qo 44 g U (loadC 0 pl23 Z Z (hhas76 2 _ Z)) (qo 44 g (Iv (((rd c a).Records).length:Int)) (lenS underlying23 Z V.len) (On 44 Z Z g (qM (Iv a2) j (qo 44 g (Bv (decide (a2<(((rd c a).Records).length:Int)))) (gtr Z Z) (qu (Bv (decide (a2<(((rd c a).Records).length:Int)))) (Pf Z g Z) (qm (Bv (decide (a2<(((rd c a).Records).length:Int)))) ?_))))))))
 rcases Bi h with⟨d,h⟩ |⟨d,h⟩
 iterate 10 refine Of 54 Z Z d Z ?_
 refine qu (Bv true) (Pt Z d Z) (Wz ?_)
 obtain rfl:=oi h
 exact Tj ⟨lr,Z,m,j,o,f,k,b,Z⟩
 refine On 54 Z Z d (qM i f (On 54 Z Z d (qM (Iv a) b (On 54 Z Z d ?_))))
 obtain ⟨C,h⟩:=grd_i h
 obtain ⟨f4,h4,c4,c5,hhas84⟩:=e.at C.1 C.2
 obtain ⟨f9,rfl,g0⟩:=kd_api_Batch_open c5
 refine qu (.pointer (some f4)) (indexAddr (n:=c.length) underlying26 sz31 Z Z C.1 C.2 c4) (qo 54 d (.pointer (some (f4.add 1))) (Fa fo31_1 Z Z) (qo 54 d (Iv ((rd c a).Base)) (loadC 0 pl3 Z Z (hhas84 1 _ Z)) (On 54 Z Z d (qM (.int .u32 a1) m (qo 54 d (Iv (i64.wrap a1)) (conv us22 underlying3 Z) (On 54 Z Z d (qM (Iv a) b (qo 54 d (Iv (i64.wrap ((i64.wrap a1)+a))) (add Z Z) (qo 54 d (Bv (decide (((rd c a).Base)≠(i64.wrap ((i64.wrap a1)+a))))) (neq Z Z) (qu (Bv (decide (((rd c a).Base)≠(i64.wrap ((i64.wrap a1)+a))))) (Pf Z d Z) (Wz ?_)))))))))))
 obtain rfl:=oi h
 exact Tj ⟨lr,Z,m,j,o,f,k,b,Z⟩
 rintro i8 i9 j0 ⟨x,rfl,W,X,Y,D,K,u,L⟩
 refine Ch h L (fun f5 h=> ?_) (fun f5 h=> ?_)
 refine Sr (qa (Bv false) (Nt (Cr (Tr (Br (Tr (WQ.leaveR (inr ()) (oi h).symm (fun y=> ?_))))))))
 subst y
 have h:=(elimR b4)
 refine Br (Tr ?_)
 have h:=KK.early h e7
 exact Dr (Rf h [] Z (Rs Z Z) ((b6.trans s).trans x) ⟨Z,Z⟩)
 refine Ck (Tc (Cg (qM (Iv t) K (qM i D (qM (Iv a) u ?_)))))
 obtain ⟨E,h⟩:=grd_i h
 have e:=e.mono x
 obtain ⟨f6,h5,c6,c7,hhas92⟩:=e.at E.1 E.2
 obtain ⟨a4,rfl,a5⟩:=kd_api_Batch_open c7
 refine qu (.pointer (some f6)) (indexAddr (n:=c.length) underlying26 sz31 Z Z E.1 E.2 c6) (qu (.pointer (some (f6.add 2))) (Fa fo31_2 Z Z) (qu a4 (loadC 0 pl23 Z Z (hhas92 2 _ Z)) (qu (Iv (((rd c a).Records).length:Int)) (lenS underlying23 Z a5.len) (qu (Iv (i64.wrap (t+(((rd c a).Records).length:Int)))) (add Z Z) (qa (Iv (i64.wrap (t+(((rd c a).Records).length:Int)))) (Wz (Bn (Tc (Cg (qM (Iv a) u (qu (Iv (i64.wrap (a+1))) (add Z Z) ?_)))))))))))
 exact qa (Iv (i64.wrap (a+1))) (Wz (WQ.again (i64.wrap (t+(((rd c a).Records).length:Int)),i64.wrap (a+1)) (oi h).symm ⟨(s.trans x),Z,W,X,Y,D,Z,Z⟩))
 refine WC.exit (WQ.thenE (WQ.leaveE (inl t) (oi h).symm (fun y=> ?_)))
 subst y
 have h:=elimL b4
 exact WQ.blockH (Dr (WQ.thenFE h ⟨s,Z,j,o,k⟩))
 rintro G j1 g6 j2 rfl ⟨N,rfl,a6,a7,O⟩
 have c8:=b6.trans N
 have h:=(Sum.elim_inl _ _ _).symm.trans h
 obtain ⟨c9,f7,h⟩:=bnd h
 refine Jf (fun(c9:Bool) q M' H'=>g6.le M'∧F=H'∧q 8=(Bv c9)) c9 ?_ ?_
 have h:=f7
 refine Cg (qM (Iv a2) a6 (qu (Bv (decide (a2<1))) (lss Z Z) (qm (Bv (decide (a2<1))) ?_)))
 rcases Bi h with⟨l,h⟩ |⟨l,h⟩
 iterate 4 refine Of 76 Z Z l Z ?_
 refine qu (Bv true) (Pt Z l Z) (qm (Bv true) (On 82 Z Z Z ?_))
 obtain ⟨d0,f8,h⟩:=bnd h
 have hE:=hE.mono c8
 refine We (Ca co5 (f_law06_works_ok _ hE d0 f8) (args0)) Z ?_
 rintro _ j3 _ a8 ⟨_,⟨rfl,rfl⟩,rfl⟩
 refine WL.a0 (qu (Bv d0) (Pt Z Z Z) (qa (Bv d0) (Wz ?_)))
 obtain rfl:=oi h
 exact Tj ⟨a8,Z,Z⟩
 refine On 76 Z Z l (qM (Iv G) O (On 76 Z Z l (qM Q a7 (On 76 Z Z l ?_))))
 have R:=R.mono ((v.trans w).trans N)
 refine qu (Iv (a3.length:Int)) (lenS underlying23 Z R.len) (qo 76 l (Bv (decide (G=(a3.length:Int)))) (eql Z Z) (qu (Bv (decide (G=(a3.length:Int)))) (Pf Z l Z) (qm (Bv (decide (G=(a3.length:Int)))) ?_)))
 rcases Bi h with⟨p,h⟩ |⟨p,h⟩
 refine On 82 Z Z p ?_
 obtain ⟨P,d1,h⟩:=bnd h
 have hE:=hE.mono c8
 refine We (Ca co5 (f_law06_works_ok _ hE P d1) (args0)) Z ?_
 rintro _ h6 _ a9 ⟨_,⟨rfl,rfl⟩,rfl⟩
 refine WL.a0 (qu (Bv P) (Pt Z p Z) (qa (Bv P) (Wz ?_)))
 obtain rfl:=oi h
 exact Tj ⟨a9,Z,Z⟩
 refine Of 82 Z Z p Z (qu (Bv false) (Pf Z p Z) (qa (Bv false) (Wz ?_)))
 obtain rfl:=oi h
 exact Tj ⟨lr,Z,Z⟩
 rintro j4 j5 j6 ⟨d2,rfl,b0⟩
 exact Cr (Rf h [] Z (Rs Z b0) (c8.trans d2) ⟨Z,Z⟩)

end Go.Proofs.YtpmofealbmapiaaDoor.G
