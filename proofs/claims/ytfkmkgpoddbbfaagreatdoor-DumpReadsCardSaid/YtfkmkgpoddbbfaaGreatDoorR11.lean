/- Go functions: what they come to, and that they do. Printed by a program of the session (gen). -/
import Derived.Test.YtfkmkgpoddbbfaaGreatDoorRF
import Derived.Test.YtfkmkgpoddbbfaaGreatDoorR2
import Derived.Test.YtfkmkgpoddbbfaaGreatDoorR5
import Derived.Test.YtfkmkgpoddbbfaaGreatDoorR7
import Derived.Test.YtfkmkgpoddbbfaaGreatDoorR10
import Derived.Test.YtfkmkgpoddbbfaaGreatDoorKShar2
import Derived.Test.YtfkmkgpoddbbfaaGreatDoorKConv
import Derived.Test.YtfkmkgpoddbbfaaGreatDoorKMap
import Derived.Test.YtfkmkgpoddbbfaaGreatDoorKTight2
set_option linter.unusedVariables false
set_option linter.unusedSimpArgs false
set_option maxHeartbeats 8000000
set_option maxRecDepth 100000
namespace Go.Proofs.YtfkmkgpoddbbfaaGreatDoor.G
open Go Go.KK
open PO EO IntKind Sum Tryz

noncomputable def Qd6 (a0:QaE) (a1:QaE) (c:Int):Option (Int⊕(Unit⊕Unit)):=
 match c with
 |a=>
 (if(decide (a<(a0.Parts.length:Int)))=true then(grd (0≤a∧a<a0.Parts.length) (grd (0≤a∧a<a1.Parts.length) ((Qd2 (rd a0.Parts a) (rd a1.Parts a)).bind fun b=>(if(!b)=true then(some (inr (inr ())))else(some (inl (i64.wrap (a+(1:Int)))))))))else(some (inr (inl ()))))
noncomputable def QfX (a0:QaE) (a1:QaE):Option Bool:=
 (((if(decide (a0.Id≠a1.Id))=true then(some true)else(if(!decide (a0.Name=a1.Name))=true then(some true)else(some (decide ((a0.Parts.length:Int)≠(a1.Parts.length:Int)))))):Option Bool).bind fun a=>(if a=true then(some false)else((((iter (Qd6 a0 a1) (0:Int)).bind (Sum.elim (fun _=>(some (inl ()))) (fun _=>(((some false)).bind fun r=>some (inr r))))):Option (Unit⊕Bool)).bind (Sum.elim (fun _=>(some true)) some))))
def Qm1 (a0:QaE) (a1:QaE) (a b:Value):Bool→Value→IM→HL→Prop:=
 fun(c:Bool) (v:Value) (e:IM) (d:HL)=>(.bool c)=v∧d=[]
theorem QoR (a0:QaE) (a1:QaE) (M:IM) (a d:Value) (m:RS QbD M a a0.Parts) (p:RS QbD M d a1.Parts) (Y:Bool) (h:QfX a0 a1=some Y):
 Tri prog 44 #[(a50_ a0 a),(a50_ a1 d)] M [] (Qm1 a0 a1 a d Y):=by
 unfold QfX at h
 refine Te func44 Z Z ?_
 intro F ρ b7
 refine Sr (We (box (cs:=(l50 a0 a).toArray) (congrArg Value.cells (asE (a50_ a0 a) (b7 0)))) Z ?_)
 rintro _ _ _ - ⟨rfl,j,rfl,rfl⟩
 refine We (box (cs:=(l50 a1 d).toArray) (congrArg Value.cells (asE (a50_ a1 d) (b7 1)))) Z ?_
 rintro _ _ _ - ⟨rfl,k,rfl,rfl⟩
 refine qa (Bv false) (Nt (Cs ?_))
 obtain ⟨S,a2,h⟩:=bnd h
 refine Jf (fun(S:Bool) Q M' H'=>M.le M'∧[(k, .cells (l50 a1 d).toArray 50 (0,0))]::[(j, .cells (l50 a0 a).toArray 50 (0,0))]::F=H'∧Q 2=(pt j 0)∧Q 3=(pt k 0)∧Q 26=(Bv S)) S ?_ ?_
 have h:=a2
 refine Cg (qu (pt j 0) (Fa QkJ Z Z) (qu (Iv a0.Id) (Lb 1 pl3 Z Z Z) (qu (pt k 0) (Fa QkJ Z Z) (qu (Iv a1.Id) (Lb 0 pl3 Z Z Z) (qu (Bv (decide (a0.Id≠a1.Id))) (neq Z Z) (qm (Bv (decide (a0.Id≠a1.Id))) ?_))))))
 rcases Bi h with⟨e,h⟩ |⟨e,h⟩
 iterate 5 refine Of 11 Z Z e Z ?_
 refine qu (Bv true) (Pt Z e Z) (qm (Bv true) ?_)
 iterate 7 refine Of 18 Z Z Z Z ?_
 refine qu (Bv true) (Pt Z Z Z) (Wz ?_)
 obtain rfl:=oi h
 exact Tj ⟨lr,Z,Z,Z,Z⟩
 refine qo 11 e (pt j 1) (Fa Ql3 Z Z) (qo 11 e (Sv a0.Name) (Lb 1 pl9 Z Z Z) (qo 11 e (pt k 1) (Fa Ql3 Z Z) (qo 11 e (Sv a1.Name) (Lb 0 pl9 Z Z Z) (qo 11 e (Bv (!decide (a0.Name=a1.Name))) (sneq Z Z) (qu (Bv (!decide (a0.Name=a1.Name))) (Pf Z e Z) (qm (Bv (!decide (a0.Name=a1.Name))) ?_))))))
 rcases Bi h with⟨b,h⟩ |⟨b,h⟩
 iterate 7 refine Of 18 Z Z b Z ?_
 refine qu (Bv true) (Pt Z b Z) (Wz ?_)
 obtain rfl:=oi h
 exact Tj ⟨lr,Z,Z,Z,Z⟩
 refine qo 18 b (pt j 2) (Fa Qd0 Z Z) (qo 18 b a (Lb 1 pl48 Z Z Z) (qo 18 b (Iv (a0.Parts.length:Int)) (lenS underlying48 Z m.len) (qo 18 b (pt k 2) (Fa Qd0 Z Z) (qo 18 b d (Lb 0 pl48 Z Z Z) (qo 18 b (Iv (a1.Parts.length:Int)) (lenS underlying48 Z p.len) (qo 18 b (Bv (decide ((a0.Parts.length:Int)≠(a1.Parts.length:Int)))) (neq Z Z) (qu (Bv (decide ((a0.Parts.length:Int)≠(a1.Parts.length:Int)))) (Pf Z b Z) (Wz ?_))))))))
 obtain rfl:=oi h
 exact Tj ⟨lr,Z,Z,Z,Z⟩
 rintro c0 a5 c1 ⟨g,rfl,D,E,B⟩
 refine Ch h B (fun a6 h=> ?_) (fun a6 h=> ?_)
 exact Sr (qa (Bv false) (Nt (Cr (Tr (Dr (Dr (Rf h [] Z (Rs Z Z) g ⟨Z,Z⟩)))))))
 refine Ck (Tc ?_)
 obtain ⟨b4,a7,h⟩:=bnd h
 refine WC.joinE (fun(_:Unit) Q M' H'=>a5.le M'∧[(k, .cells (l50 a1 d).toArray 50 (0,0))]::[(j, .cells (l50 a0 a).toArray 50 (0,0))]::F=H') b4 ?_ ?_
 have a8:=h
 have h:=a7
 refine Sr (qa (Iv 0) (Nt (Bk ?_)))
 obtain ⟨c2,a9,R⟩:=bnd h
 clear h
 refine WC.loop a9 (fun(c:Int) Q M' H'=>a5.le M'∧[(k, .cells (l50 a1 d).toArray 50 (0,0))]::[(j, .cells (l50 a0 a).toArray 50 (0,0))]::F=H'∧Q 2=(pt j 0)∧Q 3=(pt k 0)∧Q 5=(Iv c)) ?_ ?_
 exact⟨lr,Z,D,E,Z⟩
 rintro c c3 c4 c5 c6 h ⟨i,rfl,l,q,f⟩
 unfold Qd6 at h
 refine Cs (Sr (qM (Iv c) f (qu (pt j 2) (Fa Qd0 l Z) (qu a (Lb 1 pl48 Z Z Z) ?_))))
 have m:=m.mono (g.trans i)
 refine qu (Iv (a0.Parts.length:Int)) (lenS underlying48 Z m.len) (qu (Bv (decide (c<(a0.Parts.length:Int)))) (lss Z Z) (Nt (Ch h Z (fun b0 h=> ?_) (fun b0 h=> ?_))))
 refine Ck (Tc (Cs (Bk (Cs (WC.draw [0,1,0,7,15,0,32,0,224,480,1023,2047] (.pure 0 (.pure 1 (.pure 2 (.pure 3 (.pure 4 (.pure 5 (.pure 6 (.pure 7 (.pure 8 (.pure 9 (.alt 10 (.pure 11 .done) .none))))))))))) Qc3 (by kernel_rfl) (qt (pt j 2) Z (Fa Qd0 l Z) (qt a Z (Lb 1 pl48 Z Z Z) (qt (Iv c) Z (Mv f) ?_))))))))
 obtain ⟨r,h⟩:=Qa1 h
 obtain ⟨b5,b8,T,U,hhas37⟩:=m.at r.1 r.2 (by decide)
 obtain ⟨s,t,u,v,rfl,G,I,J,K⟩:=QcY U
 refine qt (.pointer (some b5)) Z (indexAddr (n:=a0.Parts.length) underlying48 sz53 Z Z r.1 r.2 T) (qt (a53_ (rd a0.Parts c) s t u v) Z (loadMA (cs:=(l53 (rd a0.Parts c) s t u v)) ag53 sz53 Z hhas37) (qt (pt k 2) Z (Fa Qd0 q Z) (qt d Z (Lb 0 pl48 Z Z Z) (qt (Iv c) Z (Mv f) ?_))))
 obtain ⟨w,h⟩:=Qa1 h
 have p:=p.mono (g.trans i)
 obtain ⟨b6,b9,V,W,hhas44⟩:=p.at w.1 w.2 (by decide)
 obtain ⟨x,y,z,A,rfl,L,N,O,P⟩:=QcY W
 refine qt (.pointer (some b6)) Z (indexAddr (n:=a1.Parts.length) underlying48 sz53 Z Z w.1 w.2 V) (qt (a53_ (rd a1.Parts c) x y z A) Z (loadMA (cs:=(l53 (rd a1.Parts c) x y z A)) ag53 sz53 Z hhas44) ?_)
 obtain ⟨b1,b2,h⟩:=bnd h
 refine Ta Z (Ca co69 (QkX (rd a0.Parts c) (rd a1.Parts c) _ _ _ _ _ _ _ _ _ G I J K L N O P b1 b2) (QaS Z Z)) Z ?_ ?_
 rintro _ c7 _ C ⟨_,⟨rfl,rfl⟩,rfl⟩
 refine⟨(Sl Z), ?_⟩
 refine WT.a0 (qt (Bv (!b1)) Z (PO.not Z) (Ti (Tc (Ch h Z (fun b3 h=> ?_) (fun b3 h=> ?_)))))
 refine Sr (qa (Bv false) (Nt (Cr (Br (Tr (WQ.leaveR (inr ()) (oi h).symm (fun o=> ?_)))))))
 subst o
 have h:=(QdZ R)
 refine Br (Tr ?_)
 have h:=KK.early h a8
 exact Dr (Dr (Rf h [] Z (Rs Z Z) ((g.trans i).trans C) ⟨Z,Z⟩))
 exact Ck (Bn (Tc (Cg (qM (Iv c) f (qu (Iv (i64.wrap (c+1))) (add Z Z) (qa (Iv (i64.wrap (c+1))) (Wz (WQ.again (i64.wrap (c+1)) (oi h).symm ⟨(i.trans C),Z,l,q,Z⟩))))))))
 exact Tz
 refine WC.exit (WQ.thenE (WQ.leaveE (inl ()) (oi h).symm (fun o=> ?_)))
 subst o
 have h:=QeV R
 exact WQ.blockH (WQ.thenFE h ⟨i,Z⟩)
 rintro _ c8 c9 d0 rfl ⟨X,rfl⟩
 have h:=(Sum.elim_inl _ _ _).symm.trans h
 exact Sr (qa (Bv true) (Nt (Cr (Dr (Dr (Rf h [] Z (Rs Z Z) (g.trans X) ⟨Z,Z⟩))))))
noncomputable def QhA (a0:QaA) (a1:QaA) (b:Int):Option (Int⊕(Unit⊕Unit)):=
 match b with
 |a=>
 (if(decide (a<(a0.Brokers.length:Int)))=true then(grd (0≤a∧a<a0.Brokers.length) (grd (0≤a∧a<a1.Brokers.length) (if(!(andL [decide (((rd a0.Brokers a).Id)=((rd a1.Brokers a).Id)),decide (((rd a0.Brokers a).Epoch)=((rd a1.Brokers a).Epoch)),((rd a0.Brokers a).Rack)==((rd a1.Brokers a).Rack),((rd a0.Brokers a).Fenced)==((rd a1.Brokers a).Fenced),((rd a0.Brokers a).Leaving)==((rd a1.Brokers a).Leaving)]))=true then(some (inr (inr ())))else(some (inl (i64.wrap (a+(1:Int))))))))else(some (inr (inl ()))))
noncomputable def QhB (a0:QaA) (a1:QaA) (c:Int):Option (Int⊕(Unit⊕Unit)):=
 match c with
 |a=>
 (if(decide (a<(a0.Topics.length:Int)))=true then(grd (0≤a∧a<a0.Topics.length) (grd (0≤a∧a<a1.Topics.length) ((QfX (rd a0.Topics a) (rd a1.Topics a)).bind fun b=>(if(!b)=true then(some (inr (inr ())))else(some (inl (i64.wrap (a+(1:Int)))))))))else(some (inr (inl ()))))
noncomputable def QhC (a0:QaA) (a1:QaA) (b:Int):Option (Int⊕(Unit⊕Unit)):=
 match b with
 |a=>
 (if(decide (a<(a0.Configs.length:Int)))=true then(grd (0≤a∧a<a0.Configs.length) (grd (0≤a∧a<a1.Configs.length) (if(!(andL [decide (((rd a0.Configs a).Topic)=((rd a1.Configs a).Topic)),((rd a0.Configs a).Key)==((rd a1.Configs a).Key),((rd a0.Configs a).Value)==((rd a1.Configs a).Value)]))=true then(some (inr (inr ())))else(some (inl (i64.wrap (a+(1:Int))))))))else(some (inr (inl ()))))
noncomputable def QhD (a0:QaA) (a1:QaA) (b:Int):Option (Int⊕(Unit⊕Unit)):=
 match b with
 |a=>
 (if(decide (a<(a0.Done.length:Int)))=true then(grd (0≤a∧a<a0.Done.length) (grd (0≤a∧a<a1.Done.length) (if(!(andL [decide (((rd a0.Done a).Client)=((rd a1.Done a).Client)),decide (((rd a0.Done a).Serial)=((rd a1.Done a).Serial)),decide (((rd a0.Done a).Code)=((rd a1.Done a).Code))]))=true then(some (inr (inr ())))else(some (inl (i64.wrap (a+(1:Int))))))))else(some (inr (inl ()))))
noncomputable def QiK (a0:QaA) (a1:QaA):Option Bool:=
 (((if(decide (a0.Last≠a1.Last))=true then(some true)else(if(decide ((a0.Brokers.length:Int)≠(a1.Brokers.length:Int)))=true then(some true)else(if(decide ((a0.Topics.length:Int)≠(a1.Topics.length:Int)))=true then(some true)else(if(decide ((a0.Configs.length:Int)≠(a1.Configs.length:Int)))=true then(some true)else(some (decide ((a0.Done.length:Int)≠(a1.Done.length:Int)))))))):Option Bool).bind fun a=>(if a=true then(some false)else((((iter (QhA a0 a1) (0:Int)).bind (Sum.elim (fun _=>(some (inl ()))) (fun _=>(((some false)).bind fun r=>some (inr r))))):Option (Unit⊕Bool)).bind (Sum.elim (fun _=>((((iter (QhB a0 a1) (0:Int)).bind (Sum.elim (fun _=>(some (inl ()))) (fun _=>(((some false)).bind fun r=>some (inr r))))):Option (Unit⊕Bool)).bind (Sum.elim (fun _=>((((iter (QhC a0 a1) (0:Int)).bind (Sum.elim (fun _=>(some (inl ()))) (fun _=>(((some false)).bind fun r=>some (inr r))))):Option (Unit⊕Bool)).bind (Sum.elim (fun _=>((((iter (QhD a0 a1) (0:Int)).bind (Sum.elim (fun _=>(some (inl ()))) (fun _=>(((some false)).bind fun r=>some (inr r))))):Option (Unit⊕Bool)).bind (Sum.elim (fun _=>(some true)) some))) some))) some))) some))))
def Qr1 (a0:QaA) (a1:QaA) (a b c d e f g i:Value):Bool→Value→IM→HL→Prop:=
 fun(j:Bool) (v:Value) (l:IM) (k:HL)=>(.bool j)=v∧k=[]
theorem QuT (a0:QaA) (a1:QaA) (M:IM) (b c d e g i j k:Value) (N:RS QaG M b a0.Brokers) (O:RS QaI M c a0.Topics) (P:RS QaH M d a0.Configs) (Q:RS QaL M e a0.Done) (a2:RS QaG M g a1.Brokers) (a3:RS QaI M i a1.Topics) (a4:RS QaH M j a1.Configs) (a5:RS QaL M k a1.Done) (f7:Bool) (h:QiK a0 a1=some f7):
 Tri prog 8 #[(a29_ a0 b c d e),(a29_ a1 g i j k)] M [] (Qr1 a0 a1 b c d e g i j k f7):=by
 unfold QiK at h
 refine Te func8 Z Z ?_
 intro F ρ k0
 refine Sr (We (box (cs:=(l29 a0 b c d e).toArray) (congrArg Value.cells (asE (a29_ a0 b c d e) (k0 0)))) Z ?_)
 rintro _ _ _ - ⟨rfl,a,rfl,rfl⟩
 refine We (box (cs:=(l29 a1 g i j k).toArray) (congrArg Value.cells (asE (a29_ a1 g i j k) (k0 1)))) Z ?_
 rintro _ _ _ - ⟨rfl,f,rfl,rfl⟩
 refine qa (Bv false) (Nt (Cs ?_))
 obtain ⟨d6,f8,h⟩:=bnd h
 refine Jf (fun(d6:Bool) u R S=>M.le R∧[(f, .cells (l29 a1 g i j k).toArray 29 (0,0))]::[(a, .cells (l29 a0 b c d e).toArray 29 (0,0))]::F=S∧u 2=(pt a 0)∧u 3=(pt f 0)∧u 49=(Bv d6)) d6 ?_ ?_
 have h:=f8
 refine Cg (qu (pt a 4) (Fa QmS Z Z) (qu (Iv a0.Last) (Lb 1 pl3 Z Z Z) (qu (pt f 4) (Fa QmS Z Z) (qu (Iv a1.Last) (Lb 0 pl3 Z Z Z) (qu (Bv (decide (a0.Last≠a1.Last))) (neq Z Z) (qm (Bv (decide (a0.Last≠a1.Last))) ?_))))))
 rcases Bi h with⟨p,h⟩ |⟨p,h⟩
 iterate 7 refine Of 14 Z Z p Z ?_
 refine qu (Bv true) (Pt Z p Z) (qm (Bv true) ?_)
 iterate 7 refine Of 23 Z Z Z Z ?_
 refine qu (Bv true) (Pt Z Z Z) (qm (Bv true) ?_)
 iterate 7 refine Of 32 Z Z Z Z ?_
 refine qu (Bv true) (Pt Z Z Z) (qm (Bv true) ?_)
 iterate 7 refine Of 41 Z Z Z Z ?_
 refine qu (Bv true) (Pt Z Z Z) (Wz ?_)
 obtain rfl:=oi h
 exact Tj ⟨lr,Z,Z,Z,Z⟩
 refine qo 14 p (pt a 0) (Fa QeU Z Z) (qo 14 p b (Lb 1 pl24 Z Z Z) (qo 14 p (Iv (a0.Brokers.length:Int)) (lenS underlying24 Z N.len) (qo 14 p (pt f 0) (Fa QeU Z Z) (qo 14 p g (Lb 0 pl24 Z Z Z) (qo 14 p (Iv (a1.Brokers.length:Int)) (lenS underlying24 Z a2.len) (qo 14 p (Bv (decide ((a0.Brokers.length:Int)≠(a1.Brokers.length:Int)))) (neq Z Z) (qu (Bv (decide ((a0.Brokers.length:Int)≠(a1.Brokers.length:Int)))) (Pf Z p Z) (qm (Bv (decide ((a0.Brokers.length:Int)≠(a1.Brokers.length:Int)))) ?_))))))))
 rcases Bi h with⟨q,h⟩ |⟨q,h⟩
 iterate 7 refine Of 23 Z Z q Z ?_
 refine qu (Bv true) (Pt Z q Z) (qm (Bv true) ?_)
 iterate 7 refine Of 32 Z Z Z Z ?_
 refine qu (Bv true) (Pt Z Z Z) (qm (Bv true) ?_)
 iterate 7 refine Of 41 Z Z Z Z ?_
 refine qu (Bv true) (Pt Z Z Z) (Wz ?_)
 obtain rfl:=oi h
 exact Tj ⟨lr,Z,Z,Z,Z⟩
 refine qo 23 q (pt a 1) (Fa QcB Z Z) (qo 23 q c (Lb 1 pl25 Z Z Z) (qo 23 q (Iv (a0.Topics.length:Int)) (lenS underlying25 Z O.len) (qo 23 q (pt f 1) (Fa QcB Z Z) (qo 23 q i (Lb 0 pl25 Z Z Z) (qo 23 q (Iv (a1.Topics.length:Int)) (lenS underlying25 Z a3.len) (qo 23 q (Bv (decide ((a0.Topics.length:Int)≠(a1.Topics.length:Int)))) (neq Z Z) (qu (Bv (decide ((a0.Topics.length:Int)≠(a1.Topics.length:Int)))) (Pf Z q Z) (qm (Bv (decide ((a0.Topics.length:Int)≠(a1.Topics.length:Int)))) ?_))))))))
 rcases Bi h with⟨r,h⟩ |⟨r,h⟩
 iterate 7 refine Of 32 Z Z r Z ?_
 refine qu (Bv true) (Pt Z r Z) (qm (Bv true) ?_)
 iterate 7 refine Of 41 Z Z Z Z ?_
 refine qu (Bv true) (Pt Z Z Z) (Wz ?_)
 obtain rfl:=oi h
 exact Tj ⟨lr,Z,Z,Z,Z⟩
 refine qo 32 r (pt a 2) (Fa QdY Z Z) (qo 32 r d (Lb 1 pl26 Z Z Z) (qo 32 r (Iv (a0.Configs.length:Int)) (lenS underlying26 Z P.len) (qo 32 r (pt f 2) (Fa QdY Z Z) (qo 32 r j (Lb 0 pl26 Z Z Z) (qo 32 r (Iv (a1.Configs.length:Int)) (lenS underlying26 Z a4.len) (qo 32 r (Bv (decide ((a0.Configs.length:Int)≠(a1.Configs.length:Int)))) (neq Z Z) (qu (Bv (decide ((a0.Configs.length:Int)≠(a1.Configs.length:Int)))) (Pf Z r Z) (qm (Bv (decide ((a0.Configs.length:Int)≠(a1.Configs.length:Int)))) ?_))))))))
 rcases Bi h with⟨s,h⟩ |⟨s,h⟩
 iterate 7 refine Of 41 Z Z s Z ?_
 refine qu (Bv true) (Pt Z s Z) (Wz ?_)
 obtain rfl:=oi h
 exact Tj ⟨lr,Z,Z,Z,Z⟩
 refine qo 41 s (pt a 3) (Fa QeO Z Z) (qo 41 s e (Lb 1 pl27 Z Z Z) (qo 41 s (Iv (a0.Done.length:Int)) (lenS underlying27 Z Q.len) (qo 41 s (pt f 3) (Fa QeO Z Z) (qo 41 s k (Lb 0 pl27 Z Z Z) (qo 41 s (Iv (a1.Done.length:Int)) (lenS underlying27 Z a5.len) (qo 41 s (Bv (decide ((a0.Done.length:Int)≠(a1.Done.length:Int)))) (neq Z Z) (qu (Bv (decide ((a0.Done.length:Int)≠(a1.Done.length:Int)))) (Pf Z s Z) (Wz ?_))))))))
 obtain rfl:=oi h
 exact Tj ⟨lr,Z,Z,Z,Z⟩
 rintro k8 f9 k9 ⟨C,rfl,b8,b9,b6⟩
 refine Ch h b6 (fun g0 h=> ?_) (fun g0 h=> ?_)
 exact Sr (qa (Bv false) (Nt (Cr (Tr (Dr (Dr (Rf h [] Z (Rs Z Z) C ⟨Z,Z⟩)))))))
 refine Ck (Tc ?_)
 obtain ⟨i8,g1,h⟩:=bnd h
 refine WC.joinE (fun(_:Unit) u R S=>f9.le R∧[(f, .cells (l29 a1 g i j k).toArray 29 (0,0))]::[(a, .cells (l29 a0 b c d e).toArray 29 (0,0))]::F=S∧u 2=(pt a 0)∧u 3=(pt f 0)) i8 ?_ ?_
 have g2:=h
 have h:=g1
 refine Sr (qa (Iv 0) (Nt (Bk ?_)))
 obtain ⟨l0,g3,d2⟩:=bnd h
 clear h
 refine WC.loop g3 (fun(l:Int) u R S=>f9.le R∧[(f, .cells (l29 a1 g i j k).toArray 29 (0,0))]::[(a, .cells (l29 a0 b c d e).toArray 29 (0,0))]::F=S∧u 2=(pt a 0)∧u 3=(pt f 0)∧u 5=(Iv l)) ?_ ?_
 exact⟨lr,Z,b8,b9,Z⟩
 rintro l l1 l2 l3 l4 h ⟨D,rfl,v,G,w⟩
 unfold QhA at h
 refine Cs (Sr (qM (Iv l) w (qu (pt a 0) (Fa QeU v Z) (qu b (Lb 1 pl24 Z Z Z) ?_))))
 have N:=N.mono (C.trans D)
 refine qu (Iv (a0.Brokers.length:Int)) (lenS underlying24 Z N.len) (qu (Bv (decide (l<(a0.Brokers.length:Int)))) (lss Z Z) (Nt (Ch h Z (fun g4 h=> ?_) (fun g4 h=> ?_))))
 refine Ck (Tc (Cs (Bk (Cs (WC.draw [0,1,0,7,15,0,32,0,224,480,1023] (.pure 0 (.pure 1 (.pure 2 (.pure 3 (.pure 4 (.pure 5 (.pure 6 (.pure 7 (.pure 8 (.pure 9 (.pure 10 .done))))))))))) Qc3 (by kernel_rfl) (qt (pt a 0) Z (Fa QeU v Z) (qt b Z (Lb 1 pl24 Z Z Z) (qt (Iv l) Z (Mv w) ?_))))))))
 obtain ⟨a6,h⟩:=Qa1 h
 obtain ⟨i9,k1,d7,d8,hhas39⟩:=N.at a6.1 a6.2 (by decide)
 obtain rfl:=QbB d8
 refine qt (.pointer (some i9)) Z (indexAddr (n:=a0.Brokers.length) underlying24 sz66 Z Z a6.1 a6.2 d7) (qt (a66_ (rd a0.Brokers l)) Z (loadMA (cs:=(l66 (rd a0.Brokers l))) ag66 sz66 Z hhas39) (qt (pt f 0) Z (Fa QeU G Z) (qt g Z (Lb 0 pl24 Z Z Z) (qt (Iv l) Z (Mv w) ?_))))
 obtain ⟨a7,h⟩:=Qa1 h
 have a2:=a2.mono (C.trans D)
 obtain ⟨j0,k2,d9,e0,hhas46⟩:=a2.at a7.1 a7.2 (by decide)
 obtain rfl:=QbB e0
 refine qt (.pointer (some j0)) Z (indexAddr (n:=a1.Brokers.length) underlying24 sz66 Z Z a7.1 a7.2 d9) (qt (a66_ (rd a1.Brokers l)) Z (loadMA (cs:=(l66 (rd a1.Brokers l))) ag66 sz66 Z hhas46) (qt (Bv (!(andL [decide (((rd a0.Brokers l).Id)=((rd a1.Brokers l).Id)),decide (((rd a0.Brokers l).Epoch)=((rd a1.Brokers l).Epoch)),((rd a0.Brokers l).Rack)==((rd a1.Brokers l).Rack),((rd a0.Brokers l).Fenced)==((rd a1.Brokers l).Fenced),((rd a0.Brokers l).Leaving)==((rd a1.Brokers l).Leaving)]))) Z (neqAgg eg66 Z Z (Qj8 underlying66 eq66 (EqFs.cons (by decide) pl3 Z Z (EqC.int underlying3) (EqFs.cons (by decide) pl3 Z Z (EqC.int underlying3) (EqFs.cons (by decide) pl9 Z Z (EqC.str underlying9) (EqFs.cons (by decide) pl4 Z Z (EqC.bool underlying4) (EqFs.cons (by decide) pl4 Z Z (EqC.bool underlying4) EqFs.nil))))))) (Ti (Tc (Ch h Z (fun g5 h=> ?_) (fun g5 h=> ?_))))))
 refine Sr (qa (Bv false) (Nt (Cr (Br (Tr (WQ.leaveR (inr ()) (oi h).symm (fun T=> ?_)))))))
 subst T
 have h:=(QdZ d2)
 refine Br (Tr ?_)
 have h:=KK.early h g2
 exact Dr (Dr (Rf h [] Z (Rs Z Z) (C.trans D) ⟨Z,Z⟩))
 exact Ck (Bn (Tc (Cg (qM (Iv l) w (qu (Iv (i64.wrap (l+1))) (add Z Z) (qa (Iv (i64.wrap (l+1))) (Wz (WQ.again (i64.wrap (l+1)) (oi h).symm ⟨D,Z,v,G,Z⟩))))))))
 refine WC.exit (WQ.thenE (WQ.leaveE (inl ()) (oi h).symm (fun T=> ?_)))
 subst T
 have h:=QeV d2
 exact WQ.blockH (WQ.thenFE h ⟨D,Z,v,G⟩)
 rintro _ l5 g6 l6 rfl ⟨e1,rfl,c0,c1⟩
 have c2:=C.trans e1
 have h:=(Sum.elim_inl _ _ _).symm.trans h
 obtain ⟨j1,g7,h⟩:=bnd h
 refine WC.joinE (fun(_:Unit) u R S=>g6.le R∧[(f, .cells (l29 a1 g i j k).toArray 29 (0,0))]::[(a, .cells (l29 a0 b c d e).toArray 29 (0,0))]::F=S∧u 2=(pt a 0)∧u 3=(pt f 0)) j1 ?_ ?_
 have g8:=h
 have h:=g7
 refine Sr (qa (Iv 0) (Nt (Bk ?_)))
 obtain ⟨l7,g9,d3⟩:=bnd h
 clear h
 refine WC.loop g9 (fun(t:Int) u R S=>g6.le R∧[(f, .cells (l29 a1 g i j k).toArray 29 (0,0))]::[(a, .cells (l29 a0 b c d e).toArray 29 (0,0))]::F=S∧u 2=(pt a 0)∧u 3=(pt f 0)∧u 6=(Iv t)) ?_ ?_
 exact⟨lr,Z,c0,c1,Z⟩
 rintro t l8 l9 m0 m1 h ⟨E,rfl,x,I,y⟩
 unfold QhB at h
 refine Cs (Sr (qM (Iv t) y (qu (pt a 1) (Fa QcB x Z) (qu c (Lb 1 pl25 Z Z Z) ?_))))
 have O:=O.mono (c2.trans E)
 refine qu (Iv (a0.Topics.length:Int)) (lenS underlying25 Z O.len) (qu (Bv (decide (t<(a0.Topics.length:Int)))) (lss Z Z) (Nt (Ch h Z (fun h0 h=> ?_) (fun h0 h=> ?_))))
 refine Ck (Tc (Cs (Bk (Cs (WC.draw [0,1,0,7,15,0,32,0,224,480,1023,2047] (.pure 0 (.pure 1 (.pure 2 (.pure 3 (.pure 4 (.pure 5 (.pure 6 (.pure 7 (.pure 8 (.pure 9 (.alt 10 (.pure 11 .done) .none))))))))))) Qc3 (by kernel_rfl) (qt (pt a 1) Z (Fa QcB x Z) (qt c Z (Lb 1 pl25 Z Z Z) (qt (Iv t) Z (Mv y) ?_))))))))
 obtain ⟨a8,h⟩:=Qa1 h
 obtain ⟨j2,k3,e2,e3,hhas58⟩:=O.at a8.1 a8.2 (by decide)
 obtain ⟨a9,rfl,c3⟩:=QaW e3
 refine qt (.pointer (some j2)) Z (indexAddr (n:=a0.Topics.length) underlying25 sz50 Z Z a8.1 a8.2 e2) (qt (a50_ (rd a0.Topics t) a9) Z (loadMA (cs:=(l50 (rd a0.Topics t) a9)) ag50 sz50 Z hhas58) (qt (pt f 1) Z (Fa QcB I Z) (qt i Z (Lb 0 pl25 Z Z Z) (qt (Iv t) Z (Mv y) ?_))))
 obtain ⟨b0,h⟩:=Qa1 h
 have a3:=a3.mono (c2.trans E)
 obtain ⟨j3,k4,e4,e5,hhas65⟩:=a3.at b0.1 b0.2 (by decide)
 obtain ⟨b1,rfl,c4⟩:=QaW e5
 refine qt (.pointer (some j3)) Z (indexAddr (n:=a1.Topics.length) underlying25 sz50 Z Z b0.1 b0.2 e4) (qt (a50_ (rd a1.Topics t) b1) Z (loadMA (cs:=(l50 (rd a1.Topics t) b1)) ag50 sz50 Z hhas65) ?_)
 obtain ⟨h1,h2,h⟩:=bnd h
 refine Ta Z (Ca co44 (QoR (rd a0.Topics t) (rd a1.Topics t) _ _ _ c3 c4 h1 h2) (QaS Z Z)) Z ?_ ?_
 rintro _ m2 _ b7 ⟨_,⟨rfl,rfl⟩,rfl⟩
 refine⟨(Sl Z), ?_⟩
 refine WT.a0 (qt (Bv (!h1)) Z (PO.not Z) (Ti (Tc (Ch h Z (fun h3 h=> ?_) (fun h3 h=> ?_)))))
 refine Sr (qa (Bv false) (Nt (Cr (Br (Tr (WQ.leaveR (inr ()) (oi h).symm (fun U=> ?_)))))))
 subst U
 have h:=(QdZ d3)
 refine Br (Tr ?_)
 have h:=KK.early h g8
 exact Dr (Dr (Rf h [] Z (Rs Z Z) ((c2.trans E).trans b7) ⟨Z,Z⟩))
 exact Ck (Bn (Tc (Cg (qM (Iv t) y (qu (Iv (i64.wrap (t+1))) (add Z Z) (qa (Iv (i64.wrap (t+1))) (Wz (WQ.again (i64.wrap (t+1)) (oi h).symm ⟨(E.trans b7),Z,x,I,Z⟩))))))))
 exact Tz
 refine WC.exit (WQ.thenE (WQ.leaveE (inl ()) (oi h).symm (fun U=> ?_)))
 subst U
 have h:=QeV d3
 exact WQ.blockH (WQ.thenFE h ⟨E,Z,x,I⟩)
 rintro _ m3 h4 m4 rfl ⟨e6,rfl,c5,c6⟩
 have h5:=c2.trans e6
 have h:=(Sum.elim_inl _ _ _).symm.trans h
 obtain ⟨j4,h6,h⟩:=bnd h
 refine WC.joinE (fun(_:Unit) u R S=>h4.le R∧[(f, .cells (l29 a1 g i j k).toArray 29 (0,0))]::[(a, .cells (l29 a0 b c d e).toArray 29 (0,0))]::F=S∧u 2=(pt a 0)∧u 3=(pt f 0)) j4 ?_ ?_
 have h7:=h
 have h:=h6
 refine Sr (qa (Iv 0) (Nt (Bk ?_)))
 obtain ⟨m5,h8,d4⟩:=bnd h
 clear h
 refine WC.loop h8 (fun(m:Int) u R S=>h4.le R∧[(f, .cells (l29 a1 g i j k).toArray 29 (0,0))]::[(a, .cells (l29 a0 b c d e).toArray 29 (0,0))]::F=S∧u 2=(pt a 0)∧u 3=(pt f 0)∧u 7=(Iv m)) ?_ ?_
 exact⟨lr,Z,c5,c6,Z⟩
 rintro m m6 m7 m8 m9 h ⟨V,rfl,z,J,A⟩
 have e7:=h5.trans V
 unfold QhC at h
 refine Cs (Sr (qM (Iv m) A (qu (pt a 2) (Fa QdY z Z) (qu d (Lb 1 pl26 Z Z Z) ?_))))
 have P:=P.mono e7
 refine qu (Iv (a0.Configs.length:Int)) (lenS underlying26 Z P.len) (qu (Bv (decide (m<(a0.Configs.length:Int)))) (lss Z Z) (Nt (Ch h Z (fun h9 h=> ?_) (fun h9 h=> ?_))))
 refine Ck (Tc (Cs (Bk (Cs (WC.draw [0,1,0,7,15,0,32,0,224,480,1023] (.pure 0 (.pure 1 (.pure 2 (.pure 3 (.pure 4 (.pure 5 (.pure 6 (.pure 7 (.pure 8 (.pure 9 (.pure 10 .done))))))))))) Qc3 (by kernel_rfl) (qt (pt a 2) Z (Fa QdY z Z) (qt d Z (Lb 1 pl26 Z Z Z) (qt (Iv m) Z (Mv A) ?_))))))))
 obtain ⟨b2,h⟩:=Qa1 h
 obtain ⟨j5,k5,e8,e9,hhas82⟩:=P.at b2.1 b2.2 (by decide)
 obtain rfl:=QbJ e9
 refine qt (.pointer (some j5)) Z (indexAddr (n:=a0.Configs.length) underlying26 sz74 Z Z b2.1 b2.2 e8) (qt (a74_ (rd a0.Configs m)) Z (loadMA (cs:=(l74 (rd a0.Configs m))) ag74 sz74 Z hhas82) (qt (pt f 2) Z (Fa QdY J Z) (qt j Z (Lb 0 pl26 Z Z Z) (qt (Iv m) Z (Mv A) ?_))))
 obtain ⟨b3,h⟩:=Qa1 h
 have a4:=a4.mono e7
 obtain ⟨j6,k6,f0,f1,hhas89⟩:=a4.at b3.1 b3.2 (by decide)
 obtain rfl:=QbJ f1
 refine qt (.pointer (some j6)) Z (indexAddr (n:=a1.Configs.length) underlying26 sz74 Z Z b3.1 b3.2 f0) (qt (a74_ (rd a1.Configs m)) Z (loadMA (cs:=(l74 (rd a1.Configs m))) ag74 sz74 Z hhas89) (qt (Bv (!(andL [decide (((rd a0.Configs m).Topic)=((rd a1.Configs m).Topic)),((rd a0.Configs m).Key)==((rd a1.Configs m).Key),((rd a0.Configs m).Value)==((rd a1.Configs m).Value)]))) Z (neqAgg eg74 Z Z (Qj8 underlying74 eq74 (EqFs.cons (by decide) pl3 Z Z (EqC.int underlying3) (EqFs.cons (by decide) pl9 Z Z (EqC.str underlying9) (EqFs.cons (by decide) pl9 Z Z (EqC.str underlying9) EqFs.nil))))) (Ti (Tc (Ch h Z (fun i0 h=> ?_) (fun i0 h=> ?_))))))
 refine Sr (qa (Bv false) (Nt (Cr (Br (Tr (WQ.leaveR (inr ()) (oi h).symm (fun W=> ?_)))))))
 subst W
 have h:=(QdZ d4)
 refine Br (Tr ?_)
 have h:=KK.early h h7
 exact Dr (Dr (Rf h [] Z (Rs Z Z) e7 ⟨Z,Z⟩))
 exact Ck (Bn (Tc (Cg (qM (Iv m) A (qu (Iv (i64.wrap (m+1))) (add Z Z) (qa (Iv (i64.wrap (m+1))) (Wz (WQ.again (i64.wrap (m+1)) (oi h).symm ⟨V,Z,z,J,Z⟩))))))))
 refine WC.exit (WQ.thenE (WQ.leaveE (inl ()) (oi h).symm (fun W=> ?_)))
 subst W
 have h:=QeV d4
 exact WQ.blockH (WQ.thenFE h ⟨V,Z,z,J⟩)
 rintro _ n0 i1 n1 rfl ⟨f2,rfl,c7,c8⟩
 have i2:=h5.trans f2
 have h:=(Sum.elim_inl _ _ _).symm.trans h
 obtain ⟨j7,i3,h⟩:=bnd h
 refine WC.joinE (fun(_:Unit) u R S=>i1.le R∧[(f, .cells (l29 a1 g i j k).toArray 29 (0,0))]::[(a, .cells (l29 a0 b c d e).toArray 29 (0,0))]::F=S) j7 ?_ ?_
 have i4:=h
 have h:=i3
 refine Sr (qa (Iv 0) (Nt (Bk ?_)))
 obtain ⟨n2,i5,d5⟩:=bnd h
 clear h
 refine WC.loop i5 (fun(o:Int) u R S=>i1.le R∧[(f, .cells (l29 a1 g i j k).toArray 29 (0,0))]::[(a, .cells (l29 a0 b c d e).toArray 29 (0,0))]::F=S∧u 2=(pt a 0)∧u 3=(pt f 0)∧u 8=(Iv o)) ?_ ?_
 exact⟨lr,Z,c7,c8,Z⟩
 rintro o n3 n4 n5 n6 h ⟨X,rfl,K,b4,B⟩
 have f3:=i2.trans X
 unfold QhD at h
 refine Cs (Sr (qM (Iv o) B (qu (pt a 3) (Fa QeO K Z) (qu e (Lb 1 pl27 Z Z Z) ?_))))
 have Q:=Q.mono f3
 refine qu (Iv (a0.Done.length:Int)) (lenS underlying27 Z Q.len) (qu (Bv (decide (o<(a0.Done.length:Int)))) (lss Z Z) (Nt (Ch h Z (fun i6 h=> ?_) (fun i6 h=> ?_))))
 refine Ck (Tc (Cs (Bk (Cs (WC.draw [0,1,0,7,15,0,32,0,224,480,1023] (.pure 0 (.pure 1 (.pure 2 (.pure 3 (.pure 4 (.pure 5 (.pure 6 (.pure 7 (.pure 8 (.pure 9 (.pure 10 .done))))))))))) Qc3 (by kernel_rfl) (qt (pt a 3) Z (Fa QeO K Z) (qt e Z (Lb 1 pl27 Z Z Z) (qt (Iv o) Z (Mv B) ?_))))))))
 obtain ⟨b5,h⟩:=Qa1 h
 obtain ⟨j8,k7,f4,c9,hhas101⟩:=Q.at b5.1 b5.2 (by decide)
 obtain rfl:=QcN c9
 refine qt (.pointer (some j8)) Z (indexAddr (n:=a0.Done.length) underlying27 sz78 Z Z b5.1 b5.2 f4) (qt (a78_ (rd a0.Done o)) Z (loadMA (cs:=(l78 (rd a0.Done o))) ag78 sz78 Z hhas101) (qt (pt f 3) Z (Fa QeO b4 Z) (qt k Z (Lb 0 pl27 Z Z Z) (qt (Iv o) Z (Mv B) ?_))))
 obtain ⟨L,h⟩:=Qa1 h
 have a5:=a5.mono f3
 obtain ⟨i7,j9,d0,d1,hhas108⟩:=a5.at L.1 L.2 (by decide)
 obtain rfl:=QcN d1
 refine qt (.pointer (some i7)) Z (indexAddr (n:=a1.Done.length) underlying27 sz78 Z Z L.1 L.2 d0) (qt (a78_ (rd a1.Done o)) Z (loadMA (cs:=(l78 (rd a1.Done o))) ag78 sz78 Z hhas108) (qt (Bv (!(andL [decide (((rd a0.Done o).Client)=((rd a1.Done o).Client)),decide (((rd a0.Done o).Serial)=((rd a1.Done o).Serial)),decide (((rd a0.Done o).Code)=((rd a1.Done o).Code))]))) Z (neqAgg eg78 Z Z (Qj8 underlying78 eq78 (EqFs.cons (by decide) pl3 Z Z (EqC.int underlying3) (EqFs.cons (by decide) pl3 Z Z (EqC.int underlying3) (EqFs.cons (by decide) pl3 Z Z (EqC.int underlying3) EqFs.nil))))) (Ti (Tc (Ch h Z (fun f5 h=> ?_) (fun f5 h=> ?_))))))
 refine Sr (qa (Bv false) (Nt (Cr (Br (Tr (WQ.leaveR (inr ()) (oi h).symm (fun Y=> ?_)))))))
 subst Y
 have h:=(QdZ d5)
 refine Br (Tr ?_)
 have h:=KK.early h i4
 exact Dr (Dr (Rf h [] Z (Rs Z Z) f3 ⟨Z,Z⟩))
 exact Ck (Bn (Tc (Cg (qM (Iv o) B (qu (Iv (i64.wrap (o+1))) (add Z Z) (qa (Iv (i64.wrap (o+1))) (Wz (WQ.again (i64.wrap (o+1)) (oi h).symm ⟨X,Z,K,b4,Z⟩))))))))
 refine WC.exit (WQ.thenE (WQ.leaveE (inl ()) (oi h).symm (fun Y=> ?_)))
 subst Y
 have h:=QeV d5
 exact WQ.blockH (WQ.thenFE h ⟨X,Z⟩)
 rintro _ n7 n8 n9 rfl ⟨f6,rfl⟩
 have h:=(Sum.elim_inl _ _ _).symm.trans h
 exact Sr (qa (Bv true) (Nt (Cr (Dr (Dr (Rf h [] Z (Rs Z Z) (i2.trans f6) ⟨Z,Z⟩))))))
noncomputable def QfY (a0:(List Int)) (a1:(List Int)) (b:Int):Option (Int⊕(Unit⊕Unit)):=
 match b with
 |a=>
 (if(decide (a<(a0.length:Int)))=true then(grd (0≤a∧a<a0.length) (grd (0≤a∧a<a1.length) (if(decide ((rd a0 a)≠(rd a1 a)))=true then(some (inr (inr ())))else(some (inl (i64.wrap (a+(1:Int))))))))else(some (inr (inl ()))))
noncomputable def QjY (a0:(List Int)) (a1:(List Int)):Option Bool:=
 (if(decide ((a0.length:Int)≠(a1.length:Int)))=true then(some false)else((((iter (QfY a0 a1) (0:Int)).bind (Sum.elim (fun _=>(some (inl ()))) (fun _=>(((some false)).bind fun r=>some (inr r))))):Option (Unit⊕Bool)).bind (Sum.elim (fun _=>(some true)) some)))
def Qr2 (a0:(List Int)) (a1:(List Int)) (c d:Value):Bool→Value→IM→HL→Prop:=
 fun(a:Bool) (v:Value) (e:IM) (b:HL)=>(.bool a)=v∧b=[]
theorem QuU (a0:(List Int)) (a1:(List Int)) (M:IM) (k r:Value) (s:RS (Kd.int .u8) M k a0) (A:RS (Kd.int .u8) M r a1) (t:Bool) (h:QjY a0 a1=some t):
 Tri prog 10 #[k,r] M [] (Qr2 a0 a1 k r t):=by
 unfold QjY at h
 refine Te func10 Z Z ?_
 intro F V B
 refine Sr (qa (Bv false) (Nt (Cs (Sr (qM k (B 0) (qu (Iv (a0.length:Int)) (lenS underlying22 Z s.len) (qM r (B 1) (qu (Iv (a1.length:Int)) (lenS underlying22 Z A.len) (qu (Bv (decide ((a0.length:Int)≠(a1.length:Int)))) (neq Z Z) (Nt (Ch h Z (fun u h=> ?_) (fun u h=> ?_))))))))))))
 exact Sr (qa (Bv false) (Nt (Cr (Tr (Rf h [] Z (Rs Z Z) lr ⟨Z,Z⟩)))))
 refine Ck (Tc ?_)
 obtain ⟨D,v,h⟩:=bnd h
 refine WC.joinE (fun(_:Unit) C E G=>M.le E∧F=G) D ?_ ?_
 have w:=h
 have h:=v
 refine Sr (qa (Iv 0) (Nt (Bk ?_)))
 obtain ⟨N,x,j⟩:=bnd h
 clear h
 refine WC.loop x (fun(a:Int) C E G=>M.le E∧F=G∧C 0=k∧C 1=r∧C 5=(Iv a)) ?_ ?_
 exact⟨lr,Z,(B 0),(B 1),Z⟩
 rintro a O P Q R h ⟨c,rfl,d,f,b⟩
 unfold QfY at h
 refine Cs (Sr (qM (Iv a) b (qM k d ?_)))
 have s:=s.mono c
 refine qu (Iv (a0.length:Int)) (lenS underlying22 Z s.len) (qu (Bv (decide (a<(a0.length:Int)))) (lss Z Z) (Nt (Ch h Z (fun y h=> ?_) (fun y h=> ?_))))
 refine Ck (Tc (Cs (Bk (Cs (WC.draw [0,0,3,7,0,0,48,112,255] (.pure 0 (.pure 1 (.pure 2 (.pure 3 (.pure 4 (.pure 5 (.pure 6 (.pure 7 (.pure 8 .done))))))))) Qc3 (by kernel_rfl) (qt k Z (Mv d) (qt (Iv a) Z (Mv b) ?_)))))))
 obtain ⟨g,h⟩:=Qa1 h
 obtain ⟨I,K,l,m,hhas31⟩:=s.at g.1 g.2 (by decide)
 obtain rfl:=m
 refine qt (.pointer (some I)) Z (indexAddr (n:=a0.length) underlying22 sz5 Z Z g.1 g.2 l) (qt (Yv (rd a0 a)) Z (loadM pl5 Z (IM.has0 hhas31)) (qt r Z (Mv f) (qt (Iv a) Z (Mv b) ?_)))
 obtain ⟨i,h⟩:=Qa1 h
 have A:=A.mono c
 obtain ⟨J,L,o,p,hhas38⟩:=A.at i.1 i.2 (by decide)
 obtain rfl:=p
 refine qt (.pointer (some J)) Z (indexAddr (n:=a1.length) underlying22 sz5 Z Z i.1 i.2 o) (qt (Yv (rd a1 a)) Z (loadM pl5 Z (IM.has0 hhas38)) (qt (Bv (decide ((rd a0 a)≠(rd a1 a)))) Z (neq Z Z) (Ti (Tc (Ch h Z (fun z h=> ?_) (fun z h=> ?_))))))
 refine Sr (qa (Bv false) (Nt (Cr (Br (Tr (WQ.leaveR (inr ()) (oi h).symm (fun e=> ?_)))))))
 subst e
 have h:=(QdZ j)
 refine Br (Tr ?_)
 have h:=KK.early h w
 exact Rf h [] Z (Rs Z Z) c ⟨Z,Z⟩
 exact Ck (Bn (Tc (Cg (qM (Iv a) b (qu (Iv (i64.wrap (a+1))) (add Z Z) (qa (Iv (i64.wrap (a+1))) (Wz (WQ.again (i64.wrap (a+1)) (oi h).symm ⟨c,Z,d,f,Z⟩))))))))
 refine WC.exit (WQ.thenE (WQ.leaveE (inl ()) (oi h).symm (fun e=> ?_)))
 subst e
 have h:=QeV j
 exact WQ.blockH (WQ.thenFE h ⟨c,Z⟩)
 rintro _ S T U rfl ⟨q,rfl⟩
 have h:=(Sum.elim_inl _ _ _).symm.trans h
 exact Sr (qa (Bv true) (Nt (Cr (Rf h [] Z (Rs Z Z) q ⟨Z,Z⟩))))
noncomputable def QhU (a0:(List Int)):Option Bool:=
 (if(decide ((2000:Int)<(a0.length:Int)))=true then((QhY).bind fun f=>(some f))else((QhJ a0).bind fun(a,b)=>((QiJ a0).bind fun(g,i)=>((((Qe8 b i).bind fun j=>(if(!j)=true then(some true)else((QiK a g).bind fun k=>(some (!k))))):Option Bool).bind fun l=>(if l=true then(some false)else(if(!b.isNil)=true then((QhY).bind fun m=>(some m))else((QjK a).bind fun(n,o)=>(((if o.isNil=true then((QjY a0 n).bind fun c=>(if c=true then((QhY).bind fun d=>(some d))else(some false)))else(some false)):Option Bool).bind fun e=>(some e)))))))))
def Qm2 (a0:(List Int)) (c:Value):Bool→Value→IM→HL→Prop:=
 fun(a:Bool) (v:Value) (d:IM) (b:HL)=>(.bool a)=v∧b=[]
theorem QoS (a0:(List Int)) (M:IM) (v0:Value) (h0:RS (Kd.int .u8) M v0 a0) (hE:Env M) (c5:Bool) (h:QhU a0=some c5):
 Tri prog 3 #[v0] M [] (Qm2 a0 v0 c5):=by
 unfold QhU at h
 refine Te func3 Z Z ?_
 intro F ρ c6
 refine Sr (qa (Bv false) (Nt (Cs (Sr (qM v0 (c6 0) (qu (Iv (a0.length:Int)) (lenS underlying22 Z h0.len) (qu (Bv (decide ((2000:Int)<(a0.length:Int)))) (gtr Z Z) (Nt (Ch h Z (fun c7 h=> ?_) (fun c7 h=> ?_))))))))))
 refine Sr ?_
 obtain ⟨c8,c9,h⟩:=bnd h
 refine We (Ca co4 (QkF _ c8 c9) (QmW)) Z ?_
 rintro _ j7 _ b3 ⟨_,⟨rfl,rfl⟩,rfl⟩
 exact WL.a0 (qa (Bv c8) (Nt (Cr (Tr (Rf h [] Z (Rs Z Z) b3 ⟨Z,Z⟩)))))
 refine Ck (Tc (Sr (qM v0 (c6 0) ?_)))
 obtain ⟨⟨r,I⟩,d0,h⟩:=bnd h
 refine We (Ca co5 (QlL a0 _ _ h0 (r,I) d0) (Qb2 Z)) Z ?_
 rintro _ j8 _ C ⟨_,⟨a,y,b,z,c,A,d,B,rfl,rfl,f,g,i,j⟩,rfl⟩
 refine WL.a4 (qm (.tuple #[(a29_ r a b c d),(GV I)]) (qu (a29_ r a b c d) (Xt Z Z) (qu (GV I) (Xt Z Z) (We (Al ze29 Z) Z ?_))))
 rintro _ _ _ - ⟨rfl,b4,rfl,rfl⟩
 refine We (Sg (v:=(a29_ r a b c d)) (vl:=(l29 r a b c d)) (arr':=(l29 r a b c d)) Z sz29 Z Z (QaX (Oc (Ow f) (Oc (Ow g) (Oc (Ow i) (Oc (Ow j) (Oc Z Oz)))))) Z Z Z) Z ?_
 rintro _ _ _ - ⟨rfl,rfl⟩
 refine qa (GV I) (Ns (qM v0 (c6 0) ?_))
 obtain ⟨⟨D,E⟩,d1,h⟩:=bnd h
 have h0:=h0.mono C
 refine We (Ca co6 (QuQ a0 _ _ h0 (D,E) d1) (Qb2 Z)) Z ?_
 rintro _ e9 _ e ⟨_,⟨k,N,l,O,m,P,n,Q,rfl,rfl,s,t,u,w⟩,rfl⟩
 refine WL.a4 (qm (.tuple #[(a29_ D k l m n),(a36_ E)]) (qu (a29_ D k l m n) (Xt Z Z) (qu (a36_ E) (Xt Z Z) (We (Al ze29 Z) Z ?_))))
 rintro _ _ _ - ⟨rfl,d2,rfl,rfl⟩
 refine We (Al ze36 Z) Z ?_
 rintro _ _ _ - ⟨rfl,d3,rfl,rfl⟩
 refine WL.f1 (We (Sg (v:=(a29_ D k l m n)) (vl:=(l29 D k l m n)) (arr':=(l29 D k l m n)) Z sz29 Z Z (QaX (Oc (Ow s) (Oc (Ow t) (Oc (Ow u) (Oc (Ow w) (Oc Z Oz)))))) Z Z Z) Z ?_)
 rintro _ _ _ - ⟨rfl,rfl⟩
 refine WL.f1 (We (Sg (v:=(a36_ E)) (vl:=(l36 E)) (arr':=(l36 E)) Z sz36 Z Z (onb Z) Z Z Z) Z ?_)
 rintro _ _ _ - ⟨rfl,rfl⟩
 refine Nt (Cs ?_)
 obtain ⟨b5,d4,h⟩:=bnd h
 refine Jf (fun(b5:Bool) c4 M' H'=>e9.le M'∧[(d3, .cells (l36 E).toArray 36 (0,0))]::[(d2, .cells (l29 D k l m n).toArray 29 (0,0))]::[(b4, .cells (l29 r a b c d).toArray 29 (0,0))]::N::O::P::Q::y::z::A::B::F=H'∧c4 0=v0∧c4 3=(pt b4 0)∧c4 4=(GV I)∧c4 32=(Bv b5)) b5 ?_ ?_
 have h:=d4
 refine Cg (qm (GV I) (qu (a36_ E) (La (cs:=(l36 E)) 0 ag36 sz36 Z Z Z) ?_))
 obtain ⟨b6,d5,h⟩:=bnd h
 have hE:=hE.mono (C.trans e)
 refine We (Ca co7 (QtH I E _ hE b6 d5) (QaS Z Z)) Z ?_
 rintro _ j9 _ o ⟨_,⟨rfl,rfl⟩,rfl⟩
 refine WL.a0 (qu (Bv (!b6)) (PO.not Z) (qm (Bv (!b6)) ?_))
 rcases Bi h with⟨x,h⟩ |⟨x,h⟩
 iterate 4 refine Of 27 Z Z x Z ?_
 refine qu (Bv true) (Pt Z x Z) (Wz (WQ.f10 (WQ.f10 (WQ.f10 (WQ.f10 (WQ.f9 (WQ.f9 (WQ.f9 (WQ.f9 (WQ.f10 (WQ.f10 ?_)))))))))))
 refine WQ.f10 ?_
 obtain rfl:=oi h
 exact Tj ⟨o,Z,(c6 0),Z,Z,Z⟩
 refine qo 27 x (a29_ r a b c d) (La (cs:=(l29 r a b c d)) 6 ag29 sz29 Z Z Z) (qo 27 x (a29_ D k l m n) (La (cs:=(l29 D k l m n)) 1 ag29 sz29 Z Z Z) (On 27 Z Z x ?_))
 obtain ⟨b7,d6,h⟩:=bnd h
 refine WL.f5 (WL.f5 (WL.f5 (WL.f5 (WL.f10 (WL.f10 (WL.f10 (WL.f10 ?_)))))))
 have f:=f.mono (e.trans o)
 have g:=g.mono (e.trans o)
 have i:=i.mono (e.trans o)
 have j:=j.mono (e.trans o)
 have s:=s.mono o
 have t:=t.mono o
 have u:=u.mono o
 have w:=w.mono o
 refine We (EO.call8 co8 (Tri.lend f.excl fun d7 d8 J=>(Tri.lend g.excl fun w1_ H1_ hs1_=>(Tri.lend i.excl fun w2_ H2_ hs2_=>(Tri.lend j.excl fun w3_ H3_ hs3_=>(Tri.lend s.excl fun w4_ H4_ hs4_=>(Tri.lend t.excl fun w5_ H5_ hs5_=>(Tri.lend u.excl fun w6_ H6_ hs6_=>(Tri.lend w.excl fun w7_ H7_ hs7_=>(QuT r D _ _ _ _ _ _ _ _ _ ((((((((f.rs J).mono (IM.le_add _ _)).mono (IM.le_add _ _)).mono (IM.le_add _ _)).mono (IM.le_add _ _)).mono (IM.le_add _ _)).mono (IM.le_add _ _)).mono (IM.le_add _ _)) ((((((((g.mono (IM.le_add _ _)).rs hs1_).mono (IM.le_add _ _)).mono (IM.le_add _ _)).mono (IM.le_add _ _)).mono (IM.le_add _ _)).mono (IM.le_add _ _)).mono (IM.le_add _ _)) ((((((((i.mono (IM.le_add _ _)).mono (IM.le_add _ _)).rs hs2_).mono (IM.le_add _ _)).mono (IM.le_add _ _)).mono (IM.le_add _ _)).mono (IM.le_add _ _)).mono (IM.le_add _ _)) ((((((((j.mono (IM.le_add _ _)).mono (IM.le_add _ _)).mono (IM.le_add _ _)).rs hs3_).mono (IM.le_add _ _)).mono (IM.le_add _ _)).mono (IM.le_add _ _)).mono (IM.le_add _ _)) ((((((((s.mono (IM.le_add _ _)).mono (IM.le_add _ _)).mono (IM.le_add _ _)).mono (IM.le_add _ _)).rs hs4_).mono (IM.le_add _ _)).mono (IM.le_add _ _)).mono (IM.le_add _ _)) ((((((((t.mono (IM.le_add _ _)).mono (IM.le_add _ _)).mono (IM.le_add _ _)).mono (IM.le_add _ _)).mono (IM.le_add _ _)).rs hs5_).mono (IM.le_add _ _)).mono (IM.le_add _ _)) ((((((((u.mono (IM.le_add _ _)).mono (IM.le_add _ _)).mono (IM.le_add _ _)).mono (IM.le_add _ _)).mono (IM.le_add _ _)).mono (IM.le_add _ _)).rs hs6_).mono (IM.le_add _ _)) ((((((((w.mono (IM.le_add _ _)).mono (IM.le_add _ _)).mono (IM.le_add _ _)).mono (IM.le_add _ _)).mono (IM.le_add _ _)).mono (IM.le_add _ _)).mono (IM.le_add _ _)).rs hs7_) b7 d6))))))))) (QaS Z Z)) Z ?_
 rintro _ _ _ b8 ⟨_,⟨h4,h5,f6,rfl,rfl,⟨h6,h7,f8,rfl,rfl,⟨h8,h9,g0,rfl,rfl,⟨i0,i1,g1,rfl,rfl,⟨i2,i3,g2,rfl,rfl,⟨i4,i5,g3,rfl,rfl,⟨i6,i7,g4,rfl,rfl,⟨i8,i9,g5,rfl,rfl,⟨rfl,rfl⟩⟩⟩⟩⟩⟩⟩⟩⟩,rfl⟩
 refine WL.a8 (qo 27 x (Bv (!b7)) (PO.not Z) (qu (Bv (!b7)) (Pf Z x Z) (Wz (WQ.f3 (WQ.f3 (WQ.f3 (WQ.f3 (WQ.f7 (WQ.f7 (WQ.f7 (WQ.f7 ?_)))))))))))
 refine WQ.f10 (WQ.f10 (WQ.f10 ?_))
 obtain rfl:=oi h
 exact Tj ⟨(o.trans b8),Z,(c6 0),Z,Z,Z⟩
 rintro k0 k1 k2 ⟨p,rfl,a2,a3,a6,T⟩
 refine Ch h T (fun d9 h=> ?_) (fun d9 h=> ?_)
 refine Sr (qa (Bv false) (Nt (Cr (Tr (Dr (Dr (Dr (Dr (Dr (Dr (Dr ?_)))))))))))
 exact Dr (Dr (Dr (Dr (Rf h [] Z (Rs Z Z) ((C.trans e).trans p) ⟨Z,Z⟩))))
 refine Ck (Tc (Cs (Sr (qM (GV I) a6 (qu (Bv (!I.isNil)) (errNotNil underlying31 Z) (Nt (Ch h Z (fun e0 h=> ?_) (fun e0 h=> ?_))))))))
 refine Sr ?_
 obtain ⟨e1,e2,h⟩:=bnd h
 refine We (Ca co4 (QkF _ e1 e2) (QmW)) Z ?_
 rintro _ k3 _ b9 ⟨_,⟨rfl,rfl⟩,rfl⟩
 refine WL.a0 (qa (Bv e1) (Nt (Cr (Tr (Dr (Dr (Dr (Dr (Dr (Dr (Dr ?_)))))))))))
 exact Dr (Dr (Dr (Dr (Rf h [] Z (Rs Z Z) (((C.trans e).trans p).trans b9) ⟨Z,Z⟩))))
 refine Ck (Tc (Sr (qu (a29_ r a b c d) (La (cs:=(l29 r a b c d)) 2 ag29 sz29 a3 Z Z) ?_)))
 obtain ⟨⟨c0,L⟩,e3,h⟩:=bnd h
 refine WL.f10 (WL.f10 (WL.f10 (WL.f10 ?_)))
 have f:=f.mono (e.trans p)
 have g:=g.mono (e.trans p)
 have i:=i.mono (e.trans p)
 have j:=j.mono (e.trans p)
 refine We (EO.call4 co9 (Tri.lend f.excl fun d7 d8 J=>(Tri.lend g.excl fun w1_ H1_ hs1_=>(Tri.lend i.excl fun w2_ H2_ hs2_=>(Tri.lend j.excl fun w3_ H3_ hs3_=>(Qq1 r _ _ _ _ _ ((((f.rs J).mono (IM.le_add _ _)).mono (IM.le_add _ _)).mono (IM.le_add _ _)) ((((g.mono (IM.le_add _ _)).rs hs1_).mono (IM.le_add _ _)).mono (IM.le_add _ _)) ((((i.mono (IM.le_add _ _)).mono (IM.le_add _ _)).rs hs2_).mono (IM.le_add _ _)) ((((j.mono (IM.le_add _ _)).mono (IM.le_add _ _)).mono (IM.le_add _ _)).rs hs3_) (c0,L) e3))))) (Qb2 Z)) Z ?_
 rintro _ _ _ U ⟨_,⟨g6,g7,e5,rfl,rfl,⟨g8,g9,e6,rfl,rfl,⟨j0,j1,e7,rfl,rfl,⟨b2,j2,h1,rfl,rfl,⟨K,e4,rfl,rfl,R⟩⟩⟩⟩⟩,rfl⟩
 have R:OwnS (Kd.int .u8) ((((b2.minus B).minus A).minus z).minus y) K c0 e4:=R.any (Kd.int_flat _)
 refine WL.a5 (qm (.tuple #[K,(GV L)]) (qu K (Xt Z Z) (qu (GV L) (Xt Z Z) (qa K (qa (GV L) (Nt ?_))))))
 obtain ⟨V,c1,h⟩:=bnd h
 refine Jf (fun(V:Bool) c4 M' H'=>((((b2.minus B).minus A).minus z).minus y).le M'∧[(d3, .cells (l36 E).toArray 36 (0,0))]::[(d2, .cells (l29 D k l m n).toArray 29 (0,0))]::[(b4, .cells (l29 r a b c d).toArray 29 (0,0))]::N::O::P::Q::y::z::A::B::F=H'∧c4 2=(Bv V)) V ?_ ?_
 have h:=c1
 refine Cg (qm (GV L) (qu (Bv L.isNil) (errNil underlying31 Z) (qm (Bv L.isNil) ?_)))
 rcases Bi h with⟨q,h⟩ |⟨q,h⟩
 refine On 43 Z Z q (qM v0 a2 (On 43 Z Z q (qm K (On 43 Z Z q ?_))))
 obtain ⟨W,c2,h⟩:=bnd h
 refine WL.f4 ?_
 have h0:=h0.mono ((e.trans p).trans U)
 refine We (Cb co10 (Tri.lend R.excl fun d7 d8 J=>(QuU a0 c0 _ _ _ (h0.mono (IM.le_add _ _)) (R.rs J) W c2)) (QaS Z Z)) Z ?_
 rintro _ _ _ S ⟨_,⟨h2,h3,e8,rfl,rfl,⟨rfl,rfl⟩⟩,rfl⟩
 refine WL.a1 (qu (Bv W) (Pt Z q Z) (qm (Bv W) ?_))
 rcases Bi h with⟨G,h⟩ |⟨G,h⟩
 refine On 48 Z Z G ?_
 obtain ⟨X,c3,h⟩:=bnd h
 refine We (Ca co4 (QkF _ X c3) (QmW)) Z ?_
 rintro _ j3 _ a7 ⟨_,⟨rfl,rfl⟩,rfl⟩
 refine WL.a0 (qu (Bv X) (Pt Z G Z) (qa (Bv X) (Wz (Dr (WQ.f3 (WQ.f3 (WQ.f3 (WQ.f3 (WQ.f10 (WQ.f10 (WQ.f10 ?_)))))))))))
 refine WQ.f10 (WQ.f10 (WQ.f10 (WQ.f10 ?_)))
 obtain rfl:=oi h
 exact Tj ⟨(S.trans a7),Z,Z⟩
 refine Of 48 Z Z G Z (qu (Bv false) (Pf Z G Z) (qa (Bv false) (Wz (Dr (WQ.f3 (WQ.f3 (WQ.f3 (WQ.f3 (WQ.f10 (WQ.f10 (WQ.f10 ?_)))))))))))
 refine WQ.f10 (WQ.f10 (WQ.f10 (WQ.f10 ?_)))
 obtain rfl:=oi h
 exact Tj ⟨S,Z,Z⟩
 iterate 3 refine Of 43 Z Z q Z ?_
 refine qu (Bv false) (Pf Z q Z) (qm (Bv false) (Of 48 Z Z Z Z (qu (Bv false) (Pf Z Z Z) (qa (Bv false) (Wz (WQ.f4 (Dr (WQ.f3 (WQ.f3 (WQ.f3 (WQ.f3 ?_)))))))))))
 refine WQ.f10 (WQ.f10 (WQ.f10 (WQ.f10 (WQ.f10 (WQ.f10 (WQ.f10 ?_))))))
 obtain rfl:=oi h
 exact Tj ⟨lr,Z,Z⟩
 rintro j4 j5 j6 ⟨a9,rfl,Y⟩
 refine Cr (Dr (Dr (Dr (Dr (Dr (Dr (Dr (Dr (Dr (Dr (Dr ?_)))))))))))
 exact Rf h [] Z (Rs Z Y) ((((C.trans e).trans p).trans U).trans a9) ⟨Z,Z⟩

end Go.Proofs.YtfkmkgpoddbbfaaGreatDoor.G
