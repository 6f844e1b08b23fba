/- Go functions: what they come to, and that they do. Printed by a program of the session (gen). -/
import Derived.Test.YtpcbipcdfccnnaaGreatDoorPF
import Derived.Test.YtpcbipcdfccnnaaGreatDoorP0
import Derived.Test.YtpcbipcdfccnnaaGreatDoorP6
import Derived.Test.YtpcbipcdfccnnaaGreatDoorP7
import Derived.Test.YtpcbipcdfccnnaaGreatDoorP8
import Derived.Test.YtpcbipcdfccnnaaGreatDoorP9
import Derived.Test.YtpcbipcdfccnnaaGreatDoorKShar2
import Derived.Test.YtpcbipcdfccnnaaGreatDoorKConv
import Derived.Test.YtpcbipcdfccnnaaGreatDoorKMap
import Derived.Test.YtpcbipcdfccnnaaGreatDoorKTight2
set_option linter.unusedVariables false
set_option linter.unusedSimpArgs false
set_option maxHeartbeats 8000000
set_option maxRecDepth 100000
namespace Go.Proofs.YtpcbipcdfccnnaaGreatDoor.G
open Go Go.KK
open PO EO IntKind Sum Tryz

noncomputable def QhB (a0:QaA) (a1:QaA) (s_:Int):Option (Int⊕(Unit⊕Unit)):=
 match s_ with
 |a=>
 (if(decide (a<(a0.Brokers.length:Int)))=true then(grd (0≤a∧a<a0.Brokers.length) (grd (0≤a∧a<a1.Brokers.length) (if(!(andL [decide (((rd a0.Brokers a).Id)=((rd a1.Brokers a).Id)),decide (((rd a0.Brokers a).Epoch)=((rd a1.Brokers a).Epoch)),((rd a0.Brokers a).Rack)==((rd a1.Brokers a).Rack),((rd a0.Brokers a).Fenced)==((rd a1.Brokers a).Fenced),((rd a0.Brokers a).Leaving)==((rd a1.Brokers a).Leaving)]))=true then(some (inr (inr ())))else(some (inl (i64.wrap (a+(1:Int))))))))else(some (inr (inl ()))))
noncomputable def QhC (a0:QaA) (a1:QaA) (s_:Int):Option (Int⊕(Unit⊕Unit)):=
 match s_ with
 |a=>
 (if(decide (a<(a0.Topics.length:Int)))=true then(grd (0≤a∧a<a0.Topics.length) (grd (0≤a∧a<a1.Topics.length) ((QfO (rd a0.Topics a) (rd a1.Topics a)).bind fun b=>(if(!b)=true then(some (inr (inr ())))else(some (inl (i64.wrap (a+(1:Int)))))))))else(some (inr (inl ()))))
noncomputable def QhD (a0:QaA) (a1:QaA) (s_:Int):Option (Int⊕(Unit⊕Unit)):=
 match s_ with
 |a=>
 (if(decide (a<(a0.Configs.length:Int)))=true then(grd (0≤a∧a<a0.Configs.length) (grd (0≤a∧a<a1.Configs.length) (if(!(andL [decide (((rd a0.Configs a).Topic)=((rd a1.Configs a).Topic)),((rd a0.Configs a).Key)==((rd a1.Configs a).Key),((rd a0.Configs a).Value)==((rd a1.Configs a).Value)]))=true then(some (inr (inr ())))else(some (inl (i64.wrap (a+(1:Int))))))))else(some (inr (inl ()))))
noncomputable def QhE (a0:QaA) (a1:QaA) (s_:Int):Option (Int⊕(Unit⊕Unit)):=
 match s_ with
 |a=>
 (if(decide (a<(a0.Done.length:Int)))=true then(grd (0≤a∧a<a0.Done.length) (grd (0≤a∧a<a1.Done.length) (if(!(andL [decide (((rd a0.Done a).Client)=((rd a1.Done a).Client)),decide (((rd a0.Done a).Serial)=((rd a1.Done a).Serial)),decide (((rd a0.Done a).Code)=((rd a1.Done a).Code))]))=true then(some (inr (inr ())))else(some (inl (i64.wrap (a+(1:Int))))))))else(some (inr (inl ()))))
noncomputable def Qj9 (a0:QaA) (a1:QaA):Option Bool:=
 (((if(decide (a0.Last≠a1.Last))=true then(some true)else(if(decide ((a0.Brokers.length:Int)≠(a1.Brokers.length:Int)))=true then(some true)else(if(decide ((a0.Topics.length:Int)≠(a1.Topics.length:Int)))=true then(some true)else(if(decide ((a0.Configs.length:Int)≠(a1.Configs.length:Int)))=true then(some true)else(some (decide ((a0.Done.length:Int)≠(a1.Done.length:Int)))))))):Option Bool).bind fun a=>(if a=true then(some false)else((((iter (QhB a0 a1) (0:Int)).bind (Sum.elim (fun _=>(some (inl ()))) (fun _=>(((some false)).bind fun r=>some (inr r))))):Option (Unit⊕Bool)).bind (Sum.elim (fun _=>((((iter (QhC a0 a1) (0:Int)).bind (Sum.elim (fun _=>(some (inl ()))) (fun _=>(((some false)).bind fun r=>some (inr r))))):Option (Unit⊕Bool)).bind (Sum.elim (fun _=>((((iter (QhD a0 a1) (0:Int)).bind (Sum.elim (fun _=>(some (inl ()))) (fun _=>(((some false)).bind fun r=>some (inr r))))):Option (Unit⊕Bool)).bind (Sum.elim (fun _=>((((iter (QhE a0 a1) (0:Int)).bind (Sum.elim (fun _=>(some (inl ()))) (fun _=>(((some false)).bind fun r=>some (inr r))))):Option (Unit⊕Bool)).bind (Sum.elim (fun _=>(some true)) some))) some))) some))) some))))
def Qr2 (a0:QaA) (a1:QaA) (a b c d e f g i:Value):Bool→Value→IM→HL→Prop:=
 fun(j:Bool) (v:Value) (M':IM) (H':HL)=>(.bool j)=v∧H'=[]
theorem QuQ (a0:QaA) (a1:QaA) (M:IM) (b c d e g i j k:Value) (L:RS QaD M b a0.Brokers) (N:RS QaG M c a0.Topics) (O:RS QaF M d a0.Configs) (P:RS QaI M e a0.Done) (W:RS QaD M g a1.Brokers) (X:RS QaG M i a1.Topics) (Y:RS QaF M j a1.Configs) (a2:RS QaI M k a1.Done) (res:Bool) (h:Qj9 a0 a1=some res):
 Tri prog 15 #[(a27_ a0 b c d e),(a27_ a1 g i j k)] M [] (Qr2 a0 a1 b c d e g i j k res):=by
 unfold Qj9 at h
 refine Te func15 Z Z ?_
 intro F ρ hρ
 refine Sr (We (box (cs:=(l27 a0 b c d e).toArray) (congrArg Value.cells (asE (a27_ a0 b c d e) (hρ 0)))) Z ?_)
 rintro _ _ _ - ⟨rfl,a,rfl,rfl⟩
 refine We (box (cs:=(l27 a1 g i j k).toArray) (congrArg Value.cells (asE (a27_ a1 g i j k) (hρ 1)))) Z ?_
 rintro _ _ _ - ⟨rfl,f,rfl,rfl⟩
 refine qa (Bv false) (Nt (Cs ?_))
 obtain ⟨d3,f4,h⟩:=bnd h
 refine Jf (fun(d3:Bool) ρ' M' H'=>M.le M'∧[(f, .cells (l27 a1 g i j k).toArray 27 (0,0))]::[(a, .cells (l27 a0 b c d e).toArray 27 (0,0))]::F=H'∧ρ' 2=(pt a 0)∧ρ' 3=(pt f 0)∧ρ' 49=(Bv d3)) d3 ?_ ?_
 have h:=f4
 refine Cg (qu (pt a 4) (Fa QmS Z Z) (qu (Iv a0.Last) (Lb 1 pl3 Z Z Z) (qu (pt f 4) (Fa QmS Z Z) (qu (Iv a1.Last) (Lb 0 pl3 Z Z Z) (qu (Bv (decide (a0.Last≠a1.Last))) (neq Z Z) (qm (Bv (decide (a0.Last≠a1.Last))) ?_))))))
 rcases Bi h with⟨p,h⟩ |⟨p,h⟩
 iterate 7 refine Of 14 Z Z p Z ?_
 refine qu (Bv true) (Pt Z p Z) (qm (Bv true) ?_)
 iterate 7 refine Of 23 Z Z Z Z ?_
 refine qu (Bv true) (Pt Z Z Z) (qm (Bv true) ?_)
 iterate 7 refine Of 32 Z Z Z Z ?_
 refine qu (Bv true) (Pt Z Z Z) (qm (Bv true) ?_)
 iterate 7 refine Of 41 Z Z Z Z ?_
 refine qu (Bv true) (Pt Z Z Z) (Wz ?_)
 obtain rfl:=oi h
 exact Tj ⟨lr,Z,Z,Z,Z⟩
 refine qo 14 p (pt a 0) (Fa QdN Z Z) (qo 14 p b (Lb 1 pl22 Z Z Z) (qo 14 p (Iv (a0.Brokers.length:Int)) (lenS underlying22 Z L.len) (qo 14 p (pt f 0) (Fa QdN Z Z) (qo 14 p g (Lb 0 pl22 Z Z Z) (qo 14 p (Iv (a1.Brokers.length:Int)) (lenS underlying22 Z W.len) (qo 14 p (Bv (decide ((a0.Brokers.length:Int)≠(a1.Brokers.length:Int)))) (neq Z Z) (qu (Bv (decide ((a0.Brokers.length:Int)≠(a1.Brokers.length:Int)))) (Pf Z p Z) (qm (Bv (decide ((a0.Brokers.length:Int)≠(a1.Brokers.length:Int)))) ?_))))))))
 rcases Bi h with⟨q,h⟩ |⟨q,h⟩
 iterate 7 refine Of 23 Z Z q Z ?_
 refine qu (Bv true) (Pt Z q Z) (qm (Bv true) ?_)
 iterate 7 refine Of 32 Z Z Z Z ?_
 refine qu (Bv true) (Pt Z Z Z) (qm (Bv true) ?_)
 iterate 7 refine Of 41 Z Z Z Z ?_
 refine qu (Bv true) (Pt Z Z Z) (Wz ?_)
 obtain rfl:=oi h
 exact Tj ⟨lr,Z,Z,Z,Z⟩
 refine qo 23 q (pt a 1) (Fa QbW Z Z) (qo 23 q c (Lb 1 pl23 Z Z Z) (qo 23 q (Iv (a0.Topics.length:Int)) (lenS underlying23 Z N.len) (qo 23 q (pt f 1) (Fa QbW Z Z) (qo 23 q i (Lb 0 pl23 Z Z Z) (qo 23 q (Iv (a1.Topics.length:Int)) (lenS underlying23 Z X.len) (qo 23 q (Bv (decide ((a0.Topics.length:Int)≠(a1.Topics.length:Int)))) (neq Z Z) (qu (Bv (decide ((a0.Topics.length:Int)≠(a1.Topics.length:Int)))) (Pf Z q Z) (qm (Bv (decide ((a0.Topics.length:Int)≠(a1.Topics.length:Int)))) ?_))))))))
 rcases Bi h with⟨r,h⟩ |⟨r,h⟩
 iterate 7 refine Of 32 Z Z r Z ?_
 refine qu (Bv true) (Pt Z r Z) (qm (Bv true) ?_)
 iterate 7 refine Of 41 Z Z Z Z ?_
 refine qu (Bv true) (Pt Z Z Z) (Wz ?_)
 obtain rfl:=oi h
 exact Tj ⟨lr,Z,Z,Z,Z⟩
 refine qo 32 r (pt a 2) (Fa Qc5 Z Z) (qo 32 r d (Lb 1 pl24 Z Z Z) (qo 32 r (Iv (a0.Configs.length:Int)) (lenS underlying24 Z O.len) (qo 32 r (pt f 2) (Fa Qc5 Z Z) (qo 32 r j (Lb 0 pl24 Z Z Z) (qo 32 r (Iv (a1.Configs.length:Int)) (lenS underlying24 Z Y.len) (qo 32 r (Bv (decide ((a0.Configs.length:Int)≠(a1.Configs.length:Int)))) (neq Z Z) (qu (Bv (decide ((a0.Configs.length:Int)≠(a1.Configs.length:Int)))) (Pf Z r Z) (qm (Bv (decide ((a0.Configs.length:Int)≠(a1.Configs.length:Int)))) ?_))))))))
 rcases Bi h with⟨s,h⟩ |⟨s,h⟩
 iterate 7 refine Of 41 Z Z s Z ?_
 refine qu (Bv true) (Pt Z s Z) (Wz ?_)
 obtain rfl:=oi h
 exact Tj ⟨lr,Z,Z,Z,Z⟩
 refine qo 41 s (pt a 3) (Fa QdW Z Z) (qo 41 s e (Lb 1 pl25 Z Z Z) (qo 41 s (Iv (a0.Done.length:Int)) (lenS underlying25 Z P.len) (qo 41 s (pt f 3) (Fa QdW Z Z) (qo 41 s k (Lb 0 pl25 Z Z Z) (qo 41 s (Iv (a1.Done.length:Int)) (lenS underlying25 Z a2.len) (qo 41 s (Bv (decide ((a0.Done.length:Int)≠(a1.Done.length:Int)))) (neq Z Z) (qu (Bv (decide ((a0.Done.length:Int)≠(a1.Done.length:Int)))) (Pf Z s Z) (Wz ?_))))))))
 obtain rfl:=oi h
 exact Tj ⟨lr,Z,Z,Z,Z⟩
 rintro k3 f5 k4 ⟨B,rfl,b5,b6,b3⟩
 refine Ch h b3 (fun f6 h=> ?_) (fun f6 h=> ?_)
 exact Sr (qa (Bv false) (Nt (Cr (Tr (Dr (Dr (Rf h [] Z (Rs Z Z) B ⟨Z,Z⟩)))))))
 refine Ck (Tc ?_)
 obtain ⟨i4,f7,h⟩:=bnd h
 refine WC.joinE (fun(_:Unit) ρ' M' H'=>f5.le M'∧[(f, .cells (l27 a1 g i j k).toArray 27 (0,0))]::[(a, .cells (l27 a0 b c d e).toArray 27 (0,0))]::F=H'∧ρ' 2=(pt a 0)∧ρ' 3=(pt f 0)) i4 ?_ ?_
 have f8:=h
 have h:=f7
 refine Sr (qa (Iv 0) (Nt (Bk ?_)))
 obtain ⟨k5,f9,c9⟩:=bnd h
 clear h
 refine WC.loop f9 (fun(l:Int) ρ' M' H'=>f5.le M'∧[(f, .cells (l27 a1 g i j k).toArray 27 (0,0))]::[(a, .cells (l27 a0 b c d e).toArray 27 (0,0))]::F=H'∧ρ' 2=(pt a 0)∧ρ' 3=(pt f 0)∧ρ' 5=(Iv l)) ?_ ?_
 exact⟨lr,Z,b5,b6,Z⟩
 rintro l k6 k7 k8 k9 h ⟨C,rfl,u,E,v⟩
 unfold QhB at h
 refine Cs (Sr (qM (Iv l) v (qu (pt a 0) (Fa QdN u Z) (qu b (Lb 1 pl22 Z Z Z) ?_))))
 have L:=L.mono (B.trans C)
 refine qu (Iv (a0.Brokers.length:Int)) (lenS underlying22 Z L.len) (qu (Bv (decide (l<(a0.Brokers.length:Int)))) (lss Z Z) (Nt (Ch h Z (fun g0 h=> ?_) (fun g0 h=> ?_))))
 refine Ck (Tc (Cs (Bk (Cs (WC.draw [0,1,0,7,15,0,32,0,224,480,1023] (.pure 0 (.pure 1 (.pure 2 (.pure 3 (.pure 4 (.pure 5 (.pure 6 (.pure 7 (.pure 8 (.pure 9 (.pure 10 .done))))))))))) QdC (by kernel_rfl) (qt (pt a 0) Z (Fa QdN u Z) (qt b Z (Lb 1 pl22 Z Z Z) (qt (Iv l) Z (Mv v) ?_))))))))
 obtain ⟨a3,h⟩:=QaQ h
 obtain ⟨i5,j6,d4,d5,hhas39⟩:=L.at a3.1 a3.2 (by decide)
 obtain rfl:=Qa2 d5
 refine qt (.pointer (some i5)) Z (indexAddr (n:=a0.Brokers.length) underlying22 sz71 Z Z a3.1 a3.2 d4) (qt (a71_ (rd a0.Brokers l)) Z (loadMA (cs:=(l71 (rd a0.Brokers l))) ag71 sz71 Z hhas39) (qt (pt f 0) Z (Fa QdN E Z) (qt g Z (Lb 0 pl22 Z Z Z) (qt (Iv l) Z (Mv v) ?_))))
 obtain ⟨a4,h⟩:=QaQ h
 have W:=W.mono (B.trans C)
 obtain ⟨i6,j7,d6,d7,hhas46⟩:=W.at a4.1 a4.2 (by decide)
 obtain rfl:=Qa2 d7
 refine qt (.pointer (some i6)) Z (indexAddr (n:=a1.Brokers.length) underlying22 sz71 Z Z a4.1 a4.2 d6) (qt (a71_ (rd a1.Brokers l)) Z (loadMA (cs:=(l71 (rd a1.Brokers l))) ag71 sz71 Z hhas46) (qt (Bv (!(andL [decide (((rd a0.Brokers l).Id)=((rd a1.Brokers l).Id)),decide (((rd a0.Brokers l).Epoch)=((rd a1.Brokers l).Epoch)),((rd a0.Brokers l).Rack)==((rd a1.Brokers l).Rack),((rd a0.Brokers l).Fenced)==((rd a1.Brokers l).Fenced),((rd a0.Brokers l).Leaving)==((rd a1.Brokers l).Leaving)]))) Z (neqAgg eg71 Z Z (QkR underlying71 eq71 (EqFs.cons (by decide) pl3 Z Z (EqC.int underlying3) (EqFs.cons (by decide) pl3 Z Z (EqC.int underlying3) (EqFs.cons (by decide) pl9 Z Z (EqC.str underlying9) (EqFs.cons (by decide) pl4 Z Z (EqC.bool underlying4) (EqFs.cons (by decide) pl4 Z Z (EqC.bool underlying4) EqFs.nil))))))) (Ti (Tc (Ch h Z (fun g1 h=> ?_) (fun g1 h=> ?_))))))
 refine Sr (qa (Bv false) (Nt (Cr (Br (Tr (WQ.leaveR (inr ()) (oi h).symm (fun Q=> ?_)))))))
 subst Q
 have h:=(QdO c9)
 refine Br (Tr ?_)
 have h:=KK.early h f8
 exact Dr (Dr (Rf h [] Z (Rs Z Z) (B.trans C) ⟨Z,Z⟩))
 exact Ck (Bn (Tc (Cg (qM (Iv l) v (qu (Iv (i64.wrap (l+1))) (add Z Z) (qa (Iv (i64.wrap (l+1))) (Wz (WQ.again (i64.wrap (l+1)) (oi h).symm ⟨C,Z,u,E,Z⟩))))))))
 refine WC.exit (WQ.thenE (WQ.leaveE (inl ()) (oi h).symm (fun Q=> ?_)))
 subst Q
 have h:=QeJ c9
 exact WQ.blockH (WQ.thenFE h ⟨C,Z,u,E⟩)
 rintro _ l0 g2 l1 rfl ⟨d8,rfl,b7,b8⟩
 have b9:=B.trans d8
 have h:=(Sum.elim_inl _ _ _).symm.trans h
 obtain ⟨i7,g3,h⟩:=bnd h
 refine WC.joinE (fun(_:Unit) ρ' M' H'=>g2.le M'∧[(f, .cells (l27 a1 g i j k).toArray 27 (0,0))]::[(a, .cells (l27 a0 b c d e).toArray 27 (0,0))]::F=H'∧ρ' 2=(pt a 0)∧ρ' 3=(pt f 0)) i7 ?_ ?_
 have g4:=h
 have h:=g3
 refine Sr (qa (Iv 0) (Nt (Bk ?_)))
 obtain ⟨l2,g5,d0⟩:=bnd h
 clear h
 refine WC.loop g5 (fun(t:Int) ρ' M' H'=>g2.le M'∧[(f, .cells (l27 a1 g i j k).toArray 27 (0,0))]::[(a, .cells (l27 a0 b c d e).toArray 27 (0,0))]::F=H'∧ρ' 2=(pt a 0)∧ρ' 3=(pt f 0)∧ρ' 6=(Iv t)) ?_ ?_
 exact⟨lr,Z,b7,b8,Z⟩
 rintro t l3 l4 l5 l6 h ⟨D,rfl,w,G,x⟩
 unfold QhC at h
 refine Cs (Sr (qM (Iv t) x (qu (pt a 1) (Fa QbW w Z) (qu c (Lb 1 pl23 Z Z Z) ?_))))
 have N:=N.mono (b9.trans D)
 refine qu (Iv (a0.Topics.length:Int)) (lenS underlying23 Z N.len) (qu (Bv (decide (t<(a0.Topics.length:Int)))) (lss Z Z) (Nt (Ch h Z (fun g6 h=> ?_) (fun g6 h=> ?_))))
 refine Ck (Tc (Cs (Bk (Cs (WC.draw [0,1,0,7,15,0,32,0,224,480,1023,2047] (.pure 0 (.pure 1 (.pure 2 (.pure 3 (.pure 4 (.pure 5 (.pure 6 (.pure 7 (.pure 8 (.pure 9 (.alt 10 (.pure 11 .done) .none))))))))))) QdC (by kernel_rfl) (qt (pt a 1) Z (Fa QbW w Z) (qt c Z (Lb 1 pl23 Z Z Z) (qt (Iv t) Z (Mv x) ?_))))))))
 obtain ⟨a5,h⟩:=QaQ h
 obtain ⟨i8,j8,d9,e0,hhas58⟩:=N.at a5.1 a5.2 (by decide)
 obtain ⟨a6,rfl,c0⟩:=QaN e0
 refine qt (.pointer (some i8)) Z (indexAddr (n:=a0.Topics.length) underlying23 sz55 Z Z a5.1 a5.2 d9) (qt (a55_ (rd a0.Topics t) a6) Z (loadMA (cs:=(l55 (rd a0.Topics t) a6)) ag55 sz55 Z hhas58) (qt (pt f 1) Z (Fa QbW G Z) (qt i Z (Lb 0 pl23 Z Z Z) (qt (Iv t) Z (Mv x) ?_))))
 obtain ⟨a7,h⟩:=QaQ h
 have X:=X.mono (b9.trans D)
 obtain ⟨i9,j9,e1,e2,hhas65⟩:=X.at a7.1 a7.2 (by decide)
 obtain ⟨a8,rfl,c1⟩:=QaN e2
 refine qt (.pointer (some i9)) Z (indexAddr (n:=a1.Topics.length) underlying23 sz55 Z Z a7.1 a7.2 e1) (qt (a55_ (rd a1.Topics t) a8) Z (loadMA (cs:=(l55 (rd a1.Topics t) a8)) ag55 sz55 Z hhas65) ?_)
 obtain ⟨g7,g8,h⟩:=bnd h
 refine Ta Z (Ca co60 (Qo3 (rd a0.Topics t) (rd a1.Topics t) _ _ _ c0 c1 g7 g8) (QaU Z Z)) Z ?_ ?_
 rintro _ l7 _ b4 ⟨_,⟨rfl,rfl⟩,rfl⟩
 refine⟨(Sl Z), ?_⟩
 refine WT.a0 (qt (Bv (!g7)) Z (PO.not Z) (Ti (Tc (Ch h Z (fun g9 h=> ?_) (fun g9 h=> ?_)))))
 refine Sr (qa (Bv false) (Nt (Cr (Br (Tr (WQ.leaveR (inr ()) (oi h).symm (fun R=> ?_)))))))
 subst R
 have h:=(QdO d0)
 refine Br (Tr ?_)
 have h:=KK.early h g4
 exact Dr (Dr (Rf h [] Z (Rs Z Z) ((b9.trans D).trans b4) ⟨Z,Z⟩))
 exact Ck (Bn (Tc (Cg (qM (Iv t) x (qu (Iv (i64.wrap (t+1))) (add Z Z) (qa (Iv (i64.wrap (t+1))) (Wz (WQ.again (i64.wrap (t+1)) (oi h).symm ⟨(D.trans b4),Z,w,G,Z⟩))))))))
 exact Tz
 refine WC.exit (WQ.thenE (WQ.leaveE (inl ()) (oi h).symm (fun R=> ?_)))
 subst R
 have h:=QeJ d0
 exact WQ.blockH (WQ.thenFE h ⟨D,Z,w,G⟩)
 rintro _ l8 h0 l9 rfl ⟨e3,rfl,c2,c3⟩
 have h1:=b9.trans e3
 have h:=(Sum.elim_inl _ _ _).symm.trans h
 obtain ⟨j0,h2,h⟩:=bnd h
 refine WC.joinE (fun(_:Unit) ρ' M' H'=>h0.le M'∧[(f, .cells (l27 a1 g i j k).toArray 27 (0,0))]::[(a, .cells (l27 a0 b c d e).toArray 27 (0,0))]::F=H'∧ρ' 2=(pt a 0)∧ρ' 3=(pt f 0)) j0 ?_ ?_
 have h3:=h
 have h:=h2
 refine Sr (qa (Iv 0) (Nt (Bk ?_)))
 obtain ⟨m0,h4,d1⟩:=bnd h
 clear h
 refine WC.loop h4 (fun(m:Int) ρ' M' H'=>h0.le M'∧[(f, .cells (l27 a1 g i j k).toArray 27 (0,0))]::[(a, .cells (l27 a0 b c d e).toArray 27 (0,0))]::F=H'∧ρ' 2=(pt a 0)∧ρ' 3=(pt f 0)∧ρ' 7=(Iv m)) ?_ ?_
 exact⟨lr,Z,c2,c3,Z⟩
 rintro m m1 m2 m3 m4 h ⟨S,rfl,y,I,z⟩
 have e4:=h1.trans S
 unfold QhD at h
 refine Cs (Sr (qM (Iv m) z (qu (pt a 2) (Fa Qc5 y Z) (qu d (Lb 1 pl24 Z Z Z) ?_))))
 have O:=O.mono e4
 refine qu (Iv (a0.Configs.length:Int)) (lenS underlying24 Z O.len) (qu (Bv (decide (m<(a0.Configs.length:Int)))) (lss Z Z) (Nt (Ch h Z (fun h5 h=> ?_) (fun h5 h=> ?_))))
 refine Ck (Tc (Cs (Bk (Cs (WC.draw [0,1,0,7,15,0,32,0,224,480,1023] (.pure 0 (.pure 1 (.pure 2 (.pure 3 (.pure 4 (.pure 5 (.pure 6 (.pure 7 (.pure 8 (.pure 9 (.pure 10 .done))))))))))) QdC (by kernel_rfl) (qt (pt a 2) Z (Fa Qc5 y Z) (qt d Z (Lb 1 pl24 Z Z Z) (qt (Iv m) Z (Mv z) ?_))))))))
 obtain ⟨a9,h⟩:=QaQ h
 obtain ⟨j1,k0,e5,e6,hhas82⟩:=O.at a9.1 a9.2 (by decide)
 obtain rfl:=Qa8 e6
 refine qt (.pointer (some j1)) Z (indexAddr (n:=a0.Configs.length) underlying24 sz76 Z Z a9.1 a9.2 e5) (qt (a76_ (rd a0.Configs m)) Z (loadMA (cs:=(l76 (rd a0.Configs m))) ag76 sz76 Z hhas82) (qt (pt f 2) Z (Fa Qc5 I Z) (qt j Z (Lb 0 pl24 Z Z Z) (qt (Iv m) Z (Mv z) ?_))))
 obtain ⟨b0,h⟩:=QaQ h
 have Y:=Y.mono e4
 obtain ⟨j2,k1,e7,e8,hhas89⟩:=Y.at b0.1 b0.2 (by decide)
 obtain rfl:=Qa8 e8
 refine qt (.pointer (some j2)) Z (indexAddr (n:=a1.Configs.length) underlying24 sz76 Z Z b0.1 b0.2 e7) (qt (a76_ (rd a1.Configs m)) Z (loadMA (cs:=(l76 (rd a1.Configs m))) ag76 sz76 Z hhas89) (qt (Bv (!(andL [decide (((rd a0.Configs m).Topic)=((rd a1.Configs m).Topic)),((rd a0.Configs m).Key)==((rd a1.Configs m).Key),((rd a0.Configs m).Value)==((rd a1.Configs m).Value)]))) Z (neqAgg eg76 Z Z (QkR underlying76 eq76 (EqFs.cons (by decide) pl3 Z Z (EqC.int underlying3) (EqFs.cons (by decide) pl9 Z Z (EqC.str underlying9) (EqFs.cons (by decide) pl9 Z Z (EqC.str underlying9) EqFs.nil))))) (Ti (Tc (Ch h Z (fun h6 h=> ?_) (fun h6 h=> ?_))))))
 refine Sr (qa (Bv false) (Nt (Cr (Br (Tr (WQ.leaveR (inr ()) (oi h).symm (fun T=> ?_)))))))
 subst T
 have h:=(QdO d1)
 refine Br (Tr ?_)
 have h:=KK.early h h3
 exact Dr (Dr (Rf h [] Z (Rs Z Z) e4 ⟨Z,Z⟩))
 exact Ck (Bn (Tc (Cg (qM (Iv m) z (qu (Iv (i64.wrap (m+1))) (add Z Z) (qa (Iv (i64.wrap (m+1))) (Wz (WQ.again (i64.wrap (m+1)) (oi h).symm ⟨S,Z,y,I,Z⟩))))))))
 refine WC.exit (WQ.thenE (WQ.leaveE (inl ()) (oi h).symm (fun T=> ?_)))
 subst T
 have h:=QeJ d1
 exact WQ.blockH (WQ.thenFE h ⟨S,Z,y,I⟩)
 rintro _ m5 h7 m6 rfl ⟨e9,rfl,c4,c5⟩
 have h8:=h1.trans e9
 have h:=(Sum.elim_inl _ _ _).symm.trans h
 obtain ⟨j3,h9,h⟩:=bnd h
 refine WC.joinE (fun(_:Unit) ρ' M' H'=>h7.le M'∧[(f, .cells (l27 a1 g i j k).toArray 27 (0,0))]::[(a, .cells (l27 a0 b c d e).toArray 27 (0,0))]::F=H') j3 ?_ ?_
 have i0:=h
 have h:=h9
 refine Sr (qa (Iv 0) (Nt (Bk ?_)))
 obtain ⟨m7,i1,d2⟩:=bnd h
 clear h
 refine WC.loop i1 (fun(o:Int) ρ' M' H'=>h7.le M'∧[(f, .cells (l27 a1 g i j k).toArray 27 (0,0))]::[(a, .cells (l27 a0 b c d e).toArray 27 (0,0))]::F=H'∧ρ' 2=(pt a 0)∧ρ' 3=(pt f 0)∧ρ' 8=(Iv o)) ?_ ?_
 exact⟨lr,Z,c4,c5,Z⟩
 rintro o m8 m9 n0 n1 h ⟨U,rfl,J,b1,A⟩
 have f0:=h8.trans U
 unfold QhE at h
 refine Cs (Sr (qM (Iv o) A (qu (pt a 3) (Fa QdW J Z) (qu e (Lb 1 pl25 Z Z Z) ?_))))
 have P:=P.mono f0
 refine qu (Iv (a0.Done.length:Int)) (lenS underlying25 Z P.len) (qu (Bv (decide (o<(a0.Done.length:Int)))) (lss Z Z) (Nt (Ch h Z (fun i2 h=> ?_) (fun i2 h=> ?_))))
 refine Ck (Tc (Cs (Bk (Cs (WC.draw [0,1,0,7,15,0,32,0,224,480,1023] (.pure 0 (.pure 1 (.pure 2 (.pure 3 (.pure 4 (.pure 5 (.pure 6 (.pure 7 (.pure 8 (.pure 9 (.pure 10 .done))))))))))) QdC (by kernel_rfl) (qt (pt a 3) Z (Fa QdW J Z) (qt e Z (Lb 1 pl25 Z Z Z) (qt (Iv o) Z (Mv A) ?_))))))))
 obtain ⟨b2,h⟩:=QaQ h
 obtain ⟨j4,k2,f1,c6,hhas101⟩:=P.at b2.1 b2.2 (by decide)
 obtain rfl:=Qb8 c6
 refine qt (.pointer (some j4)) Z (indexAddr (n:=a0.Done.length) underlying25 sz67 Z Z b2.1 b2.2 f1) (qt (a67_ (rd a0.Done o)) Z (loadMA (cs:=(l67 (rd a0.Done o))) ag67 sz67 Z hhas101) (qt (pt f 3) Z (Fa QdW b1 Z) (qt k Z (Lb 0 pl25 Z Z Z) (qt (Iv o) Z (Mv A) ?_))))
 obtain ⟨K,h⟩:=QaQ h
 have a2:=a2.mono f0
 obtain ⟨i3,j5,c7,c8,hhas108⟩:=a2.at K.1 K.2 (by decide)
 obtain rfl:=Qb8 c8
 refine qt (.pointer (some i3)) Z (indexAddr (n:=a1.Done.length) underlying25 sz67 Z Z K.1 K.2 c7) (qt (a67_ (rd a1.Done o)) Z (loadMA (cs:=(l67 (rd a1.Done o))) ag67 sz67 Z hhas108) (qt (Bv (!(andL [decide (((rd a0.Done o).Client)=((rd a1.Done o).Client)),decide (((rd a0.Done o).Serial)=((rd a1.Done o).Serial)),decide (((rd a0.Done o).Code)=((rd a1.Done o).Code))]))) Z (neqAgg eg67 Z Z (QkR underlying67 eq67 (EqFs.cons (by decide) pl3 Z Z (EqC.int underlying3) (EqFs.cons (by decide) pl3 Z Z (EqC.int underlying3) (EqFs.cons (by decide) pl3 Z Z (EqC.int underlying3) EqFs.nil))))) (Ti (Tc (Ch h Z (fun f2 h=> ?_) (fun f2 h=> ?_))))))
 refine Sr (qa (Bv false) (Nt (Cr (Br (Tr (WQ.leaveR (inr ()) (oi h).symm (fun V=> ?_)))))))
 subst V
 have h:=(QdO d2)
 refine Br (Tr ?_)
 have h:=KK.early h i0
 exact Dr (Dr (Rf h [] Z (Rs Z Z) f0 ⟨Z,Z⟩))
 exact Ck (Bn (Tc (Cg (qM (Iv o) A (qu (Iv (i64.wrap (o+1))) (add Z Z) (qa (Iv (i64.wrap (o+1))) (Wz (WQ.again (i64.wrap (o+1)) (oi h).symm ⟨U,Z,J,b1,Z⟩))))))))
 refine WC.exit (WQ.thenE (WQ.leaveE (inl ()) (oi h).symm (fun V=> ?_)))
 subst V
 have h:=QeJ d2
 exact WQ.blockH (WQ.thenFE h ⟨U,Z⟩)
 rintro _ n2 n3 n4 rfl ⟨f3,rfl⟩
 have h:=(Sum.elim_inl _ _ _).symm.trans h
 exact Sr (qa (Bv true) (Nt (Cr (Dr (Dr (Rf h [] Z (Rs Z Z) (h8.trans f3) ⟨Z,Z⟩))))))
noncomputable def QiH (a0:QaA):Option Bool:=
 ((QiZ a0).bind fun d=>(if(!d)=true then((Qf4).bind fun e=>(some e))else((QiU a0).bind fun(a,f)=>((QjH a0).bind fun b=>((QjK f b).bind fun g=>(if(!g)=true then(some false)else(if(decide (b.Code≠(0:Int)))=true then(((if(decide ((a.length:Int)=(0:Int)))=true then((Qf4).bind fun i=>(some i))else(some false)):Option Bool).bind fun j=>(some j))else((Qe5 a).bind fun(k,l)=>((((QjM a0).bind fun m=>((QkP a m).bind fun n=>(if n=true then(if l.isNil=true then((Qj9 a0 k).bind fun o=>(if o=true then((Qf4).bind fun c=>(some c))else(some false)))else(some false))else(some false)))):Option Bool).bind fun p=>(some p))))))))))
def QnI (a0:QaA) (a b c d:Value):Bool→Value→IM→HL→Prop:=
 fun(e:Bool) (v:Value) (M':IM) (H':HL)=>(.bool e)=v∧H'=[]
theorem QpQ (a0:QaA) (M:IM) (a b c d:Value) (j:RS QaD M a a0.Brokers) (k:RS QaG M b a0.Topics) (l:RS QaF M c a0.Configs) (m:RS QaI M d a0.Done) (hE:Env M) (res:Bool) (h:QiH a0=some res):
 Tri prog 4 #[(a27_ a0 a b c d)] M [] (QnI a0 a b c d res):=by
 unfold QiH at h
 refine Te func4 Z Z ?_
 intro F ρ hρ
 refine Sr (We (box (cs:=(l27 a0 a b c d).toArray) (congrArg Value.cells (asE (a27_ a0 a b c d) (hρ 0)))) Z ?_)
 rintro _ _ _ - ⟨rfl,b6,rfl,rfl⟩
 refine qa (Bv false) (Nt (Cs (Sr (qu (a27_ a0 a b c d) (La (cs:=(l27 a0 a b c d)) 0 ag27 sz27 Z Z Z) ?_))))
 obtain ⟨b7,b8,h⟩:=bnd h
 refine We (Ca co6 (QtA a0 _ _ _ _ _ j k l m b7 b8) (QbK Z)) Z ?_
 rintro _ g5 _ r ⟨_,⟨rfl,rfl⟩,rfl⟩
 refine WL.a0 (qu (Bv (!b7)) (PO.not Z) (Nt (Ch h Z (fun b9 h=> ?_) (fun b9 h=> ?_))))
 refine Sr ?_
 obtain ⟨c0,c1,h⟩:=bnd h
 refine We (Ca co7 (QkW _ c0 c1) (QmX)) Z ?_
 rintro _ g6 _ a3 ⟨_,⟨rfl,rfl⟩,rfl⟩
 exact WL.a0 (qa (Bv c0) (Nt (Cr (Tr (Dr (Rf h [] Z (Rs Z Z) (r.trans a3) ⟨Z,Z⟩))))))
 refine Ck (Tc (Sr (qu (a27_ a0 a b c d) (La (cs:=(l27 a0 a b c d)) 0 ag27 sz27 Z Z Z) ?_)))
 obtain ⟨⟨K,L⟩,c2,h⟩:=bnd h
 have j:=j.mono r
 have k:=k.mono r
 have l:=l.mono r
 have m:=m.mono r
 refine We (Ca co11 (Qq2 a0 _ _ _ _ _ j k l m (K,L) c2) (QbK Z)) Z ?_
 rintro _ g7 _ t ⟨_,⟨z,e9,rfl,rfl,A⟩,rfl⟩
 refine WL.a1 (qm (.tuple #[z,(GV L)]) (qu z (Xt Z Z) (qu (GV L) (Xt Z Z) (qa z (qa (GV L) (Ns (qu (a27_ a0 a b c d) (La (cs:=(l27 a0 a b c d)) 1 ag27 sz27 Z Z Z) ?_)))))))
 obtain ⟨u,c3,h⟩:=bnd h
 have j:=j.mono t
 have k:=k.mono t
 have l:=l.mono t
 have m:=m.mono t
 refine We (Ca co10 (QtX a0 _ _ _ _ _ j k l m u c3) (QbK Z)) Z ?_
 rintro _ g8 _ C ⟨_,⟨rfl,rfl⟩,rfl⟩
 have c4:=(r.trans t).trans C
 refine WL.a0 (We (Al ze36 Z) Z ?_)
 rintro _ _ _ - ⟨rfl,a5,rfl,rfl⟩
 refine We (Sg (v:=(a36_ u)) (vl:=(l36 u)) (arr':=(l36 u)) Z sz36 Z Z (onb Z) Z Z Z) Z ?_
 rintro _ _ _ - ⟨rfl,rfl⟩
 refine Nt (Cs (Sr (qm (GV L) (qu (a36_ u) (La (cs:=(l36 u)) 0 ag36 sz36 Z Z Z) ?_))))
 obtain ⟨c5,c6,h⟩:=bnd h
 have hE:=hE.mono c4
 refine We (Ca co8 (Qt0 L u _ hE c5 c6) (QaU Z Z)) Z ?_
 rintro _ e0 _ D ⟨_,⟨rfl,rfl⟩,rfl⟩
 have a6:=c4.trans D
 refine WL.a0 (qu (Bv (!c5)) (PO.not Z) (Nt (Ch h Z (fun c7 h=> ?_) (fun c7 h=> ?_))))
 exact Sr (qa (Bv false) (Nt (Cr (Tr (Dr (Dr (Dr (Rf h [] Z (Rs Z Z) a6 ⟨Z,Z⟩))))))))
 refine Ck (Tc (Cs (Sr (qu (pt a5 2) (Fa QvC Z Z) (qu (Iv u.Code) (Lb 0 pl34 Z Z Z) (qu (Bv (decide (u.Code≠0))) (neq Z Z) (Nt (Ch h Z (fun c8 h=> ?_) (fun c8 h=> ?_)))))))))
 obtain ⟨a7,c9,h⟩:=bnd h
 refine Jf (fun(a7:Bool) ρ' M' H'=>e0.le M'∧[(a5, .cells (l36 u).toArray 36 (0,0))]::[(b6, .cells (l27 a0 a b c d).toArray 27 (0,0))]::F=H'∧ρ' 2=(Bv a7)) a7 ?_ ?_
 have h:=c9
 refine Cg (qm z ?_)
 have A:=A.mono (C.trans D)
 refine qu (Iv (K.length:Int)) (lenS underlying38 Z A.len) (qu (Bv (decide ((K.length:Int)=(0:Int)))) (eql Z Z) (qm (Bv (decide ((K.length:Int)=(0:Int)))) ?_))
 rcases Bi h with⟨E,h⟩ |⟨E,h⟩
 refine On 29 Z Z E ?_
 obtain ⟨a8,d0,h⟩:=bnd h
 refine We (Ca co7 (QkW _ a8 d0) (QmX)) Z ?_
 rintro _ g9 _ a9 ⟨_,⟨rfl,rfl⟩,rfl⟩
 refine WL.a0 (qu (Bv a8) (Pt Z E Z) (qa (Bv a8) (Wz (Qa (Dr ?_)))))
 obtain rfl:=oi h
 exact Tj ⟨a9,Z,Z⟩
 refine Of 29 Z Z E Z (qu (Bv false) (Pf Z E Z) (qa (Bv false) (Wz (Qa (Dr ?_)))))
 obtain rfl:=oi h
 exact Tj ⟨lr,Z,Z⟩
 rintro h0 h1 h2 ⟨b0,rfl,R⟩
 exact Cr (Tr (Dr (Dr (Rf h [] Z (Rs Z R) (a6.trans b0) ⟨Z,Z⟩))))
 refine Ck (Tc (Sr (qm z (WL.f1 ?_))))
 have A:=A.mono (C.trans D)
 refine WL.know (fun _ hs=>A.rs hs) (fun J=> ?_)
 refine WL.freeze (fun N=> ?_)
 obtain ⟨⟨y,G⟩,d1,h⟩:=bnd h
 refine We (Ca co12 (QlX K _ _ J (y,G) d1) (QbK Z)) Z ?_
 rintro _ e1 _ I ⟨_,⟨e,S,f,T,g,U,i,V,rfl,rfl,n,o,p,q⟩,rfl⟩
 have W:=((C.trans D).trans N).trans I
 refine WL.a4 (qm (.tuple #[(a27_ y e f g i),(GV G)]) (qu (a27_ y e f g i) (Xt Z Z) (qu (GV G) (Xt Z Z) (We (Al ze27 Z) Z ?_))))
 rintro _ _ _ - ⟨rfl,e2,rfl,rfl⟩
 refine We (Sg (v:=(a27_ y e f g i)) (vl:=(l27 y e f g i)) (arr':=(l27 y e f g i)) Z sz27 Z Z (QbG (Oc (Ow n) (Oc (Ow o) (Oc (Ow p) (Oc (Ow q) (Oc Z Oz)))))) Z Z Z) Z ?_
 rintro _ _ _ - ⟨rfl,rfl⟩
 refine qa (GV G) (Nt ?_)
 obtain ⟨b1,d2,h⟩:=bnd h
 refine Jf (fun(b1:Bool) ρ' M' H'=>e1.le M'∧[(e2, .cells (l27 y e f g i).toArray 27 (0,0))]::[(a5, .cells (l36 u).toArray 36 (0,0))]::[(b6, .cells (l27 a0 a b c d).toArray 27 (0,0))]::S::T::U::V::F=H'∧ρ' 2=(Bv b1)) b1 ?_ ?_
 have h:=d2
 refine Cg (qm z (qu (a27_ a0 a b c d) (La (cs:=(l27 a0 a b c d)) 6 ag27 sz27 Z Z Z) ?_))
 obtain ⟨d3,d4,h⟩:=bnd h
 have j:=j.mono W
 have k:=k.mono W
 have l:=l.mono W
 have m:=m.mono W
 refine We (Ca co14 (Qt4 a0 _ _ _ _ _ j k l m d3 d4) (QbK Z)) Z ?_
 rintro _ h3 _ O ⟨_,⟨f0,f2,rfl,rfl,a2⟩,rfl⟩
 refine WL.a1 ?_
 obtain ⟨d5,d6,h⟩:=bnd h
 have J:=J.mono (I.trans O)
 refine We (Cb co13 (Tri.lend a2.excl fun w0_ H0_ hs0_=>(Qu6 K d3 _ _ _ (J.mono (IM.le_add _ _)) (a2.rs hs0_) d5 d6)) (QaU Z Z)) Z ?_
 rintro _ _ _ b2 ⟨_,⟨f7,f8,e3,rfl,rfl,⟨rfl,rfl⟩⟩,rfl⟩
 have s:=O.trans b2
 refine WL.a1 (qm (Bv d5) ?_)
 rcases Bi h with⟨B,h⟩ |⟨B,h⟩
 refine On 41 Z Z B (qm (GV G) (qo 41 B (Bv G.isNil) (errNil underlying32 Z) (qu (Bv G.isNil) (Pt Z B Z) (qm (Bv G.isNil) ?_))))
 rcases Bi h with⟨w,h⟩ |⟨w,h⟩
 refine qo 45 w (a27_ a0 a b c d) (La (cs:=(l27 a0 a b c d)) 7 ag27 sz27 Z Z Z) (qo 45 w (a27_ y e f g i) (La (cs:=(l27 y e f g i)) 1 ag27 sz27 Z Z Z) (On 45 Z Z w ?_))
 obtain ⟨b3,d7,h⟩:=bnd h
 refine WL.f5 (WL.f5 (WL.f5 (WL.f5 ?_)))
 have n:=n.mono s
 have o:=o.mono s
 have p:=p.mono s
 have q:=q.mono s
 have j:=j.mono s
 have k:=k.mono s
 have l:=l.mono s
 have m:=m.mono s
 refine We (EO.call4 co15 (Tri.lend n.excl fun w0_ H0_ hs0_=>(Tri.lend o.excl fun w1_ H1_ hs1_=>(Tri.lend p.excl fun w2_ H2_ hs2_=>(Tri.lend q.excl fun w3_ H3_ hs3_=>(QuQ a0 y _ _ _ _ _ _ _ _ _ ((((j.mono (IM.le_add _ _)).mono (IM.le_add _ _)).mono (IM.le_add _ _)).mono (IM.le_add _ _)) ((((k.mono (IM.le_add _ _)).mono (IM.le_add _ _)).mono (IM.le_add _ _)).mono (IM.le_add _ _)) ((((l.mono (IM.le_add _ _)).mono (IM.le_add _ _)).mono (IM.le_add _ _)).mono (IM.le_add _ _)) ((((m.mono (IM.le_add _ _)).mono (IM.le_add _ _)).mono (IM.le_add _ _)).mono (IM.le_add _ _)) ((((n.rs hs0_).mono (IM.le_add _ _)).mono (IM.le_add _ _)).mono (IM.le_add _ _)) ((((o.mono (IM.le_add _ _)).rs hs1_).mono (IM.le_add _ _)).mono (IM.le_add _ _)) ((((p.mono (IM.le_add _ _)).mono (IM.le_add _ _)).rs hs2_).mono (IM.le_add _ _)) ((((q.mono (IM.le_add _ _)).mono (IM.le_add _ _)).mono (IM.le_add _ _)).rs hs3_) b3 d7))))) (QaU Z Z)) Z ?_
 rintro _ _ _ P ⟨_,⟨e4,e5,d8,rfl,rfl,⟨f9,e6,d9,rfl,rfl,⟨g0,g1,e7,rfl,rfl,⟨g2,g3,e8,rfl,rfl,⟨rfl,rfl⟩⟩⟩⟩⟩,rfl⟩
 refine WL.a4 (qu (Bv b3) (Pt Z w Z) (qm (Bv b3) ?_))
 rcases Bi h with⟨x,h⟩ |⟨x,h⟩
 refine On 50 Z Z x ?_
 obtain ⟨Q,b4,h⟩:=bnd h
 refine We (Ca co7 (QkW _ Q b4) (QmX)) Z ?_
 rintro _ g4 _ X ⟨_,⟨rfl,rfl⟩,rfl⟩
 refine WL.a0 (qu (Bv Q) (Pt Z x Z) (qa (Bv Q) (Wz (WQ.f4 (Dr (WQ.f3 (WQ.f3 (WQ.f3 (WQ.f3 (WQ.f6 (WQ.f6 ?_)))))))))))
 refine WQ.f6 ?_
 obtain rfl:=oi h
 exact Tj ⟨((s.trans P).trans X),Z,Z⟩
 refine Of 50 Z Z x Z (qu (Bv false) (Pf Z x Z) (qa (Bv false) (Wz (WQ.f4 (Dr (WQ.f3 (WQ.f3 (WQ.f3 (WQ.f3 (WQ.f6 (WQ.f6 ?_)))))))))))
 refine WQ.f6 ?_
 obtain rfl:=oi h
 exact Tj ⟨(s.trans P),Z,Z⟩
 iterate 3 refine Of 45 Z Z w Z ?_
 refine qu (Bv false) (Pf Z w Z) (qm (Bv false) (Of 50 Z Z Z Z (qu (Bv false) (Pf Z Z Z) (qa (Bv false) (Wz (Dr (WQ.f4 (WQ.f4 (WQ.f4 (WQ.f4 (WQ.f6 ?_)))))))))))
 refine WQ.f6 (WQ.f6 ?_)
 obtain rfl:=oi h
 exact Tj ⟨s,Z,Z⟩
 iterate 2 refine Of 41 Z Z B Z ?_
 refine qu (Bv false) (Pf Z B Z) (qm (Bv false) ?_)
 iterate 3 refine Of 45 Z Z Z Z ?_
 refine qu (Bv false) (Pf Z Z Z) (qm (Bv false) (Of 50 Z Z Z Z (qu (Bv false) (Pf Z Z Z) (qa (Bv false) (Wz (Dr (WQ.f4 (WQ.f4 (WQ.f4 (WQ.f4 (WQ.f6 ?_)))))))))))
 refine WQ.f6 (WQ.f6 ?_)
 obtain rfl:=oi h
 exact Tj ⟨s,Z,Z⟩
 rintro h4 h5 h6 ⟨b5,rfl,Y⟩
 exact Cr (Dr (Dr (Dr (Dr (Dr (Dr (Dr (Rf h [] Z (Rs Z Y) (((a6.trans N).trans I).trans b5) ⟨Z,Z⟩))))))))

end Go.Proofs.YtpcbipcdfccnnaaGreatDoor.G
