/- Go functions: what they come to, and that they do. Printed by a program of the session (gen). -/
import Derived.Test.YtpcbipcdfccnnaaGreatDoorPF
import Derived.Test.YtpcbipcdfccnnaaGreatDoorP1
import Derived.Test.YtpcbipcdfccnnaaGreatDoorKShar2
import Derived.Test.YtpcbipcdfccnnaaGreatDoorKConv
import Derived.Test.YtpcbipcdfccnnaaGreatDoorKMap
import Derived.Test.YtpcbipcdfccnnaaGreatDoorKTight2
set_option linter.unusedVariables false
set_option linter.unusedSimpArgs false
set_option maxHeartbeats 8000000
set_option maxRecDepth 100000
namespace Go.Proofs.YtpcbipcdfccnnaaGreatDoor.G
open Go Go.KK
open PO EO IntKind Sum Tryz

noncomputable def Qf8 (a0:QaA) (a1:QaH) (s_:Int):Option (Int⊕(Unit⊕Unit)):=
 match s_ with
 |a=>
 (if(decide (a<(a1.Ids.length:Int)))=true then(((grd (0≤a∧a<a1.Ids.length) ((Qd1 a0 (rd a1.Ids a)).bind fun(d,b)=>(some b))):Option Bool).bind fun c=>(if(!c)=true then(some (inr (inr ())))else(some (inl (i64.wrap (a+(1:Int)))))))else(some (inr (inl ()))))
noncomputable def Qf9 (a1:QaH) (s_:Int):Option (Int⊕(Unit⊕Unit)):=
 match s_ with
 |a=>
 (if(decide (a<(a1.Isr.length:Int)))=true then(grd (0≤a∧a<a1.Isr.length) ((QeD a1.Ids (rd a1.Isr a)).bind fun b=>(if(!b)=true then(some (inr (inr ())))else(some (inl (i64.wrap (a+(1:Int))))))))else(some (inr (inl ()))))
noncomputable def QgA (a1:QaH) (s_:Int):Option (Int⊕(Unit⊕Unit)):=
 match s_ with
 |a=>
 (if(decide (a<(a1.Add.length:Int)))=true then(((grd (0≤a∧a<a1.Add.length) ((QeD a1.Ids (rd a1.Add a)).bind fun b=>(if(!b)=true then(some true)else(grd (0≤a∧a<a1.Add.length) ((QeD a1.Drop (rd a1.Add a)).bind fun c=>(some c)))))):Option Bool).bind fun d=>(if d=true then(some (inr (inr ())))else(some (inl (i64.wrap (a+(1:Int)))))))else(some (inr (inl ()))))
noncomputable def QgB (a1:QaH) (s_:Int):Option (Int⊕(Unit⊕Unit)):=
 match s_ with
 |a=>
 (if(decide (a<(a1.Drop.length:Int)))=true then(grd (0≤a∧a<a1.Drop.length) ((QeD a1.Ids (rd a1.Drop a)).bind fun b=>(if(!b)=true then(some (inr (inr ())))else(some (inl (i64.wrap (a+(1:Int))))))))else(some (inr (inl ()))))
noncomputable def QhV (a0:QaA) (a1:QaH):Option Int:=
 (if(decide ((a1.Ids.length:Int)=(0:Int)))=true then(some (18:Int))else((((iter (Qf8 a0 a1) (0:Int)).bind (Sum.elim (fun _=>(some (inl ()))) (fun _=>(((some (18:Int))).bind fun r=>some (inr r))))):Option (Unit⊕Int)).bind (Sum.elim (fun _=>(if(decide ((a1.Isr.length:Int)=(0:Int)))=true then(some (18:Int))else((((iter (Qf9 a1) (0:Int)).bind (Sum.elim (fun _=>(some (inl ()))) (fun _=>(((some (18:Int))).bind fun r=>some (inr r))))):Option (Unit⊕Int)).bind (Sum.elim (fun _=>(((if(decide (a1.Leader≠(0:Int)))=true then((QeD a1.Isr a1.Leader).bind fun a=>(if(!a)=true then(some true)else((QhU a0 a1.Leader).bind fun b=>(some (!b)))))else(some false)):Option Bool).bind fun c=>(if c=true then(some (17:Int))else((((iter (QgA a1) (0:Int)).bind (Sum.elim (fun _=>(some (inl ()))) (fun _=>(((some (18:Int))).bind fun r=>some (inr r))))):Option (Unit⊕Int)).bind (Sum.elim (fun _=>((((iter (QgB a1) (0:Int)).bind (Sum.elim (fun _=>(some (inl ()))) (fun _=>(((some (18:Int))).bind fun r=>some (inr r))))):Option (Unit⊕Int)).bind (Sum.elim (fun _=>(some (0:Int))) some))) some))))) some)))) some)))
def QqP (a0:QaA) (a1:QaH) (a b c d e f g i:Value):Int→Value→IM→HL→Prop:=
 fun(j:Int) (v:Value) (M':IM) (H':HL)=>(.int .i64 j)=v∧H'=[]
theorem QmQ (a0:QaA) (a1:QaH) (M:IM) (c d e f g i j k:Value) (J:RS QaD M c a0.Brokers) (K:RS QaG M d a0.Topics) (L:RS QaF M e a0.Configs) (N:RS QaI M f a0.Done) (m:RS (Kd.int .i64) M g a1.Ids) (x:RS (Kd.int .i64) M i a1.Isr) (O:RS (Kd.int .i64) M j a1.Add) (P:RS (Kd.int .i64) M k a1.Drop) (res:Int) (h:QhV a0 a1=some res):
 Tri prog 115 #[(a27_ a0 c d e f),(a58_ a1 g i j k)] M [] (QqP a0 a1 c d e f g i j k res):=by
 unfold QhV at h
 refine Te func115 Z Z ?_
 intro F ρ hρ
 refine Sr (We (box (cs:=(l27 a0 c d e f).toArray) (congrArg Value.cells (asE (a27_ a0 c d e f) (hρ 0)))) Z ?_)
 rintro _ _ _ - ⟨rfl,w,rfl,rfl⟩
 refine We (box (cs:=(l58 a1 g i j k).toArray) (congrArg Value.cells (asE (a58_ a1 g i j k) (hρ 1)))) Z ?_
 rintro _ _ _ - ⟨rfl,a,rfl,rfl⟩
 refine qa (Iv 0) (Nt (Cs (Sr (qu (pt a 0) (Fa QiE Z Z) (qu g (Lb 0 pl56 Z Z Z) (qu (Iv (a1.Ids.length:Int)) (lenS underlying56 Z m.len) (qu (Bv (decide ((a1.Ids.length:Int)=(0:Int)))) (eql Z Z) (Nt (Ch h Z (fun h3 h=> ?_) (fun h3 h=> ?_))))))))))
 exact Sr (qa (Iv 18) (Nt (Cr (Tr (Dr (Dr (Rf h [] Z (Rs Z Z) lr ⟨Z,Z⟩)))))))
 refine Ck (Tc ?_)
 obtain ⟨k8,h4,h⟩:=bnd h
 refine WC.joinE (fun(_:Unit) ρ' M' H'=>M.le M'∧[(a, .cells (l58 a1 g i j k).toArray 58 (0,0))]::[(w, .cells (l27 a0 c d e f).toArray 27 (0,0))]::F=H'∧ρ' 2=(pt w 0)∧ρ' 3=(pt a 0)) k8 ?_ ?_
 have h5:=h
 have h:=h4
 refine Sr (qa (Iv 0) (Nt (Bk ?_)))
 obtain ⟨n3,h6,e6⟩:=bnd h
 clear h
 refine WC.loop h6 (fun(D:Int) ρ' M' H'=>M.le M'∧[(a, .cells (l58 a1 g i j k).toArray 58 (0,0))]::[(w, .cells (l27 a0 c d e f).toArray 27 (0,0))]::F=H'∧ρ' 2=(pt w 0)∧ρ' 3=(pt a 0)∧ρ' 5=(Iv D)) ?_ ?_
 exact⟨lr,Z,Z,Z,Z⟩
 rintro D n4 n5 k9 n6 h ⟨r,rfl,t,p,u⟩
 unfold Qf8 at h
 refine Cs (Sr (qM (Iv D) u (qu (pt a 0) (Fa QiE p Z) (qu g (Lb 0 pl56 Z Z Z) ?_))))
 have m:=m.mono r
 refine qu (Iv (a1.Ids.length:Int)) (lenS underlying56 Z m.len) (qu (Bv (decide (D<(a1.Ids.length:Int)))) (lss Z Z) (Nt (Ch h Z (fun h7 h=> ?_) (fun h7 h=> ?_))))
 refine Ck (Tc (Cs (Bk ?_)))
 obtain ⟨b4,h8,h⟩:=bnd h
 refine Jf (fun(b4:Bool) ρ' M' H'=>k9.le M'∧[(a, .cells (l58 a1 g i j k).toArray 58 (0,0))]::[(w, .cells (l27 a0 c d e f).toArray 27 (0,0))]::F=H'∧ρ' 2=(pt w 0)∧ρ' 3=(pt a 0)∧ρ' 5=(Iv D)∧ρ' 7=(Bv b4)) b4 ?_ ?_
 have h:=h8
 refine WC.draw [0,0,2,0,14,30,63,127,255,255,0,1535,4095] (.pure 0 (.pure 1 (.pure 2 (.pure 3 (.pure 4 (.pure 5 (.alt 6 (.pure 7 (.pure 8 (.pure 9 (.alt 10 (.alt 11 (.pure 12 .done) .none) .none)))) (.alt 10 (.alt 6 (.pure 7 (.pure 8 (.pure 9 (.alt 11 (.pure 12 .done) .none)))) .none) .none)))))))) QdC (by kernel_rfl) (qt (a27_ a0 c d e f) Z (La (cs:=(l27 a0 c d e f)) 1 ag27 sz27 t Z Z) (qt (pt a 0) Z (Fa QiE p Z) (qt g Z (Lb 0 pl56 Z Z Z) (qt (Iv D) Z (Mv u) ?_))))
 obtain ⟨G,h⟩:=QaQ h
 obtain ⟨l0,l9,Y,f1,hhas35⟩:=m.at G.1 G.2 (by decide)
 obtain rfl:=f1
 refine qt (.pointer (some l0)) Z (indexAddr (n:=a1.Ids.length) underlying56 sz3 Z Z G.1 G.2 Y) (qt (Iv (rd a1.Ids D)) Z (loadM pl3 Z (IM.has0 hhas35)) ?_)
 have h9:=h
 obtain ⟨⟨b2,c5⟩,i0,h⟩:=bnd h
 have J:=J.mono r
 have K:=K.mono r
 have L:=L.mono r
 have N:=N.mono r
 refine Ta Z (Ca Q14 (QfE a0 (rd a1.Ids D) _ _ _ _ _ J K L N (b2,c5) i0) (QaU Z Z)) Z ?_ ?_
 rintro _ n7 _ b5 ⟨_,⟨rfl,rfl⟩,rfl⟩
 refine⟨(Sl Z), ?_⟩
 refine WT.a0 (qt (.tuple #[(a71_ b2),(Bv c5)]) Z (Mv Z) (qt (a71_ b2) Z (Xt Z Z) (qt (Bv c5) Z (Xt Z Z) (Ta Z (Al ze71 Z) Z ?_ ?_))))
 rintro _ _ _ - ⟨rfl,n8,rfl,rfl⟩
 have hhas35:=hhas35.mono b5
 refine⟨(Ss Z (Xt Z Z) Z (Ss Z (Xt Z Z) Z (Ss Z (Mv Z) Z (Ss Z (loadM pl3 Z (IM.has0 hhas35)) Z (Ss Z (indexAddr (n:=a1.Ids.length) underlying56 sz3 Z Z G.1 G.2 Y) Z (Ss Z (Mv u) Z (Ss Z (Lb 1 pl56 Z Z Z) Z (Ss Z (Fa QiE p Z) Z (Ss Z (La (cs:=(l27 a0 c d e f)) 2 ag27 sz27 t Z Z) Z trivial))))))))), ?_⟩
 refine Ta Z (Sg (v:=(a71_ b2)) (vl:=(l71 b2)) (arr':=(l71 b2)) Z sz71 Z Z (onb Z) Z Z Z) Z ?_ ?_
 rintro _ _ _ - ⟨rfl,rfl⟩
 refine⟨(Ss Z (Xt Z Z) Z (Sl Z)), ?_⟩
 refine qt (Bv c5) Z (Ag Z) (Ti (Dr ?_))
 obtain rfl:=oi h
 exact Tj ⟨b5,Z,t,p,u,Z⟩
 exact Tz
 exact Tz
 have h:=h9
 refine Ta Z (Al ze71 Z) Z ?_ ?_
 rintro _ _ _ - ⟨rfl,n9,rfl,rfl⟩
 refine⟨(Ss Z (loadM pl3 Z (IM.has0 hhas35)) Z (Ss Z (indexAddr (n:=a1.Ids.length) underlying56 sz3 Z Z G.1 G.2 Y) Z (Ss Z (Mv u) Z (Ss Z (Lb 1 pl56 Z Z Z) Z (Ss Z (Fa QiE p Z) Z (Ss Z (La (cs:=(l27 a0 c d e f)) 2 ag27 sz27 t Z Z) Z trivial)))))), ?_⟩
 obtain ⟨⟨b3,c6⟩,i1,h⟩:=bnd h
 refine Ta Z (Ca Q14 (QfE a0 (rd a1.Ids D) _ _ _ _ _ J K L N (b3,c6) i1) (QaU Z Z)) Z ?_ ?_
 rintro _ o0 _ f2 ⟨_,⟨rfl,rfl⟩,rfl⟩
 refine⟨(Sl Z), ?_⟩
 refine WT.a0 (qt (.tuple #[(a71_ b3),(Bv c6)]) Z (Mv Z) (qt (a71_ b3) Z (Xt Z Z) (qt (Bv c6) Z (Xt Z Z) (Ta Z (Sg (v:=(a71_ b3)) (vl:=(l71 b3)) (arr':=(l71 b3)) Z sz71 Z Z (onb Z) Z Z Z) Z ?_ ?_))))
 rintro _ _ _ - ⟨rfl,rfl⟩
 refine⟨(Ss Z (Xt Z Z) Z (Sl Z)), ?_⟩
 refine qt (Bv c6) Z (Ag Z) (Ti (Dr ?_))
 obtain rfl:=oi h
 exact Tj ⟨f2,Z,t,p,u,Z⟩
 exact Tz
 exact Tz
 exact Tz
 rintro o1 o2 o3 ⟨b6,rfl,c7,c8,c9,d0⟩
 refine Sr (qM (Bv b4) d0 (qu (Bv (!b4)) (PO.not Z) (Nt (Ch h Z (fun i2 h=> ?_) (fun i2 h=> ?_)))))
 refine Sr (qa (Iv 18) (Nt (Cr (Br (Tr (WQ.leaveR (inr ()) (oi h).symm (fun a2=> ?_)))))))
 subst a2
 have h:=(QdO e6)
 refine Br (Tr ?_)
 have h:=KK.early h h5
 exact Dr (Dr (Rf h [] Z (Rs Z Z) (r.trans b6) ⟨Z,Z⟩))
 exact Ck (Bn (Tc (Cg (qM (Iv D) c9 (qu (Iv (i64.wrap (D+1))) (add Z Z) (qa (Iv (i64.wrap (D+1))) (Wz (WQ.again (i64.wrap (D+1)) (oi h).symm ⟨(r.trans b6),Z,c7,c8,Z⟩))))))))
 refine WC.exit (WQ.thenE (WQ.leaveE (inl ()) (oi h).symm (fun a2=> ?_)))
 subst a2
 have h:=QeJ e6
 exact WQ.blockH (WQ.thenFE h ⟨r,Z,t,p⟩)
 rintro _ o4 i3 o5 rfl ⟨Q,rfl,d1,a7⟩
 have h:=(Sum.elim_inl _ _ _).symm.trans h
 refine Cs (Sr (qu (pt a 1) (Fa QlJ a7 Z) (qu i (Lb 0 pl56 Z Z Z) ?_)))
 have x:=x.mono Q
 refine qu (Iv (a1.Isr.length:Int)) (lenS underlying56 Z x.len) (qu (Bv (decide ((a1.Isr.length:Int)=(0:Int)))) (eql Z Z) (Nt (Ch h Z (fun i4 h=> ?_) (fun i4 h=> ?_))))
 exact Sr (qa (Iv 18) (Nt (Cr (Tr (Dr (Dr (Rf h [] Z (Rs Z Z) Q ⟨Z,Z⟩)))))))
 refine Ck (Tc ?_)
 obtain ⟨l1,i5,h⟩:=bnd h
 refine WC.joinE (fun(_:Unit) ρ' M' H'=>i3.le M'∧[(a, .cells (l58 a1 g i j k).toArray 58 (0,0))]::[(w, .cells (l27 a0 c d e f).toArray 27 (0,0))]::F=H'∧ρ' 2=(pt w 0)∧ρ' 3=(pt a 0)) l1 ?_ ?_
 have i6:=h
 have h:=i5
 refine Sr (qa (Iv 0) (Nt (Bk ?_)))
 obtain ⟨o6,i7,e7⟩:=bnd h
 clear h
 refine WC.loop i7 (fun(R:Int) ρ' M' H'=>i3.le M'∧[(a, .cells (l58 a1 g i j k).toArray 58 (0,0))]::[(w, .cells (l27 a0 c d e f).toArray 27 (0,0))]::F=H'∧ρ' 2=(pt w 0)∧ρ' 3=(pt a 0)∧ρ' 8=(Iv R)) ?_ ?_
 exact⟨lr,Z,d1,a7,Z⟩
 rintro R o7 o8 o9 p0 h ⟨S,rfl,a8,z,T⟩
 unfold Qf9 at h
 refine Cs (Sr (qM (Iv R) T (qu (pt a 1) (Fa QlJ z Z) (qu i (Lb 0 pl56 Z Z Z) ?_))))
 have x:=x.mono S
 refine qu (Iv (a1.Isr.length:Int)) (lenS underlying56 Z x.len) (qu (Bv (decide (R<(a1.Isr.length:Int)))) (lss Z Z) (Nt (Ch h Z (fun i8 h=> ?_) (fun i8 h=> ?_))))
 refine Ck (Tc (Cs (Bk (Cs (WC.draw [0,1,0,4,0,28,60,127,255] (.pure 0 (.pure 1 (.pure 2 (.pure 3 (.pure 4 (.pure 5 (.pure 6 (.alt 7 (.pure 8 .done) .none)))))))) QdC (by kernel_rfl) (qt (pt a 0) Z (Fa QiE z Z) (qt g Z (Lb 0 pl56 Z Z Z) (qt (pt a 1) Z (Fa QlJ z Z) (qt i Z (Lb 0 pl56 Z Z Z) (qt (Iv R) Z (Mv T) ?_))))))))))
 obtain ⟨a9,h⟩:=QaQ h
 obtain ⟨l2,m0,f3,f4,hhas65⟩:=x.at a9.1 a9.2 (by decide)
 obtain rfl:=f4
 refine qt (.pointer (some l2)) Z (indexAddr (n:=a1.Isr.length) underlying56 sz3 Z Z a9.1 a9.2 f3) (qt (Iv (rd a1.Isr R)) Z (loadM pl3 Z (IM.has0 hhas65)) ?_)
 obtain ⟨i9,j0,h⟩:=bnd h
 have m:=m.mono (Q.trans S)
 refine Ta Z (Ca Q09 (QgO a1.Ids (rd a1.Isr R) _ _ m i9 j0) (QaU Z Z)) Z ?_ ?_
 rintro _ p1 _ b7 ⟨_,⟨rfl,rfl⟩,rfl⟩
 refine⟨(Sl Z), ?_⟩
 refine WT.a0 (qt (Bv (!i9)) Z (PO.not Z) (Ti (Tc (Ch h Z (fun j1 h=> ?_) (fun j1 h=> ?_)))))
 refine Sr (qa (Iv 18) (Nt (Cr (Br (Tr (WQ.leaveR (inr ()) (oi h).symm (fun a3=> ?_)))))))
 subst a3
 have h:=(QdO e7)
 refine Br (Tr ?_)
 have h:=KK.early h i6
 exact Dr (Dr (Rf h [] Z (Rs Z Z) ((Q.trans S).trans b7) ⟨Z,Z⟩))
 exact Ck (Bn (Tc (Cg (qM (Iv R) T (qu (Iv (i64.wrap (R+1))) (add Z Z) (qa (Iv (i64.wrap (R+1))) (Wz (WQ.again (i64.wrap (R+1)) (oi h).symm ⟨(S.trans b7),Z,a8,z,Z⟩))))))))
 exact Tz
 refine WC.exit (WQ.thenE (WQ.leaveE (inl ()) (oi h).symm (fun a3=> ?_)))
 subst a3
 have h:=QeJ e7
 exact WQ.blockH (WQ.thenFE h ⟨S,Z,a8,z⟩)
 rintro _ p2 l3 p3 rfl ⟨b8,rfl,d2,q⟩
 have j2:=Q.trans b8
 have h:=(Sum.elim_inl _ _ _).symm.trans h
 refine Cs ?_
 obtain ⟨f5,j3,h⟩:=bnd h
 refine Jf (fun(f5:Bool) ρ' M' H'=>l3.le M'∧[(a, .cells (l58 a1 g i j k).toArray 58 (0,0))]::[(w, .cells (l27 a0 c d e f).toArray 27 (0,0))]::F=H'∧ρ' 3=(pt a 0)∧ρ' 71=(Bv f5)) f5 ?_ ?_
 have h:=j3
 refine Cg (qu (pt a 2) (Fa Qk1 q Z) (qu (Iv a1.Leader) (Lb 0 pl3 Z Z Z) (qu (Bv (decide (a1.Leader≠0))) (neq Z Z) (qm (Bv (decide (a1.Leader≠0))) ?_))))
 rcases Bi h with⟨l,h⟩ |⟨l,h⟩
 refine qo 57 l (pt a 1) (Fa QlJ q Z) (qo 57 l i (Lb 0 pl56 Z Z Z) (qo 57 l (pt a 2) (Fa Qk1 q Z) (qo 57 l (Iv a1.Leader) (Lb 0 pl3 Z Z Z) (On 57 Z Z l ?_))))
 obtain ⟨f6,j4,h⟩:=bnd h
 have x:=x.mono b8
 refine We (Ca Q09 (QgO a1.Isr a1.Leader _ _ x f6 j4) (QaU Z Z)) Z ?_
 rintro _ p4 _ a4 ⟨_,⟨rfl,rfl⟩,rfl⟩
 have d3:=j2.trans a4
 refine WL.a0 (qo 57 l (Bv (!f6)) (PO.not Z) (On 57 Z Z l (qm (Bv (!f6)) ?_)))
 rcases Bi h with⟨A,h⟩ |⟨A,h⟩
 iterate 5 refine Of 64 Z Z A Z ?_
 refine qo 57 l (Bv true) (Pt Z A Z) (qu (Bv true) (Pt Z l Z) (Wz ?_))
 obtain rfl:=oi h
 exact Tj ⟨a4,Z,q,Z⟩
 refine qo 64 A (a27_ a0 c d e f) (La (cs:=(l27 a0 c d e f)) 1 ag27 sz27 d2 Z Z) (qo 64 A (pt a 2) (Fa Qk1 q Z) (qo 64 A (Iv a1.Leader) (Lb 0 pl3 Z Z Z) (On 64 Z Z A ?_)))
 obtain ⟨d4,j5,h⟩:=bnd h
 have J:=J.mono d3
 have K:=K.mono d3
 have L:=L.mono d3
 have N:=N.mono d3
 refine We (Ca Q9R (QtH a0 a1.Leader _ _ _ _ _ J K L N d4 j5) (QaU Z Z)) Z ?_
 rintro _ p5 _ f7 ⟨_,⟨rfl,rfl⟩,rfl⟩
 refine WL.a0 (qo 64 A (Bv (!d4)) (PO.not Z) (qo 57 l (Bv (!d4)) (Pf Z A Z) (qu (Bv (!d4)) (Pt Z l Z) (Wz ?_))))
 obtain rfl:=oi h
 exact Tj ⟨(a4.trans f7),Z,q,Z⟩
 iterate 7 refine Of 57 Z Z l Z ?_
 refine WL.offU 64 Z Z Z (WL.offU 64 Z Z Z (WL.offU 64 Z Z Z (WL.offU 64 Z Z Z (WL.offU 64 Z Z Z (Of 57 Z Z l Z (qu (Bv false) (Pf Z l Z) (Wz ?_)))))))
 obtain rfl:=oi h
 exact Tj ⟨lr,Z,q,Z⟩
 rintro p6 j6 p7 ⟨f8,rfl,d5,b9⟩
 have f9:=j2.trans f8
 refine Ch h b9 (fun j7 h=> ?_) (fun j7 h=> ?_)
 exact Sr (qa (Iv 17) (Nt (Cr (Tr (Dr (Dr (Rf h [] Z (Rs Z Z) f9 ⟨Z,Z⟩)))))))
 refine Ck (Tc ?_)
 obtain ⟨l4,j8,h⟩:=bnd h
 refine WC.joinE (fun(_:Unit) ρ' M' H'=>j6.le M'∧[(a, .cells (l58 a1 g i j k).toArray 58 (0,0))]::[(w, .cells (l27 a0 c d e f).toArray 27 (0,0))]::F=H'∧ρ' 3=(pt a 0)) l4 ?_ ?_
 have j9:=h
 have h:=j8
 refine Sr (qa (Iv 0) (Nt (Bk ?_)))
 obtain ⟨p8,k0,e8⟩:=bnd h
 clear h
 refine WC.loop k0 (fun(y:Int) ρ' M' H'=>j6.le M'∧[(a, .cells (l58 a1 g i j k).toArray 58 (0,0))]::[(w, .cells (l27 a0 c d e f).toArray 27 (0,0))]::F=H'∧ρ' 3=(pt a 0)∧ρ' 9=(Iv y)) ?_ ?_
 exact⟨lr,Z,d5,Z⟩
 rintro y p9 q0 l5 q1 h ⟨a5,rfl,o,B⟩
 have d6:=f9.trans a5
 unfold QgA at h
 refine Cs (Sr (qM (Iv y) B (qu (pt a 4) (Fa QmT o Z) (qu j (Lb 0 pl56 Z Z Z) ?_))))
 have O:=O.mono d6
 refine qu (Iv (a1.Add.length:Int)) (lenS underlying56 Z O.len) (qu (Bv (decide (y<(a1.Add.length:Int)))) (lss Z Z) (Nt (Ch h Z (fun k1 h=> ?_) (fun k1 h=> ?_))))
 refine Ck (Tc (Cs (Bk ?_)))
 obtain ⟨g0,k2,h⟩:=bnd h
 refine Jf (fun(g0:Bool) ρ' M' H'=>l5.le M'∧[(a, .cells (l58 a1 g i j k).toArray 58 (0,0))]::[(w, .cells (l27 a0 c d e f).toArray 27 (0,0))]::F=H'∧ρ' 3=(pt a 0)∧ρ' 9=(Iv y)∧ρ' 97=(Bv g0)) g0 ?_ ?_
 have h:=k2
 refine WC.draw [0,1,0,4,0,28,60,127,255,511,1023,2047,1023,5119,1023,29695,62463,131071,262143] (.pure 0 (.pure 1 (.pure 2 (.pure 3 (.pure 4 (.pure 5 (.pure 6 (.alt 7 (.pure 8 (.pure 9 (.pure 10 (.pure 11 (.pure 12 (.pure 13 (.pure 14 (.pure 15 (.pure 16 (.alt 17 (.pure 18 .done) .none)))))))))) .none)))))))) QdC (by kernel_rfl) (qt (pt a 0) Z (Fa QiE o Z) (qt g Z (Lb 0 pl56 Z Z Z) (qt (pt a 4) Z (Fa QmT o Z) (qt j Z (Lb 0 pl56 Z Z Z) (qt (Iv y) Z (Mv B) ?_)))))
 obtain ⟨b0,h⟩:=QaQ h
 obtain ⟨l6,m1,g1,g2,hhas99⟩:=O.at b0.1 b0.2 (by decide)
 obtain rfl:=g2
 refine qt (.pointer (some l6)) Z (indexAddr (n:=a1.Add.length) underlying56 sz3 Z Z b0.1 b0.2 g1) (qt (Iv (rd a1.Add y)) Z (loadM pl3 Z (IM.has0 hhas99)) ?_)
 obtain ⟨c0,g3,h⟩:=bnd h
 have m:=m.mono d6
 refine Ta Z (Ca Q09 (QgO a1.Ids (rd a1.Add y) _ _ m c0 g3) (QaU Z Z)) Z ?_ ?_
 rintro _ m2 _ I ⟨_,⟨rfl,rfl⟩,rfl⟩
 refine⟨(Sl Z), ?_⟩
 refine WT.a0 (qt (Bv (!c0)) Z (PO.not Z) (qt (Bv (!c0)) Z (Mv Z) ?_))
 rcases Bi h with⟨b,h⟩ |⟨b,h⟩
 refine Tf 88 Z Z Z b Z (Tf 88 Z Z Z b Z (Tf 88 Z Z Z b Z (Tf 88 Z Z Z b Z (Tf 88 Z Z Z b Z (Tf 88 Z Z Z b Z (Tf 88 Z Z Z b Z (Tg 88 Z Z Z b Z ⟨(Sl Z), ?_⟩ ?_)))))))
 refine qt (Bv true) Z (Pt Z b Z) (Ti ?_)
 obtain rfl:=oi h
 exact Tj ⟨I,Z,o,B,Z⟩
 exact Tz
 refine Tn (pt a 5) 88 Z Z Z b (Fa Ql7 o Z) Z (Tn k 88 Z Z Z b (Lb 0 pl56 Z Z Z) Z (Tn (pt a 4) 88 Z Z Z b (Fa QmT o Z) Z (Tn j 88 Z Z Z b (Lb 0 pl56 Z Z Z) Z (Tn (Iv y) 88 Z Z Z b (Mv B) Z ?_))))
 obtain ⟨U,h⟩:=QaQ h
 have O:=O.mono I
 obtain ⟨k3,l7,d7,d8,hhas112⟩:=O.at U.1 U.2 (by decide)
 obtain rfl:=d8
 refine Tn (.pointer (some k3)) 88 Z Z Z b (indexAddr (n:=a1.Add.length) underlying56 sz3 Z Z U.1 U.2 d7) Z (Tn (Iv (rd a1.Add y)) 88 Z Z Z b (loadM pl3 Z (IM.has0 hhas112)) Z ?_)
 obtain ⟨e9,g4,h⟩:=bnd h
 have P:=P.mono (d6.trans I)
 refine WT.altOn 88 Z Z Z b (Ca Q09 (QgO a1.Drop (rd a1.Add y) _ _ P e9 g4) (QaU Z Z)) Z ?_ ?_
 rintro _ m3 _ d9 ⟨_,⟨rfl,rfl⟩,rfl⟩
 refine⟨(Sl Z), ?_⟩
 refine WT.a0 (qt (Bv e9) Z (Pf Z b Z) (Ti ?_))
 obtain rfl:=oi h
 exact Tj ⟨(I.trans d9),Z,o,B,Z⟩
 exact Tz
 exact Tz
 rintro q2 q3 q4 ⟨c1,rfl,e0,e1,c2⟩
 refine Ch h c2 (fun g5 h=> ?_) (fun g5 h=> ?_)
 refine Sr (qa (Iv 18) (Nt (Cr (Br (Tr (WQ.leaveR (inr ()) (oi h).symm (fun a6=> ?_)))))))
 subst a6
 have h:=(QdO e8)
 refine Br (Tr ?_)
 have h:=KK.early h j9
 exact Dr (Dr (Rf h [] Z (Rs Z Z) (d6.trans c1) ⟨Z,Z⟩))
 exact Ck (Bn (Tc (Cg (qM (Iv y) e1 (qu (Iv (i64.wrap (y+1))) (add Z Z) (qa (Iv (i64.wrap (y+1))) (Wz (WQ.again (i64.wrap (y+1)) (oi h).symm ⟨(a5.trans c1),Z,e0,Z⟩))))))))
 refine WC.exit (WQ.thenE (WQ.leaveE (inl ()) (oi h).symm (fun a6=> ?_)))
 subst a6
 have h:=QeJ e8
 exact WQ.blockH (WQ.thenFE h ⟨a5,Z,o⟩)
 rintro _ q5 k4 q6 rfl ⟨g6,rfl,e2⟩
 have k5:=f9.trans g6
 have h:=(Sum.elim_inl _ _ _).symm.trans h
 obtain ⟨k6,g7,h⟩:=bnd h
 refine WC.joinE (fun(_:Unit) ρ' M' H'=>k4.le M'∧[(a, .cells (l58 a1 g i j k).toArray 58 (0,0))]::[(w, .cells (l27 a0 c d e f).toArray 27 (0,0))]::F=H') k6 ?_ ?_
 have g8:=h
 have h:=g7
 refine Sr (qa (Iv 0) (Nt (Bk ?_)))
 obtain ⟨m4,g9,c3⟩:=bnd h
 clear h
 refine WC.loop g9 (fun(s:Int) ρ' M' H'=>k4.le M'∧[(a, .cells (l58 a1 g i j k).toArray 58 (0,0))]::[(w, .cells (l27 a0 c d e f).toArray 27 (0,0))]::F=H'∧ρ' 3=(pt a 0)∧ρ' 10=(Iv s)) ?_ ?_
 exact⟨lr,Z,e2,Z⟩
 rintro s m5 m6 m7 m8 h ⟨V,rfl,C,E⟩
 have c4:=k5.trans V
 unfold QgB at h
 refine Cs (Sr (qM (Iv s) E (qu (pt a 5) (Fa Ql7 C Z) (qu k (Lb 0 pl56 Z Z Z) ?_))))
 have P:=P.mono c4
 refine qu (Iv (a1.Drop.length:Int)) (lenS underlying56 Z P.len) (qu (Bv (decide (s<(a1.Drop.length:Int)))) (lss Z Z) (Nt (Ch h Z (fun h0 h=> ?_) (fun h0 h=> ?_))))
 refine Ck (Tc (Cs (Bk (Cs (WC.draw [0,1,0,4,0,28,60,127,255] (.pure 0 (.pure 1 (.pure 2 (.pure 3 (.pure 4 (.pure 5 (.pure 6 (.alt 7 (.pure 8 .done) .none)))))))) QdC (by kernel_rfl) (qt (pt a 0) Z (Fa QiE C Z) (qt g Z (Lb 0 pl56 Z Z Z) (qt (pt a 5) Z (Fa Ql7 C Z) (qt k Z (Lb 0 pl56 Z Z Z) (qt (Iv s) Z (Mv E) ?_))))))))))
 obtain ⟨W,h⟩:=QaQ h
 obtain ⟨k7,l8,e3,e4,hhas129⟩:=P.at W.1 W.2 (by decide)
 obtain rfl:=e4
 refine qt (.pointer (some k7)) Z (indexAddr (n:=a1.Drop.length) underlying56 sz3 Z Z W.1 W.2 e3) (qt (Iv (rd a1.Drop s)) Z (loadM pl3 Z (IM.has0 hhas129)) ?_)
 obtain ⟨f0,h1,h⟩:=bnd h
 have m:=m.mono c4
 refine Ta Z (Ca Q09 (QgO a1.Ids (rd a1.Drop s) _ _ m f0 h1) (QaU Z Z)) Z ?_ ?_
 rintro _ m9 _ b1 ⟨_,⟨rfl,rfl⟩,rfl⟩
 refine⟨(Sl Z), ?_⟩
 refine WT.a0 (qt (Bv (!f0)) Z (PO.not Z) (Ti (Tc (Ch h Z (fun h2 h=> ?_) (fun h2 h=> ?_)))))
 refine Sr (qa (Iv 18) (Nt (Cr (Br (Tr (WQ.leaveR (inr ()) (oi h).symm (fun X=> ?_)))))))
 subst X
 have h:=(QdO c3)
 refine Br (Tr ?_)
 have h:=KK.early h g8
 exact Dr (Dr (Rf h [] Z (Rs Z Z) (c4.trans b1) ⟨Z,Z⟩))
 exact Ck (Bn (Tc (Cg (qM (Iv s) E (qu (Iv (i64.wrap (s+1))) (add Z Z) (qa (Iv (i64.wrap (s+1))) (Wz (WQ.again (i64.wrap (s+1)) (oi h).symm ⟨(V.trans b1),Z,C,Z⟩))))))))
 exact Tz
 refine WC.exit (WQ.thenE (WQ.leaveE (inl ()) (oi h).symm (fun X=> ?_)))
 subst X
 have h:=QeJ c3
 exact WQ.blockH (WQ.thenFE h ⟨V,Z⟩)
 rintro _ n0 n1 n2 rfl ⟨e5,rfl⟩
 have h:=(Sum.elim_inl _ _ _).symm.trans h
 exact Sr (qa (Iv 0) (Nt (Cr (Dr (Dr (Rf h [] Z (Rs Z Z) (k5.trans e5) ⟨Z,Z⟩))))))
noncomputable def Qg1 (a0:QaA) (a1:Int) (a2:Int) (a3:QaH) (s_:(Int×(List QaC))):Option ((Int×(List QaC))⊕(List QaC)):=
 match s_ with
 |(a,b)=>
 (if(decide (a<(a0.Topics.length:Int)))=true then(grd (0≤a∧a<a0.Topics.length) (((if(decide (((rd a0.Topics a).Id)=a1))=true then(grd (0≤(0:Int)∧(0:Int)≤a2∧a2≤(((rd a0.Topics a).Parts).length:Int)) (grd (([]:List QaH).length+(sub ((rd a0.Topics a).Parts) (0:Int) a2).length≤274877906944) (grd ((([]:List QaH)++(sub ((rd a0.Topics a).Parts) (0:Int) a2)).length+[a3].length≤274877906944) (((if(decide (a2<(((rd a0.Topics a).Parts).length:Int)))=true then(grd (0≤i64.wrap (a2+(1:Int))∧i64.wrap (a2+(1:Int))≤(((rd a0.Topics a).Parts).length:Int)∧(((rd a0.Topics a).Parts).length:Int)≤(((rd a0.Topics a).Parts).length:Int)) (grd (((([]:List QaH)++(sub ((rd a0.Topics a).Parts) (0:Int) a2))++[a3]).length+(sub ((rd a0.Topics a).Parts) (i64.wrap (a2+(1:Int))) (((rd a0.Topics a).Parts).length:Int)).length≤274877906944) (some (((([]:List QaH)++(sub ((rd a0.Topics a).Parts) (0:Int) a2))++[a3])++(sub ((rd a0.Topics a).Parts) (i64.wrap (a2+(1:Int))) (((rd a0.Topics a).Parts).length:Int))))))else(some ((([]:List QaH)++(sub ((rd a0.Topics a).Parts) (0:Int) a2))++[a3]))):Option (List QaH)).bind fun d=>(some d)))))else(some ((rd a0.Topics a).Parts))):Option (List QaH)).bind fun c=>(grd (b.length+[(⟨(rd a0.Topics a).Id,(rd a0.Topics a).Name,c⟩:QaC)].length≤274877906944) (some (inl (i64.wrap (a+(1:Int)),b++[(⟨(rd a0.Topics a).Id,(rd a0.Topics a).Name,c⟩:QaC)]))))))else(some (inr b)))
noncomputable def QfF (a0:QaA) (a1:Int) (a2:Int) (a3:QaH):Option QaA:=
 ((((iter (Qg1 a0 a1 a2 a3) ((0:Int),[])).bind (fun(a:(List QaC))=>(some a))):Option (List QaC)).bind fun b=>(some (⟨a0.Brokers,b,a0.Configs,a0.Done,a0.Last⟩:QaA)))
def QoS (a0:QaA) (a1:Int) (a2:Int) (a3:QaH) (g i j k l m n o:Value):QaA→Value→IM→HL→Prop:=
 fun(f:QaA) (v:Value) (M':IM) (H':HL)=>∃ a b c d e,(.agg #[a,b,d,e,(.int .i64 f.Last)])=v∧H'=[c]∧RS QaD M' a f.Brokers∧OwnS QaG M' b f.Topics c∧RS QaF M' d f.Configs∧RS QaI M' e f.Done
theorem QlO (a0:QaA) (a1:Int) (a2:Int) (a3:QaH) (M:IM) (b f c d i j k m:Value) (N:RS QaD M b a0.Brokers) (O:RS QaG M f a0.Topics) (P:RS QaF M c a0.Configs) (Q:RS QaI M d a0.Done) (a4:RS (Kd.int .i64) M i a3.Ids) (a5:RS (Kd.int .i64) M j a3.Isr) (a6:RS (Kd.int .i64) M k a3.Add) (a7:RS (Kd.int .i64) M m a3.Drop) (res:QaA) (h:QfF a0 a1 a2 a3=some res):
 Tri prog 133 #[(a27_ a0 b f c d),(Iv a1),(Iv a2),(a58_ a3 i j k m)] M [] (QoS a0 a1 a2 a3 b f c d i j k m res):=by
 unfold QfF at h
 refine Te func133 Z Z ?_
 intro F ρ hρ
 refine Sr (We (box (cs:=(l27 a0 b f c d).toArray) (congrArg Value.cells (asE (a27_ a0 b f c d) (hρ 0)))) Z ?_)
 rintro _ _ _ - ⟨rfl,I,rfl,rfl⟩
 refine We (box (cs:=(l58 a3 i j k m).toArray) (congrArg Value.cells (asE (a58_ a3 i j k m) (hρ 3)))) Z ?_
 rintro _ _ _ - ⟨rfl,U,rfl,rfl⟩
 refine We (Al ze27 Z) Z ?_
 rintro _ _ _ - ⟨rfl,R,rfl,rfl⟩
 refine Ns (qu (a27_ a0 b f c d) (La (cs:=(l27 a0 b f c d)) 2 ag27 sz27 Z Z Z) (We (Al ze27 Z) Z ?_))
 rintro _ _ _ - ⟨rfl,A,rfl,rfl⟩
 refine We (Sg (v:=(a27_ a0 b f c d)) (vl:=(l27 a0 b f c d)) (arr':=(l27 a0 b f c d)) Z sz27 Z Z (QbG (Oc (RS.one N) (Oc (RS.one O) (Oc (RS.one P) (Oc (RS.one Q) (Oc Z Oz)))))) Z Z Z) Z ?_
 rintro _ _ _ - ⟨rfl,rfl⟩
 refine Ns (qu (pt A 1) (Fa QbW Z Z) (We (Es Zs ((l27 a0 b Zs c d)) Z sz23 Z Z Z Z Z Z) Z ?_))
 rintro _ _ _ - ⟨rfl,rfl⟩
 refine Nt ?_
 obtain ⟨c9,e1,h⟩:=bnd h
 refine Jf (fun(c9:(List QaC)) ρ' M' H'=>∃ q S,M.le M'∧[(A, .cells (l27 a0 b q c d).toArray 27 (0,0))]::[(R, .cells z27_.toArray 27 (0,0))]::[(U, .cells (l58 a3 i j k m).toArray 58 (0,0))]::[(I, .cells (l27 a0 b f c d).toArray 27 (0,0))]::S::F=H'∧ρ' 8=(pt R 0)∧ρ' 9=(pt A 0)∧OwnS QaG M' q c9 S) c9 ?_ ?_
 have h:=e1
 refine Sr (qa (Iv 0) (Nt (Bk (WC.e0 (WC.f4 (WC.f4 (WC.f4 (WC.f4 ?_))))))))
 obtain ⟨h7,e2,e3⟩:=bnd h
 clear h
 refine WC.loop e2 (fun(p_:(Int×(List QaC))) ρ' M' H'=>match p_ with |(a,a8)=>∃ B E,M.le M'∧[(A, .cells (l27 a0 b B c d).toArray 27 (0,0))]::[(R, .cells z27_.toArray 27 (0,0))]::[(U, .cells (l58 a3 i j k m).toArray 58 (0,0))]::[(I, .cells (l27 a0 b f c d).toArray 27 (0,0))]::E::F=H'∧ρ' 1=(Iv a1)∧ρ' 2=(Iv a2)∧ρ' 4=(pt I 0)∧ρ' 7=(pt U 0)∧ρ' 8=(pt R 0)∧ρ' 9=(pt A 0)∧ρ' 10=(Iv a)∧OwnS QaG M' B a8 E) ?_ ?_
 exact⟨Zs,[],lr,Z,(hρ 1),(hρ 2),Z,Z,Z,Z,Z,(OwnS.nil _ _)⟩
 rintro ⟨a,a8⟩ h8 h9 d0 i0 h ⟨B,E,r,rfl,u,p,s,w,y,z,o,W⟩
 unfold Qg1 at h
 refine Cs (Sr (qM (Iv a) o (qu (pt I 1) (Fa QbW s Z) (qu f (Lb 3 pl23 Z Z Z) ?_))))
 have O:=O.mono r
 refine qu (Iv (a0.Topics.length:Int)) (lenS underlying23 Z O.len) (qu (Bv (decide (a<(a0.Topics.length:Int)))) (lss Z Z) (Nt (Ch h Z (fun e4 h=> ?_) (fun e4 h=> ?_))))
 refine Ck (Tc (Cs (Bk (Sr (qu (pt I 1) (Fa QbW s Z) (qu f (Lb 3 pl23 Z Z Z) (qM (Iv a) o ?_)))))))
 obtain ⟨X,h⟩:=QaQ h
 obtain ⟨g5,h6,d1,d2,hhas38⟩:=O.at X.1 X.2 (by decide)
 obtain ⟨e,rfl,g⟩:=QaN d2
 refine qu (.pointer (some g5)) (indexAddr (n:=a0.Topics.length) underlying23 sz55 Z Z X.1 X.2 d1) (qu (a55_ (rd a0.Topics a) e) (loadMA (cs:=(l55 (rd a0.Topics a) e)) ag55 sz55 Z hhas38) (We (Al ze55 Z) Z ?_))
 rintro _ _ _ - ⟨rfl,J,rfl,rfl⟩
 refine We (Sg (v:=(a55_ (rd a0.Topics a) e)) (vl:=(l55 (rd a0.Topics a) e)) (arr':=(l55 (rd a0.Topics a) e)) Z sz55 Z Z (QbG (Oc Z (Oc Z (Oc (RS.one g) Oz)))) Z Z Z) Z ?_
 rintro _ _ _ - ⟨rfl,rfl⟩
 refine Nt ?_
 obtain ⟨V,e5,h⟩:=bnd h
 refine Jf (fun(V:(List QaH)) ρ' M' H'=>∃ t,d0.le M'∧[(J, .cells (l55 (rd a0.Topics a) t).toArray 55 (0,0))]::[(A, .cells (l27 a0 b B c d).toArray 27 (0,0))]::[(R, .cells z27_.toArray 27 (0,0))]::[(U, .cells (l58 a3 i j k m).toArray 58 (0,0))]::[(I, .cells (l27 a0 b f c d).toArray 27 (0,0))]::E::F=H'∧ρ' 1=(Iv a1)∧ρ' 2=(Iv a2)∧ρ' 4=(pt I 0)∧ρ' 7=(pt U 0)∧ρ' 8=(pt R 0)∧ρ' 9=(pt A 0)∧ρ' 10=(Iv a)∧ρ' 11=(pt J 0)∧RS QbF M' t V) V ?_ ?_
 have h:=e5
 refine Sr (qu (pt J 0) (Fa Qk0 Z Z) (qu (Iv ((rd a0.Topics a).Id)) (Lb 0 pl3 Z Z Z) (qM (Iv a1) u (qu (Bv (decide (((rd a0.Topics a).Id)=a1))) (eql Z Z) (Nt (Ch h Z (fun e6 h=> ?_) (fun e6 h=> ?_)))))))
 refine Sr (qa Zs (Ns (qm Zs (qu (pt J 2) (Fa QdB Z Z) (qu e (Lb 0 pl53 Z Z Z) (qM (Iv a2) p ?_))))))
 obtain ⟨C,h⟩:=QaQ h
 have g6:=g.sub C.1 C.2.1 C.2.2
 refine qu (slV e 6 ((0:Int)).toNat (a2).toNat) (slice (n:=((rd a0.Topics a).Parts).length) (l:=((0:Int)).toNat) (h:=(a2).toNat) underlying53 sz58 Z g.len g.cap (Q5S Z) ⟨_,_,Z,(Int.le_trans C.1 C.2.1),Z⟩ (Int.toNat_le_toNat C.2.1) (Qg5 C.2.2)) ?_
 obtain ⟨e7,h⟩:=QaQ h
 refine WL.e0 (We (append (dd:=QbF) (xs:=[]) (ys:=sub ((rd a0.Topics a).Parts) (0:Int) a2) underlying53 underlying53 in58 Z (appB (by decide) e7) (by decide) Z Z (OwnS.nil _ _) (g6.src _)) Z ?_)
 rintro e8 _ _ - ⟨rfl,i1,rfl,g7⟩
 refine qa e8 (Ns (qm e8 (qu (a58_ a3 i j k m) (La (cs:=(l58 a3 i j k m)) 4 ag58 sz58 w Z Z) (We (buildSliceL (cl:=(l58 a3 i j k m)) underlying53 iz58 Z (Pc (a58_ a3 i j k m) Z Z Pz) Z) Z ?_))))
 rintro _ _ _ - ⟨rfl,e9,rfl,rfl⟩
 have a4:=a4.mono r
 have a5:=a5.mono r
 have a6:=a6.mono r
 have a7:=a7.mono r
 have g8:OwnS QbF d0 (.slice (some ⟨e9,0,none⟩) 1 1) [a3] [(e9, .cells (l58 a3 i j k m).toArray 58 (0,0))]:=OwnS.rows (css:=[(l58 a3 i j k m)]) (Rows.cons (QpD (x:=a3) a4 a5 a6 a7) Rows.nil) Z Z
 obtain ⟨f0,h⟩:=QaQ h
 refine WL.f1 (We (append (dd:=QbF) (xs:=([]:List QaH)++(sub ((rd a0.Topics a).Parts) (0:Int) a2)) (ys:=[a3]) underlying53 underlying53 in58 Z (appB (by decide) f0) (by decide) Z Z g7 (g8.src 1 Z)) Z ?_)
 rintro d3 _ _ - ⟨rfl,g9,rfl,f2⟩
 refine qa d3 (Nt ?_)
 obtain ⟨d4,f7,h⟩:=bnd h
 refine Jf (fun(d4:(List QaH)) ρ' M' H'=>∃ D a9,d0.le M'∧[(J, .cells (l55 (rd a0.Topics a) e).toArray 55 (0,0))]::[(A, .cells (l27 a0 b B c d).toArray 27 (0,0))]::[(R, .cells z27_.toArray 27 (0,0))]::[(U, .cells (l58 a3 i j k m).toArray 58 (0,0))]::[(I, .cells (l27 a0 b f c d).toArray 27 (0,0))]::a9::E::F=H'∧ρ' 1=(Iv a1)∧ρ' 2=(Iv a2)∧ρ' 4=(pt I 0)∧ρ' 7=(pt U 0)∧ρ' 8=(pt R 0)∧ρ' 9=(pt A 0)∧ρ' 10=(Iv a)∧ρ' 11=(pt J 0)∧ρ' 12=D∧OwnS QbF M' D d4 a9) d4 ?_ ?_
 have h:=f7
 refine Sr (qM (Iv a2) p (qu (pt J 2) (Fa QdB Z Z) (qu e (Lb 2 pl53 Z Z Z) (qu (Iv (((rd a0.Topics a).Parts).length:Int)) (lenS underlying53 Z g.len) (qu (Bv (decide (a2<(((rd a0.Topics a).Parts).length:Int)))) (lss Z Z) (Nt (Ch h Z (fun f8 h=> ?_) (fun f8 h=> ?_))))))))
 refine Cg (qm d3 (qu (pt J 2) (Fa QdB Z Z) (qu e (Lb 2 pl53 Z Z Z) (qM (Iv a2) p (qu (Iv (i64.wrap (a2+1))) (add Z Z) ?_)))))
 obtain ⟨G,h⟩:=QaQ h
 have h0:=g.sub G.1 G.2.1 G.2.2
 refine qu (slV e 6 (i64.wrap (a2+1)).toNat ((((rd a0.Topics a).Parts).length:Int)).toNat) (slice (n:=((rd a0.Topics a).Parts).length) (l:=(i64.wrap (a2+1)).toNat) (h:=((((rd a0.Topics a).Parts).length:Int)).toNat) underlying53 sz58 Z g.len g.cap ⟨_,_,Z,G.1,Z⟩ (QwY Z) (Int.toNat_le_toNat G.2.1) (Qg5 G.2.2)) ?_
 obtain ⟨f9,h⟩:=QaQ h
 refine We (append (dd:=QbF) (xs:=(([]:List QaH)++(sub ((rd a0.Topics a).Parts) (0:Int) a2))++[a3]) (ys:=sub ((rd a0.Topics a).Parts) (i64.wrap (a2+1)) (((rd a0.Topics a).Parts).length:Int)) underlying53 underlying53 in58 Z (appB (by decide) f9) (by decide) Z Z f2 (h0.src _)) Z ?_
 rintro g0 _ _ - ⟨rfl,h1,rfl,h2⟩
 refine qa g0 (Wz (Qa (Dr (WQ.f6 (Qa (WQ.f6 (WQ.f6 (WQ.f6 (WQ.f6 (WQ.f6 ?_))))))))))
 obtain rfl:=oi h
 exact Tj ⟨g0,h1,lr,Z,u,p,s,w,y,z,o,Z,Z,h2⟩
 refine Ck (Qa (Dr (WQ.f6 (Qa (WQ.f6 (WQ.f6 (WQ.f6 (WQ.f6 (WQ.f6 ?_)))))))))
 obtain rfl:=oi h
 exact Tj ⟨d3,g9,lr,Z,u,p,s,w,y,z,o,Z,Z,f2⟩
 rintro i2 i3 i4 ⟨D,a9,d5,rfl,b6,b7,b8,b9,c0,c1,b0,T,b1,b2⟩
 refine Cg (qM D b1 (qu (pt J 2) (Fa QdB T Z) (We (Es D ((l55 (rd a0.Topics a) D)) b2.cells sz53 Z Z (Ow b2) Z Z Z) Z ?_)))
 rintro _ _ _ - ⟨rfl,rfl⟩
 refine Wz (WQ.f5 (WQ.know (fun _ hs=>b2.rs hs) (fun g1=> ?_)))
 refine WQ.freeze (fun d6=> ?_)
 obtain rfl:=oi h
 exact Tj ⟨D,(d5.trans d6),Z,b6,b7,b8,b9,c0,c1,b0,T,g1⟩
 refine Ck ?_
 obtain rfl:=oi h
 exact Tj ⟨e,lr,Z,u,p,s,w,y,z,o,Z,g⟩
 rintro i5 h3 i6 ⟨t,b3,rfl,c2,c3,c4,c5,c6,K,b4,b5,g2⟩
 refine Cg (qu (pt A 1) (Fa QbW K Z) (qu B (Lb 1 pl23 Z Z Z) (qu (a55_ (rd a0.Topics a) t) (La (cs:=(l55 (rd a0.Topics a) t)) 0 ag55 sz55 b5 Z Z) (We (buildSliceL (cl:=(l55 (rd a0.Topics a) t)) underlying23 iz55 Z (Pc (a55_ (rd a0.Topics a) t) Z Z Pz) Z) Z ?_))))
 rintro _ _ _ - ⟨rfl,g3,rfl,rfl⟩
 have h4:OwnS QaG h3 (.slice (some ⟨g3,0,none⟩) 1 1) [(⟨(rd a0.Topics a).Id,(rd a0.Topics a).Name,V⟩:QaC)] [(g3, .cells (l55 (rd a0.Topics a) t).toArray 55 (0,0))]:=OwnS.rows (css:=[(l55 (rd a0.Topics a) t)]) (Rows.cons (QjN (x:=(⟨(rd a0.Topics a).Id,(rd a0.Topics a).Name,V⟩:QaC)) g2) Rows.nil) Z Z
 obtain ⟨g4,h⟩:=QaQ h
 refine WL.f6 ?_
 have W:=W.mono b3
 refine We (append (dd:=QaG) (xs:=a8) (ys:=[(⟨(rd a0.Topics a).Id,(rd a0.Topics a).Name,V⟩:QaC)]) underlying23 underlying23 in55 Z (appB (by decide) g4) (by decide) Z Z W (h4.src 1 Z)) Z ?_
 rintro d7 _ _ - ⟨rfl,h5,rfl,d8⟩
 refine qu (pt A 1) (Fa QbW K Z) (WL.f3 (We (Es d7 ((l27 a0 b d7 c d)) d8.cells sz23 Z Z (Ow d8) Z Z Z) Z ?_))
 rintro _ _ _ - ⟨rfl,rfl⟩
 refine Wz (Bn (Tc (Cg (qM (Iv a) b4 (qu (Iv (i64.wrap (a+1))) (add Z Z) (qa (Iv (i64.wrap (a+1))) (Wz (Qb (Dr (Qb (Dr ?_)))))))))))
 exact Qa (WQ.f4 (WQ.f4 (WQ.f4 (WQ.f4 (WQ.again (i64.wrap (a+1),a8++[(⟨(rd a0.Topics a).Id,(rd a0.Topics a).Name,V⟩:QaC)]) (oi h).symm ⟨d7,h5,(r.trans b3),Z,c2,c3,c4,c5,c6,K,Z,d8⟩)))))
 refine WC.exit (WQ.thenE (WQ.leaveE a8 (oi h).symm (fun d9=> ?_)))
 subst d9
 have h:=e3
 refine WQ.blockH ?_
 obtain rfl:=oi h
 exact Tj ⟨B,E,r,Z,y,z,W⟩
 rintro i7 i8 i9 ⟨q,S,L,rfl,Y,c7,c8⟩
 refine Sr (qu (a27_ a0 b q c d) (La (cs:=(l27 a0 b q c d)) 0 ag27 sz27 c7 Z Z) (WL.f1 ?_))
 have N:=N.mono L
 have P:=P.mono L
 have Q:=Q.mono L
 refine We (Sg (v:=(a27_ a0 b q c d)) (vl:=(l27 a0 b q c d)) (arr':=(l27 a0 b q c d)) Z sz27 Y Z (QbG (Oc (RS.one N) (Oc (Ow c8) (Oc (RS.one P) (Oc (RS.one Q) (Oc Z Oz)))))) Z Z Z) Z ?_
 rintro _ _ _ - ⟨rfl,rfl⟩
 exact Nt (Cr (Qa (Dr (Qa (Dr (Qa (Dr (Rd h [S] (fun _ hs=>hs.drop) (QbH Z (Rc (cs:=(l27 a0 b q c d)) 0 ag27 sz27 Y Z Z)) L ⟨b,q,S,c,d,Z,Z,N,c8,P,Q⟩))))))))
noncomputable def QhF (a0:(List Int)) (a1:(List Int)) (s_:Int):Option (Int⊕(Unit⊕Unit)):=
 match s_ with
 |a=>
 (if(decide (a<(a0.length:Int)))=true then(grd (0≤a∧a<a0.length) (grd (0≤a∧a<a1.length) (if(decide ((rd a0 a)≠(rd a1 a)))=true then(some (inr (inr ())))else(some (inl (i64.wrap (a+(1:Int))))))))else(some (inr (inl ()))))
noncomputable def QfT (a0:(List Int)) (a1:(List Int)):Option Bool:=
 (if(decide ((a0.length:Int)≠(a1.length:Int)))=true then(some false)else((((iter (QhF a0 a1) (0:Int)).bind (Sum.elim (fun _=>(some (inl ()))) (fun _=>(((some false)).bind fun r=>some (inr r))))):Option (Unit⊕Bool)).bind (Sum.elim (fun _=>(some true)) some)))
def Qr3 (a0:(List Int)) (a1:(List Int)) (b c:Value):Bool→Value→IM→HL→Prop:=
 fun(a:Bool) (v:Value) (M':IM) (H':HL)=>(.bool a)=v∧H'=[]
theorem Qi1 (a0:(List Int)) (a1:(List Int)) (M:IM) (k r:Value) (s:RS (Kd.int .i64) M k a0) (z:RS (Kd.int .i64) M r a1) (res:Bool) (h:QfT a0 a1=some res):
 Tri prog 119 #[k,r] M [] (Qr3 a0 a1 k r res):=by
 unfold QfT at h
 refine Te func119 Z Z ?_
 intro F ρ hρ
 refine Sr (qa (Bv false) (Nt (Cs (Sr (qM k (hρ 0) (qu (Iv (a0.length:Int)) (lenS underlying56 Z s.len) (qM r (hρ 1) (qu (Iv (a1.length:Int)) (lenS underlying56 Z z.len) (qu (Bv (decide ((a0.length:Int)≠(a1.length:Int)))) (neq Z Z) (Nt (Ch h Z (fun t h=> ?_) (fun t h=> ?_))))))))))))
 exact Sr (qa (Bv false) (Nt (Cr (Tr (Rf h [] Z (Rs Z Z) lr ⟨Z,Z⟩)))))
 refine Ck (Tc ?_)
 obtain ⟨A,u,h⟩:=bnd h
 refine WC.joinE (fun(_:Unit) ρ' M' H'=>M.le M'∧F=H') A ?_ ?_
 have v:=h
 have h:=u
 refine Sr (qa (Iv 0) (Nt (Bk ?_)))
 obtain ⟨G,w,j⟩:=bnd h
 clear h
 refine WC.loop w (fun(a:Int) ρ' M' H'=>M.le M'∧F=H'∧ρ' 0=k∧ρ' 1=r∧ρ' 5=(Iv a)) ?_ ?_
 exact⟨lr,Z,(hρ 0),(hρ 1),Z⟩
 rintro a I J K L h ⟨c,rfl,d,f,b⟩
 unfold QhF at h
 refine Cs (Sr (qM (Iv a) b (qM k d ?_)))
 have s:=s.mono c
 refine qu (Iv (a0.length:Int)) (lenS underlying56 Z s.len) (qu (Bv (decide (a<(a0.length:Int)))) (lss Z Z) (Nt (Ch h Z (fun x h=> ?_) (fun x h=> ?_))))
 refine Ck (Tc (Cs (Bk (Cs (WC.draw [0,0,3,7,0,0,48,112,255] (.pure 0 (.pure 1 (.pure 2 (.pure 3 (.pure 4 (.pure 5 (.pure 6 (.pure 7 (.pure 8 .done))))))))) QdC (by kernel_rfl) (qt k Z (Mv d) (qt (Iv a) Z (Mv b) ?_)))))))
 obtain ⟨g,h⟩:=QaQ h
 obtain ⟨B,D,l,m,hhas31⟩:=s.at g.1 g.2 (by decide)
 obtain rfl:=m
 refine qt (.pointer (some B)) Z (indexAddr (n:=a0.length) underlying56 sz3 Z Z g.1 g.2 l) (qt (Iv (rd a0 a)) Z (loadM pl3 Z (IM.has0 hhas31)) (qt r Z (Mv f) (qt (Iv a) Z (Mv b) ?_)))
 obtain ⟨i,h⟩:=QaQ h
 have z:=z.mono c
 obtain ⟨C,E,o,p,hhas38⟩:=z.at i.1 i.2 (by decide)
 obtain rfl:=p
 refine qt (.pointer (some C)) Z (indexAddr (n:=a1.length) underlying56 sz3 Z Z i.1 i.2 o) (qt (Iv (rd a1 a)) Z (loadM pl3 Z (IM.has0 hhas38)) (qt (Bv (decide ((rd a0 a)≠(rd a1 a)))) Z (neq Z Z) (Ti (Tc (Ch h Z (fun y h=> ?_) (fun y h=> ?_))))))
 refine Sr (qa (Bv false) (Nt (Cr (Br (Tr (WQ.leaveR (inr ()) (oi h).symm (fun e=> ?_)))))))
 subst e
 have h:=(QdO j)
 refine Br (Tr ?_)
 have h:=KK.early h v
 exact Rf h [] Z (Rs Z Z) c ⟨Z,Z⟩
 exact Ck (Bn (Tc (Cg (qM (Iv a) b (qu (Iv (i64.wrap (a+1))) (add Z Z) (qa (Iv (i64.wrap (a+1))) (Wz (WQ.again (i64.wrap (a+1)) (oi h).symm ⟨c,Z,d,f,Z⟩))))))))
 refine WC.exit (WQ.thenE (WQ.leaveE (inl ()) (oi h).symm (fun e=> ?_)))
 subst e
 have h:=QeJ j
 exact WQ.blockH (WQ.thenFE h ⟨c,Z⟩)
 rintro _ N O P rfl ⟨q,rfl⟩
 have h:=(Sum.elim_inl _ _ _).symm.trans h
 exact Sr (qa (Bv true) (Nt (Cr (Rf h [] Z (Rs Z Z) q ⟨Z,Z⟩))))
noncomputable def QdQ (a0:QaH) (a1:QaH):Option Bool:=
 (((if(decide (a0.Leader≠a1.Leader))=true then(some true)else(some (decide (a0.Epoch≠a1.Epoch)))):Option Bool).bind fun a=>(if a=true then(some false)else((((QfT a0.Ids a1.Ids).bind fun b=>(if b=true then((QfT a0.Isr a1.Isr).bind fun c=>(some c))else(some false))):Option Bool).bind fun d=>(((if d=true then((QfT a0.Add a1.Add).bind fun e=>(if e=true then((QfT a0.Drop a1.Drop).bind fun f=>(some f))else(some false)))else(some false)):Option Bool).bind fun g=>(some g)))))
def QnJ (a0:QaH) (a1:QaH) (a b c d e f g i:Value):Bool→Value→IM→HL→Prop:=
 fun(j:Bool) (v:Value) (M':IM) (H':HL)=>(.bool j)=v∧H'=[]
theorem QlC (a0:QaH) (a1:QaH) (M:IM) (b c d e f g i j:Value) (x:RS (Kd.int .i64) M b a0.Ids) (y:RS (Kd.int .i64) M c a0.Isr) (z:RS (Kd.int .i64) M d a0.Add) (A:RS (Kd.int .i64) M e a0.Drop) (B:RS (Kd.int .i64) M f a1.Ids) (C:RS (Kd.int .i64) M g a1.Isr) (D:RS (Kd.int .i64) M i a1.Add) (E:RS (Kd.int .i64) M j a1.Drop) (res:Bool) (h:QdQ a0 a1=some res):
 Tri prog 86 #[(a58_ a0 b c d e),(a58_ a1 f g i j)] M [] (QnJ a0 a1 b c d e f g i j res):=by
 unfold QdQ at h
 refine Te func86 Z Z ?_
 intro F ρ hρ
 refine Sr (We (box (cs:=(l58 a0 b c d e).toArray) (congrArg Value.cells (asE (a58_ a0 b c d e) (hρ 0)))) Z ?_)
 rintro _ _ _ - ⟨rfl,q,rfl,rfl⟩
 refine We (box (cs:=(l58 a1 f g i j).toArray) (congrArg Value.cells (asE (a58_ a1 f g i j) (hρ 1)))) Z ?_
 rintro _ _ _ - ⟨rfl,r,rfl,rfl⟩
 refine qa (Bv false) (Nt (Cs ?_))
 obtain ⟨L,U,h⟩:=bnd h
 refine Jf (fun(L:Bool) ρ' M' H'=>M.le M'∧[(r, .cells (l58 a1 f g i j).toArray 58 (0,0))]::[(q, .cells (l58 a0 b c d e).toArray 58 (0,0))]::F=H'∧ρ' 2=(pt q 0)∧ρ' 3=(pt r 0)∧ρ' 17=(Bv L)) L ?_ ?_
 have h:=U
 refine Cg (qu (pt q 2) (Fa Qk1 Z Z) (qu (Iv a0.Leader) (Lb 1 pl3 Z Z Z) (qu (pt r 2) (Fa Qk1 Z Z) (qu (Iv a1.Leader) (Lb 0 pl3 Z Z Z) (qu (Bv (decide (a0.Leader≠a1.Leader))) (neq Z Z) (qm (Bv (decide (a0.Leader≠a1.Leader))) ?_))))))
 rcases Bi h with⟨k,h⟩ |⟨k,h⟩
 iterate 5 refine Of 11 Z Z k Z ?_
 refine qu (Bv true) (Pt Z k Z) (Wz ?_)
 obtain rfl:=oi h
 exact Tj ⟨lr,Z,Z,Z,Z⟩
 refine qo 11 k (pt q 3) (Fa Ql6 Z Z) (qo 11 k (Iv a0.Epoch) (Lb 1 pl3 Z Z Z) (qo 11 k (pt r 3) (Fa Ql6 Z Z) (qo 11 k (Iv a1.Epoch) (Lb 0 pl3 Z Z Z) (qo 11 k (Bv (decide (a0.Epoch≠a1.Epoch))) (neq Z Z) (qu (Bv (decide (a0.Epoch≠a1.Epoch))) (Pf Z k Z) (Wz ?_))))))
 obtain rfl:=oi h
 exact Tj ⟨lr,Z,Z,Z,Z⟩
 rintro a8 a6 a9 ⟨a,rfl,o,p,G⟩
 refine Ch h G (fun V h=> ?_) (fun V h=> ?_)
 exact Sr (qa (Bv false) (Nt (Cr (Tr (Dr (Dr (Rf h [] Z (Rs Z Z) a ⟨Z,Z⟩)))))))
 refine Ck (Tc ?_)
 obtain ⟨I,W,h⟩:=bnd h
 refine Jf (fun(I:Bool) ρ' M' H'=>a6.le M'∧[(r, .cells (l58 a1 f g i j).toArray 58 (0,0))]::[(q, .cells (l58 a0 b c d e).toArray 58 (0,0))]::F=H'∧ρ' 2=(pt q 0)∧ρ' 3=(pt r 0)∧ρ' 5=(Bv I)) I ?_ ?_
 have h:=W
 refine Cg (qu (pt q 0) (Fa QiE o Z) (qu b (Lb 1 pl56 Z Z Z) (qu (pt r 0) (Fa QiE p Z) (qu f (Lb 0 pl56 Z Z Z) ?_))))
 obtain ⟨X,Y,h⟩:=bnd h
 have x:=x.mono a
 have B:=B.mono a
 refine We (Ca Q34 (Qi1 a0.Ids a1.Ids _ _ _ x B X Y) (QaU Z Z)) Z ?_
 rintro _ b0 _ t ⟨_,⟨rfl,rfl⟩,rfl⟩
 refine WL.a0 (qm (Bv X) ?_)
 rcases Bi h with⟨l,h⟩ |⟨l,h⟩
 refine qo 23 l (pt q 1) (Fa QlJ o Z) (qo 23 l c (Lb 1 pl56 Z Z Z) (qo 23 l (pt r 1) (Fa QlJ p Z) (qo 23 l g (Lb 0 pl56 Z Z Z) (On 23 Z Z l ?_))))
 obtain ⟨N,a2,h⟩:=bnd h
 have y:=y.mono (a.trans t)
 have C:=C.mono (a.trans t)
 refine We (Ca Q34 (Qi1 a0.Isr a1.Isr _ _ _ y C N a2) (QaU Z Z)) Z ?_
 rintro _ b1 _ O ⟨_,⟨rfl,rfl⟩,rfl⟩
 refine WL.a0 (qu (Bv N) (Pt Z l Z) (qa (Bv N) (Wz ?_)))
 obtain rfl:=oi h
 exact Tj ⟨(t.trans O),Z,o,p,Z⟩
 iterate 5 refine Of 23 Z Z l Z ?_
 refine qu (Bv false) (Pf Z l Z) (qa (Bv false) (Wz ?_))
 obtain rfl:=oi h
 exact Tj ⟨t,Z,o,p,Z⟩
 rintro b2 a7 b3 ⟨s,rfl,v,w,J⟩
 obtain ⟨P,a3,h⟩:=bnd h
 refine Jf (fun(P:Bool) ρ' M' H'=>a7.le M'∧[(r, .cells (l58 a1 f g i j).toArray 58 (0,0))]::[(q, .cells (l58 a0 b c d e).toArray 58 (0,0))]::F=H'∧ρ' 4=(Bv P)) P ?_ ?_
 have h:=a3
 refine Cg (qM (Bv I) J (qm (Bv I) ?_))
 rcases Bi h with⟨m,h⟩ |⟨m,h⟩
 refine qo 31 m (pt q 4) (Fa QmT v Z) (qo 31 m d (Lb 1 pl56 Z Z Z) (qo 31 m (pt r 4) (Fa QmT w Z) (qo 31 m i (Lb 0 pl56 Z Z Z) (On 31 Z Z m ?_))))
 obtain ⟨Q,a4,h⟩:=bnd h
 have z:=z.mono (a.trans s)
 have D:=D.mono (a.trans s)
 refine We (Ca Q34 (Qi1 a0.Add a1.Add _ _ _ z D Q a4) (QaU Z Z)) Z ?_
 rintro _ b4 _ u ⟨_,⟨rfl,rfl⟩,rfl⟩
 refine WL.a0 (qu (Bv Q) (Pt Z m Z) (qm (Bv Q) ?_))
 rcases Bi h with⟨n,h⟩ |⟨n,h⟩
 refine qo 38 n (pt q 5) (Fa Ql7 v Z) (qo 38 n e (Lb 1 pl56 Z Z Z) (qo 38 n (pt r 5) (Fa Ql7 w Z) (qo 38 n j (Lb 0 pl56 Z Z Z) (On 38 Z Z n ?_))))
 obtain ⟨R,a5,h⟩:=bnd h
 have A:=A.mono ((a.trans s).trans u)
 have E:=E.mono ((a.trans s).trans u)
 refine We (Ca Q34 (Qi1 a0.Drop a1.Drop _ _ _ A E R a5) (QaU Z Z)) Z ?_
 rintro _ b5 _ S ⟨_,⟨rfl,rfl⟩,rfl⟩
 refine WL.a0 (qu (Bv R) (Pt Z n Z) (qa (Bv R) (Wz ?_)))
 obtain rfl:=oi h
 exact Tj ⟨(u.trans S),Z,Z⟩
 iterate 5 refine Of 38 Z Z n Z ?_
 refine qu (Bv false) (Pf Z n Z) (qa (Bv false) (Wz ?_))
 obtain rfl:=oi h
 exact Tj ⟨u,Z,Z⟩
 iterate 5 refine Of 31 Z Z m Z ?_
 refine qu (Bv false) (Pf Z m Z) (qm (Bv false) ?_)
 iterate 5 refine Of 38 Z Z Z Z ?_
 refine qu (Bv false) (Pf Z Z Z) (qa (Bv false) (Wz ?_))
 obtain rfl:=oi h
 exact Tj ⟨lr,Z,Z⟩
 rintro b6 b7 b8 ⟨T,rfl,K⟩
 exact Cr (Dr (Dr (Rf h [] Z (Rs Z K) ((a.trans s).trans T) ⟨Z,Z⟩)))
noncomputable def QkA (a0:QaA) (a1:QaK):Option (QaA×Int):=
 ((QeV a0 a1.Topic).bind fun(a,c)=>(if(!c)=true then(some (a0,(8:Int)))else((QhV a0 (⟨a1.Ids,a1.Isr,a1.Leader,a1.Epoch,a1.Add,a1.Drop⟩:QaH)).bind fun b=>(if(decide (b≠(0:Int)))=true then(some (a0,b))else(if(decide (a1.Kind=(8:Int)))=true then(if(decide (a1.Part≠(a.Parts.length:Int)))=true then(some (a0,(10:Int)))else((QfF a0 a1.Topic a1.Part (⟨a1.Ids,a1.Isr,a1.Leader,a1.Epoch,a1.Add,a1.Drop⟩:QaH)).bind fun d=>(some (d,(0:Int)))))else(if(decide ((a.Parts.length:Int)≤a1.Part))=true then(some (a0,(8:Int)))else(grd (0≤a1.Part∧a1.Part<a.Parts.length) (((if(decide (a1.Epoch<((rd a.Parts a1.Part).Epoch)))=true then(some true)else(if(decide ((i64.wrap (((rd a.Parts a1.Part).Epoch)+(1:Int)))<a1.Epoch))=true then(some true)else(if(decide (a1.Epoch=((rd a.Parts a1.Part).Epoch)))=true then(some (decide (a1.Leader≠((rd a.Parts a1.Part).Leader))))else(some false)))):Option Bool).bind fun e=>(if e=true then(some (a0,(11:Int)))else((QdQ (rd a.Parts a1.Part) (⟨a1.Ids,a1.Isr,a1.Leader,a1.Epoch,a1.Add,a1.Drop⟩:QaH)).bind fun f=>(if f=true then(some (a0,(10:Int)))else((QfF a0 a1.Topic a1.Part (⟨a1.Ids,a1.Isr,a1.Leader,a1.Epoch,a1.Add,a1.Drop⟩:QaH)).bind fun g=>(some (g,(0:Int)))))))))))))))
def Qr4 (a0:QaA) (a1:QaK) (k l m n f g i j:Value):(QaA×Int)→Value→IM→HL→Prop:=
 fun(p_:(QaA×Int)) (v:Value) (M':IM) (H':HL)=>match p_ with |(e,o)=>∃ a b c d,(.tuple #[(.agg #[a,b,c,d,(.int .i64 e.Last)]),(.int .i64 o)])=v∧H'=[]∧RS QaD M' a e.Brokers∧RS QaG M' b e.Topics∧RS QaF M' c e.Configs∧RS QaI M' d e.Done
theorem QuR (a0:QaA) (a1:QaK) (M:IM) (a b c d k l m o:Value) (e:RS QaD M a a0.Brokers) (f:RS QaG M b a0.Topics) (g:RS QaF M c a0.Configs) (i:RS QaI M d a0.Done) (q:RS (Kd.int .i64) M k a1.Ids) (r:RS (Kd.int .i64) M l a1.Isr) (s:RS (Kd.int .i64) M m a1.Add) (t:RS (Kd.int .i64) M o a1.Drop) (res:(QaA×Int)) (h:QkA a0 a1=some res):
 Tri prog 94 #[(a27_ a0 a b c d),(QjY a1 k l m o)] M [] (Qr4 a0 a1 a b c d k l m o res):=by
 unfold QkA at h
 refine Te func94 Z Z ?_
 intro F ρ hρ
 refine Sr (We (box (cs:=(l27 a0 a b c d).toArray) (congrArg Value.cells (asE (a27_ a0 a b c d) (hρ 0)))) Z ?_)
 rintro _ _ _ - ⟨rfl,d1,rfl,rfl⟩
 refine We (box (cs:=(l111 a1 k l m o).toArray) (congrArg Value.cells (asE (QjY a1 k l m o) (hρ 1)))) Z ?_
 rintro _ _ _ - ⟨rfl,D,rfl,rfl⟩
 refine We (Al ze27 Z) Z ?_
 rintro _ _ _ - ⟨rfl,d2,rfl,rfl⟩
 refine qa (Iv 0) (Ns (qu (a27_ a0 a b c d) (La (cs:=(l27 a0 a b c d)) 2 ag27 sz27 Z Z Z) (qu (pt D 3) (Fa QgV Z Z) (qu (Iv a1.Topic) (Lb 1 pl3 Z Z Z) ?_))))
 obtain ⟨⟨p,b8⟩,d3,h⟩:=bnd h
 refine We (Ca co78 (QiG a0 a1.Topic _ _ _ _ _ e f g i (p,b8) d3) (QaU Z Z)) Z ?_
 rintro _ f8 _ u ⟨_,⟨w,rfl,rfl,x⟩,rfl⟩
 refine WL.a0 (qm (.tuple #[(a55_ p w),(Bv b8)]) (qu (a55_ p w) (Xt Z Z) (qu (Bv b8) (Xt Z Z) (We (Al ze55 Z) Z ?_))))
 rintro _ _ _ - ⟨rfl,c5,rfl,rfl⟩
 refine We (Sg (v:=(a55_ p w)) (vl:=(l55 p w)) (arr':=(l55 p w)) Z sz55 Z Z (QbG (Oc Z (Oc Z (Oc (RS.one x) Oz)))) Z Z Z) Z ?_
 rintro _ _ _ - ⟨rfl,rfl⟩
 refine qa (Bv b8) (Nt (Cs (Sr (qm (Bv b8) (qu (Bv (!b8)) (PO.not Z) (Nt (Ch h Z (fun d4 h=> ?_) (fun d4 h=> ?_))))))))
 refine Sr (qu (a27_ a0 a b c d) (La (cs:=(l27 a0 a b c d)) 3 ag27 sz27 Z Z Z) (WL.f1 ?_))
 have e:=e.mono u
 have f:=f.mono u
 have g:=g.mono u
 have i:=i.mono u
 refine We (Sg (v:=(a27_ a0 a b c d)) (vl:=(l27 a0 a b c d)) (arr':=(l27 a0 a b c d)) Z sz27 Z Z (QbG (Oc (RS.one e) (Oc (RS.one f) (Oc (RS.one g) (Oc (RS.one i) (Oc Z Oz)))))) Z Z Z) Z ?_
 rintro _ _ _ - ⟨rfl,rfl⟩
 exact qa (Iv 8) (Nt (Cr (Tr (Qa (Dr (Qa (Dr (Qa (Dr (Rd h [] (fun _ hs=>hs.drop) (QaX Z (RVs.cons (Rc (cs:=(l27 a0 a b c d)) 0 ag27 sz27 Z Z Z) (RVs.cons (RV.tmp Z) RVs.nil))) u ⟨a,b,c,d,Z,Z,e,f,g,i⟩))))))))))
 refine Ck (Tc (Sr (qu (pt D 14) (Fa Qt6 Z Z) (qu k (Lb 2 pl56 Z Z Z) (qu (pt D 15) (Fa Qw4 Z Z) (qu l (Lb 2 pl56 Z Z Z) (qu (pt D 5) (Fa QvA Z Z) (qu (Iv a1.Leader) (Lb 2 pl3 Z Z Z) (qu (pt D 2) (Fa Ql1 Z Z) (qu (Iv a1.Epoch) (Lb 2 pl3 Z Z Z) (qu (pt D 16) (Fa Qw5 Z Z) ?_)))))))))))
 refine qu m (Lb 2 pl56 Z Z Z) (qu (pt D 17) (Fa Qw6 Z Z) (qu o (Lb 2 pl56 Z Z Z) ?_))
 have q:=q.mono u
 have r:=r.mono u
 have s:=s.mono u
 have t:=t.mono u
 refine qu (.agg #[k,l,(Iv a1.Leader),(Iv a1.Epoch),m,o]) (Bl (cl:=[k,l,(Iv a1.Leader),(Iv a1.Epoch),m,o]) ze58 fp58 (Parts.cons ((congrArg Value.cells (show ev _ _=k from Z)).trans q.cells) (Parts.cons ((congrArg Value.cells (show ev _ _=l from Z)).trans r.cells) (Pc (Iv a1.Leader) Z Z (Pc (Iv a1.Epoch) Z Z (Parts.cons ((congrArg Value.cells (show ev _ _=m from Z)).trans s.cells) (Parts.cons ((congrArg Value.cells (show ev _ _=o from Z)).trans t.cells) Pz)))))) Z) (We (Al ze58 Z) Z ?_)
 rintro _ _ _ - ⟨rfl,d5,rfl,rfl⟩
 refine We (Sg (v:=(.agg #[k,l,(Iv a1.Leader),(Iv a1.Epoch),m,o])) (vl:=[k,l,(Iv a1.Leader),(Iv a1.Epoch),m,o]) (arr':=[k,l,(Iv a1.Leader),(Iv a1.Epoch),m,o]) Z sz58 Z Z (QbG (Oc (RS.one q) (Oc (RS.one r) (Oc Z (Oc Z (Oc (RS.one s) (Oc (RS.one t) Oz))))))) Z Z Z) Z ?_
 rintro _ _ _ - ⟨rfl,rfl⟩
 refine Nt (Cs (Sr (qu (a27_ a0 a b c d) (La (cs:=(l27 a0 a b c d)) 4 ag27 sz27 Z Z Z) (qu (.agg #[k,l,(Iv a1.Leader),(Iv a1.Epoch),m,o]) (La (cs:=[k,l,(Iv a1.Leader),(Iv a1.Epoch),m,o]) 0 ag58 sz58 Z Z Z) ?_))))
 obtain ⟨b9,d6,h⟩:=bnd h
 have e:=e.mono u
 have f:=f.mono u
 have g:=g.mono u
 have i:=i.mono u
 refine We (Ca Q7F (QmQ a0 (⟨a1.Ids,a1.Isr,a1.Leader,a1.Epoch,a1.Add,a1.Drop⟩:QaH) _ _ _ _ _ _ _ _ _ e f g i q r s t b9 d6) (QaU Z Z)) Z ?_
 rintro _ f2 _ j ⟨_,⟨rfl,rfl⟩,rfl⟩
 have b2:=u.trans j
 refine WL.a0 (qa (Iv b9) (Ns (qm (Iv b9) (qu (Bv (decide (b9≠0))) (neq Z Z) (Nt (Ch h Z (fun d7 h=> ?_) (fun d7 h=> ?_)))))))
 refine Sr (qu (a27_ a0 a b c d) (La (cs:=(l27 a0 a b c d)) 4 ag27 sz27 Z Z Z) (qm (Iv b9) (Wb ?_)))
 have e:=e.mono j
 have f:=f.mono j
 have g:=g.mono j
 have i:=i.mono j
 refine We (Sg (v:=(a27_ a0 a b c d)) (vl:=(l27 a0 a b c d)) (arr':=(l27 a0 a b c d)) Z sz27 Z Z (QbG (Oc (RS.one e) (Oc (RS.one f) (Oc (RS.one g) (Oc (RS.one i) (Oc Z Oz)))))) Z Z Z) Z ?_
 rintro _ _ _ - ⟨rfl,rfl⟩
 refine qa (Iv b9) (Nt (Cr (Tr (Qa (Dr (Qa (Dr (Qa (Dr (Qa (Dr ?_)))))))))))
 exact Rd h [] (fun _ hs=>hs.drop) (QaX Z (RVs.cons (Rc (cs:=(l27 a0 a b c d)) 0 ag27 sz27 Z Z Z) (RVs.cons (RV.tmp Z) RVs.nil))) b2 ⟨a,b,c,d,Z,Z,e,f,g,i⟩
 refine Ck (Tc (Cs (Sr (qu (pt D 0) (Fa Qu9 Z Z) (qu (Iv a1.Kind) (Lb 3 pl3 Z Z Z) (qu (Bv (decide (a1.Kind=8))) (eql Z Z) (Nt (Ch h Z (fun d8 h=> ?_) (fun d8 h=> ?_)))))))))
 refine Cs (Sr (qu (pt D 4) (Fa QnV Z Z) (qu (Iv a1.Part) (Lb 3 pl3 Z Z Z) (qu (pt c5 2) (Fa QdB Z Z) (qu w (Lb 1 pl53 Z Z Z) ?_)))))
 have x:=x.mono j
 refine qu (Iv (p.Parts.length:Int)) (lenS underlying53 Z x.len) (qu (Bv (decide (a1.Part≠(p.Parts.length:Int)))) (neq Z Z) (Nt (Ch h Z (fun d9 h=> ?_) (fun d9 h=> ?_))))
 refine Sr (qu (a27_ a0 a b c d) (La (cs:=(l27 a0 a b c d)) 4 ag27 sz27 Z Z Z) (Wb ?_))
 have e:=e.mono j
 have f:=f.mono j
 have g:=g.mono j
 have i:=i.mono j
 refine We (Sg (v:=(a27_ a0 a b c d)) (vl:=(l27 a0 a b c d)) (arr':=(l27 a0 a b c d)) Z sz27 Z Z (QbG (Oc (RS.one e) (Oc (RS.one f) (Oc (RS.one g) (Oc (RS.one i) (Oc Z Oz)))))) Z Z Z) Z ?_
 rintro _ _ _ - ⟨rfl,rfl⟩
 refine qa (Iv 10) (Nt (Cr (Tr (Tr (Qa (Dr (Qa (Dr (Qa (Dr (Qa ?_)))))))))))
 exact Dr (Rd h [] (fun _ hs=>hs.drop) (QaX Z (RVs.cons (Rc (cs:=(l27 a0 a b c d)) 0 ag27 sz27 Z Z Z) (RVs.cons (RV.tmp Z) RVs.nil))) b2 ⟨a,b,c,d,Z,Z,e,f,g,i⟩)
 refine Ck (Tc (Sr (qu (a27_ a0 a b c d) (La (cs:=(l27 a0 a b c d)) 4 ag27 sz27 Z Z Z) (qu (pt D 3) (Fa QgV Z Z) (qu (Iv a1.Topic) (Lb 3 pl3 Z Z Z) (qu (pt D 4) (Fa QnV Z Z) (qu (Iv a1.Part) (Lb 3 pl3 Z Z Z) (qu (.agg #[k,l,(Iv a1.Leader),(Iv a1.Epoch),m,o]) (La (cs:=[k,l,(Iv a1.Leader),(Iv a1.Epoch),m,o]) 0 ag58 sz58 Z Z Z) ?_))))))))
 obtain ⟨c1,e0,h⟩:=bnd h
 have e:=e.mono j
 have f:=f.mono j
 have g:=g.mono j
 have i:=i.mono j
 have q:=q.mono j
 have r:=r.mono j
 have s:=s.mono j
 have t:=t.mono j
 refine We (Ca Q7H (QlO a0 a1.Topic a1.Part (⟨a1.Ids,a1.Isr,a1.Leader,a1.Epoch,a1.Add,a1.Drop⟩:QaH) _ _ _ _ _ _ _ _ _ e f g i q r s t c1 e0) (QlT Z Z Z Z)) Z ?_
 rintro _ f9 _ c6 ⟨_,⟨K,L,e9,N,O,rfl,rfl,U,b3,V,W⟩,rfl⟩
 refine WL.a1 (WL.f3 (We (Sg (v:=(a27_ c1 K L N O)) (vl:=(l27 c1 K L N O)) (arr':=(l27 c1 K L N O)) Z sz27 Z Z (QbG (Oc (RS.one U) (Oc (Ow b3) (Oc (RS.one V) (Oc (RS.one W) (Oc Z Oz)))))) Z Z Z) Z ?_))
 rintro _ _ _ - ⟨rfl,rfl⟩
 refine qa (Iv 0) (Nt (Cr (Tr (Qa (WQ.know (fun _ hs=>b3.rs hs) (fun e1=> ?_))))))
 refine WQ.freeze (fun a7=> ?_)
 refine Qa (Dr (Qa (Dr (Qa (Dr (Qa (Dr ?_)))))))
 have U:=U.mono a7
 have V:=V.mono a7
 have W:=W.mono a7
 exact Rd h [] (fun _ hs=>hs.drop) (QaX Z (RVs.cons (Rc (cs:=(l27 c1 K L N O)) 0 ag27 sz27 Z Z Z) (RVs.cons (RV.tmp Z) RVs.nil))) ((b2.trans c6).trans a7) ⟨K,L,N,O,Z,Z,U,e1,V,W⟩
 refine Ck (Tc (Cs (Sr (qu (pt D 4) (Fa QnV Z Z) (qu (Iv a1.Part) (Lb 3 pl3 Z Z Z) (qu (pt c5 2) (Fa QdB Z Z) (qu w (Lb 1 pl53 Z Z Z) ?_)))))))
 have x:=x.mono j
 refine qu (Iv (p.Parts.length:Int)) (lenS underlying53 Z x.len) (qu (Bv (decide ((p.Parts.length:Int)≤a1.Part))) (geq Z Z) (Nt (Ch h Z (fun e2 h=> ?_) (fun e2 h=> ?_))))
 refine Sr (qu (a27_ a0 a b c d) (La (cs:=(l27 a0 a b c d)) 4 ag27 sz27 Z Z Z) (Wb ?_))
 have e:=e.mono j
 have f:=f.mono j
 have g:=g.mono j
 have i:=i.mono j
 refine We (Sg (v:=(a27_ a0 a b c d)) (vl:=(l27 a0 a b c d)) (arr':=(l27 a0 a b c d)) Z sz27 Z Z (QbG (Oc (RS.one e) (Oc (RS.one f) (Oc (RS.one g) (Oc (RS.one i) (Oc Z Oz)))))) Z Z Z) Z ?_
 rintro _ _ _ - ⟨rfl,rfl⟩
 refine qa (Iv 8) (Nt (Cr (Tr (Qa (Dr (Qa (Dr (Qa (Dr (Qa (Dr ?_)))))))))))
 exact Rd h [] (fun _ hs=>hs.drop) (QaX Z (RVs.cons (Rc (cs:=(l27 a0 a b c d)) 0 ag27 sz27 Z Z Z) (RVs.cons (RV.tmp Z) RVs.nil))) b2 ⟨a,b,c,d,Z,Z,e,f,g,i⟩
 refine Ck (Tc (Sr (qu (pt c5 2) (Fa QdB Z Z) (qu w (Lb 1 pl53 Z Z Z) (qu (pt D 4) (Fa QnV Z Z) (qu (Iv a1.Part) (Lb 3 pl3 Z Z Z) ?_))))))
 obtain ⟨b4,h⟩:=QaQ h
 obtain ⟨f5,f7,c7,c8,hhas55⟩:=x.at b4.1 b4.2 (by decide)
 obtain ⟨y,z,A,B,rfl,X,Y,a2,a3⟩:=Qb7 c8
 refine qu (.pointer (some f5)) (indexAddr (n:=p.Parts.length) underlying53 sz58 Z Z b4.1 b4.2 c7) (qu (a58_ (rd p.Parts a1.Part) y z A B) (loadMA (cs:=(l58 (rd p.Parts a1.Part) y z A B)) ag58 sz58 Z hhas55) (We (Al ze58 Z) Z ?_))
 rintro _ _ _ - ⟨rfl,c0,rfl,rfl⟩
 refine We (Sg (v:=(a58_ (rd p.Parts a1.Part) y z A B)) (vl:=(l58 (rd p.Parts a1.Part) y z A B)) (arr':=(l58 (rd p.Parts a1.Part) y z A B)) Z sz58 Z Z (QbG (Oc (RS.one X) (Oc (RS.one Y) (Oc Z (Oc Z (Oc (RS.one a2) (Oc (RS.one a3) Oz))))))) Z Z Z) Z ?_
 rintro _ _ _ - ⟨rfl,rfl⟩
 refine Nt (Cs ?_)
 obtain ⟨c9,e3,h⟩:=bnd h
 refine Jf (fun(c9:Bool) ρ' M' H'=>f2.le M'∧[(c0, .cells (l58 (rd p.Parts a1.Part) y z A B).toArray 58 (0,0))]::[(d5, .cells #[k,l,(Iv a1.Leader),(Iv a1.Epoch),m,o] 58 (0,0))]::[(c5, .cells (l55 p w).toArray 55 (0,0))]::[(d2, .cells z27_.toArray 27 (0,0))]::[(D, .cells (l111 a1 k l m o).toArray 111 (0,0))]::[(d1, .cells (l27 a0 a b c d).toArray 27 (0,0))]::F=H'∧ρ' 2=(pt d1 0)∧ρ' 3=(pt D 0)∧ρ' 4=(pt d2 0)∧ρ' 8=(pt d5 0)∧ρ' 10=(pt c0 0)∧ρ' 97=(Bv c9)) c9 ?_ ?_
 have h:=e3
 refine Cg (qu (pt D 2) (Fa Ql1 Z Z) (qu (Iv a1.Epoch) (Lb 4 pl3 Z Z Z) (qu (pt c0 3) (Fa Ql6 Z Z) (qu (Iv ((rd p.Parts a1.Part).Epoch)) (Lb 0 pl3 Z Z Z) (qu (Bv (decide (a1.Epoch<((rd p.Parts a1.Part).Epoch)))) (lss Z Z) (qm (Bv (decide (a1.Epoch<((rd p.Parts a1.Part).Epoch)))) ?_))))))
 rcases Bi h with⟨I,h⟩ |⟨I,h⟩
 iterate 6 refine Of 76 Z Z I Z ?_
 refine qu (Bv true) (Pt Z I Z) (qm (Bv true) ?_)
 iterate 6 refine Of 84 Z Z Z Z ?_
 refine WL.offU 90 Z Z Z (WL.offU 90 Z Z Z (WL.offU 90 Z Z Z (WL.offU 90 Z Z Z (WL.offU 90 Z Z Z (Of 84 Z Z Z Z (qu (Bv true) (Pt Z Z Z) (Wz ?_)))))))
 obtain rfl:=oi h
 exact Tj ⟨lr,Z,Z,Z,Z,Z,Z,Z⟩
 refine qo 76 I (pt D 2) (Fa Ql1 Z Z) (qo 76 I (Iv a1.Epoch) (Lb 4 pl3 Z Z Z) (qo 76 I (pt c0 3) (Fa Ql6 Z Z) (qo 76 I (Iv ((rd p.Parts a1.Part).Epoch)) (Lb 0 pl3 Z Z Z) (qo 76 I (Iv (i64.wrap (((rd p.Parts a1.Part).Epoch)+1))) (add Z Z) (qo 76 I (Bv (decide ((i64.wrap (((rd p.Parts a1.Part).Epoch)+1))<a1.Epoch))) (gtr Z Z) (qu (Bv (decide ((i64.wrap (((rd p.Parts a1.Part).Epoch)+1))<a1.Epoch))) (Pf Z I Z) (qm (Bv (decide ((i64.wrap (((rd p.Parts a1.Part).Epoch)+1))<a1.Epoch))) ?_)))))))
 rcases Bi h with⟨C,h⟩ |⟨C,h⟩
 iterate 6 refine Of 84 Z Z C Z ?_
 refine WL.offU 90 Z Z Z (WL.offU 90 Z Z Z (WL.offU 90 Z Z Z (WL.offU 90 Z Z Z (WL.offU 90 Z Z Z (Of 84 Z Z C Z (qu (Bv true) (Pt Z C Z) (Wz ?_)))))))
 obtain rfl:=oi h
 exact Tj ⟨lr,Z,Z,Z,Z,Z,Z,Z⟩
 refine qo 84 C (pt D 2) (Fa Ql1 Z Z) (qo 84 C (Iv a1.Epoch) (Lb 4 pl3 Z Z Z) (qo 84 C (pt c0 3) (Fa Ql6 Z Z) (qo 84 C (Iv ((rd p.Parts a1.Part).Epoch)) (Lb 0 pl3 Z Z Z) (qo 84 C (Bv (decide (a1.Epoch=((rd p.Parts a1.Part).Epoch)))) (eql Z Z) (On 84 Z Z C (qm (Bv (decide (a1.Epoch=((rd p.Parts a1.Part).Epoch)))) ?_))))))
 rcases Bi h with⟨P,h⟩ |⟨P,h⟩
 refine qo 90 P (pt D 5) (Fa QvA Z Z) (qo 90 P (Iv a1.Leader) (Lb 4 pl3 Z Z Z) (qo 90 P (pt c0 2) (Fa Qk1 Z Z) (qo 90 P (Iv ((rd p.Parts a1.Part).Leader)) (Lb 0 pl3 Z Z Z) (qo 90 P (Bv (decide (a1.Leader≠((rd p.Parts a1.Part).Leader)))) (neq Z Z) (qo 84 C (Bv (decide (a1.Leader≠((rd p.Parts a1.Part).Leader)))) (Pt Z P Z) (qu (Bv (decide (a1.Leader≠((rd p.Parts a1.Part).Leader)))) (Pf Z C Z) (Wz ?_)))))))
 obtain rfl:=oi h
 exact Tj ⟨lr,Z,Z,Z,Z,Z,Z,Z⟩
 iterate 5 refine Of 90 Z Z P Z ?_
 refine qo 84 C (Bv false) (Pf Z P Z) (qu (Bv false) (Pf Z C Z) (Wz ?_))
 obtain rfl:=oi h
 exact Tj ⟨lr,Z,Z,Z,Z,Z,Z,Z⟩
 rintro g0 g1 g2 ⟨E,rfl,a8,b5,G,b6,c2,c3⟩
 have a9:=j.trans E
 refine Ch h c3 (fun e4 h=> ?_) (fun e4 h=> ?_)
 refine Sr (qu (a27_ a0 a b c d) (La (cs:=(l27 a0 a b c d)) 5 ag27 sz27 a8 Z Z) (WL.f3 ?_))
 have e:=e.mono a9
 have f:=f.mono a9
 have g:=g.mono a9
 have i:=i.mono a9
 refine We (Sg (v:=(a27_ a0 a b c d)) (vl:=(l27 a0 a b c d)) (arr':=(l27 a0 a b c d)) Z sz27 G Z (QbG (Oc (RS.one e) (Oc (RS.one f) (Oc (RS.one g) (Oc (RS.one i) (Oc Z Oz)))))) Z Z Z) Z ?_
 rintro _ _ _ - ⟨rfl,rfl⟩
 refine qa (Iv 11) (Nt (Cr (Tr (Qa (Dr (Qa (Dr (Qa (Dr (Qa (Dr ?_)))))))))))
 exact Qa (Dr (Rd h [] (fun _ hs=>hs.drop) (QaX Z (RVs.cons (Rc (cs:=(l27 a0 a b c d)) 0 ag27 sz27 G Z Z) (RVs.cons (RV.tmp Z) RVs.nil))) (b2.trans E) ⟨a,b,c,d,Z,Z,e,f,g,i⟩))
 refine Ck (Tc (Cs (Sr (qu (a58_ (rd p.Parts a1.Part) y z A B) (La (cs:=(l58 (rd p.Parts a1.Part) y z A B)) 0 ag58 sz58 c2 Z Z) (qu (.agg #[k,l,(Iv a1.Leader),(Iv a1.Epoch),m,o]) (La (cs:=[k,l,(Iv a1.Leader),(Iv a1.Epoch),m,o]) 1 ag58 sz58 b6 Z Z) ?_)))))
 obtain ⟨f6,e5,h⟩:=bnd h
 have X:=X.mono E
 have Y:=Y.mono E
 have a2:=a2.mono E
 have a3:=a3.mono E
 have q:=q.mono a9
 have r:=r.mono a9
 have s:=s.mono a9
 have t:=t.mono a9
 refine We (Ca co86 (QlC (rd p.Parts a1.Part) (⟨a1.Ids,a1.Isr,a1.Leader,a1.Epoch,a1.Add,a1.Drop⟩:QaH) _ _ _ _ _ _ _ _ _ X Y a2 a3 q r s t f6 e5) (QaU Z Z)) Z ?_
 rintro _ g3 _ J ⟨_,⟨rfl,rfl⟩,rfl⟩
 have b1:=a9.trans J
 refine WL.a0 (Nt (Ch h Z (fun e6 h=> ?_) (fun e6 h=> ?_)))
 refine Sr (qu (a27_ a0 a b c d) (La (cs:=(l27 a0 a b c d)) 5 ag27 sz27 a8 Z Z) (WL.f3 ?_))
 have e:=e.mono b1
 have f:=f.mono b1
 have g:=g.mono b1
 have i:=i.mono b1
 refine We (Sg (v:=(a27_ a0 a b c d)) (vl:=(l27 a0 a b c d)) (arr':=(l27 a0 a b c d)) Z sz27 G Z (QbG (Oc (RS.one e) (Oc (RS.one f) (Oc (RS.one g) (Oc (RS.one i) (Oc Z Oz)))))) Z Z Z) Z ?_
 rintro _ _ _ - ⟨rfl,rfl⟩
 refine qa (Iv 10) (Nt (Cr (Tr (Qa (Dr (Qa (Dr (Qa (Dr (Qa (Dr ?_)))))))))))
 exact Qa (Dr (Rd h [] (fun _ hs=>hs.drop) (QaX Z (RVs.cons (Rc (cs:=(l27 a0 a b c d)) 0 ag27 sz27 G Z Z) (RVs.cons (RV.tmp Z) RVs.nil))) ((b2.trans E).trans J) ⟨a,b,c,d,Z,Z,e,f,g,i⟩))
 refine Ck (Tc (Sr (qu (a27_ a0 a b c d) (La (cs:=(l27 a0 a b c d)) 5 ag27 sz27 a8 Z Z) (qu (pt D 3) (Fa QgV b5 Z) (qu (Iv a1.Topic) (Lb 4 pl3 Z Z Z) (qu (pt D 4) (Fa QnV b5 Z) (qu (Iv a1.Part) (Lb 4 pl3 Z Z Z) (qu (.agg #[k,l,(Iv a1.Leader),(Iv a1.Epoch),m,o]) (La (cs:=[k,l,(Iv a1.Leader),(Iv a1.Epoch),m,o]) 1 ag58 sz58 b6 Z Z) ?_))))))))
 obtain ⟨c4,e7,h⟩:=bnd h
 have e:=e.mono b1
 have f:=f.mono b1
 have g:=g.mono b1
 have i:=i.mono b1
 have q:=q.mono J
 have r:=r.mono J
 have s:=s.mono J
 have t:=t.mono J
 refine We (Ca Q7H (QlO a0 a1.Topic a1.Part (⟨a1.Ids,a1.Isr,a1.Leader,a1.Epoch,a1.Add,a1.Drop⟩:QaH) _ _ _ _ _ _ _ _ _ e f g i q r s t c4 e7) (QlT Z Z Z Z)) Z ?_
 rintro _ g4 _ d0 ⟨_,⟨Q,R,f0,S,T,rfl,rfl,a4,b7,a5,a6⟩,rfl⟩
 refine WL.a1 (WL.f4 (We (Sg (v:=(a27_ c4 Q R S T)) (vl:=(l27 c4 Q R S T)) (arr':=(l27 c4 Q R S T)) Z sz27 G Z (QbG (Oc (RS.one a4) (Oc (Ow b7) (Oc (RS.one a5) (Oc (RS.one a6) (Oc Z Oz)))))) Z Z Z) Z ?_))
 rintro _ _ _ - ⟨rfl,rfl⟩
 refine qa (Iv 0) (Nt (Cr (Qa (WQ.know (fun _ hs=>b7.rs hs) (fun e8=> ?_)))))
 refine WQ.freeze (fun b0=> ?_)
 refine Qa (Dr (Qa (Dr (Qa (Dr (Qa (Dr (Qa (Dr ?_)))))))))
 have a4:=a4.mono b0
 have a5:=a5.mono b0
 have a6:=a6.mono b0
 exact Rd h [] (fun _ hs=>hs.drop) (QaX Z (RVs.cons (Rc (cs:=(l27 c4 Q R S T)) 0 ag27 sz27 G Z Z) (RVs.cons (RV.tmp Z) RVs.nil))) ((((b2.trans E).trans J).trans d0).trans b0) ⟨Q,R,S,T,Z,Z,a4,e8,a5,a6⟩
noncomputable def QiI (a0:QaA) (a1:ByteArray) (s_:Int):Option (Int⊕(Unit⊕(Int×ByteArray×(List QaH)))):=
 match s_ with
 |a=>
 (if(decide (a<(a0.Topics.length:Int)))=true then(grd (0≤a∧a<a0.Topics.length) (if(decide (((rd a0.Topics a).Name)=a1))=true then(grd (0≤a∧a<a0.Topics.length) (some (inr (inr ((rd a0.Topics a).Id,(rd a0.Topics a).Name,(rd a0.Topics a).Parts)))))else(some (inl (i64.wrap (a+(1:Int)))))))else(some (inr (inl ()))))
noncomputable def Qi2 (a0:QaA) (a1:ByteArray):Option (QaC×Bool):=
 ((((iter (QiI a0 a1) (0:Int)).bind (Sum.elim (fun _=>(some (inl ()))) (fun(a,b,c)=>(((some ((⟨a,b,c⟩:QaC),true))).bind fun r=>some (inr r))))):Option (Unit⊕(QaC×Bool))).bind (Sum.elim (fun _=>(some ((⟨(0:Int),(⟨#[]⟩:ByteArray),[]⟩:QaC),false))) some))
def QqQ (a0:QaA) (a1:ByteArray) (c d e f:Value):(QaC×Bool)→Value→IM→HL→Prop:=
 fun(p_:(QaC×Bool)) (v:Value) (M':IM) (H':HL)=>match p_ with |(b,g)=>∃ a,(.tuple #[(.agg #[(.int .i64 b.Id),(.string b.Name),a]),(.bool g)])=v∧H'=[]∧RS QbF M' a b.Parts
theorem QtI (a0:QaA) (a1:ByteArray) (M:IM) (g c i j:Value) (P:RS QaD M g a0.Brokers) (l:RS QaG M c a0.Topics) (Q:RS QaF M i a0.Configs) (R:RS QaI M j a0.Done) (res:(QaC×Bool)) (h:Qi2 a0 a1=some res):
 Tri prog 134 #[(a27_ a0 g c i j),(Sv a1)] M [] (QqQ a0 a1 g c i j res):=by
 unfold Qi2 at h
 refine Te func134 Z Z ?_
 intro F ρ hρ
 refine Sr (We (box (cs:=(l27 a0 g c i j).toArray) (congrArg Value.cells (asE (a27_ a0 g c i j) (hρ 0)))) Z ?_)
 rintro _ _ _ - ⟨rfl,t,rfl,rfl⟩
 refine We (Al ze55 Z) Z ?_
 rintro _ _ _ - ⟨rfl,u,rfl,rfl⟩
 refine qa (Bv false) (Nt ?_)
 obtain ⟨N,C,h⟩:=bnd h
 refine WC.joinE (fun(_:Unit) ρ' M' H'=>M.le M'∧[(u, .cells #[(Iv 0),(Sv ⟨#[]⟩),Zs] 55 (0,0))]::[(t, .cells (l27 a0 g c i j).toArray 27 (0,0))]::F=H'∧ρ' 4=(pt u 0)) N ?_ ?_
 have D:=h
 have h:=C
 refine Sr (qa (Iv 0) (Nt (Bk ?_)))
 obtain ⟨U,E,w⟩:=bnd h
 clear h
 refine WC.loop E (fun(a:Int) ρ' M' H'=>M.le M'∧[(u, .cells #[(Iv 0),(Sv ⟨#[]⟩),Zs] 55 (0,0))]::[(t, .cells (l27 a0 g c i j).toArray 27 (0,0))]::F=H'∧ρ' 1=(Sv a1)∧ρ' 2=(pt t 0)∧ρ' 4=(pt u 0)∧ρ' 6=(Iv a)) ?_ ?_
 exact⟨lr,Z,(hρ 1),Z,Z,Z⟩
 rintro a V W X Y h ⟨k,rfl,o,d,e,f⟩
 unfold QiI at h
 refine Cs (Sr (qM (Iv a) f (qu (pt t 1) (Fa QbW d Z) (qu c (Lb 1 pl23 Z Z Z) ?_))))
 have l:=l.mono k
 refine qu (Iv (a0.Topics.length:Int)) (lenS underlying23 Z l.len) (qu (Bv (decide (a<(a0.Topics.length:Int)))) (lss Z Z) (Nt (Ch h Z (fun G h=> ?_) (fun G h=> ?_))))
 refine Ck (Tc (Cs (Bk (Sr (qu (pt t 1) (Fa QbW d Z) (qu c (Lb 1 pl23 Z Z Z) (qM (Iv a) f ?_)))))))
 obtain ⟨p,h⟩:=QaQ h
 obtain ⟨I,S,x,y,hhas35⟩:=l.at p.1 p.2 (by decide)
 obtain ⟨K,rfl,L⟩:=QaN y
 refine qu (.pointer (some I)) (indexAddr (n:=a0.Topics.length) underlying23 sz55 Z Z p.1 p.2 x) (qu (.pointer (some (I.add 1))) (Fa QlP Z Z) (qu (Sv ((rd a0.Topics a).Name)) (loadM pl9 Z (hhas35 1 _ Z)) (qM (Sv a1) o (qu (Bv (decide (((rd a0.Topics a).Name)=a1))) (seql Z Z) (Nt (Ch h Z (fun J h=> ?_) (fun J h=> ?_)))))))
 refine Sr (qu (pt t 1) (Fa QbW d Z) (qu c (Lb 1 pl23 Z Z Z) (qM (Iv a) f ?_)))
 obtain ⟨q,h⟩:=QaQ h
 obtain ⟨O,T,z,A,hhas43⟩:=l.at q.1 q.2 (by decide)
 obtain ⟨b,rfl,r⟩:=QaN A
 refine qu (.pointer (some O)) (indexAddr (n:=a0.Topics.length) underlying23 sz55 Z Z q.1 q.2 z) (qu (a55_ (rd a0.Topics a) b) (loadMA (cs:=(l55 (rd a0.Topics a) b)) ag55 sz55 Z hhas43) (We (Sg (v:=(a55_ (rd a0.Topics a) b)) (vl:=(l55 (rd a0.Topics a) b)) (arr':=(l55 (rd a0.Topics a) b)) Z sz55 e Z (QbG (Oc Z (Oc Z (Oc (RS.one r) Oz)))) Z Z Z) Z ?_))
 rintro _ _ _ - ⟨rfl,rfl⟩
 refine qa (Bv true) (Nt (Cr (Br (Tr (WQ.leaveR (inr ((rd a0.Topics a).Id,(rd a0.Topics a).Name,(rd a0.Topics a).Parts)) (oi h).symm (fun m=> ?_))))))
 subst m
 have h:=(QdO w)
 refine Br (Tr ?_)
 have h:=KK.early h D
 exact Qa (Dr (Rd h [] (fun _ hs=>hs.drop) (QaX Z (RVs.cons (Rc (cs:=(l55 (rd a0.Topics a) b)) 0 ag55 sz55 e Z Z) (RVs.cons (RV.tmp Z) RVs.nil))) k ⟨b,Z,Z,r⟩))
 exact Ck (Bn (Tc (Cg (qM (Iv a) f (qu (Iv (i64.wrap (a+1))) (add Z Z) (qa (Iv (i64.wrap (a+1))) (Wz (WQ.again (i64.wrap (a+1)) (oi h).symm ⟨k,Z,o,d,e,Z⟩))))))))
 refine WC.exit (WQ.thenE (WQ.leaveE (inl ()) (oi h).symm (fun m=> ?_)))
 subst m
 have h:=QeJ w
 exact WQ.blockH (WQ.thenFE h ⟨k,Z,e⟩)
 rintro _ a2 a3 a4 rfl ⟨B,rfl,s⟩
 have h:=(Sum.elim_inl _ _ _).symm.trans h
 refine Sr (qu (.agg #[(Iv 0),(Sv ⟨#[]⟩),Zs]) (Bl (cl:=[(Iv 0),(Sv ⟨#[]⟩),Zs]) ze55 fp55 Pz Z) (We (Sg (v:=(.agg #[(Iv 0),(Sv ⟨#[]⟩),Zs])) (vl:=[(Iv 0),(Sv ⟨#[]⟩),Zs]) (arr':=[(Iv 0),(Sv ⟨#[]⟩),Zs]) Z sz55 s Z (onb Z) Z Z Z) Z ?_))
 rintro _ _ _ - ⟨rfl,rfl⟩
 exact qa (Bv false) (Nt (Cr (Qa (Dr (Rd h [] (fun _ hs=>hs.drop) (QaX Z (RVs.cons (Rc (cs:=[(Iv 0),(Sv ⟨#[]⟩),Zs]) 0 ag55 sz55 s Z Z) (RVs.cons (RV.tmp Z) RVs.nil))) B ⟨Zs,Z,Z,RS.nil _ _⟩)))))
noncomputable def Qi3 (a0:QaA) (a1:QaK):Option (QaA×Int):=
 (if(decide (a1.Topic≠(i64.wrap (a0.Last+(1:Int)))))=true then(some (a0,(10:Int)))else((Qi2 a0 a1.Name).bind fun(b,a)=>(if a=true then(some (a0,(9:Int)))else(if(decide ((256:Int)≤(a0.Topics.length:Int)))=true then(some (a0,(6:Int)))else(grd (([]:List QaC).length+a0.Topics.length≤274877906944) (grd ((([]:List QaC)++a0.Topics).length+[(⟨a1.Topic,a1.Name,[]⟩:QaC)].length≤274877906944) (some ((⟨a0.Brokers,(([]:List QaC)++a0.Topics)++[(⟨a1.Topic,a1.Name,[]⟩:QaC)],a0.Configs,a0.Done,a1.Topic⟩:QaA),(0:Int)))))))))
def QqR (a0:QaA) (a1:QaK) (k l m n f g i j:Value):(QaA×Int)→Value→IM→HL→Prop:=
 fun(p_:(QaA×Int)) (v:Value) (M':IM) (H':HL)=>match p_ with |(e,o)=>∃ a b c d,(.tuple #[(.agg #[a,b,c,d,(.int .i64 e.Last)]),(.int .i64 o)])=v∧H'=[]∧RS QaD M' a e.Brokers∧RS QaG M' b e.Topics∧RS QaF M' c e.Configs∧RS QaI M' d e.Done
theorem QtJ (a0:QaA) (a1:QaK) (M:IM) (a d b c l m n o:Value) (f:RS QaD M a a0.Brokers) (j:RS QaG M d a0.Topics) (g:RS QaF M b a0.Configs) (i:RS QaI M c a0.Done) (N:RS (Kd.int .i64) M l a1.Ids) (O:RS (Kd.int .i64) M m a1.Isr) (P:RS (Kd.int .i64) M n a1.Add) (Q:RS (Kd.int .i64) M o a1.Drop) (res:(QaA×Int)) (h:Qi3 a0 a1=some res):
 Tri prog 95 #[(a27_ a0 a d b c),(QjY a1 l m n o)] M [] (QqR a0 a1 a d b c l m n o res):=by
 unfold Qi3 at h
 refine Te func95 Z Z ?_
 intro F ρ hρ
 refine Sr (We (box (cs:=(l27 a0 a d b c).toArray) (congrArg Value.cells (asE (a27_ a0 a d b c) (hρ 0)))) Z ?_)
 rintro _ _ _ - ⟨rfl,z,rfl,rfl⟩
 refine We (box (cs:=(l111 a1 l m n o).toArray) (congrArg Value.cells (asE (QjY a1 l m n o) (hρ 1)))) Z ?_
 rintro _ _ _ - ⟨rfl,t,rfl,rfl⟩
 refine We (Al ze27 Z) Z ?_
 rintro _ _ _ - ⟨rfl,T,rfl,rfl⟩
 refine qa (Iv 0) (Nt (Cs (Sr (qu (pt t 3) (Fa QgV Z Z) (qu (Iv a1.Topic) (Lb 1 pl3 Z Z Z) (qu (pt z 4) (Fa QmS Z Z) (qu (Iv a0.Last) (Lb 2 pl3 Z Z Z) (qu (Iv (i64.wrap (a0.Last+1))) (add Z Z) (qu (Bv (decide (a1.Topic≠(i64.wrap (a0.Last+1))))) (neq Z Z) (Nt (Ch h Z (fun C h=> ?_) (fun C h=> ?_))))))))))))
 refine Sr (qu (a27_ a0 a d b c) (La (cs:=(l27 a0 a d b c)) 2 ag27 sz27 Z Z Z) (We (Sg (v:=(a27_ a0 a d b c)) (vl:=(l27 a0 a d b c)) (arr':=(l27 a0 a d b c)) Z sz27 Z Z (QbG (Oc (RS.one f) (Oc (RS.one j) (Oc (RS.one g) (Oc (RS.one i) (Oc Z Oz)))))) Z Z Z) Z ?_))
 rintro _ _ _ - ⟨rfl,rfl⟩
 exact qa (Iv 10) (Nt (Cr (Tr (Qa (Dr (Qa (Dr (Rd h [] (fun _ hs=>hs.drop) (QaX Z (RVs.cons (Rc (cs:=(l27 a0 a d b c)) 0 ag27 sz27 Z Z Z) (RVs.cons (RV.tmp Z) RVs.nil))) lr ⟨a,d,b,c,Z,Z,f,j,g,i⟩))))))))
 refine Ck (Tc (Cs (Sr (qu (a27_ a0 a d b c) (La (cs:=(l27 a0 a d b c)) 2 ag27 sz27 Z Z Z) (qu (pt t 10) (Fa QrG Z Z) (qu (Sv a1.Name) (Lb 1 pl9 Z Z Z) ?_))))))
 obtain ⟨⟨r,u⟩,D,h⟩:=bnd h
 refine We (Ca Q9I (QtI a0 a1.Name _ _ _ _ _ f j g i (r,u) D) (QaU Z Z)) Z ?_
 rintro _ R _ e ⟨_,⟨k,rfl,rfl,w⟩,rfl⟩
 refine WL.a0 (qm (.tuple #[(a55_ r k),(Bv u)]) (qu (a55_ r k) (Xt Z Z) (qu (Bv u) (Xt Z Z) (We (Al ze55 Z) Z ?_))))
 rintro _ _ _ - ⟨rfl,U,rfl,rfl⟩
 refine We (Sg (v:=(a55_ r k)) (vl:=(l55 r k)) (arr':=(l55 r k)) Z sz55 Z Z (QbG (Oc Z (Oc Z (Oc (RS.one w) Oz)))) Z Z Z) Z ?_
 rintro _ _ _ - ⟨rfl,rfl⟩
 refine qa (Bv u) (Ns (qm (Bv u) (Nt (Ch h Z (fun E h=> ?_) (fun E h=> ?_)))))
 refine Sr (qu (a27_ a0 a d b c) (La (cs:=(l27 a0 a d b c)) 3 ag27 sz27 Z Z Z) (WL.f1 ?_))
 have f:=f.mono e
 have j:=j.mono e
 have g:=g.mono e
 have i:=i.mono e
 refine We (Sg (v:=(a27_ a0 a d b c)) (vl:=(l27 a0 a d b c)) (arr':=(l27 a0 a d b c)) Z sz27 Z Z (QbG (Oc (RS.one f) (Oc (RS.one j) (Oc (RS.one g) (Oc (RS.one i) (Oc Z Oz)))))) Z Z Z) Z ?_
 rintro _ _ _ - ⟨rfl,rfl⟩
 exact qa (Iv 9) (Nt (Cr (Tr (Qa (Dr (Qa (Dr (Qa (Dr (Rd h [] (fun _ hs=>hs.drop) (QaX Z (RVs.cons (Rc (cs:=(l27 a0 a d b c)) 0 ag27 sz27 Z Z Z) (RVs.cons (RV.tmp Z) RVs.nil))) e ⟨a,d,b,c,Z,Z,f,j,g,i⟩))))))))))
 refine Ck (Tc (Cs (Sr (qu (pt z 1) (Fa QbW Z Z) (qu d (Lb 3 pl23 Z Z Z) ?_)))))
 have j:=j.mono e
 refine qu (Iv (a0.Topics.length:Int)) (lenS underlying23 Z j.len) (qu (Bv (decide ((256:Int)≤(a0.Topics.length:Int)))) (geq Z Z) (Nt (Ch h Z (fun G h=> ?_) (fun G h=> ?_))))
 refine Sr (qu (a27_ a0 a d b c) (La (cs:=(l27 a0 a d b c)) 3 ag27 sz27 Z Z Z) (WL.f1 ?_))
 have f:=f.mono e
 have g:=g.mono e
 have i:=i.mono e
 refine We (Sg (v:=(a27_ a0 a d b c)) (vl:=(l27 a0 a d b c)) (arr':=(l27 a0 a d b c)) Z sz27 Z Z (QbG (Oc (RS.one f) (Oc (RS.one j) (Oc (RS.one g) (Oc (RS.one i) (Oc Z Oz)))))) Z Z Z) Z ?_
 rintro _ _ _ - ⟨rfl,rfl⟩
 exact qa (Iv 6) (Nt (Cr (Tr (Qa (Dr (Qa (Dr (Qa (Dr (Rd h [] (fun _ hs=>hs.drop) (QaX Z (RVs.cons (Rc (cs:=(l27 a0 a d b c)) 0 ag27 sz27 Z Z Z) (RVs.cons (RV.tmp Z) RVs.nil))) e ⟨a,d,b,c,Z,Z,f,j,g,i⟩))))))))))
 refine Ck (Tc (Sr (qu (a27_ a0 a d b c) (La (cs:=(l27 a0 a d b c)) 3 ag27 sz27 Z Z Z) (We (Al ze27 Z) Z ?_))))
 rintro _ _ _ - ⟨rfl,s,rfl,rfl⟩
 have f:=f.mono e
 have g:=g.mono e
 have i:=i.mono e
 refine We (Sg (v:=(a27_ a0 a d b c)) (vl:=(l27 a0 a d b c)) (arr':=(l27 a0 a d b c)) Z sz27 Z Z (QbG (Oc (RS.one f) (Oc (RS.one j) (Oc (RS.one g) (Oc (RS.one i) (Oc Z Oz)))))) Z Z Z) Z ?_
 rintro _ _ _ - ⟨rfl,rfl⟩
 refine Ns (qu (pt s 1) (Fa QbW Z Z) (We (Es Zs ((l27 a0 a Zs b c)) Z sz23 Z Z Z Z Z Z) Z ?_))
 rintro _ _ _ - ⟨rfl,rfl⟩
 refine Ns (qu (pt s 1) (Fa QbW Z Z) (qu Zs (Lb 0 pl23 Z Z Z) (qu (pt z 1) (Fa QbW Z Z) (qu d (Lb 4 pl23 Z Z Z) ?_))))
 obtain ⟨I,h⟩:=QaQ h
 refine WL.e0 (We (append (dd:=QaG) (xs:=[]) (ys:=a0.Topics) underlying23 underlying23 in55 Z (appB (by decide) I) (by decide) Z Z (OwnS.nil _ _) (j.src _)) Z ?_)
 rintro A _ _ - ⟨rfl,V,rfl,B⟩
 refine qu (pt s 1) (Fa QbW Z Z) (WL.f1 (We (Es A ((l27 a0 a A b c)) B.cells sz23 Z Z (Ow B) Z Z Z) Z ?_))
 rintro _ _ _ - ⟨rfl,rfl⟩
 refine Ns (qu (pt s 1) (Fa QbW Z Z) (qu A (Lb 0 pl23 Z Z Z) (qu (pt t 3) (Fa QgV Z Z) (qu (Iv a1.Topic) (Lb 4 pl3 Z Z Z) (qu (pt t 10) (Fa QrG Z Z) (qu (Sv a1.Name) (Lb 4 pl9 Z Z Z) (qu (.agg #[(Iv a1.Topic),(Sv a1.Name),Zs]) (Bl (cl:=[(Iv a1.Topic),(Sv a1.Name),Zs]) ze55 fp55 (Pc (Iv a1.Topic) Z Z (Pc (Sv a1.Name) Z Z Pz)) Z) (We (buildSliceL (cl:=[(Iv a1.Topic),(Sv a1.Name),Zs]) underlying23 iz55 Z (Pc (.agg #[(Iv a1.Topic),(Sv a1.Name),Zs]) Z Z Pz) Z) Z ?_))))))))
 rintro _ _ _ - ⟨rfl,J,rfl,rfl⟩
 have S:OwnS QaG R (.slice (some ⟨J,0,none⟩) 1 1) [(⟨a1.Topic,a1.Name,[]⟩:QaC)] [(J, .cells #[(Iv a1.Topic),(Sv a1.Name),Zs] 55 (0,0))]:=OwnS.rows (css:=[[(Iv a1.Topic),(Sv a1.Name),Zs]]) (Rows.cons (QjN (x:=(⟨a1.Topic,a1.Name,[]⟩:QaC)) (RS.nil _ _)) Rows.nil) Z Z
 obtain ⟨K,h⟩:=QaQ h
 refine Wb (We (append (dd:=QaG) (xs:=([]:List QaC)++a0.Topics) (ys:=[(⟨a1.Topic,a1.Name,[]⟩:QaC)]) underlying23 underlying23 in55 Z (appB (by decide) K) (by decide) Z Z B (S.src 1 Z)) Z ?_)
 rintro p _ _ - ⟨rfl,W,rfl,y⟩
 refine qu (pt s 1) (Fa QbW Z Z) (Wb (We (Es p ((l27 a0 a p b c)) y.cells sz23 Z Z (Ow y) Z Z Z) Z ?_))
 rintro _ _ _ - ⟨rfl,rfl⟩
 refine Ns (qu (pt t 3) (Fa QgV Z Z) (qu (Iv a1.Topic) (Lb 5 pl3 Z Z Z) (qu (pt s 4) (Fa QmS Z Z) (We (Es (Iv a1.Topic) [a,p,b,c,(Iv a1.Topic)] Z sz3 Z Z Z Z Z Z) Z ?_))))
 rintro _ _ _ - ⟨rfl,rfl⟩
 refine Ns (qu (.agg #[a,p,b,c,(Iv a1.Topic)]) (La (cs:=[a,p,b,c,(Iv a1.Topic)]) 0 ag27 sz27 Z Z Z) (WL.f4 (We (Sg (v:=(.agg #[a,p,b,c,(Iv a1.Topic)])) (vl:=[a,p,b,c,(Iv a1.Topic)]) (arr':=[a,p,b,c,(Iv a1.Topic)]) Z sz27 Z Z (QbG (Oc (RS.one f) (Oc (Ow y) (Oc (RS.one g) (Oc (RS.one i) (Oc Z Oz)))))) Z Z Z) Z ?_)))
 rintro _ _ _ - ⟨rfl,rfl⟩
 refine qa (Iv 0) (Nt (Cr (Qb (WQ.know (fun _ hs=>y.rs hs) (fun L=> ?_)))))
 refine WQ.freeze (fun q=> ?_)
 refine Qa (Dr (Qa (Dr (Qa (Dr (Qa (Dr (Qa (Dr ?_)))))))))
 have f:=f.mono q
 have g:=g.mono q
 have i:=i.mono q
 exact Rd h [] (fun _ hs=>hs.drop) (QaX Z (RVs.cons (Rc (cs:=[a,p,b,c,(Iv a1.Topic)]) 0 ag27 sz27 Z Z Z) (RVs.cons (RV.tmp Z) RVs.nil))) (e.trans q) ⟨a,p,b,c,Z,Z,f,L,g,i⟩
noncomputable def Qi4 (a0:QaA) (a1:Int) (s_:(Int×(List QaC))):Option ((Int×(List QaC))⊕(List QaC)):=
 match s_ with
 |(a,b)=>
 (if(decide (a<(a0.Topics.length:Int)))=true then(((grd (0≤a∧a<a0.Topics.length) (if(decide (((rd a0.Topics a).Id)≠a1))=true then(grd (0≤a∧a<a0.Topics.length) (grd (b.length+[(rd a0.Topics a)].length≤274877906944) (some (b++[(rd a0.Topics a)]))))else(some b))):Option (List QaC)).bind fun c=>(some (inl (i64.wrap (a+(1:Int)),c))))else(some (inr b)))
noncomputable def Qi5 (a0:QaA) (a1:Int) (s_:(Int×(List QaJ))):Option ((Int×(List QaJ))⊕(List QaJ)):=
 match s_ with
 |(a,b)=>
 (if(decide (a<(a0.Configs.length:Int)))=true then(((grd (0≤a∧a<a0.Configs.length) (if(decide (((rd a0.Configs a).Topic)≠a1))=true then(grd (0≤a∧a<a0.Configs.length) (grd (b.length+[(rd a0.Configs a)].length≤274877906944) (some (b++[(rd a0.Configs a)]))))else(some b))):Option (List QaJ)).bind fun c=>(some (inl (i64.wrap (a+(1:Int)),c))))else(some (inr b)))
noncomputable def QkB (a0:QaA) (a1:Int):Option (QaA×Int):=
 ((QeV a0 a1).bind fun(f,a)=>(if(!a)=true then(some (a0,(8:Int)))else((((iter (Qi4 a0 a1) ((0:Int),[])).bind (fun(b:(List QaC))=>(some b))):Option (List QaC)).bind fun c=>((((iter (Qi5 a0 a1) ((0:Int),[])).bind (fun(d:(List QaJ))=>(some d))):Option (List QaJ)).bind fun e=>(some ((⟨a0.Brokers,c,e,a0.Done,a0.Last⟩:QaA),(0:Int)))))))
def Qr5 (a0:QaA) (a1:Int) (f g i j:Value):(QaA×Int)→Value→IM→HL→Prop:=
 fun(p_:(QaA×Int)) (v:Value) (M':IM) (H':HL)=>match p_ with |(e,k)=>∃ a b c d,(.tuple #[(.agg #[a,b,c,d,(.int .i64 e.Last)]),(.int .i64 k)])=v∧H'=[]∧RS QaD M' a e.Brokers∧RS QaG M' b e.Topics∧RS QaF M' c e.Configs∧RS QaI M' d e.Done
theorem QuS (a0:QaA) (a1:Int) (M:IM) (a d c b:Value) (j:RS QaD M a a0.Brokers) (m:RS QaG M d a0.Topics) (o:RS QaF M c a0.Configs) (k:RS QaI M b a0.Done) (res:(QaA×Int)) (h:QkB a0 a1=some res):
 Tri prog 96 #[(a27_ a0 a d c b),(Iv a1)] M [] (Qr5 a0 a1 a d c b res):=by
 unfold QkB at h
 refine Te func96 Z Z ?_
 intro F ρ hρ
 refine Sr (We (box (cs:=(l27 a0 a d c b).toArray) (congrArg Value.cells (asE (a27_ a0 a d c b) (hρ 0)))) Z ?_)
 rintro _ _ _ - ⟨rfl,q,rfl,rfl⟩
 refine We (Al ze27 Z) Z ?_
 rintro _ _ _ - ⟨rfl,B,rfl,rfl⟩
 refine qa (Iv 0) (Nt (Cs (Sr (qu (a27_ a0 a d c b) (La (cs:=(l27 a0 a d c b)) 1 ag27 sz27 Z Z Z) (qM (Iv a1) (hρ 1) ?_)))))
 obtain ⟨⟨C,b0⟩,g1,h⟩:=bnd h
 refine We (Ca co78 (QiG a0 a1 _ _ _ _ _ j m o k (C,b0) g1) (QaU Z Z)) Z ?_
 rintro _ g2 _ l ⟨_,⟨e,rfl,rfl,b7⟩,rfl⟩
 refine WL.a0 (qm (.tuple #[(a55_ C e),(Bv b0)]) (qu (a55_ C e) (Xt Z Z) (qu (Bv b0) (Xt Z Z) (We (Al ze55 Z) Z ?_))))
 rintro _ _ _ - ⟨rfl,b1,rfl,rfl⟩
 refine We (Sg (v:=(a55_ C e)) (vl:=(l55 C e)) (arr':=(l55 C e)) Z sz55 Z Z (QbG (Oc Z (Oc Z (Oc (RS.one b7) Oz)))) Z Z Z) Z ?_
 rintro _ _ _ - ⟨rfl,rfl⟩
 refine qa (Bv b0) (Ns (qm (Bv b0) (qu (Bv (!b0)) (PO.not Z) (Nt (Ch h Z (fun g3 h=> ?_) (fun g3 h=> ?_))))))
 refine Sr (qu (a27_ a0 a d c b) (La (cs:=(l27 a0 a d c b)) 2 ag27 sz27 Z Z Z) (WL.f1 ?_))
 have j:=j.mono l
 have m:=m.mono l
 have o:=o.mono l
 have k:=k.mono l
 refine We (Sg (v:=(a27_ a0 a d c b)) (vl:=(l27 a0 a d c b)) (arr':=(l27 a0 a d c b)) Z sz27 Z Z (QbG (Oc (RS.one j) (Oc (RS.one m) (Oc (RS.one o) (Oc (RS.one k) (Oc Z Oz)))))) Z Z Z) Z ?_
 rintro _ _ _ - ⟨rfl,rfl⟩
 exact qa (Iv 8) (Nt (Cr (Tr (Qa (Dr (Qa (Dr (Rd h [] (fun _ hs=>hs.drop) (QaX Z (RVs.cons (Rc (cs:=(l27 a0 a d c b)) 0 ag27 sz27 Z Z Z) (RVs.cons (RV.tmp Z) RVs.nil))) l ⟨a,d,c,b,Z,Z,j,m,o,k⟩))))))))
 refine Ck (Tc (Sr (qu (a27_ a0 a d c b) (La (cs:=(l27 a0 a d c b)) 2 ag27 sz27 Z Z Z) (We (Al ze27 Z) Z ?_))))
 rintro _ _ _ - ⟨rfl,p,rfl,rfl⟩
 have j:=j.mono l
 have m:=m.mono l
 have o:=o.mono l
 have k:=k.mono l
 refine We (Sg (v:=(a27_ a0 a d c b)) (vl:=(l27 a0 a d c b)) (arr':=(l27 a0 a d c b)) Z sz27 Z Z (QbG (Oc (RS.one j) (Oc (RS.one m) (Oc (RS.one o) (Oc (RS.one k) (Oc Z Oz)))))) Z Z Z) Z ?_
 rintro _ _ _ - ⟨rfl,rfl⟩
 refine Ns (qu (pt p 1) (Fa QbW Z Z) (We (Es Zs ((l27 a0 a Zs c b)) Z sz23 Z Z Z Z Z Z) Z ?_))
 rintro _ _ _ - ⟨rfl,rfl⟩
 refine Nt ?_
 obtain ⟨d6,g4,h⟩:=bnd h
 refine Jf (fun(d6:(List QaC)) ρ' M' H'=>∃ f E,g2.le M'∧[(p, .cells (l27 a0 a f c b).toArray 27 (0,0))]::[(b1, .cells (l55 C e).toArray 55 (0,0))]::[(B, .cells z27_.toArray 27 (0,0))]::[(q, .cells (l27 a0 a d c b).toArray 27 (0,0))]::E::F=H'∧ρ' 1=(Iv a1)∧ρ' 2=(pt q 0)∧ρ' 4=(pt B 0)∧ρ' 8=(pt p 0)∧OwnS QaG M' f d6 E) d6 ?_ ?_
 have h:=g4
 refine Sr (qa (Iv 0) (Nt (Bk (WC.e0 (WC.f4 (WC.f4 (WC.f4 (WC.f4 ?_))))))))
 obtain ⟨j9,g5,g6⟩:=bnd h
 clear h
 refine WC.loop g5 (fun(p_:(Int×(List QaC))) ρ' M' H'=>match p_ with |(g,b8)=>∃ G R,g2.le M'∧[(p, .cells (l27 a0 a G c b).toArray 27 (0,0))]::[(b1, .cells (l55 C e).toArray 55 (0,0))]::[(B, .cells z27_.toArray 27 (0,0))]::[(q, .cells (l27 a0 a d c b).toArray 27 (0,0))]::R::F=H'∧ρ' 1=(Iv a1)∧ρ' 2=(pt q 0)∧ρ' 4=(pt B 0)∧ρ' 8=(pt p 0)∧ρ' 9=(Iv g)∧OwnS QaG M' G b8 R) ?_ ?_
 exact⟨Zs,[],lr,Z,(hρ 1),Z,Z,Z,Z,(OwnS.nil _ _)⟩
 rintro ⟨g,b8⟩ k0 k1 g7 k2 h ⟨G,R,T,rfl,D,s,J,t,z,b2⟩
 unfold Qi4 at h
 refine Cs (Sr (qM (Iv g) z (qu (pt q 1) (Fa QbW s Z) (qu d (Lb 3 pl23 Z Z Z) ?_))))
 have m:=m.mono T
 refine qu (Iv (a0.Topics.length:Int)) (lenS underlying23 Z m.len) (qu (Bv (decide (g<(a0.Topics.length:Int)))) (lss Z Z) (Nt (Ch h Z (fun g8 h=> ?_) (fun g8 h=> ?_))))
 refine Ck (Tc ?_)
 obtain ⟨b9,g9,h⟩:=bnd h
 refine Jf (fun(b9:(List QaC)) ρ' M' H'=>∃ V W,g7.le M'∧[(p, .cells (l27 a0 a V c b).toArray 27 (0,0))]::[(b1, .cells (l55 C e).toArray 55 (0,0))]::[(B, .cells z27_.toArray 27 (0,0))]::[(q, .cells (l27 a0 a d c b).toArray 27 (0,0))]::W::F=H'∧ρ' 1=(Iv a1)∧ρ' 2=(pt q 0)∧ρ' 4=(pt B 0)∧ρ' 8=(pt p 0)∧ρ' 9=(Iv g)∧OwnS QaG M' V b9 W) b9 ?_ ?_
 have h:=g9
 refine Bk (Sr (qu (pt q 1) (Fa QbW s Z) (qu d (Lb 3 pl23 Z Z Z) (qM (Iv g) z ?_))))
 obtain ⟨X,h⟩:=QaQ h
 obtain ⟨h0,j5,d7,d8,hhas48⟩:=m.at X.1 X.2 (by decide)
 obtain ⟨i7,rfl,i8⟩:=QaN d8
 refine qu (.pointer (some h0)) (indexAddr (n:=a0.Topics.length) underlying23 sz55 Z Z X.1 X.2 d7) (qu (.pointer (some (h0.add 0))) (Fa Qk0 Z Z) (qu (Iv ((rd a0.Topics g).Id)) (loadM pl3 Z (IM.has0 hhas48)) (qM (Iv a1) D (qu (Bv (decide (((rd a0.Topics g).Id)≠a1))) (neq Z Z) (Nt (Ch h Z (fun h1 h=> ?_) (fun h1 h=> ?_)))))))
 refine WC.draw [0,1,0,4,0,28,60,124,255,511,1023] (.pure 0 (.pure 1 (.pure 2 (.pure 3 (.pure 4 (.pure 5 (.pure 6 (.alt 7 (.alt 8 (.pure 9 (.alt 10 .done .none)) .none) .none)))))))) QdC (by kernel_rfl) (qt (pt p 1) Z (Fa QbW t Z) (qt G Z (Lb 0 pl23 Z Z Z) (qt (pt q 1) Z (Fa QbW s Z) (qt d Z (Lb 3 pl23 Z Z Z) (qt (Iv g) Z (Mv z) ?_)))))
 obtain ⟨Y,h⟩:=QaQ h
 obtain ⟨i9,j6,d9,e1,hhas56⟩:=m.at Y.1 Y.2 (by decide)
 obtain ⟨u,rfl,c0⟩:=QaN e1
 refine qt (.pointer (some i9)) Z (indexAddr (n:=a0.Topics.length) underlying23 sz55 Z Z Y.1 Y.2 d9) (qt (a55_ (rd a0.Topics g) u) Z (loadMA (cs:=(l55 (rd a0.Topics g) u)) ag55 sz55 Z hhas56) (Ta Z (buildSliceL (cl:=(l55 (rd a0.Topics g) u)) underlying23 iz55 Z (Pc (a55_ (rd a0.Topics g) u) Z Z Pz) Z) Z ?_ ?_))
 rintro _ _ _ - ⟨rfl,h2,rfl,rfl⟩
 have j0:OwnS QaG g7 (.slice (some ⟨h2,0,none⟩) 1 1) [(rd a0.Topics g)] [(h2, .cells (l55 (rd a0.Topics g) u).toArray 55 (0,0))]:=OwnS.rows (css:=[(l55 (rd a0.Topics g) u)]) (Rows.cons (QjN (x:=(rd a0.Topics g)) c0) Rows.nil) Z Z
 refine⟨(Sk 5 Z (Ss Z (Lb 1 pl23 Z Z Z) Z (Ss Z (Fa QbW t Z) Z trivial))), ?_⟩
 obtain ⟨h3,h⟩:=QaQ h
 refine WT.f5 (Ta Z (append (dd:=QaG) (xs:=b8) (ys:=[(rd a0.Topics g)]) underlying23 underlying23 in55 Z (appB (by decide) h3) (by decide) Z Z b2 (j0.src 1 Z)) Z ?_ ?_)
 rintro e2 _ _ - ⟨rfl,j1,rfl,e3⟩
 refine⟨(Sl Z), ?_⟩
 refine qt (pt p 1) Z (Fa QbW t Z) (WT.f2 (Ta Z (Es e2 ((l27 a0 a e2 c b)) e3.cells sz23 Z Z (Ow e3) Z Z Z) Z ?_ ?_))
 rintro _ _ _ - ⟨rfl,rfl⟩
 refine⟨(Sl Z), ?_⟩
 refine Ti (Bn (Qb (Dr (Qa (WQ.f4 (WQ.f4 (WQ.f4 (WQ.f4 ?_))))))))
 obtain rfl:=oi h
 exact Tj ⟨e2,j1,lr,Z,D,s,J,t,z,e3⟩
 exact Tz
 exact Tz
 exact Tz
 refine Ck (Bn ?_)
 obtain rfl:=oi h
 exact Tj ⟨G,R,lr,Z,D,s,J,t,z,b2⟩
 rintro k3 k4 k5 ⟨V,W,e4,rfl,c1,c2,c3,c4,c5,h4⟩
 exact Cg (qM (Iv g) c5 (qu (Iv (i64.wrap (g+1))) (add Z Z) (qa (Iv (i64.wrap (g+1))) (Wz (WQ.again (i64.wrap (g+1),b9) (oi h).symm ⟨V,W,(T.trans e4),Z,c1,c2,c3,c4,Z,h4⟩)))))
 refine WC.exit (WQ.thenE (WQ.leaveE b8 (oi h).symm (fun e5=> ?_)))
 subst e5
 have h:=g6
 refine WQ.blockH ?_
 obtain rfl:=oi h
 exact Tj ⟨G,R,T,Z,D,s,J,t,b2⟩
 rintro k6 h5 k7 ⟨f,E,K,rfl,c6,c7,c8,a2,a3⟩
 refine Sr (qu (pt p 2) (Fa Qc5 a2 Z) (We (Es Zs ((l27 a0 a f Zs b)) Z sz24 Z Z Z Z Z Z) Z ?_))
 rintro _ _ _ - ⟨rfl,rfl⟩
 refine Nt ?_
 obtain ⟨e6,h6,h⟩:=bnd h
 refine Jf (fun(e6:(List QaJ)) ρ' M' H'=>∃ y b3,h5.le M'∧[(p, .cells (l27 a0 a f y b).toArray 27 (0,0))]::[(b1, .cells (l55 C e).toArray 55 (0,0))]::[(B, .cells z27_.toArray 27 (0,0))]::[(q, .cells (l27 a0 a d c b).toArray 27 (0,0))]::E::b3::F=H'∧ρ' 4=(pt B 0)∧ρ' 8=(pt p 0)∧OwnS QaF M' y e6 b3) e6 ?_ ?_
 have h:=h6
 refine Sr (qa (Iv 0) (Nt (Bk (WC.e0 (WC.f5 (WC.f5 (WC.f5 (WC.f5 (WC.f5 ?_)))))))))
 obtain ⟨k8,h7,h8⟩:=bnd h
 clear h
 refine WC.loop h7 (fun(p_:(Int×(List QaJ))) ρ' M' H'=>match p_ with |(i,c9)=>∃ I S,h5.le M'∧[(p, .cells (l27 a0 a f I b).toArray 27 (0,0))]::[(b1, .cells (l55 C e).toArray 55 (0,0))]::[(B, .cells z27_.toArray 27 (0,0))]::[(q, .cells (l27 a0 a d c b).toArray 27 (0,0))]::E::S::F=H'∧ρ' 1=(Iv a1)∧ρ' 2=(pt q 0)∧ρ' 4=(pt B 0)∧ρ' 8=(pt p 0)∧ρ' 10=(Iv i)∧OwnS QaF M' I c9 S) ?_ ?_
 exact⟨Zs,[],lr,Z,c6,c7,c8,a2,Z,(OwnS.nil _ _)⟩
 rintro ⟨i,c9⟩ k9 l0 h9 l1 h ⟨I,S,U,rfl,L,A,N,w,r,b4⟩
 unfold Qi5 at h
 refine Cs (Sr (qM (Iv i) r (qu (pt q 2) (Fa Qc5 A Z) (qu c (Lb 3 pl24 Z Z Z) ?_))))
 have o:=o.mono (K.trans U)
 refine qu (Iv (a0.Configs.length:Int)) (lenS underlying24 Z o.len) (qu (Bv (decide (i<(a0.Configs.length:Int)))) (lss Z Z) (Nt (Ch h Z (fun i0 h=> ?_) (fun i0 h=> ?_))))
 refine Ck (Tc ?_)
 obtain ⟨d0,i1,h⟩:=bnd h
 refine Jf (fun(d0:(List QaJ)) ρ' M' H'=>∃ a4 a5,h9.le M'∧[(p, .cells (l27 a0 a f a4 b).toArray 27 (0,0))]::[(b1, .cells (l55 C e).toArray 55 (0,0))]::[(B, .cells z27_.toArray 27 (0,0))]::[(q, .cells (l27 a0 a d c b).toArray 27 (0,0))]::E::a5::F=H'∧ρ' 1=(Iv a1)∧ρ' 2=(pt q 0)∧ρ' 4=(pt B 0)∧ρ' 8=(pt p 0)∧ρ' 10=(Iv i)∧OwnS QaF M' a4 d0 a5) d0 ?_ ?_
 have h:=i1
 refine Bk (Sr (qu (pt q 2) (Fa Qc5 A Z) (qu c (Lb 3 pl24 Z Z Z) (qM (Iv i) r ?_))))
 obtain ⟨a6,h⟩:=QaQ h
 obtain ⟨i2,j7,e7,e8,hhas80⟩:=o.at a6.1 a6.2 (by decide)
 obtain rfl:=Qa8 e8
 refine qu (.pointer (some i2)) (indexAddr (n:=a0.Configs.length) underlying24 sz76 Z Z a6.1 a6.2 e7) (qu (.pointer (some (i2.add 0))) (Fa QeF Z Z) (qu (Iv ((rd a0.Configs i).Topic)) (loadM pl3 Z (IM.has0 hhas80)) (qM (Iv a1) L (qu (Bv (decide (((rd a0.Configs i).Topic)≠a1))) (neq Z Z) (Nt (Ch h Z (fun i3 h=> ?_) (fun i3 h=> ?_)))))))
 refine WC.draw [0,1,0,4,0,28,60,124,255,511,1023] (.pure 0 (.pure 1 (.pure 2 (.pure 3 (.pure 4 (.pure 5 (.pure 6 (.alt 7 (.alt 8 (.pure 9 (.alt 10 .done .none)) .none) .none)))))))) QdC (by kernel_rfl) (qt (pt p 2) Z (Fa Qc5 w Z) (qt I Z (Lb 0 pl24 Z Z Z) (qt (pt q 2) Z (Fa Qc5 A Z) (qt c Z (Lb 3 pl24 Z Z Z) (qt (Iv i) Z (Mv r) ?_)))))
 obtain ⟨a7,h⟩:=QaQ h
 obtain ⟨j2,j8,e9,f0,hhas88⟩:=o.at a7.1 a7.2 (by decide)
 obtain rfl:=Qa8 f0
 refine qt (.pointer (some j2)) Z (indexAddr (n:=a0.Configs.length) underlying24 sz76 Z Z a7.1 a7.2 e9) (qt (a76_ (rd a0.Configs i)) Z (loadMA (cs:=(l76 (rd a0.Configs i))) ag76 sz76 Z hhas88) (Ta Z (buildSliceL (cl:=(l76 (rd a0.Configs i))) underlying24 iz76 Z (Pc (a76_ (rd a0.Configs i)) Z Z Pz) Z) Z ?_ ?_))
 rintro _ _ _ - ⟨rfl,i4,rfl,rfl⟩
 have j3:OwnS QaF h9 (.slice (some ⟨i4,0,none⟩) 1 1) [(rd a0.Configs i)] [(i4, .cells (l76 (rd a0.Configs i)).toArray 76 (0,0))]:=OwnS.rows (css:=[(l76 (rd a0.Configs i))]) (Rows.cons (QeQ (x:=(rd a0.Configs i))) Rows.nil) Z Z
 refine⟨(Sk 5 Z (Ss Z (Lb 1 pl24 Z Z Z) Z (Ss Z (Fa Qc5 w Z) Z trivial))), ?_⟩
 obtain ⟨i5,h⟩:=QaQ h
 refine WT.f6 (Ta Z (append (dd:=QaF) (xs:=c9) (ys:=[(rd a0.Configs i)]) underlying24 underlying24 in76 Z (appB (by decide) i5) (by decide) Z Z b4 (j3.src 1 Z)) Z ?_ ?_)
 rintro f3 _ _ - ⟨rfl,j4,rfl,f7⟩
 refine⟨(Sl Z), ?_⟩
 refine qt (pt p 2) Z (Fa Qc5 w Z) (WT.f2 (Ta Z (Es f3 ((l27 a0 a f f3 b)) f7.cells sz24 Z Z (Ow f7) Z Z Z) Z ?_ ?_))
 rintro _ _ _ - ⟨rfl,rfl⟩
 refine⟨(Sl Z), ?_⟩
 refine Ti (Bn (Qb (Dr (Qa (WQ.f5 (WQ.f5 (WQ.f5 (WQ.f5 (WQ.f5 ?_)))))))))
 obtain rfl:=oi h
 exact Tj ⟨f3,j4,lr,Z,L,A,N,w,r,f7⟩
 exact Tz
 exact Tz
 exact Tz
 refine Ck (Bn ?_)
 obtain rfl:=oi h
 exact Tj ⟨I,S,lr,Z,L,A,N,w,r,b4⟩
 rintro l2 l3 l4 ⟨a4,a5,f8,rfl,d1,d2,d3,d4,b5,i6⟩
 exact Cg (qM (Iv i) b5 (qu (Iv (i64.wrap (i+1))) (add Z Z) (qa (Iv (i64.wrap (i+1))) (Wz (WQ.again (i64.wrap (i+1),d0) (oi h).symm ⟨a4,a5,(U.trans f8),Z,d1,d2,d3,d4,Z,i6⟩)))))
 refine WC.exit (WQ.thenE (WQ.leaveE c9 (oi h).symm (fun f9=> ?_)))
 subst f9
 have h:=h8
 refine WQ.blockH ?_
 obtain rfl:=oi h
 exact Tj ⟨I,S,U,Z,N,w,b4⟩
 rintro l5 l6 l7 ⟨y,b3,O,rfl,a8,d5,a9⟩
 refine Sr (qu (a27_ a0 a f y b) (La (cs:=(l27 a0 a f y b)) 0 ag27 sz27 d5 Z Z) (Wb ?_))
 have j:=j.mono (K.trans O)
 have a3:=a3.mono O
 have k:=k.mono (K.trans O)
 refine We (Sg (v:=(a27_ a0 a f y b)) (vl:=(l27 a0 a f y b)) (arr':=(l27 a0 a f y b)) Z sz27 a8 Z (QbG (Oc (RS.one j) (Oc (Ow a3) (Oc (Ow a9) (Oc (RS.one k) (Oc Z Oz)))))) Z Z Z) Z ?_
 rintro _ _ _ - ⟨rfl,rfl⟩
 refine qa (Iv 0) (Nt (Cr (WQ.f4 (WQ.know (fun _ hs=>a3.rs hs) (fun b6=> ?_)))))
 refine WQ.freeze (fun P=> ?_)
 refine WQ.f4 ?_
 have a9:=a9.mono P
 refine WQ.know (fun _ hs=>a9.rs hs) (fun g0=> ?_)
 refine WQ.freeze (fun Q=> ?_)
 refine Qa (Dr (Qa (Dr (Qa (Dr ?_)))))
 have j:=j.mono (P.trans Q)
 have b6:=b6.mono Q
 have k:=k.mono (P.trans Q)
 exact Rd h [] (fun _ hs=>hs.drop) (QaX Z (RVs.cons (Rc (cs:=(l27 a0 a f y b)) 0 ag27 sz27 a8 Z Z) (RVs.cons (RV.tmp Z) RVs.nil))) ((((l.trans K).trans O).trans P).trans Q) ⟨a,f,y,b,Z,Z,j,b6,g0,k⟩

end Go.Proofs.YtpcbipcdfccnnaaGreatDoor.G
