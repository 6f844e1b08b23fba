/- Go functions: what they come to, and that they do. Printed by a program of the session (gen). -/
import Derived.Test.YtfkmkgpoddbbfaaGreatDoorRF
import Derived.Test.YtfkmkgpoddbbfaaGreatDoorR3
import Derived.Test.YtfkmkgpoddbbfaaGreatDoorKShar2
import Derived.Test.YtfkmkgpoddbbfaaGreatDoorKConv
import Derived.Test.YtfkmkgpoddbbfaaGreatDoorKMap
import Derived.Test.YtfkmkgpoddbbfaaGreatDoorKTight2
set_option linter.unusedVariables false
set_option linter.unusedSimpArgs false
set_option maxHeartbeats 8000000
set_option maxRecDepth 100000
namespace Go.Proofs.YtfkmkgpoddbbfaaGreatDoor.G
open Go Go.KK
open PO EO IntKind Sum Tryz

noncomputable def QgL (a1:(List Int)) (c:((List (Int×Int))×Int)):Option (((List (Int×Int))×Int)⊕(List (Int×Int))):=
 match c with
 |(b,a)=>
 (if(decide (a<(a1.length:Int)))=true then(grd (0≤a∧a<a1.length) (some (inl (QeK b (rd a1 a) (i64.wrap ((Qb6 b (rd a1 a))+(1:Int))),i64.wrap (a+(1:Int))))))else(some (inr b)))
noncomputable def QgM (a0:(List Int)) (b:(List (Int×Int))) (c:Int):Option (Int⊕(Unit⊕Unit)):=
 match c with
 |a=>
 (if(decide (a<(a0.length:Int)))=true then(grd (0≤a∧a<a0.length) (if(decide ((Qb6 b (rd a0 a))=(0:Int)))=true then(some (inr (inr ())))else(some (inl (i64.wrap (a+(1:Int)))))))else(some (inr (inl ()))))
noncomputable def QeA (a0:(List Int)) (a1:(List Int)):Option Bool:=
 ((((iter (QgL a1) (([]:List (Int×Int)),(0:Int))).bind (fun(a:(List (Int×Int)))=>(some a))):Option (List (Int×Int))).bind fun b=>((((iter (QgM a0 b) (0:Int)).bind (Sum.elim (fun _=>(some (inl ()))) (fun _=>(((some false)).bind fun r=>some (inr r))))):Option (Unit⊕Bool)).bind (Sum.elim (fun _=>(some true)) some)))
def QqV (a0:(List Int)) (a1:(List Int)) (c d:Value):Bool→Value→IM→HL→Prop:=
 fun(a:Bool) (v:Value) (e:IM) (b:HL)=>(.bool a)=v∧b=[]
theorem QgN (a0:(List Int)) (a1:(List Int)) (M:IM) (J T:Value) (S:RS (Kd.int .i64) M J a0) (h1:RS (Kd.int .i64) M T a1) (U:Bool) (h:QeA a0 a1=some U):
 Tri prog 120 #[J,T] M [] (QqV a0 a1 J T U):=by
 unfold QeA at h
 refine Te func120 Z Z ?_
 intro F ρ b7
 refine Sr (qa (Bv false) (Ns (We (makeMap miV) Z ?_)))
 rintro V _ _ - ⟨rfl,b0,rfl,b1⟩
 refine qa V (Nt ?_)
 obtain ⟨A,W,h⟩:=bnd h
 refine Jf (fun(A:(List (Int×Int))) t D K=>∃ i u,M.le D∧u::F=K∧t 0=J∧t 5=i∧OwnMp miV D i A u) A ?_ ?_
 have h:=W
 refine Sr (qM T (b7 1) (qu (Iv (a1.length:Int)) (lenS underlying51 Z h1.len) (qm (Iv 0) (Nt (Bk ?_)))))
 obtain ⟨c0,X,Y⟩:=bnd h
 clear h
 refine WC.loop X (fun(p_:((List (Int×Int))×Int)) t D K=>match p_ with |(p,a)=>∃ f v,M.le D∧v::F=K∧t 0=J∧t 5=f∧t 11=T∧t 12=(Iv (a1.length:Int))∧t 13=(Iv a)∧OwnMp miV D f p v) ?_ ?_
 exact⟨V,b0,lr,Z,(b7 0),Z,Z,Z,Z,b1⟩
 rintro ⟨p,a⟩ c2 c3 c4 c5 h ⟨f,v,q,rfl,w,g,j,l,c,B⟩
 unfold QgL at h
 refine Sr (qu (Bv (decide (a<(a1.length:Int)))) (lss c l) (Nt (Cs (Ch h Z (fun a2 h=> ?_) (fun a2 h=> ?_)))))
 refine Ck (Tc (Cs (Bk (Sr ?_))))
 obtain ⟨x,h⟩:=Qa1 h
 have h1:=h1.mono q
 obtain ⟨b2,b8,L,N,hhas36⟩:=h1.at x.1 x.2 (by decide)
 obtain rfl:=N
 refine qu (.pointer (some b2)) (indexAddr (n:=a1.length) underlying51 sz3 j c x.1 x.2 L) (qu (Iv (rd a1 a)) (loadM pl3 Z (IM.has0 hhas36)) (qa (Iv (rd a1 a)) (Nt (Cg (qM f g (qm (Iv (rd a1 a)) (qu (Iv (Qb6 p (rd a1 a))) (lookup (val:=miV) (k:=(rd a1 a)) 0 underlying203 (MKey.int underlying3) ze3 Z Z Z B) (qu (Iv (i64.wrap ((Qb6 p (rd a1 a))+1))) (add Z Z) (We (mapUpdate (val:=miV) (k:=(rd a1 a)) underlying203 (MKey.int underlying3) Z Z Z B) Z ?_)))))))))
 rintro _ _ _ - ⟨rfl,b3,rfl,b4⟩
 exact Wz (Bn (Tc (Cg (qu (Iv (i64.wrap (a+1))) (add c Z) (qm (Iv (i64.wrap (a+1))) (Wz (WQ.again (QeK p (rd a1 a) (i64.wrap ((Qb6 p (rd a1 a))+1)),i64.wrap (a+1)) (oi h).symm ⟨f,b3,q,Z,w,g,j,l,Z,b4⟩)))))))
 refine WC.exit (WQ.thenE (WQ.leaveE p (oi h).symm (fun O=> ?_)))
 subst O
 have h:=Y
 refine WQ.blockH ?_
 obtain rfl:=oi h
 exact Tj ⟨f,v,q,Z,w,g,B⟩
 rintro c6 a3 c7 ⟨i,u,r,rfl,E,G,C⟩
 obtain ⟨b5,a4,h⟩:=bnd h
 refine WC.joinE (fun(_:Unit) t D K=>a3.le D∧F=K) b5 ?_ ?_
 have a5:=h
 have h:=a4
 refine Sr (qM J E ?_)
 have S:=S.mono r
 refine qu (Iv (a0.length:Int)) (lenS underlying51 Z S.len) (qm (Iv 0) (Nt (Bk ?_)))
 obtain ⟨c8,a6,I⟩:=bnd h
 clear h
 refine WC.loop a6 (fun(b:Int) t D K=>a3.le D∧u::F=K∧t 5=i∧t 22=J∧t 23=(Iv (a0.length:Int))∧t 24=(Iv b)) ?_ ?_
 exact⟨lr,Z,G,Z,Z,Z⟩
 rintro b c9 d0 d1 d2 h ⟨d,rfl,y,m,o,e⟩
 unfold QgM at h
 refine Sr (qu (Bv (decide (b<(a0.length:Int)))) (lss e o) (Nt (Cs (Ch h Z (fun a7 h=> ?_) (fun a7 h=> ?_)))))
 refine Ck (Tc (Cs (Bk (Sr ?_))))
 obtain ⟨z,h⟩:=Qa1 h
 have S:=S.mono d
 obtain ⟨b6,b9,P,Q,hhas49⟩:=S.at z.1 z.2 (by decide)
 obtain rfl:=Q
 refine qu (.pointer (some b6)) (indexAddr (n:=a0.length) underlying51 sz3 m e z.1 z.2 P) (qu (Iv (rd a0 b)) (loadM pl3 Z (IM.has0 hhas49)) (qa (Iv (rd a0 b)) (Ns (qM i y (qm (Iv (rd a0 b)) ?_)))))
 have C:=C.mono d
 refine qu (Iv (Qb6 A (rd a0 b))) (lookup (val:=miV) (k:=(rd a0 b)) 0 underlying203 (MKey.int underlying3) ze3 Z Z Z C) (qu (Bv (decide ((Qb6 A (rd a0 b))=0))) (eql Z Z) (Nt (Ch h Z (fun a8 h=> ?_) (fun a8 h=> ?_))))
 refine Sr (qa (Bv false) (Nt (Cr (Br (Tr (WQ.leaveR (inr ()) (oi h).symm (fun s=> ?_)))))))
 subst s
 have h:=(QdZ I)
 refine Br (Tr ?_)
 have h:=KK.early h a5
 exact Dr (Rf h [] Z (Rs Z Z) (r.trans d) ⟨Z,Z⟩)
 exact Ck (Bn (Tc (Cg (qu (Iv (i64.wrap (b+1))) (add e Z) (qm (Iv (i64.wrap (b+1))) (Wz (WQ.again (i64.wrap (b+1)) (oi h).symm ⟨d,Z,y,m,o,Z⟩)))))))
 refine WC.exit (WQ.thenE (WQ.leaveE (inl ()) (oi h).symm (fun s=> ?_)))
 subst s
 have h:=QeV I
 exact WQ.blockH (Dr (WQ.thenFE h ⟨d,Z⟩))
 rintro _ d3 d4 d5 rfl ⟨R,rfl⟩
 have h:=(Sum.elim_inl _ _ _).symm.trans h
 exact Sr (qa (Bv true) (Nt (Cr (Rf h [] Z (Rs Z Z) (r.trans R) ⟨Z,Z⟩))))
noncomputable def QhW (a0:QaA) (a1:Int):Option Bool:=
 ((QgU a0 a1).bind fun(a,b)=>(((if b=true then(some (!a.Fenced))else(some false)):Option Bool).bind fun c=>(some c)))
def QqW (a0:QaA) (a1:Int) (a b c d:Value):Bool→Value→IM→HL→Prop:=
 fun(e:Bool) (v:Value) (g:IM) (f:HL)=>(.bool e)=v∧f=[]
theorem QtM (a0:QaA) (a1:Int) (M:IM) (a b c d:Value) (m:RS QaG M a a0.Brokers) (n:RS QaI M b a0.Topics) (o:RS QaH M c a0.Configs) (p:RS QaL M d a0.Done) (q:Bool) (h:QhW a0 a1=some q):
 Tri prog 121 #[(a29_ a0 a b c d),(Iv a1)] M [] (QqW a0 a1 a b c d q):=by
 unfold QhW at h
 refine Te func121 Z Z ?_
 intro F E x
 refine Sr (We (box (cs:=(l29 a0 a b c d).toArray) (congrArg Value.cells (asE (a29_ a0 a b c d) (x 0)))) Z ?_)
 rintro _ _ _ - ⟨rfl,u,rfl,rfl⟩
 refine qa (Bv false) (Ns (qu (a29_ a0 a b c d) (La (cs:=(l29 a0 a b c d)) 0 ag29 sz29 Z Z Z) (qM (Iv a1) (x 1) ?_)))
 obtain ⟨⟨e,g⟩,r,h⟩:=bnd h
 refine We (Ca Q5T (QlW a0 a1 _ _ _ _ _ m n o p (e,g) r) (QaS Z Z)) Z ?_
 rintro _ w _ j ⟨_,⟨rfl,rfl⟩,rfl⟩
 refine WL.a0 (qm (.tuple #[(a66_ e),(Bv g)]) (qu (a66_ e) (Xt Z Z) (qu (Bv g) (Xt Z Z) (We (Al ze66 Z) Z ?_))))
 rintro _ _ _ - ⟨rfl,s,rfl,rfl⟩
 refine We (Sg (v:=(a66_ e)) (vl:=(l66 e)) (arr':=(l66 e)) Z sz66 Z Z (onb Z) Z Z Z) Z ?_
 rintro _ _ _ - ⟨rfl,rfl⟩
 refine qa (Bv g) (Nt ?_)
 obtain ⟨k,t,h⟩:=bnd h
 refine Jf (fun(k:Bool) y z A=>w.le z∧[(s, .cells (l66 e).toArray 66 (0,0))]::[(u, .cells (l29 a0 a b c d).toArray 29 (0,0))]::F=A∧y 4=(Bv k)) k ?_ ?_
 have h:=t
 refine Cg (qm (Bv g) (qm (Bv g) ?_))
 rcases Bi h with⟨f,h⟩ |⟨f,h⟩
 refine qo 14 f (pt s 3) (Fa Qn8 Z Z) (qo 14 f (Bv e.Fenced) (Lb 0 pl4 Z Z Z) (qo 14 f (Bv (!e.Fenced)) (PO.not Z) (qu (Bv (!e.Fenced)) (Pt Z f Z) (qa (Bv (!e.Fenced)) (Wz ?_)))))
 obtain rfl:=oi h
 exact Tj ⟨lr,Z,Z⟩
 iterate 3 refine Of 14 Z Z f Z ?_
 refine qu (Bv false) (Pf Z f Z) (qa (Bv false) (Wz ?_))
 obtain rfl:=oi h
 exact Tj ⟨lr,Z,Z⟩
 rintro B C D ⟨l,rfl,i⟩
 exact Cr (Dr (Dr (Rf h [] Z (Rs Z i) (j.trans l) ⟨Z,Z⟩)))
noncomputable def Qh6 (a1:QaK) (c:Int):Option (Int⊕(Unit⊕Unit)):=
 match c with
 |a=>
 (if(decide (a<([a1.Ids,a1.Isr,a1.Add,a1.Drop].length:Int)))=true then(grd (0≤a∧a<[a1.Ids,a1.Isr,a1.Add,a1.Drop].length) ((QdL (rd [a1.Ids,a1.Isr,a1.Add,a1.Drop] a)).bind fun b=>(if(!b)=true then(some (inr (inr ())))else(some (inl (i64.wrap (a+(1:Int))))))))else(some (inr (inl ()))))
noncomputable def Qh7 (a0:QaA) (a1:QaK) (c:Int):Option (Int⊕(Unit⊕Unit)):=
 match c with
 |a=>
 (if(decide (a<(a1.Ids.length:Int)))=true then(grd (0≤a∧a<a1.Ids.length) ((QgU a0 (rd a1.Ids a)).bind fun(d,b)=>(if(!b)=true then(some (inr (inr ())))else(some (inl (i64.wrap (a+(1:Int))))))))else(some (inr (inl ()))))
noncomputable def Qh8 (a1:QaK) (c:Int):Option (Int⊕(Unit⊕Unit)):=
 match c with
 |a=>
 (if(decide (a<(a1.Add.length:Int)))=true then(grd (0≤a∧a<a1.Add.length) ((QeA [(rd a1.Add a)] a1.Drop).bind fun b=>(if b=true then(some (inr (inr ())))else(some (inl (i64.wrap (a+(1:Int))))))))else(some (inr (inl ()))))
noncomputable def Qk0 (a0:QaA) (a1:QaK):Option Bool:=
 ((((iter (Qh6 a1) (0:Int)).bind (Sum.elim (fun _=>(some (inl ()))) (fun _=>(((some false)).bind fun r=>some (inr r))))):Option (Unit⊕Bool)).bind (Sum.elim (fun _=>((((iter (Qh7 a0 a1) (0:Int)).bind (Sum.elim (fun _=>(some (inl ()))) (fun _=>(((some false)).bind fun r=>some (inr r))))):Option (Unit⊕Bool)).bind (Sum.elim (fun _=>(((if(decide ((a1.Ids.length:Int)=(0:Int)))=true then(some true)else(if(decide ((a1.Isr.length:Int)=(0:Int)))=true then(some true)else(if(decide (a1.Epoch<(0:Int)))=true then(some true)else(some (decide ((1073741824:Int)<a1.Epoch)))))):Option Bool).bind fun b=>(if b=true then(some false)else((((QeA a1.Isr a1.Ids).bind fun c=>(if(!c)=true then(some true)else((QeA a1.Add a1.Ids).bind fun d=>(if(!d)=true then(some true)else((QeA a1.Drop a1.Ids).bind fun e=>(some (!e))))))):Option Bool).bind fun f=>(if f=true then(some false)else(((if(decide (a1.Leader≠(0:Int)))=true then((QeA [a1.Leader] a1.Isr).bind fun g=>(if(!g)=true then(some true)else((QhW a0 a1.Leader).bind fun a=>(some (!a)))))else(some false)):Option Bool).bind fun i=>(if i=true then(some false)else((((iter (Qh8 a1) (0:Int)).bind (Sum.elim (fun _=>(some (inl ()))) (fun _=>(((some false)).bind fun r=>some (inr r))))):Option (Unit⊕Bool)).bind (Sum.elim (fun _=>(some true)) some))))))))) some))) some))
def QtN (a0:QaA) (a1:QaK) (a b c d e f g i:Value):Bool→Value→IM→HL→Prop:=
 fun(j:Bool) (v:Value) (l:IM) (k:HL)=>(.bool j)=v∧k=[]
theorem QvQ (a0:QaA) (a1:QaK) (M:IM) (g i j k a c d e:Value) (R:RS QaG M g a0.Brokers) (S:RS QaI M i a0.Topics) (T:RS QaH M j a0.Configs) (U:RS QaL M k a0.Done) (f:RS (Kd.int .i64) M a a1.Ids) (s:RS (Kd.int .i64) M c a1.Isr) (t:RS (Kd.int .i64) M d a1.Add) (E:RS (Kd.int .i64) M e a1.Drop) (h6:Bool) (h:Qk0 a0 a1=some h6):
 Tri prog 83 #[(a29_ a0 g i j k),(a53_ a1 a c d e)] M [] (QtN a0 a1 g i j k a c d e h6):=by
 unfold Qk0 at h
 refine Te func83 Z Z ?_
 intro F ρ m4
 refine Sr (We (box (cs:=(l29 a0 g i j k).toArray) (congrArg Value.cells (asE (a29_ a0 g i j k) (m4 0)))) Z ?_)
 rintro _ _ _ - ⟨rfl,z,rfl,rfl⟩
 refine We (box (cs:=(l53 a1 a c d e).toArray) (congrArg Value.cells (asE (a53_ a1 a c d e) (m4 1)))) Z ?_
 rintro _ _ _ - ⟨rfl,b,rfl,rfl⟩
 refine qa (Bv false) (Nt ?_)
 obtain ⟨l1,h7,h⟩:=bnd h
 refine WC.joinE (fun(_:Unit) w M' H'=>M.le M'∧[(b, .cells (l53 a1 a c d e).toArray 53 (0,0))]::[(z, .cells (l29 a0 g i j k).toArray 29 (0,0))]::F=H'∧w 2=(pt z 0)∧w 3=(pt b 0)) l1 ?_ ?_
 have h8:=h
 have h:=h7
 refine Sr (qu (pt b 0) (Fa QiN Z Z) (qu a (Lb 0 pl51 Z Z Z) (qu (pt b 1) (Fa QlA Z Z) (qu c (Lb 0 pl51 Z Z Z) (qu (pt b 4) (Fa Qn7 Z Z) (qu d (Lb 0 pl51 Z Z Z) (qu (pt b 5) (Fa QmT Z Z) (qu e (Lb 0 pl51 Z Z Z) (We (buildSliceL (cl:=[a,c,d,e]) underlying190 iz51 Z (Parts.cons ((congrArg Value.cells (show ev _ _=a from Z)).trans f.cells) (Parts.cons ((congrArg Value.cells (show ev _ _=c from Z)).trans s.cells) (Parts.cons ((congrArg Value.cells (show ev _ _=d from Z)).trans t.cells) (Parts.cons ((congrArg Value.cells (show ev _ _=e from Z)).trans E.cells) Pz)))) Z) Z ?_)))))))))
 rintro _ _ _ - ⟨rfl,d6,rfl,rfl⟩
 have d7:OwnS (Kd.slice (Kd.int .i64)) M (.slice (some ⟨d6,0,none⟩) 4 4) [a1.Ids,a1.Isr,a1.Add,a1.Drop] [(d6, .cells #[a,c,d,e] 51 (0,0))]:=OwnS.rows (css:=[[a],[c],[d],[e]]) (Rows.cons ⟨_,Z,f⟩ (Rows.cons ⟨_,Z,s⟩ (Rows.cons ⟨_,Z,t⟩ (Rows.cons ⟨_,Z,E⟩ Rows.nil)))) Z Z
 refine qu (Iv ([a1.Ids,a1.Isr,a1.Add,a1.Drop].length:Int)) (lenS underlying190 Z d7.len) (qm (Iv 0) (Nt (Bk (WC.f2 (WC.f2 ?_)))))
 obtain ⟨n5,h9,e8⟩:=bnd h
 clear h
 refine WC.loop h9 (fun(b2:Int) w M' H'=>M.le M'∧[(b, .cells (l53 a1 a c d e).toArray 53 (0,0))]::[(z, .cells (l29 a0 g i j k).toArray 29 (0,0))]::[(d6, .cells #[a,c,d,e] 51 (0,0))]::F=H'∧w 2=(pt z 0)∧w 3=(pt b 0)∧w 21=(.slice (some ⟨d6,0,none⟩) 4 4)∧w 22=(Iv ([a1.Ids,a1.Isr,a1.Add,a1.Drop].length:Int))∧w 23=(Iv b2)) ?_ ?_
 exact⟨lr,Z,Z,Z,Z,Z,Z⟩
 rintro b2 n6 n7 n8 n9 h ⟨V,rfl,b6,b7,a6,a7,J⟩
 unfold Qh6 at h
 refine Sr (qu (Bv (decide (b2<([a1.Ids,a1.Isr,a1.Add,a1.Drop].length:Int)))) (lss J a7) (Nt (Cs (Ch h Z (fun i0 h=> ?_) (fun i0 h=> ?_)))))
 refine Ck (Tc (Cs (Bk (Sr ?_))))
 obtain ⟨b8,h⟩:=Qa1 h
 have d7:=d7.mono V
 obtain ⟨l2,m5,f3,f4,hhas35⟩:=d7.at b8.1 b8.2
 obtain ⟨c7,rfl,i1⟩:=f4
 refine qu (.pointer (some l2)) (indexAddr (n:=[a1.Ids,a1.Isr,a1.Add,a1.Drop].length) underlying190 sz51 a6 J b8.1 b8.2 f3) (qu c7 (loadC 2 pl51 Z Z (QuK hhas35)) (qa c7 (Ns (qm c7 ?_))))
 obtain ⟨i2,i3,h⟩:=bnd h
 refine We (Ca Q7R (QpQ (rd [a1.Ids,a1.Isr,a1.Add,a1.Drop] b2) _ _ i1 i2 i3) (Qb2 Z)) Z ?_
 rintro _ o0 _ c8 ⟨_,⟨rfl,rfl⟩,rfl⟩
 refine WL.a0 (qu (Bv (!i2)) (PO.not Z) (Nt (Ch h Z (fun i4 h=> ?_) (fun i4 h=> ?_))))
 refine Sr (qa (Bv false) (Nt (Cr (Br (Tr (WQ.leaveR (inr ()) (oi h).symm (fun b3=> ?_)))))))
 subst b3
 have h:=(QdZ e8)
 refine Br (Tr ?_)
 have h:=KK.early h h8
 exact Dr (Dr (Dr (Rf h [] Z (Rs Z Z) (V.trans c8) ⟨Z,Z⟩)))
 exact Ck (Bn (Tc (Cg (qu (Iv (i64.wrap (b2+1))) (add J Z) (qm (Iv (i64.wrap (b2+1))) (Wz (WQ.again (i64.wrap (b2+1)) (oi h).symm ⟨(V.trans c8),Z,b6,b7,a6,a7,Z⟩)))))))
 refine WC.exit (WQ.thenE (WQ.leaveE (inl ()) (oi h).symm (fun b3=> ?_)))
 subst b3
 have h:=QeV e8
 exact WQ.blockH (Qb (Dr (WQ.thenFE h ⟨V,Z,b6,b7⟩)))
 rintro _ o1 i5 o2 rfl ⟨A,rfl,d8,b9⟩
 have h:=(Sum.elim_inl _ _ _).symm.trans h
 obtain ⟨l3,i6,h⟩:=bnd h
 refine WC.joinE (fun(_:Unit) w M' H'=>i5.le M'∧[(b, .cells (l53 a1 a c d e).toArray 53 (0,0))]::[(z, .cells (l29 a0 g i j k).toArray 29 (0,0))]::F=H'∧w 2=(pt z 0)∧w 3=(pt b 0)) l3 ?_ ?_
 have i7:=h
 have h:=i6
 refine Sr (qu (pt b 0) (Fa QiN b9 Z) (qu a (Lb 0 pl51 Z Z Z) ?_))
 have f:=f.mono A
 refine qu (Iv (a1.Ids.length:Int)) (lenS underlying51 Z f.len) (qm (Iv 0) (Nt (Bk ?_)))
 obtain ⟨o3,i8,e9⟩:=bnd h
 clear h
 refine WC.loop i8 (fun(Q:Int) w M' H'=>i5.le M'∧[(b, .cells (l53 a1 a c d e).toArray 53 (0,0))]::[(z, .cells (l29 a0 g i j k).toArray 29 (0,0))]::F=H'∧w 2=(pt z 0)∧w 3=(pt b 0)∧w 32=a∧w 33=(Iv (a1.Ids.length:Int))∧w 34=(Iv Q)) ?_ ?_
 exact⟨lr,Z,d8,b9,Z,Z,Z⟩
 rintro Q o4 o5 o6 o7 h ⟨u,rfl,W,c0,a8,a9,K⟩
 unfold Qh7 at h
 refine Sr (qu (Bv (decide (Q<(a1.Ids.length:Int)))) (lss K a9) (Nt (Cs (Ch h Z (fun i9 h=> ?_) (fun i9 h=> ?_)))))
 refine Ck (Tc (Cs (Bk (Sr ?_))))
 obtain ⟨c1,h⟩:=Qa1 h
 have f:=f.mono u
 obtain ⟨l4,m6,f5,f6,hhas52⟩:=f.at c1.1 c1.2 (by decide)
 obtain rfl:=f6
 refine qu (.pointer (some l4)) (indexAddr (n:=a1.Ids.length) underlying51 sz3 a8 K c1.1 c1.2 f5) (qu (Iv (rd a1.Ids Q)) (loadM pl3 Z (IM.has0 hhas52)) (qa (Iv (rd a1.Ids Q)) (Ns (qu (a29_ a0 g i j k) (La (cs:=(l29 a0 g i j k)) 1 ag29 sz29 W Z Z) (qm (Iv (rd a1.Ids Q)) ?_)))))
 obtain ⟨⟨c4,c5⟩,j0,h⟩:=bnd h
 have R:=R.mono (A.trans u)
 have S:=S.mono (A.trans u)
 have T:=T.mono (A.trans u)
 have U:=U.mono (A.trans u)
 refine We (Ca Q5T (QlW a0 (rd a1.Ids Q) _ _ _ _ _ R S T U (c4,c5) j0) (QaS Z Z)) Z ?_
 rintro _ o8 _ c9 ⟨_,⟨rfl,rfl⟩,rfl⟩
 refine WL.a0 (qm (.tuple #[(a66_ c4),(Bv c5)]) (qu (a66_ c4) (Xt Z Z) (qu (Bv c5) (Xt Z Z) (We (Al ze66 Z) Z ?_))))
 rintro _ _ _ - ⟨rfl,o9,rfl,rfl⟩
 refine We (Sg (v:=(a66_ c4)) (vl:=(l66 c4)) (arr':=(l66 c4)) Z sz66 Z Z (onb Z) Z Z Z) Z ?_
 rintro _ _ _ - ⟨rfl,rfl⟩
 refine qa (Bv c5) (Ns (qm (Bv c5) (qu (Bv (!c5)) (PO.not Z) (Nt (Ch h Z (fun j1 h=> ?_) (fun j1 h=> ?_))))))
 refine Sr (qa (Bv false) (Nt (Cr (Br (Tr (WQ.leaveR (inr ()) (oi h).symm (fun b4=> ?_)))))))
 subst b4
 have h:=(QdZ e9)
 refine Br (Tr ?_)
 have h:=KK.early h i7
 exact Dr (Dr (Dr (Rf h [] Z (Rs Z Z) ((A.trans u).trans c9) ⟨Z,Z⟩)))
 exact Ck (Bn (Tc (Cg (qu (Iv (i64.wrap (Q+1))) (add K Z) (qm (Iv (i64.wrap (Q+1))) (Wz (Dr (WQ.again (i64.wrap (Q+1)) (oi h).symm ⟨(u.trans c9),Z,W,c0,a8,a9,Z⟩))))))))
 refine WC.exit (WQ.thenE (WQ.leaveE (inl ()) (oi h).symm (fun b4=> ?_)))
 subst b4
 have h:=QeV e9
 exact WQ.blockH (WQ.thenFE h ⟨u,Z,W,c0⟩)
 rintro _ p0 l5 p1 rfl ⟨f7,rfl,I,p⟩
 have f8:=A.trans f7
 have h:=(Sum.elim_inl _ _ _).symm.trans h
 refine Cs (Bk ?_)
 obtain ⟨f9,j2,h⟩:=bnd h
 refine Jf (fun(f9:Bool) w M' H'=>l5.le M'∧[(b, .cells (l53 a1 a c d e).toArray 53 (0,0))]::[(z, .cells (l29 a0 g i j k).toArray 29 (0,0))]::F=H'∧w 2=(pt z 0)∧w 3=(pt b 0)∧w 47=(Bv f9)) f9 ?_ ?_
 have h:=j2
 refine Cg (qu (pt b 0) (Fa QiN p Z) (qu a (Lb 0 pl51 Z Z Z) ?_))
 have f:=f.mono f8
 refine qu (Iv (a1.Ids.length:Int)) (lenS underlying51 Z f.len) (qu (Bv (decide ((a1.Ids.length:Int)=(0:Int)))) (eql Z Z) (qm (Bv (decide ((a1.Ids.length:Int)=(0:Int)))) ?_))
 rcases Bi h with⟨G,h⟩ |⟨G,h⟩
 iterate 4 refine Of 52 Z Z G Z ?_
 refine qu (Bv true) (Pt Z G Z) (qm (Bv true) ?_)
 iterate 3 refine Of 58 Z Z Z Z ?_
 refine qu (Bv true) (Pt Z Z Z) (qm (Bv true) ?_)
 iterate 3 refine Of 63 Z Z Z Z ?_
 refine qu (Bv true) (Pt Z Z Z) (qa (Bv true) (Wz ?_))
 obtain rfl:=oi h
 exact Tj ⟨lr,Z,I,p,Z⟩
 refine qo 52 G (pt b 1) (Fa QlA p Z) (qo 52 G c (Lb 0 pl51 Z Z Z) (On 52 Z Z G ?_))
 have s:=s.mono f8
 refine qu (Iv (a1.Isr.length:Int)) (lenS underlying51 Z s.len) (qo 52 G (Bv (decide ((a1.Isr.length:Int)=(0:Int)))) (eql Z Z) (qu (Bv (decide ((a1.Isr.length:Int)=(0:Int)))) (Pf Z G Z) (qm (Bv (decide ((a1.Isr.length:Int)=(0:Int)))) ?_)))
 rcases Bi h with⟨L,h⟩ |⟨L,h⟩
 iterate 3 refine Of 58 Z Z L Z ?_
 refine qu (Bv true) (Pt Z L Z) (qm (Bv true) ?_)
 iterate 3 refine Of 63 Z Z Z Z ?_
 refine qu (Bv true) (Pt Z Z Z) (qa (Bv true) (Wz ?_))
 obtain rfl:=oi h
 exact Tj ⟨lr,Z,I,p,Z⟩
 refine qo 58 L (pt b 3) (Fa Ql4 p Z) (qo 58 L (Iv a1.Epoch) (Lb 0 pl3 Z Z Z) (qo 58 L (Bv (decide (a1.Epoch<0))) (lss Z Z) (qu (Bv (decide (a1.Epoch<0))) (Pf Z L Z) (qm (Bv (decide (a1.Epoch<0))) ?_))))
 rcases Bi h with⟨N,h⟩ |⟨N,h⟩
 iterate 3 refine Of 63 Z Z N Z ?_
 refine qu (Bv true) (Pt Z N Z) (qa (Bv true) (Wz ?_))
 obtain rfl:=oi h
 exact Tj ⟨lr,Z,I,p,Z⟩
 refine qo 63 N (pt b 3) (Fa Ql4 p Z) (qo 63 N (Iv a1.Epoch) (Lb 0 pl3 Z Z Z) (qo 63 N (Bv (decide ((1073741824:Int)<a1.Epoch))) (gtr Z Z) (qu (Bv (decide ((1073741824:Int)<a1.Epoch))) (Pf Z N Z) (qa (Bv (decide ((1073741824:Int)<a1.Epoch))) (Wz ?_)))))
 obtain rfl:=oi h
 exact Tj ⟨lr,Z,I,p,Z⟩
 rintro p2 l6 p3 ⟨g0,rfl,X,m,d0⟩
 have c6:=f8.trans g0
 refine Ch h d0 (fun j3 h=> ?_) (fun j3 h=> ?_)
 exact Sr (qa (Bv false) (Nt (Cr (Br (Tr (Dr (Dr (Rf h [] Z (Rs Z Z) c6 ⟨Z,Z⟩))))))))
 obtain ⟨g1,j4,h⟩:=bnd h
 refine Jf (fun(g1:Bool) w M' H'=>l6.le M'∧[(b, .cells (l53 a1 a c d e).toArray 53 (0,0))]::[(z, .cells (l29 a0 g i j k).toArray 29 (0,0))]::F=H'∧w 2=(pt z 0)∧w 3=(pt b 0)∧w 68=(Bv g1)) g1 ?_ ?_
 have h:=j4
 refine Cg (qu (pt b 1) (Fa QlA m Z) (qu c (Lb 0 pl51 Z Z Z) (qu (pt b 0) (Fa QiN m Z) (qu a (Lb 0 pl51 Z Z Z) ?_))))
 obtain ⟨g2,j5,h⟩:=bnd h
 have s:=s.mono c6
 have f:=f.mono c6
 refine We (Ca Q1E (QgN a1.Isr a1.Ids _ _ _ s f g2 j5) (QaS Z Z)) Z ?_
 rintro _ p4 _ D ⟨_,⟨rfl,rfl⟩,rfl⟩
 refine WL.a0 (qu (Bv (!g2)) (PO.not Z) (qm (Bv (!g2)) ?_))
 rcases Bi h with⟨x,h⟩ |⟨x,h⟩
 iterate 6 refine Of 75 Z Z x Z ?_
 refine qu (Bv true) (Pt Z x Z) (qm (Bv true) ?_)
 iterate 6 refine Of 83 Z Z Z Z ?_
 refine qu (Bv true) (Pt Z Z Z) (qa (Bv true) (Wz ?_))
 obtain rfl:=oi h
 exact Tj ⟨D,Z,X,m,Z⟩
 refine qo 75 x (pt b 4) (Fa Qn7 m Z) (qo 75 x d (Lb 0 pl51 Z Z Z) (qo 75 x (pt b 0) (Fa QiN m Z) (qo 75 x a (Lb 0 pl51 Z Z Z) (On 75 Z Z x ?_))))
 obtain ⟨d9,j6,h⟩:=bnd h
 have t:=t.mono (c6.trans D)
 have f:=f.mono D
 refine We (Ca Q1E (QgN a1.Add a1.Ids _ _ _ t f d9 j6) (QaS Z Z)) Z ?_
 rintro _ p5 _ Y ⟨_,⟨rfl,rfl⟩,rfl⟩
 refine WL.a0 (qo 75 x (Bv (!d9)) (PO.not Z) (qu (Bv (!d9)) (Pf Z x Z) (qm (Bv (!d9)) ?_)))
 rcases Bi h with⟨y,h⟩ |⟨y,h⟩
 iterate 6 refine Of 83 Z Z y Z ?_
 refine qu (Bv true) (Pt Z y Z) (qa (Bv true) (Wz ?_))
 obtain rfl:=oi h
 exact Tj ⟨(D.trans Y),Z,X,m,Z⟩
 refine qo 83 y (pt b 5) (Fa QmT m Z) (qo 83 y e (Lb 0 pl51 Z Z Z) (qo 83 y (pt b 0) (Fa QiN m Z) (qo 83 y a (Lb 0 pl51 Z Z Z) (On 83 Z Z y ?_))))
 obtain ⟨e0,j7,h⟩:=bnd h
 have E:=E.mono ((c6.trans D).trans Y)
 have f:=f.mono Y
 refine We (Ca Q1E (QgN a1.Drop a1.Ids _ _ _ E f e0 j7) (QaS Z Z)) Z ?_
 rintro _ p6 _ g3 ⟨_,⟨rfl,rfl⟩,rfl⟩
 refine WL.a0 (qo 83 y (Bv (!e0)) (PO.not Z) (qu (Bv (!e0)) (Pf Z y Z) (qa (Bv (!e0)) (Wz ?_))))
 obtain rfl:=oi h
 exact Tj ⟨((D.trans Y).trans g3),Z,X,m,Z⟩
 rintro p7 j8 p8 ⟨g4,rfl,e1,q,d1⟩
 have e2:=c6.trans g4
 refine Ch h d1 (fun j9 h=> ?_) (fun j9 h=> ?_)
 exact Sr (qa (Bv false) (Nt (Cr (Br (Tr (Dr (Dr (Rf h [] Z (Rs Z Z) e2 ⟨Z,Z⟩))))))))
 obtain ⟨g5,k0,h⟩:=bnd h
 refine Jf (fun(g5:Bool) w M' H'=>j8.le M'∧[(b, .cells (l53 a1 a c d e).toArray 53 (0,0))]::[(z, .cells (l29 a0 g i j k).toArray 29 (0,0))]::F=H'∧w 3=(pt b 0)∧w 91=(Bv g5)) g5 ?_ ?_
 have h:=k0
 refine Cg (qu (pt b 2) (Fa QkK q Z) (qu (Iv a1.Leader) (Lb 0 pl3 Z Z Z) (qu (Bv (decide (a1.Leader≠0))) (neq Z Z) (qm (Bv (decide (a1.Leader≠0))) ?_))))
 rcases Bi h with⟨l,h⟩ |⟨l,h⟩
 refine qo 95 l (pt b 2) (Fa QkK q Z) (qo 95 l (Iv a1.Leader) (Lb 0 pl3 Z Z Z) (On 95 Z Z l (We (buildSliceL (cl:=[(Iv a1.Leader)]) underlying51 iz3 Z (Pc (Iv a1.Leader) Z Z Pz) Z) Z ?_)))
 rintro _ _ _ - ⟨rfl,k1,rfl,rfl⟩
 have k2:OwnS (Kd.int .i64) j8 (.slice (some ⟨k1,0,none⟩) 1 1) [a1.Leader] [(k1, .cells #[(Iv a1.Leader)] 3 (0,0))]:=OwnS.rows (css:=[[(Iv a1.Leader)]]) (Rows.cons Z Rows.nil) Z Z
 refine qo 95 l (pt b 1) (Fa QlA q Z) (qo 95 l c (Lb 1 pl51 Z Z Z) (On 95 Z Z l ?_))
 obtain ⟨g6,k3,h⟩:=bnd h
 have s:=s.mono e2
 refine We (Cb Q1E (Tri.lend k2.excl fun l7 l8 d2=>(QgN [a1.Leader] a1.Isr _ _ _ (k2.rs d2) (s.mono (IM.le_add _ _)) g6 k3)) (QaS Z Z)) Z ?_
 rintro _ _ _ b5 ⟨_,⟨l9,m0,k9,rfl,rfl,⟨rfl,rfl⟩⟩,rfl⟩
 have e3:=e2.trans b5
 refine WL.a1 (qo 95 l (Bv (!g6)) (PO.not Z) (On 95 Z Z l (qm (Bv (!g6)) ?_)))
 rcases Bi h with⟨r,h⟩ |⟨r,h⟩
 iterate 5 refine Of 103 Z Z r Z ?_
 refine qo 95 l (Bv true) (Pt Z r Z) (qu (Bv true) (Pt Z l Z) (qa (Bv true) (Wz (Dr ?_))))
 obtain rfl:=oi h
 exact Tj ⟨b5,Z,q,Z⟩
 refine qo 103 r (a29_ a0 g i j k) (La (cs:=(l29 a0 g i j k)) 2 ag29 sz29 e1 Z Z) (qo 103 r (pt b 2) (Fa QkK q Z) (qo 103 r (Iv a1.Leader) (Lb 1 pl3 Z Z Z) (On 103 Z Z r ?_)))
 obtain ⟨b0,g7,h⟩:=bnd h
 have R:=R.mono e3
 have S:=S.mono e3
 have T:=T.mono e3
 have U:=U.mono e3
 refine We (Ca Q7S (QtM a0 a1.Leader _ _ _ _ _ R S T U b0 g7) (QaS Z Z)) Z ?_
 rintro _ m7 _ e4 ⟨_,⟨rfl,rfl⟩,rfl⟩
 refine WL.a0 (qo 103 r (Bv (!b0)) (PO.not Z) (qo 95 l (Bv (!b0)) (Pf Z r Z) (qu (Bv (!b0)) (Pt Z l Z) (qa (Bv (!b0)) (Wz (Dr ?_))))))
 obtain rfl:=oi h
 exact Tj ⟨(b5.trans e4),Z,q,Z⟩
 iterate 8 refine Of 95 Z Z l Z ?_
 refine WL.offU 103 Z Z Z (WL.offU 103 Z Z Z (WL.offU 103 Z Z Z (WL.offU 103 Z Z Z (WL.offU 103 Z Z Z (Of 95 Z Z l Z (qu (Bv false) (Pf Z l Z) (qa (Bv false) (Wz ?_))))))))
 obtain rfl:=oi h
 exact Tj ⟨lr,Z,q,Z⟩
 rintro p9 k4 q0 ⟨g8,rfl,c2,d3⟩
 have d4:=e2.trans g8
 refine Ch h d3 (fun g9 h=> ?_) (fun g9 h=> ?_)
 exact Sr (qa (Bv false) (Nt (Cr (Br (Tr (Dr (Dr (Rf h [] Z (Rs Z Z) d4 ⟨Z,Z⟩))))))))
 refine Ck (Bn (Tc ?_))
 obtain ⟨k5,h0,h⟩:=bnd h
 refine WC.joinE (fun(_:Unit) w M' H'=>k4.le M'∧[(b, .cells (l53 a1 a c d e).toArray 53 (0,0))]::[(z, .cells (l29 a0 g i j k).toArray 29 (0,0))]::F=H') k5 ?_ ?_
 have h1:=h
 have h:=h0
 refine Sr (qu (pt b 4) (Fa Qn7 c2 Z) (qu d (Lb 0 pl51 Z Z Z) ?_))
 have t:=t.mono d4
 refine qu (Iv (a1.Add.length:Int)) (lenS underlying51 Z t.len) (qm (Iv 0) (Nt (Bk ?_)))
 obtain ⟨m8,h2,d5⟩:=bnd h
 clear h
 refine WC.loop h2 (fun(o:Int) w M' H'=>k4.le M'∧[(b, .cells (l53 a1 a c d e).toArray 53 (0,0))]::[(z, .cells (l29 a0 g i j k).toArray 29 (0,0))]::F=H'∧w 3=(pt b 0)∧w 112=d∧w 113=(Iv (a1.Add.length:Int))∧w 114=(Iv o)) ?_ ?_
 exact⟨lr,Z,c2,Z,Z,Z⟩
 rintro o m9 n0 k6 n1 h ⟨C,rfl,b1,O,P,B⟩
 unfold Qh8 at h
 refine Sr (qu (Bv (decide (o<(a1.Add.length:Int)))) (lss B P) (Nt (Cs (Ch h Z (fun h3 h=> ?_) (fun h3 h=> ?_)))))
 refine Ck (Tc (Cs (Bk (Sr ?_))))
 obtain ⟨a2,h⟩:=Qa1 h
 have t:=t.mono C
 obtain ⟨k7,m1,e5,e6,hhas119⟩:=t.at a2.1 a2.2 (by decide)
 obtain rfl:=e6
 refine qu (.pointer (some k7)) (indexAddr (n:=a1.Add.length) underlying51 sz3 O B a2.1 a2.2 e5) (qu (Iv (rd a1.Add o)) (loadM pl3 Z (IM.has0 hhas119)) (qa (Iv (rd a1.Add o)) (Ns (qm (Iv (rd a1.Add o)) (We (buildSliceL (cl:=[(Iv (rd a1.Add o))]) underlying51 iz3 Z (Pc (Iv (rd a1.Add o)) Z Z Pz) Z) Z ?_)))))
 rintro _ _ _ - ⟨rfl,f0,rfl,rfl⟩
 have f1:OwnS (Kd.int .i64) k6 (.slice (some ⟨f0,0,none⟩) 1 1) [(rd a1.Add o)] [(f0, .cells #[(Iv (rd a1.Add o))] 3 (0,0))]:=OwnS.rows (css:=[[(Iv (rd a1.Add o))]]) (Rows.cons Z Rows.nil) Z Z
 refine qu (pt b 5) (Fa QmT b1 Z) (qu e (Lb 1 pl51 Z Z Z) ?_)
 obtain ⟨k8,h4,h⟩:=bnd h
 have E:=E.mono (d4.trans C)
 refine We (Cb Q1E (Tri.lend f1.excl fun l7 l8 d2=>(QgN [(rd a1.Add o)] a1.Drop _ _ _ (f1.rs d2) (E.mono (IM.le_add _ _)) k8 h4)) (QaS Z Z)) Z ?_
 rintro _ _ _ c3 ⟨_,⟨m2,m3,l0,rfl,rfl,⟨rfl,rfl⟩⟩,rfl⟩
 refine WL.a1 (Nt (Ch h Z (fun h5 h=> ?_) (fun h5 h=> ?_)))
 refine Sr (qa (Bv false) (Nt (Cr (Br (Tr (WQ.leaveR (inr ()) (oi h).symm (fun a3=> ?_)))))))
 subst a3
 have h:=(QdZ d5)
 refine Br (Tr ?_)
 have h:=KK.early h h1
 exact Dr (Dr (Dr (Rf h [] Z (Rs Z Z) ((d4.trans C).trans c3) ⟨Z,Z⟩)))
 exact Ck (Bn (Tc (Cg (qu (Iv (i64.wrap (o+1))) (add B Z) (qm (Iv (i64.wrap (o+1))) (Wz (Dr (WQ.again (i64.wrap (o+1)) (oi h).symm ⟨(C.trans c3),Z,b1,O,P,Z⟩))))))))
 refine WC.exit (WQ.thenE (WQ.leaveE (inl ()) (oi h).symm (fun a3=> ?_)))
 subst a3
 have h:=QeV d5
 exact WQ.blockH (WQ.thenFE h ⟨C,Z⟩)
 rintro _ n2 n3 n4 rfl ⟨e7,rfl⟩
 have h:=(Sum.elim_inl _ _ _).symm.trans h
 exact Sr (qa (Bv true) (Nt (Cr (Dr (Dr (Rf h [] Z (Rs Z Z) (d4.trans e7) ⟨Z,Z⟩))))))
noncomputable def QhG (a0:ByteArray) (a1:Int) (a2:GErr):Option GErr:=
 (if a2.isNil=true then(some GErr.nil)else(some (GErr.fault a0 a1 a2)))
def QsB (a0:ByteArray) (a1:Int) (a2:GErr):GErr→Value→IM→HL→Prop:=
 fun(a:GErr) (v:Value) (c:IM) (b:HL)=>(GV a)=v∧b=[]
theorem QnY (a0:ByteArray) (a1:Int) (a2:GErr) (M:IM) (a:GErr) (h:QhG a0 a1 a2=some a):
 Tri prog 34 #[(Sv a0),(Iv a1),(GV a2)] M [] (QsB a0 a1 a2 a):=by
 unfold QhG at h
 refine Te func34 Z Z ?_
 intro F d c
 refine Sr (qa (GV GErr.nil) (Nt (Cs (Sr (qM (GV a2) (c 2) (qu (Bv a2.isNil) (errNil underlying31 Z) (Nt (Ch h Z (fun b h=> ?_) (fun b h=> ?_)))))))))
 exact Sr (qa (GV GErr.nil) (Nt (Cr (Tr (Rf h [] Z (Rs Z Z) lr ⟨Z,Z⟩)))))
 exact Ck (Tc (Sr (qM (Sv a0) (c 0) (qM (Iv a1) (c 1) (qM (GV a2) (c 2) (qu (.agg #[(Sv a0),(Iv a1),(GV a2)]) (Bl (cl:=[(Sv a0),(Iv a1),(GV a2)]) Q3A Q5Y (Pc (Sv a0) Z Z (Pc (Iv a1) Z Z (Parts.cons ((congrArg Value.cells (show ev _ _=(GV a2) from Z)).trans (GErr.val_cells _ _ _ _)) Pz))) Z) (qu (GV (GErr.fault a0 a1 a2)) (makeInterface Q5N Z) (qa (GV (GErr.fault a0 a1 a2)) (Nt (Cr (Rf h [] Z (Rs Z Z) lr ⟨Z,Z⟩)))))))))))
noncomputable def QgO (a0:QaA) (b:Int) (f:Int):Option (Int⊕(Unit⊕GErr)):=
 match f with
 |a=>
 (if(decide (a<(((rd a0.Topics b).Parts).length:Int)))=true then(grd (0≤a∧a<((rd a0.Topics b).Parts).length) ((Qk0 a0 (rd ((rd a0.Topics b).Parts) a)).bind fun c=>(if(!c)=true then((QdQ (⟨#[112,97,114,116]⟩:ByteArray) a (10:Int)).bind fun d=>((QhG (⟨#[116,111,112,105,99]⟩:ByteArray) b d).bind fun e=>(some (inr (inr e)))))else(some (inl (i64.wrap (a+(1:Int))))))))else(some (inr (inl ()))))
noncomputable def Qe0 (a0:QaA) (k:((List (ByteArray×Int))×Int×Int)):Option (((List (ByteArray×Int))×Int×Int)⊕(Unit⊕GErr)):=
 match k with
 |(b,c,a)=>
 (if(decide (a<(a0.Topics.length:Int)))=true then(((grd (0≤a∧a<a0.Topics.length) (((if(decide (((rd a0.Topics a).Id)≤c))=true then(some true)else(if(decide (a0.Last<((rd a0.Topics a).Id)))=true then(some true)else((Qe9 ((rd a0.Topics a).Name)).bind fun d=>(if(!d)=true then(some true)else(if(decide ((1:Int)<(Qb6 (QeK b ((rd a0.Topics a).Name) (i64.wrap ((Qb6 b ((rd a0.Topics a).Name))+(1:Int)))) ((rd a0.Topics a).Name))))=true then(some true)else(some (decide ((256:Int)<(((rd a0.Topics a).Parts).length:Int))))))))):Option Bool).bind fun e=>(if e=true then((QdQ (⟨#[116,111,112,105,99]⟩:ByteArray) a (2:Int)).bind fun f=>(((some (inr (inr f)))).bind fun r=>some (inr r)))else((iter (QgO a0 a) (0:Int)).bind (Sum.elim (fun _=>(some (inl (QeK b ((rd a0.Topics a).Name) (i64.wrap ((Qb6 b ((rd a0.Topics a).Name))+(1:Int))),(rd a0.Topics a).Id)))) (fun(g:GErr)=>(((some (inr (inr g)))).bind fun r=>some (inr r)))))))):Option (((List (ByteArray×Int))×Int)⊕(((List (ByteArray×Int))×Int×Int)⊕(Unit⊕GErr)))).bind (Sum.elim (fun(i,j)=>(some (inl (i,j,i64.wrap (a+(1:Int)))))) some))else(some (inr (inl ()))))
noncomputable def QiW (a0:QaA):Option GErr:=
 (((if(decide ((256:Int)<(a0.Topics.length:Int)))=true then(some true)else(if(decide (a0.Last<(0:Int)))=true then(some true)else(some (decide ((1073741824:Int)<a0.Last))))):Option Bool).bind fun a=>(if a=true then((QdQ (⟨#[116,111,112,105,99]⟩:ByteArray) (a0.Topics.length:Int) (6:Int)).bind fun b=>(some b))else((((iter (Qe0 a0) (([]:List (ByteArray×Int)),(0:Int),(0:Int))).bind (Sum.elim (fun _=>(some (inl ()))) (fun(c:GErr)=>(((some c)).bind fun r=>some (inr r))))):Option (Unit⊕GErr)).bind (Sum.elim (fun _=>(some GErr.nil)) some))))
def QqX (a0:QaA) (a b c d:Value):GErr→Value→IM→HL→Prop:=
 fun(e:GErr) (v:Value) (g:IM) (f:HL)=>(GV e)=v∧f=[]
theorem QtO (a0:QaA) (M:IM) (f b g i:Value) (b6:RS QaG M f a0.Brokers) (j:RS QaI M b a0.Topics) (b7:RS QaH M g a0.Configs) (b8:RS QaL M i a0.Done) (g2:GErr) (h:QiW a0=some g2):
 Tri prog 52 #[(a29_ a0 f b g i)] M [] (QqX a0 f b g i g2):=by
 unfold QiW at h
 refine Te func52 Z Z ?_
 intro F ρ j8
 refine Sr (We (box (cs:=(l29 a0 f b g i).toArray) (congrArg Value.cells (asE (a29_ a0 f b g i) (j8 0)))) Z ?_)
 rintro _ _ _ - ⟨rfl,w,rfl,rfl⟩
 refine qa (GV GErr.nil) (Nt (Cs ?_))
 obtain ⟨e5,g3,h⟩:=bnd h
 refine Jf (fun(e5:Bool) t M' H'=>M.le M'∧[(w, .cells (l29 a0 f b g i).toArray 29 (0,0))]::F=H'∧t 1=(pt w 0)∧t 22=(Bv e5)) e5 ?_ ?_
 have h:=g3
 refine Cg (qu (pt w 1) (Fa QcB Z Z) (qu b (Lb 0 pl25 Z Z Z) (qu (Iv (a0.Topics.length:Int)) (lenS underlying25 Z j.len) (qu (Bv (decide ((256:Int)<(a0.Topics.length:Int)))) (gtr Z Z) (qm (Bv (decide ((256:Int)<(a0.Topics.length:Int)))) ?_)))))
 rcases Bi h with⟨I,h⟩ |⟨I,h⟩
 iterate 3 refine Of 13 Z Z I Z ?_
 refine qu (Bv true) (Pt Z I Z) (qm (Bv true) ?_)
 iterate 3 refine Of 18 Z Z Z Z ?_
 refine qu (Bv true) (Pt Z Z Z) (Wz ?_)
 obtain rfl:=oi h
 exact Tj ⟨lr,Z,Z,Z⟩
 refine qo 13 I (pt w 4) (Fa QmS Z Z) (qo 13 I (Iv a0.Last) (Lb 0 pl3 Z Z Z) (qo 13 I (Bv (decide (a0.Last<0))) (lss Z Z) (qu (Bv (decide (a0.Last<0))) (Pf Z I Z) (qm (Bv (decide (a0.Last<0))) ?_))))
 rcases Bi h with⟨J,h⟩ |⟨J,h⟩
 iterate 3 refine Of 18 Z Z J Z ?_
 refine qu (Bv true) (Pt Z J Z) (Wz ?_)
 obtain rfl:=oi h
 exact Tj ⟨lr,Z,Z,Z⟩
 refine qo 18 J (pt w 4) (Fa QmS Z Z) (qo 18 J (Iv a0.Last) (Lb 0 pl3 Z Z Z) (qo 18 J (Bv (decide ((1073741824:Int)<a0.Last))) (gtr Z Z) (qu (Bv (decide ((1073741824:Int)<a0.Last))) (Pf Z J Z) (Wz ?_))))
 obtain rfl:=oi h
 exact Tj ⟨lr,Z,Z,Z⟩
 rintro j9 g4 k0 ⟨K,rfl,Q,c0⟩
 refine Ch h c0 (fun g5 h=> ?_) (fun g5 h=> ?_)
 refine Sr (qu (pt w 1) (Fa QcB Q Z) (qu b (Lb 0 pl25 Z Z Z) ?_))
 have j:=j.mono K
 refine qu (Iv (a0.Topics.length:Int)) (lenS underlying25 Z j.len) ?_
 obtain ⟨g6,g7,h⟩:=bnd h
 refine We (Ca co54 (QdH ⟨#[116,111,112,105,99]⟩ (a0.Topics.length:Int) (6:Int) _ g6 g7) (QcV Z Z Z)) Z ?_
 rintro _ k1 _ e6 ⟨_,⟨rfl,rfl⟩,rfl⟩
 exact WL.a0 (qa (GV g6) (Nt (Cr (Tr (Dr (Rf h [] Z (Rs Z Z) (K.trans e6) ⟨Z,Z⟩))))))
 refine Ck (Tc (Sr (We (makeMap msV) Z ?_)))
 rintro g8 _ _ - ⟨rfl,i8,rfl,i9⟩
 refine qa g8 (Ns (qa (Iv 0) (Nt ?_)))
 obtain ⟨j0,g9,h⟩:=bnd h
 refine WC.joinE (fun(_:Unit) t M' H'=>g4.le M'∧[(w, .cells (l29 a0 f b g i).toArray 29 (0,0))]::F=H') j0 ?_ ?_
 have e1:=h
 have h:=g9
 refine Sr (qu (pt w 1) (Fa QcB Q Z) (qu b (Lb 1 pl25 Z Z Z) ?_))
 have j:=j.mono K
 refine qu (Iv (a0.Topics.length:Int)) (lenS underlying25 Z j.len) (qm (Iv 0) (Nt (Bk (WC.f1 ?_))))
 obtain ⟨k2,h0,c1⟩:=bnd h
 clear h
 refine WC.loop h0 (fun(p_:((List (ByteArray×Int))×Int×Int)) t M' H'=>match p_ with |(G,c2,a)=>∃ C c3,g4.le M'∧[(w, .cells (l29 a0 f b g i).toArray 29 (0,0))]::c3::F=H'∧t 1=(pt w 0)∧t 3=C∧t 4=(Iv c2)∧t 29=b∧t 30=(Iv (a0.Topics.length:Int))∧t 31=(Iv a)∧OwnMp msV M' C G c3) ?_ ?_
 exact⟨g8,i8,lr,Z,Q,Z,Z,Z,Z,Z,i9⟩
 rintro ⟨G,c2,a⟩ k3 k4 h1 k5 h ⟨C,c3,R,rfl,x,o,d2,l,m,e,e2⟩
 unfold Qe0 at h
 refine Sr (qu (Bv (decide (a<(a0.Topics.length:Int)))) (lss e m) (Nt (Cs (Ch h Z (fun h2 h=> ?_) (fun h2 h=> ?_)))))
 refine Ck (Tc ?_)
 obtain ⟨j2,h3,h⟩:=bnd h
 refine WC.joinE (fun(p_:((List (ByteArray×Int))×Int)) t M' H'=>match p_ with |(e7,e8)=>∃ a1 a2,h1.le M'∧[(w, .cells (l29 a0 f b g i).toArray 29 (0,0))]::a2::F=H'∧t 1=(pt w 0)∧t 3=a1∧t 4=(Iv e8)∧t 29=b∧t 30=(Iv (a0.Topics.length:Int))∧t 31=(Iv a)∧OwnMp msV M' a1 e7 a2) j2 ?_ ?_
 have e3:=h
 have h:=h3
 refine Bk (Sr (qM (Iv a) e ?_))
 obtain ⟨a3,h⟩:=Qa1 h
 have j:=j.mono R
 obtain ⟨j3,j6,e9,f0,hhas50⟩:=j.at a3.1 a3.2 (by decide)
 obtain ⟨c,rfl,d⟩:=QaW f0
 refine qu (.pointer (some j3)) (indexAddr (n:=a0.Topics.length) underlying25 sz50 l e a3.1 a3.2 e9) (qu (a50_ (rd a0.Topics a) c) (loadMA (cs:=(l50 (rd a0.Topics a) c)) ag50 sz50 Z hhas50) (We (Al ze50 Z) Z ?_))
 rintro _ _ _ - ⟨rfl,L,rfl,rfl⟩
 refine qa (Iv a) (We (Sg (v:=(a50_ (rd a0.Topics a) c)) (vl:=(l50 (rd a0.Topics a) c)) (arr':=(l50 (rd a0.Topics a) c)) Z sz50 Z Z (QaX (Oc Z (Oc Z (Oc (RS.one d) Oz)))) Z Z Z) Z ?_)
 rintro _ _ _ - ⟨rfl,rfl⟩
 refine Ns (qM C o (qu (pt L 1) (Fa Ql3 Z Z) (qu (Sv ((rd a0.Topics a).Name)) (Lb 0 pl9 Z Z Z) (qu (Iv (Qb6 G ((rd a0.Topics a).Name))) (lookup (val:=msV) (k:=((rd a0.Topics a).Name)) 2 underlying139 (MKey.str underlying9) ze3 Z Z Z e2) (qu (Iv (i64.wrap ((Qb6 G ((rd a0.Topics a).Name))+1))) (add Z Z) (Wb (We (mapUpdate (val:=msV) (k:=((rd a0.Topics a).Name)) underlying139 (MKey.str underlying9) Z Z Z e2) Z ?_)))))))
 rintro _ _ _ - ⟨rfl,f2,rfl,b5⟩
 refine Nt (Cs ?_)
 obtain ⟨f3,h4,h⟩:=bnd h
 refine Jf (fun(f3:Bool) t M' H'=>h1.le M'∧[(L, .cells (l50 (rd a0.Topics a) c).toArray 50 (0,0))]::[(w, .cells (l29 a0 f b g i).toArray 29 (0,0))]::f2::F=H'∧t 1=(pt w 0)∧t 3=C∧t 5=(Iv a)∧t 6=(pt L 0)∧t 29=b∧t 30=(Iv (a0.Topics.length:Int))∧t 31=(Iv a)∧t 70=(Bv f3)) f3 ?_ ?_
 have h:=h4
 refine Cg (qu (pt L 0) (Fa QkJ Z Z) (qu (Iv ((rd a0.Topics a).Id)) (Lb 1 pl3 Z Z Z) (qM (Iv c2) d2 (qu (Bv (decide (((rd a0.Topics a).Id)≤c2))) (leq Z Z) (qm (Bv (decide (((rd a0.Topics a).Id)≤c2))) ?_)))))
 rcases Bi h with⟨y,h⟩ |⟨y,h⟩
 iterate 5 refine Of 45 Z Z y Z ?_
 refine qu (Bv true) (Pt Z y Z) (qm (Bv true) ?_)
 iterate 4 refine Of 52 Z Z Z Z ?_
 refine qu (Bv true) (Pt Z Z Z) (qm (Bv true) ?_)
 iterate 5 refine Of 58 Z Z Z Z ?_
 refine qu (Bv true) (Pt Z Z Z) (qm (Bv true) ?_)
 iterate 4 refine Of 65 Z Z Z Z ?_
 refine qu (Bv true) (Pt Z Z Z) (Wz (Qb (Qb ?_)))
 obtain rfl:=oi h
 exact Tj ⟨lr,Z,x,o,Z,Z,l,m,e,Z⟩
 refine qo 45 y (pt L 0) (Fa QkJ Z Z) (qo 45 y (Iv ((rd a0.Topics a).Id)) (Lb 1 pl3 Z Z Z) (qo 45 y (pt w 4) (Fa QmS x Z) (qo 45 y (Iv a0.Last) (Lb 2 pl3 Z Z Z) (qo 45 y (Bv (decide (a0.Last<((rd a0.Topics a).Id)))) (gtr Z Z) (qu (Bv (decide (a0.Last<((rd a0.Topics a).Id)))) (Pf Z y Z) (qm (Bv (decide (a0.Last<((rd a0.Topics a).Id)))) ?_))))))
 rcases Bi h with⟨D,h⟩ |⟨D,h⟩
 iterate 4 refine Of 52 Z Z D Z ?_
 refine qu (Bv true) (Pt Z D Z) (qm (Bv true) ?_)
 iterate 5 refine Of 58 Z Z Z Z ?_
 refine qu (Bv true) (Pt Z Z Z) (qm (Bv true) ?_)
 iterate 4 refine Of 65 Z Z Z Z ?_
 refine qu (Bv true) (Pt Z Z Z) (Wz (Qb (Qb ?_)))
 obtain rfl:=oi h
 exact Tj ⟨lr,Z,x,o,Z,Z,l,m,e,Z⟩
 refine qo 52 D (pt L 1) (Fa Ql3 Z Z) (qo 52 D (Sv ((rd a0.Topics a).Name)) (Lb 1 pl9 Z Z Z) (On 52 Z Z D ?_))
 obtain ⟨d3,h5,h⟩:=bnd h
 refine We (Ca co81 (QiD ((rd a0.Topics a).Name) _ d3 h5) (Qb2 Z)) Z ?_
 rintro _ k6 _ N ⟨_,⟨rfl,rfl⟩,rfl⟩
 refine WL.a0 (qo 52 D (Bv (!d3)) (PO.not Z) (qu (Bv (!d3)) (Pf Z D Z) (qm (Bv (!d3)) ?_)))
 rcases Bi h with⟨z,h⟩ |⟨z,h⟩
 iterate 5 refine Of 58 Z Z z Z ?_
 refine qu (Bv true) (Pt Z z Z) (qm (Bv true) ?_)
 iterate 4 refine Of 65 Z Z Z Z ?_
 refine qu (Bv true) (Pt Z Z Z) (Wz (Qb (Qb ?_)))
 obtain rfl:=oi h
 exact Tj ⟨N,Z,x,o,Z,Z,l,m,e,Z⟩
 refine On 58 Z Z z (qM C o (qo 58 z (pt L 1) (Fa Ql3 Z Z) (qo 58 z (Sv ((rd a0.Topics a).Name)) (Lb 1 pl9 Z Z Z) (On 58 Z Z z ?_))))
 have b5:=b5.mono N
 refine qu (Iv (Qb6 (QeK G ((rd a0.Topics a).Name) (i64.wrap ((Qb6 G ((rd a0.Topics a).Name))+1))) ((rd a0.Topics a).Name))) (lookup (val:=msV) (k:=((rd a0.Topics a).Name)) 0 underlying139 (MKey.str underlying9) ze3 Z Z Z b5) (qo 58 z (Bv (decide ((1:Int)<(Qb6 (QeK G ((rd a0.Topics a).Name) (i64.wrap ((Qb6 G ((rd a0.Topics a).Name))+1))) ((rd a0.Topics a).Name))))) (gtr Z Z) (qu (Bv (decide ((1:Int)<(Qb6 (QeK G ((rd a0.Topics a).Name) (i64.wrap ((Qb6 G ((rd a0.Topics a).Name))+1))) ((rd a0.Topics a).Name))))) (Pf Z z Z) (qm (Bv (decide ((1:Int)<(Qb6 (QeK G ((rd a0.Topics a).Name) (i64.wrap ((Qb6 G ((rd a0.Topics a).Name))+1))) ((rd a0.Topics a).Name))))) ?_)))
 rcases Bi h with⟨E,h⟩ |⟨E,h⟩
 iterate 4 refine Of 65 Z Z E Z ?_
 refine qu (Bv true) (Pt Z E Z) (Wz (Qb (Qb ?_)))
 obtain rfl:=oi h
 exact Tj ⟨N,Z,x,o,Z,Z,l,m,e,Z⟩
 refine qo 65 E (pt L 2) (Fa Qd0 Z Z) (qo 65 E c (Lb 1 pl48 Z Z Z) (On 65 Z Z E ?_))
 have d:=d.mono N
 refine qu (Iv (((rd a0.Topics a).Parts).length:Int)) (lenS underlying48 Z d.len) (qo 65 E (Bv (decide ((256:Int)<(((rd a0.Topics a).Parts).length:Int)))) (gtr Z Z) (qu (Bv (decide ((256:Int)<(((rd a0.Topics a).Parts).length:Int)))) (Pf Z E Z) (Wz (Qb (Qb ?_)))))
 obtain rfl:=oi h
 exact Tj ⟨N,Z,x,o,Z,Z,l,m,e,Z⟩
 rintro k7 j4 k8 ⟨O,rfl,d4,d5,a4,a5,c4,c5,c6,c7⟩
 have h6:=(K.trans R).trans O
 refine Ch h c7 (fun h7 h=> ?_) (fun h7 h=> ?_)
 refine Sr (qM (Iv a) a4 ?_)
 obtain ⟨f4,h8,h⟩:=bnd h
 refine We (Ca co54 (QdH ⟨#[116,111,112,105,99]⟩ a (2:Int) _ f4 h8) (QcV Z Z Z)) Z ?_
 rintro _ k9 _ f5 ⟨_,⟨rfl,rfl⟩,rfl⟩
 refine WL.a0 (qa (GV f4) (Nt (Cr (Tr (Br (Tr ?_))))))
 have h:=KK.early h e3
 refine WQ.leaveR (inr f4) (oi h).symm (fun P=> ?_)
 subst P
 have h:=(QdZ c1)
 refine Br (Tr ?_)
 have h:=KK.early h e1
 exact Dr (Dr (Dr (Rf h [] Z (Rs Z Z) (h6.trans f5) ⟨Z,Z⟩)))
 refine Ck (Tc (Sr (qu (pt L 0) (Fa QkJ a5 Z) (qu (Iv ((rd a0.Topics a).Id)) (Lb 0 pl3 Z Z Z) (qa (Iv ((rd a0.Topics a).Id)) (Ns (qu (pt L 2) (Fa Qd0 a5 Z) (qu c (Lb 0 pl48 Z Z Z) ?_))))))))
 have d:=d.mono O
 refine qu (Iv (((rd a0.Topics a).Parts).length:Int)) (lenS underlying48 Z d.len) (qm (Iv 0) (Nt (Bk ?_)))
 obtain ⟨l0,h9,e4⟩:=bnd h
 clear h
 refine WC.loop h9 (fun(u:Int) t M' H'=>j4.le M'∧[(L, .cells (l50 (rd a0.Topics a) c).toArray 50 (0,0))]::[(w, .cells (l29 a0 f b g i).toArray 29 (0,0))]::f2::F=H'∧t 1=(pt w 0)∧t 3=C∧t 4=(Iv ((rd a0.Topics a).Id))∧t 5=(Iv a)∧t 29=b∧t 30=(Iv (a0.Topics.length:Int))∧t 31=(Iv a)∧t 76=c∧t 77=(Iv (((rd a0.Topics a).Parts).length:Int))∧t 78=(Iv u)) ?_ ?_
 exact⟨lr,Z,d4,d5,Z,a4,c4,c5,c6,Z,Z,Z⟩
 rintro u l1 l2 l3 l4 h ⟨B,rfl,S,a6,a7,a8,T,U,V,W,X,A⟩
 have d6:=h6.trans B
 unfold QgO at h
 refine Sr (qu (Bv (decide (u<(((rd a0.Topics a).Parts).length:Int)))) (lss A X) (Nt (Cs (Ch h Z (fun i0 h=> ?_) (fun i0 h=> ?_)))))
 refine Ck (Tc (Cs (Bk (Sr (qM (Iv u) A ?_)))))
 obtain ⟨a9,h⟩:=Qa1 h
 have d:=d.mono B
 obtain ⟨j5,j7,f6,f7,hhas81⟩:=d.at a9.1 a9.2 (by decide)
 obtain ⟨p,q,r,s,rfl,b0,b1,b2,b3⟩:=QcY f7
 refine qu (.pointer (some j5)) (indexAddr (n:=((rd a0.Topics a).Parts).length) underlying48 sz53 W A a9.1 a9.2 f6) (qu (a53_ (rd ((rd a0.Topics a).Parts) u) p q r s) (loadMA (cs:=(l53 (rd ((rd a0.Topics a).Parts) u) p q r s)) ag53 sz53 Z hhas81) (We (Al ze53 Z) Z ?_))
 rintro _ _ _ - ⟨rfl,l5,rfl,rfl⟩
 refine qa (Iv u) (We (Sg (v:=(a53_ (rd ((rd a0.Topics a).Parts) u) p q r s)) (vl:=(l53 (rd ((rd a0.Topics a).Parts) u) p q r s)) (arr':=(l53 (rd ((rd a0.Topics a).Parts) u) p q r s)) Z sz53 Z Z (QaX (Oc (RS.one b0) (Oc (RS.one b1) (Oc Z (Oc Z (Oc (RS.one b2) (Oc (RS.one b3) Oz))))))) Z Z Z) Z ?_)
 rintro _ _ _ - ⟨rfl,rfl⟩
 refine Ns (qu (a29_ a0 f b g i) (La (cs:=(l29 a0 f b g i)) 2 ag29 sz29 S Z Z) (qu (a53_ (rd ((rd a0.Topics a).Parts) u) p q r s) (La (cs:=(l53 (rd ((rd a0.Topics a).Parts) u) p q r s)) 0 ag53 sz53 Z Z Z) ?_))
 obtain ⟨i1,i2,h⟩:=bnd h
 have b6:=b6.mono d6
 have j:=j.mono (O.trans B)
 have b7:=b7.mono d6
 have b8:=b8.mono d6
 refine We (Ca co83 (QvQ a0 (rd ((rd a0.Topics a).Parts) u) _ _ _ _ _ _ _ _ _ b6 j b7 b8 b0 b1 b2 b3 i1 i2) (QaS Z Z)) Z ?_
 rintro _ l6 _ c8 ⟨_,⟨rfl,rfl⟩,rfl⟩
 refine WL.a0 (qu (Bv (!i1)) (PO.not Z) (Nt (Ch h Z (fun i3 h=> ?_) (fun i3 h=> ?_))))
 refine Sr (qM (Iv a) a8 (qm (Iv u) ?_))
 obtain ⟨i4,i5,h⟩:=bnd h
 refine We (Ca co54 (QdH ⟨#[112,97,114,116]⟩ u (10:Int) _ i4 i5) (QcV Z Z Z)) Z ?_
 rintro _ l7 _ f8 ⟨_,⟨rfl,rfl⟩,rfl⟩
 refine WL.a0 ?_
 obtain ⟨d7,i6,h⟩:=bnd h
 refine We (Ca co34 (QnY ⟨#[116,111,112,105,99]⟩ a i4 _ d7 i6) (QcV Z Z Z)) Z ?_
 rintro _ l8 _ f9 ⟨_,⟨rfl,rfl⟩,rfl⟩
 refine WL.a0 (qa (GV d7) (Nt (Cr (Br (Tr (WQ.leaveR (inr d7) (oi h).symm (fun Y=> ?_)))))))
 subst Y
 have h:=(QdZ e4)
 refine Br (Br (Tr ?_))
 have h:=KK.early h e3
 refine WQ.leaveR (inr d7) (oi h).symm (fun P=> ?_)
 subst P
 have h:=(QdZ c1)
 refine Br (Tr ?_)
 have h:=KK.early h e1
 exact Dr (Dr (Dr (Dr (Rf h [] Z (Rs Z Z) (((d6.trans c8).trans f8).trans f9) ⟨Z,Z⟩))))
 exact Ck (Bn (Tc (Cg (qu (Iv (i64.wrap (u+1))) (add A Z) (qm (Iv (i64.wrap (u+1))) (Wz (Dr (WQ.again (i64.wrap (u+1)) (oi h).symm ⟨(B.trans c8),Z,S,a6,a7,a8,T,U,V,W,X,Z⟩))))))))
 refine WC.exit (WQ.thenE (WQ.leaveE (inl ()) (oi h).symm (fun Y=> ?_)))
 subst Y
 have h:=QeV e4
 refine WQ.blockH (Bn (Dr (WQ.thenFE h ?_)))
 have b5:=b5.mono (O.trans B)
 exact⟨C,f2,(O.trans B),Z,S,a6,a7,T,U,V,b5⟩
 rintro ⟨e7,e8⟩ l9 m0 m1 rfl ⟨a1,a2,g0,rfl,d8,d9,e0,c9,d0,d1,i7⟩
 have h:=(Sum.elim_inl _ _ _).symm.trans h
 exact Cg (qu (Iv (i64.wrap (a+1))) (add d1 Z) (qm (Iv (i64.wrap (a+1))) (Wz (WQ.again (e7,e8,i64.wrap (a+1)) (oi h).symm ⟨a1,a2,(R.trans g0),Z,d8,d9,e0,c9,d0,Z,i7⟩))))
 refine WC.exit (WQ.thenE (WQ.leaveE (inl ()) (oi h).symm (fun P=> ?_)))
 subst P
 have h:=QeV c1
 exact WQ.blockH (Qa (Dr (WQ.thenFE h ⟨R,Z⟩)))
 rintro _ m2 m3 m4 rfl ⟨g1,rfl⟩
 have h:=(Sum.elim_inl _ _ _).symm.trans h
 exact Sr (qa (GV GErr.nil) (Nt (Cr (Dr (Rf h [] Z (Rs Z Z) (K.trans g1) ⟨Z,Z⟩)))))
noncomputable def Qk1 (a0:QaE):Option Int:=
 (some a0.Id)
def QoV (a0:QaE) (a:Value):Int→Value→IM→HL→Prop:=
 fun(b:Int) (v:Value) (d:IM) (c:HL)=>(.int .i64 b)=v∧c=[]
theorem QqY (a0:QaE) (M:IM) (a:Value) (d:RS QbD M a a0.Parts) (b:Int) (h:Qk1 a0=some b):
 Tri prog 135 #[(a50_ a0 a)] M [] (QoV a0 a b):=by
 unfold Qk1 at h
 refine Te func135 Z Z ?_
 intro F f e
 refine Sr (We (box (cs:=(l50 a0 a).toArray) (congrArg Value.cells (asE (a50_ a0 a) (e 0)))) Z ?_)
 rintro _ _ _ - ⟨rfl,c,rfl,rfl⟩
 exact qa (Iv 0) (Ns (qu (pt c 0) (Fa QkJ Z Z) (qu (Iv a0.Id) (Lb 0 pl3 Z Z Z) (qa (Iv a0.Id) (Nt (Cr (Dr (Rf h [] Z (Rs Z Z) lr ⟨Z,Z⟩))))))))
noncomputable def Qb9 (a0:QaE) (a1:Int):Option Int:=
 ((Qk1 a0).bind fun a=>(some (i64.wrap (a - a1))))
def Qh2 (a0:QaE) (a1:Int) (a:Value) (b:Nat):Int→Value→IM→HL→Prop:=
 fun(c:Int) (v:Value) (e:IM) (d:HL)=>(.int .i64 c)=v∧d=[[(b, .cells #[(.func (.func 135) #[] #[])] 205 (0,0))]]
theorem QeM (a0:QaE) (a1:Int) (M:IM) (a:Value) (g:Nat) (d:RS QbD M a a0.Parts) (e:Int) (h:Qb9 a0 a1=some e):
 Tri prog 140 #[(a50_ a0 a),(Iv a1),(pt g 0)] M [[(g, .cells #[(.func (.func 135) #[] #[])] 205 (0,0))]] (Qh2 a0 a1 a g e):=by
 unfold Qb9 at h
 refine Te func140 Z Z ?_
 intro F l i
 refine Sr (We (box (cs:=(l50 a0 a).toArray) (congrArg Value.cells (asE (a50_ a0 a) (i 0)))) Z ?_)
 rintro _ _ _ - ⟨rfl,j,rfl,rfl⟩
 refine qa (Iv 0) (Ns (qu (.func (.func 135) #[] #[]) (Lb 1 Q8D (i 2) Z Z) (qu (a50_ a0 a) (La (cs:=(l50 a0 a)) 0 ag50 sz50 Z Z Z) ?_)))
 obtain ⟨b,f,h⟩:=bnd h
 refine We (callV0 (first:=#[]) (cap:=#[]) Q71 Z (QqY a0 _ _ d b f) (QzS Z Z)) Z ?_
 rintro _ k _ c ⟨_,⟨rfl,rfl⟩,rfl⟩
 exact WL.a0 (qM (Iv a1) (i 1) (qu (Iv (i64.wrap (b - a1))) (PO.sub Z Z) (qa (Iv (i64.wrap (b - a1))) (Nt (Cr (Dr (Rf h [[(g, .cells #[(.func (.func 135) #[] #[])] 205 (0,0))]] Z (Rs Z Z) c ⟨Z,Z⟩)))))))
noncomputable def QaR (a0:(List QaE)) (a1:Int) (d:(Int×Int)):Option ((Int×Int)⊕Int):=
 match d with
 |(a,b)=>
 (if(decide (a<b))=true then(grd (0≤i64.wrap (shrI .u64 (u64.wrap (i64.wrap (a+b))) (1:Int))∧i64.wrap (shrI .u64 (u64.wrap (i64.wrap (a+b))) (1:Int))<a0.length) ((Qb9 (rd a0 (i64.wrap (shrI .u64 (u64.wrap (i64.wrap (a+b))) (1:Int)))) a1).bind fun c=>(if(decide (c<(0:Int)))=true then(some (inl (i64.wrap ((i64.wrap (shrI .u64 (u64.wrap (i64.wrap (a+b))) (1:Int)))+(1:Int)),b)))else(some (inl (a,i64.wrap (shrI .u64 (u64.wrap (i64.wrap (a+b))) (1:Int))))))))else(some (inr a)))
noncomputable def Qa2 (a0:(List QaE)) (a1:Int):Option (Int×Bool):=
 ((((iter (QaR a0 a1) ((0:Int),(a0.length:Int))).bind (fun(b:Int)=>(some b))):Option Int).bind fun a=>(((if(decide (a<(a0.length:Int)))=true then(grd (0≤a∧a<a0.length) ((Qb9 (rd a0 a) a1).bind fun c=>(some (a,decide (c=(0:Int))))))else(some (a,false))):Option (Int×Bool)).bind fun(d,e)=>(some (d,e))))
def Qc9 (a0:(List QaE)) (a1:Int) (e:Value) (g2k0:Nat):(Int×Bool)→Value→IM→HL→Prop:=
 fun(a:(Int×Bool)) (v:Value) (f:IM) (b:HL)=>match a with |(c,d)=>(.tuple #[(.int .i64 c),(.bool d)])=v∧b=[[(g2k0, .cells #[(.func (.func 135) #[] #[])] 205 (0,0))]]
theorem QdC (a0:(List QaE)) (a1:Int) (M:IM) (E:Value) (g2k0:Nat) (G:RS QaI M E a0) (Q:(Int×Bool)) (h:Qa2 a0 a1=some Q):
 Tri prog 139 #[E,(Iv a1),(.func (.func 140) #[] #[(pt g2k0 0)])] M [[(g2k0, .cells #[(.func (.func 135) #[] #[])] 205 (0,0))]] (Qc9 a0 a1 E g2k0 Q):=by
 unfold Qa2 at h
 refine Te func139 Z Z ?_
 intro F ρ a8
 refine Sr (qa (Iv 0) (qa (Bv false) (Ns (qM E (a8 0) (qu (Iv (a0.length:Int)) (lenS underlying25 Z G.len) (qa (Iv (a0.length:Int)) (Ns (qm (Iv (a0.length:Int)) (qa (Iv 0) (qa (Iv (a0.length:Int)) (Nt ?_)))))))))))
 obtain ⟨d,R,h⟩:=bnd h
 refine Jf (fun(d:Int) o S T=>M.le S∧[(g2k0, .cells #[(.func (.func 135) #[] #[])] 205 (0,0))]::F=T∧o 0=E∧o 1=(Iv a1)∧o 2=(.func (.func 140) #[] #[(pt g2k0 0)])∧o 8=(Iv (a0.length:Int))∧o 9=(Iv d)) d ?_ ?_
 have h:=R
 refine Bk ?_
 obtain ⟨b5,U,V⟩:=bnd h
 clear h
 refine WC.loop U (fun(p_:(Int×Int)) o S T=>match p_ with |(a,b)=>M.le S∧[(g2k0, .cells #[(.func (.func 135) #[] #[])] 205 (0,0))]::F=T∧o 0=E∧o 1=(Iv a1)∧o 2=(.func (.func 140) #[] #[(pt g2k0 0)])∧o 8=(Iv (a0.length:Int))∧o 9=(Iv a)∧o 10=(Iv b)) ?_ ?_
 exact⟨lr,Z,(a8 0),(a8 1),(a8 2),Z,Z,Z⟩
 rintro ⟨a,b⟩ b6 b7 b8 b9 h ⟨k,rfl,e,f,g,l,i,j⟩
 unfold QaR at h
 refine Cs (Sr (qM (Iv a) i (qM (Iv b) j (qu (Bv (decide (a<b))) (lss Z Z) (Nt (Ch h Z (fun W h=> ?_) (fun W h=> ?_)))))))
 refine Ck (Tc (Bk (Sr (qM (Iv a) i (qM (Iv b) j (qu (Iv (i64.wrap (a+b))) (add Z Z) (qu (Uv (u64.wrap (i64.wrap (a+b)))) (conv us3 underlying143 Z) (qu (Uv (shrI .u64 (u64.wrap (i64.wrap (a+b))) (1:Int))) (shr Z Z (by decide)) (qu (Iv (i64.wrap (shrI .u64 (u64.wrap (i64.wrap (a+b))) (1:Int)))) (conv Q56 underlying3 Z) (qa (Iv (i64.wrap (shrI .u64 (u64.wrap (i64.wrap (a+b))) (1:Int)))) (Ns ?_)))))))))))
 refine qM (.func (.func 140) #[] #[(pt g2k0 0)]) g (qM E e (qm (Iv (i64.wrap (shrI .u64 (u64.wrap (i64.wrap (a+b))) (1:Int)))) ?_))
 obtain ⟨p,h⟩:=Qa1 h
 have G:=G.mono k
 obtain ⟨b0,b3,I,J,hhas33⟩:=G.at p.1 p.2 (by decide)
 obtain ⟨q,rfl,v⟩:=QaW J
 refine qu (.pointer (some b0)) (indexAddr (n:=a0.length) underlying25 sz50 Z Z p.1 p.2 I) (qu (a50_ (rd a0 (i64.wrap (shrI .u64 (u64.wrap (i64.wrap (a+b))) (1:Int)))) q) (loadMA (cs:=(l50 (rd a0 (i64.wrap (shrI .u64 (u64.wrap (i64.wrap (a+b))) (1:Int)))) q)) ag50 sz50 Z hhas33) (qM (Iv a1) f ?_))
 obtain ⟨X,Y,h⟩:=bnd h
 refine We (callV1 (first:=#[]) (cap:=#[(pt g2k0 0)]) Q5U Z (QeM (rd a0 (i64.wrap (shrI .u64 (u64.wrap (i64.wrap (a+b))) (1:Int)))) a1 _ _ _ v X Y) (QzT Z Z Z)) Z ?_
 rintro _ c0 _ t ⟨_,⟨rfl,rfl⟩,rfl⟩
 refine WL.a1 (qu (Bv (decide (X<0))) (lss Z Z) (Nt (Ch h Z (fun a2 h=> ?_) (fun a2 h=> ?_))))
 exact Cg (qm (Iv (i64.wrap (shrI .u64 (u64.wrap (i64.wrap (a+b))) (1:Int)))) (qu (Iv (i64.wrap ((i64.wrap (shrI .u64 (u64.wrap (i64.wrap (a+b))) (1:Int)))+1))) (add Z Z) (qa (Iv (i64.wrap ((i64.wrap (shrI .u64 (u64.wrap (i64.wrap (a+b))) (1:Int)))+1))) (Wz (Bn (WQ.again (i64.wrap ((i64.wrap (shrI .u64 (u64.wrap (i64.wrap (a+b))) (1:Int)))+1),b) (oi h).symm ⟨(k.trans t),Z,e,f,g,l,Z,j⟩))))))
 exact Cg (qm (Iv (i64.wrap (shrI .u64 (u64.wrap (i64.wrap (a+b))) (1:Int)))) (qa (Iv (i64.wrap (shrI .u64 (u64.wrap (i64.wrap (a+b))) (1:Int)))) (Wz (Bn (WQ.again (a,i64.wrap (shrI .u64 (u64.wrap (i64.wrap (a+b))) (1:Int))) (oi h).symm ⟨(k.trans t),Z,e,f,g,l,i,Z⟩)))))
 refine WC.exit (WQ.thenE (WQ.leaveE a (oi h).symm (fun K=> ?_)))
 subst K
 have h:=V
 refine WQ.blockH ?_
 obtain rfl:=oi h
 exact Tj ⟨k,Z,e,f,g,l,i⟩
 rintro c1 b1 c2 ⟨u,rfl,w,x,y,z,m⟩
 obtain ⟨a3,a4,h⟩:=bnd h
 refine Jf (fun(p_:(Int×Bool)) o S T=>match p_ with |(a5,a6)=>b1.le S∧[(g2k0, .cells #[(.func (.func 135) #[] #[])] 205 (0,0))]::F=T∧o 6=(Iv a5)∧o 7=(Bv a6)) a3 ?_ ?_
 have h:=a4
 refine Cg (qM (Iv d) m (qM (Iv d) m (qM (Iv (a0.length:Int)) z (qu (Bv (decide (d<(a0.length:Int)))) (lss Z Z) (qm (Bv (decide (d<(a0.length:Int)))) ?_)))))
 rcases Bi h with⟨c,h⟩ |⟨c,h⟩
 refine On 39 Z Z c (qM (.func (.func 140) #[] #[(pt g2k0 0)]) y (On 39 Z Z c (qM E w (On 39 Z Z c (qM (Iv d) m (On 39 Z Z c ?_))))))
 obtain ⟨r,h⟩:=Qa1 h
 have G:=G.mono u
 obtain ⟨b2,b4,L,N,hhas50⟩:=G.at r.1 r.2 (by decide)
 obtain ⟨s,rfl,A⟩:=QaW N
 refine qu (.pointer (some b2)) (indexAddr (n:=a0.length) underlying25 sz50 Z Z r.1 r.2 L) (qo 39 c (a50_ (rd a0 d) s) (loadMA (cs:=(l50 (rd a0 d) s)) ag50 sz50 Z hhas50) (On 39 Z Z c (qM (Iv a1) x (On 39 Z Z c ?_))))
 obtain ⟨B,a7,h⟩:=bnd h
 refine We (callV1 (first:=#[]) (cap:=#[(pt g2k0 0)]) Q5U Z (QeM (rd a0 d) a1 _ _ _ A B a7) (QzT Z Z Z)) Z ?_
 rintro _ c3 _ O ⟨_,⟨rfl,rfl⟩,rfl⟩
 refine WL.a1 (qo 39 c (Bv (decide (B=0))) (eql Z Z) (qu (Bv (decide (B=0))) (Pt Z c Z) (qa (Iv d) (qa (Bv (decide (B=0))) (Wz ?_)))))
 obtain rfl:=oi h
 exact Tj ⟨O,Z,Z,Z⟩
 iterate 8 refine Of 39 Z Z c Z ?_
 refine qu (Bv false) (Pf Z c Z) (qa (Iv d) (qa (Bv false) (Wz ?_)))
 obtain rfl:=oi h
 exact Tj ⟨lr,Z,Z,Z⟩
 obtain ⟨a5,a6⟩:=a3
 rintro c4 c5 c6 ⟨P,rfl,C,D⟩
 exact Cr (Rf h [[(g2k0, .cells #[(.func (.func 135) #[] #[])] 205 (0,0))]] Z (Qg1 Z C D) (u.trans P) ⟨Z,Z⟩)
noncomputable def Qc5 (a0:(List QaE)) (a1:Int):Option (Int×Bool):=
 ((Qa2 a0 a1).bind fun(a,b)=>(some (a,b)))
def QiG (a0:(List QaE)) (a1:Int) (e:Value):(Int×Bool)→Value→IM→HL→Prop:=
 fun(a:(Int×Bool)) (v:Value) (f:IM) (b:HL)=>match a with |(c,d)=>(.tuple #[(.int .i64 c),(.bool d)])=v∧b=[]
theorem QiX (a0:(List QaE)) (a1:Int) (M:IM) (g:Value) (j:RS QaI M g a0) (d:(Int×Bool)) (h:Qc5 a0 a1=some d):
 Tri prog 134 #[g,(Iv a1),(.func (.func 135) #[] #[])] M [] (QiG a0 a1 g d):=by
 unfold Qc5 at h
 refine Te func134 Z Z ?_
 intro F l i
 refine Sr (We (box (cs:=#[(.func (.func 135) #[] #[])]) (congrArg Value.cells (asE (.func (.func 135) #[] #[]) (i 2)))) Z ?_)
 rintro _ _ _ - ⟨rfl,e,rfl,rfl⟩
 refine qa (Iv 0) (qa (Bv false) (Ns (qM g (i 0) (qM (Iv a1) (i 1) (qu (.func (.func 140) #[] #[(pt e 0)]) (makeFunc2 (QmW) (Qb2 (show ev _ _=(pt e 0) from Z))) ?_)))))
 obtain ⟨⟨a,b⟩,f,h⟩:=bnd h
 refine We (Cb Q75 (QdC a0 a1 _ _ _ j (a,b) f) (QcV Z Z Z)) Z ?_
 rintro _ k _ c ⟨_,⟨rfl,rfl⟩,rfl⟩
 exact WL.a1 (qu (Iv a) (Xt Z Z) (qu (Bv b) (Xt Z Z) (qa (Iv a) (qa (Bv b) (Nt (Cr (Dr (Rf h [] Z (Qg1 Z Z Z) c ⟨Z,Z⟩))))))))
noncomputable def QkP (a0:QaA) (a1:Int):Option (Int×Bool):=
 ((Qc5 a0.Topics a1).bind fun(a,b)=>(some (a,b)))
def QqZ (a0:QaA) (a1:Int) (a b c d:Value):(Int×Bool)→Value→IM→HL→Prop:=
 fun(e:(Int×Bool)) (v:Value) (j:IM) (f:HL)=>match e with |(g,i)=>(.tuple #[(.int .i64 g),(.bool i)])=v∧f=[]
theorem QtP (a0:QaA) (a1:Int) (M:IM) (b a c d:Value) (m:RS QaG M b a0.Brokers) (i:RS QaI M a a0.Topics) (n:RS QaH M c a0.Configs) (o:RS QaL M d a0.Done) (j:(Int×Bool)) (h:QkP a0 a1=some j):
 Tri prog 122 #[(a29_ a0 b a c d),(Iv a1)] M [] (QqZ a0 a1 b a c d j):=by
 unfold QkP at h
 refine Te func122 Z Z ?_
 intro F r p
 refine Sr (We (box (cs:=(l29 a0 b a c d).toArray) (congrArg Value.cells (asE (a29_ a0 b a c d) (p 0)))) Z ?_)
 rintro _ _ _ - ⟨rfl,l,rfl,rfl⟩
 refine qa (Iv 0) (qa (Bv false) (Ns (qu (pt l 1) (Fa QcB Z Z) (qu a (Lb 0 pl25 Z Z Z) (qM (Iv a1) (p 1) ?_)))))
 obtain ⟨⟨e,f⟩,k,h⟩:=bnd h
 refine We (Ca Q70 (QiX a0.Topics a1 _ _ i (e,f) k) (QcV Z Z Z)) Z ?_
 rintro _ q _ g ⟨_,⟨rfl,rfl⟩,rfl⟩
 exact WL.a0 (qu (Iv e) (Xt Z Z) (qu (Bv f) (Xt Z Z) (qa (Iv e) (qa (Bv f) (Nt (Cr (Dr (Rf h [] Z (Qg1 Z Z Z) g ⟨Z,Z⟩))))))))
noncomputable def QiY (a0:QaA) (a1:Int):Option (QaE×Bool):=
 ((QkP a0 a1).bind fun(a,b)=>(if(!b)=true then(some ((⟨(0:Int),(⟨#[]⟩:ByteArray),[]⟩:QaE),false))else(grd (0≤a∧a<a0.Topics.length) (some ((rd a0.Topics a),true)))))
def Qq0 (a0:QaA) (a1:Int) (c d e f:Value):(QaE×Bool)→Value→IM→HL→Prop:=
 fun(g:(QaE×Bool)) (v:Value) (i:IM) (j:HL)=>match g with |(b,k)=>∃ a,(.tuple #[(.agg #[(.int .i64 b.Id),(.string b.Name),a]),(.bool k)])=v∧j=[]∧RS QbD i a b.Parts
theorem QtQ (a0:QaA) (a1:Int) (M:IM) (c b d e:Value) (p:RS QaG M c a0.Brokers) (i:RS QaI M b a0.Topics) (q:RS QaH M d a0.Configs) (r:RS QaL M e a0.Done) (s:(QaE×Bool)) (h:QiY a0 a1=some s):
 Tri prog 84 #[(a29_ a0 c b d e),(Iv a1)] M [] (Qq0 a0 a1 c b d e s):=by
 unfold QiY at h
 refine Te func84 Z Z ?_
 intro F C y
 refine Sr (We (box (cs:=(l29 a0 c b d e).toArray) (congrArg Value.cells (asE (a29_ a0 c b d e) (y 0)))) Z ?_)
 rintro _ _ _ - ⟨rfl,w,rfl,rfl⟩
 refine We (Al ze50 Z) Z ?_
 rintro _ _ _ - ⟨rfl,A,rfl,rfl⟩
 refine qa (Bv false) (Ns (qu (a29_ a0 c b d e) (La (cs:=(l29 a0 c b d e)) 1 ag29 sz29 Z Z Z) (qM (Iv a1) (y 1) ?_)))
 obtain ⟨⟨f,l⟩,t,h⟩:=bnd h
 refine We (Ca Q7T (QtP a0 a1 _ _ _ _ _ p i q r (f,l) t) (QaS Z Z)) Z ?_
 rintro _ B _ g ⟨_,⟨rfl,rfl⟩,rfl⟩
 refine WL.a0 (qm (.tuple #[(Iv f),(Bv l)]) (qu (Iv f) (Xt Z Z) (qu (Bv l) (Xt Z Z) (qa (Iv f) (qa (Bv l) (Nt (Cs (Sr (qm (Bv l) (qu (Bv (!l)) (PO.not Z) (Nt ?_)))))))))))
 refine Ch h Z (fun u h=> ?_) (fun u h=> ?_)
 refine Sr (qu (.agg #[(Iv 0),(Sv ⟨#[]⟩),Zs]) (Bl (cl:=[(Iv 0),(Sv ⟨#[]⟩),Zs]) ze50 fp50 Pz Z) (We (Sg (v:=(.agg #[(Iv 0),(Sv ⟨#[]⟩),Zs])) (vl:=[(Iv 0),(Sv ⟨#[]⟩),Zs]) (arr':=[(Iv 0),(Sv ⟨#[]⟩),Zs]) Z sz50 Z Z (onb Z) Z Z Z) Z ?_))
 rintro _ _ _ - ⟨rfl,rfl⟩
 exact qa (Bv false) (Nt (Cr (Tr (Qa (Dr (Rd h [] (fun _ hs=>hs.drop) (QaP Z (RVs.cons (Rc (cs:=[(Iv 0),(Sv ⟨#[]⟩),Zs]) 0 ag50 sz50 Z Z Z) (RVs.cons (RV.tmp Z) RVs.nil))) g ⟨Zs,Z,Z,RS.nil _ _⟩))))))
 refine Ck (Tc (Sr (qu (pt w 1) (Fa QcB Z Z) (qu b (Lb 1 pl25 Z Z Z) (qm (Iv f) ?_)))))
 obtain ⟨j,h⟩:=Qa1 h
 have i:=i.mono g
 obtain ⟨x,z,m,o,hhas36⟩:=i.at j.1 j.2 (by decide)
 obtain ⟨a,rfl,k⟩:=QaW o
 refine qu (.pointer (some x)) (indexAddr (n:=a0.Topics.length) underlying25 sz50 Z Z j.1 j.2 m) (qu (a50_ (rd a0.Topics f) a) (loadMA (cs:=(l50 (rd a0.Topics f) a)) ag50 sz50 Z hhas36) (We (Sg (v:=(a50_ (rd a0.Topics f) a)) (vl:=(l50 (rd a0.Topics f) a)) (arr':=(l50 (rd a0.Topics f) a)) Z sz50 Z Z (QaX (Oc Z (Oc Z (Oc (RS.one k) Oz)))) Z Z Z) Z ?_))
 rintro _ _ _ - ⟨rfl,rfl⟩
 exact qa (Bv true) (Nt (Cr (Qa (Dr (Rd h [] (fun _ hs=>hs.drop) (QaP Z (RVs.cons (Rc (cs:=(l50 (rd a0.Topics f) a)) 0 ag50 sz50 Z Z Z) (RVs.cons (RV.tmp Z) RVs.nil))) g ⟨a,Z,Z,k⟩)))))
noncomputable def Qf1 (a0:QaA) (j:Int):Option (Int⊕(Unit⊕GErr)):=
 match j with
 |a=>
 (if(decide (a<(a0.Configs.length:Int)))=true then(((grd (0≤a∧a<a0.Configs.length) ((QiY a0 ((rd a0.Configs a).Topic)).bind fun(k,b)=>(((if(decide (((rd a0.Configs a).Topic)≠(0:Int)))=true then(if(!b)=true then(some true)else((Qe9 ((rd a0.Configs a).Key)).bind fun c=>(if(!c)=true then(some true)else(some (decide ((256:Int)<(((rd a0.Configs a).Value).size:Int)))))))else((Qe9 ((rd a0.Configs a).Key)).bind fun d=>(if(!d)=true then(some true)else(some (decide ((256:Int)<(((rd a0.Configs a).Value).size:Int))))))):Option Bool).bind fun e=>(if e=true then((QdQ (⟨#[99,111,110,102,105,103]⟩:ByteArray) a (2:Int)).bind fun f=>(((some (inr (inr f)))).bind fun r=>some (inr r)))else(if(decide ((0:Int)<a))=true then(grd (0≤i64.wrap (a - (1:Int))∧i64.wrap (a - (1:Int))<a0.Configs.length) (((if(decide (((rd a0.Configs a).Topic)<((rd a0.Configs (i64.wrap (a - (1:Int)))).Topic)))=true then(some true)else(if(decide (((rd a0.Configs (i64.wrap (a - (1:Int)))).Topic)=((rd a0.Configs a).Topic)))=true then(some (!Op.bytesLess ((rd a0.Configs (i64.wrap (a - (1:Int)))).Key).toList ((rd a0.Configs a).Key).toList))else(some false))):Option Bool).bind fun g=>(if g=true then((QdQ (⟨#[99,111,110,102,105,103]⟩:ByteArray) a (10:Int)).bind fun i=>(((some (inr (inr i)))).bind fun r=>some (inr r)))else(some (inl ())))))else(some (inl ()))))))):Option (Unit⊕(Int⊕(Unit⊕GErr)))).bind (Sum.elim (fun _=>(some (inl (i64.wrap (a+(1:Int)))))) some))else(some (inr (inl ()))))
noncomputable def Qh9 (a0:QaA):Option GErr:=
 ((((iter (Qf1 a0) (0:Int)).bind (Sum.elim (fun _=>(some (inl ()))) (fun(a:GErr)=>(((some a)).bind fun r=>some (inr r))))):Option (Unit⊕GErr)).bind (Sum.elim (fun _=>(some GErr.nil)) some))
def QpU (a0:QaA) (a b c d:Value):GErr→Value→IM→HL→Prop:=
 fun(e:GErr) (v:Value) (g:IM) (f:HL)=>(GV e)=v∧f=[]
theorem QsC (a0:QaA) (M:IM) (g i b j:Value) (O:RS QaG M g a0.Brokers) (P:RS QaI M i a0.Topics) (t:RS QaH M b a0.Configs) (Q:RS QaL M j a0.Done) (c8:GErr) (h:Qh9 a0=some c8):
 Tri prog 53 #[(a29_ a0 g i b j)] M [] (QpU a0 g i b j c8):=by
 unfold Qh9 at h
 refine Te func53 Z Z ?_
 intro F ρ f3
 refine Sr (We (box (cs:=(l29 a0 g i b j).toArray) (congrArg Value.cells (asE (a29_ a0 g i b j) (f3 0)))) Z ?_)
 rintro _ _ _ - ⟨rfl,B,rfl,rfl⟩
 refine qa (GV GErr.nil) (Nt ?_)
 obtain ⟨e4,c9,h⟩:=bnd h
 refine WC.joinE (fun(_:Unit) y M' H'=>M.le M'∧[(B, .cells (l29 a0 g i b j).toArray 29 (0,0))]::F=H') e4 ?_ ?_
 have b4:=h
 have h:=c9
 refine Sr (qu (pt B 2) (Fa QdY Z Z) (qu b (Lb 0 pl26 Z Z Z) (qu (Iv (a0.Configs.length:Int)) (lenS underlying26 Z t.len) (qm (Iv 0) (Nt (Bk ?_))))))
 obtain ⟨f4,d0,R⟩:=bnd h
 clear h
 refine WC.loop d0 (fun(a:Int) y M' H'=>M.le M'∧[(B, .cells (l29 a0 g i b j).toArray 29 (0,0))]::F=H'∧y 1=(pt B 0)∧y 9=b∧y 10=(Iv (a0.Configs.length:Int))∧y 11=(Iv a)) ?_ ?_
 exact⟨lr,Z,Z,Z,Z,Z⟩
 rintro a f5 f6 e5 f7 h ⟨k,rfl,l,m,e,c⟩
 unfold Qf1 at h
 refine Sr (qu (Bv (decide (a<(a0.Configs.length:Int)))) (lss c e) (Nt (Cs (Ch h Z (fun d1 h=> ?_) (fun d1 h=> ?_)))))
 refine Ck (Tc ?_)
 obtain ⟨e6,d2,h⟩:=bnd h
 refine WC.joinE (fun(_:Unit) y M' H'=>e5.le M'∧[(B, .cells (l29 a0 g i b j).toArray 29 (0,0))]::F=H'∧y 1=(pt B 0)∧y 9=b∧y 10=(Iv (a0.Configs.length:Int))∧y 11=(Iv a)) e6 ?_ ?_
 have b5:=h
 have h:=d2
 refine Bk (Sr (qM (Iv a) c ?_))
 obtain ⟨L,h⟩:=Qa1 h
 have t:=t.mono k
 obtain ⟨e7,f1,b6,b7,hhas33⟩:=t.at L.1 L.2 (by decide)
 obtain rfl:=QbJ b7
 refine qu (.pointer (some e7)) (indexAddr (n:=a0.Configs.length) underlying26 sz74 m c L.1 L.2 b6) (qu (a74_ (rd a0.Configs a)) (loadMA (cs:=(l74 (rd a0.Configs a))) ag74 sz74 Z hhas33) (We (Al ze74 Z) Z ?_))
 rintro _ _ _ - ⟨rfl,z,rfl,rfl⟩
 refine qa (Iv a) (We (Sg (v:=(a74_ (rd a0.Configs a))) (vl:=(l74 (rd a0.Configs a))) (arr':=(l74 (rd a0.Configs a))) Z sz74 Z Z (onb Z) Z Z Z) Z ?_)
 rintro _ _ _ - ⟨rfl,rfl⟩
 refine Ns (qu (a29_ a0 g i b j) (La (cs:=(l29 a0 g i b j)) 1 ag29 sz29 l Z Z) (qu (pt z 0) (Fa QeP Z Z) (qu (Iv ((rd a0.Configs a).Topic)) (Lb 0 pl3 Z Z Z) ?_)))
 obtain ⟨⟨J,K⟩,d3,h⟩:=bnd h
 have O:=O.mono k
 have P:=P.mono k
 have Q:=Q.mono k
 refine We (Ca co84 (QtQ a0 ((rd a0.Configs a).Topic) _ _ _ _ _ O P t Q (J,K) d3) (QaS Z Z)) Z ?_
 rintro _ e8 _ C ⟨_,⟨f,rfl,rfl,a5⟩,rfl⟩
 refine WL.a0 (qm (.tuple #[(a50_ J f),(Bv K)]) (qu (a50_ J f) (Xt Z Z) (qu (Bv K) (Xt Z Z) (We (Al ze50 Z) Z ?_))))
 rintro _ _ _ - ⟨rfl,d4,rfl,rfl⟩
 refine We (Sg (v:=(a50_ J f)) (vl:=(l50 J f)) (arr':=(l50 J f)) Z sz50 Z Z (QaX (Oc Z (Oc Z (Oc (RS.one a5) Oz)))) Z Z Z) Z ?_
 rintro _ _ _ - ⟨rfl,rfl⟩
 refine qa (Bv K) (Nt (Cs ?_))
 obtain ⟨b8,d5,h⟩:=bnd h
 refine Jf (fun(b8:Bool) y M' H'=>e8.le M'∧[(d4, .cells (l50 J f).toArray 50 (0,0))]::[(z, .cells (l74 (rd a0.Configs a)).toArray 74 (0,0))]::[(B, .cells (l29 a0 g i b j).toArray 29 (0,0))]::F=H'∧y 1=(pt B 0)∧y 3=(Iv a)∧y 4=(pt z 0)∧y 9=b∧y 10=(Iv (a0.Configs.length:Int))∧y 11=(Iv a)∧y 41=(Bv b8)) b8 ?_ ?_
 have h:=d5
 refine Cg (qu (pt z 0) (Fa QeP Z Z) (qu (Iv ((rd a0.Configs a).Topic)) (Lb 1 pl3 Z Z Z) (qu (Bv (decide (((rd a0.Configs a).Topic)≠0))) (neq Z Z) (qm (Bv (decide (((rd a0.Configs a).Topic)≠0))) ?_))))
 rcases Bi h with⟨G,h⟩ |⟨G,h⟩
 refine On 26 Z Z G (qm (Bv K) (qo 26 G (Bv (!K)) (PO.not Z) (qu (Bv (!K)) (Pt Z G Z) (qm (Bv (!K)) ?_))))
 rcases Bi h with⟨u,h⟩ |⟨u,h⟩
 iterate 4 refine Of 30 Z Z u Z ?_
 refine qu (Bv true) (Pt Z u Z) (qm (Bv true) ?_)
 iterate 4 refine Of 36 Z Z Z Z ?_
 refine qu (Bv true) (Pt Z Z Z) (Wz ?_)
 obtain rfl:=oi h
 exact Tj ⟨lr,Z,l,Z,Z,m,e,c,Z⟩
 refine qo 30 u (pt z 1) (Fa QgQ Z Z) (qo 30 u (Sv ((rd a0.Configs a).Key)) (Lb 1 pl9 Z Z Z) (On 30 Z Z u ?_))
 obtain ⟨a6,d6,h⟩:=bnd h
 refine We (Ca co81 (QiD ((rd a0.Configs a).Key) _ a6 d6) (Qb2 Z)) Z ?_
 rintro _ f8 _ S ⟨_,⟨rfl,rfl⟩,rfl⟩
 refine WL.a0 (qo 30 u (Bv (!a6)) (PO.not Z) (qu (Bv (!a6)) (Pf Z u Z) (qm (Bv (!a6)) ?_)))
 rcases Bi h with⟨w,h⟩ |⟨w,h⟩
 iterate 4 refine Of 36 Z Z w Z ?_
 refine qu (Bv true) (Pt Z w Z) (Wz ?_)
 obtain rfl:=oi h
 exact Tj ⟨S,Z,l,Z,Z,m,e,c,Z⟩
 refine qo 36 w (pt z 2) (Fa QgR Z Z) (qo 36 w (Sv ((rd a0.Configs a).Value)) (Lb 1 pl9 Z Z Z) (qo 36 w (Iv (((rd a0.Configs a).Value).size:Int)) (lenStr underlying9 Z) (qo 36 w (Bv (decide ((256:Int)<(((rd a0.Configs a).Value).size:Int)))) (gtr Z Z) (qu (Bv (decide ((256:Int)<(((rd a0.Configs a).Value).size:Int)))) (Pf Z w Z) (Wz ?_)))))
 obtain rfl:=oi h
 exact Tj ⟨S,Z,l,Z,Z,m,e,c,Z⟩
 iterate 2 refine Of 26 Z Z G Z ?_
 refine qu (Bv false) (Pf Z G Z) (qm (Bv false) (qo 30 Z (pt z 1) (Fa QgQ Z Z) (qo 30 Z (Sv ((rd a0.Configs a).Key)) (Lb 1 pl9 Z Z Z) (On 30 Z Z Z ?_))))
 obtain ⟨a7,d7,h⟩:=bnd h
 refine We (Ca co81 (QiD ((rd a0.Configs a).Key) _ a7 d7) (Qb2 Z)) Z ?_
 rintro _ f9 _ T ⟨_,⟨rfl,rfl⟩,rfl⟩
 refine WL.a0 (qo 30 Z (Bv (!a7)) (PO.not Z) (qu (Bv (!a7)) (Pf Z Z Z) (qm (Bv (!a7)) ?_)))
 rcases Bi h with⟨x,h⟩ |⟨x,h⟩
 iterate 4 refine Of 36 Z Z x Z ?_
 refine qu (Bv true) (Pt Z x Z) (Wz ?_)
 obtain rfl:=oi h
 exact Tj ⟨T,Z,l,Z,Z,m,e,c,Z⟩
 refine qo 36 x (pt z 2) (Fa QgR Z Z) (qo 36 x (Sv ((rd a0.Configs a).Value)) (Lb 1 pl9 Z Z Z) (qo 36 x (Iv (((rd a0.Configs a).Value).size:Int)) (lenStr underlying9 Z) (qo 36 x (Bv (decide ((256:Int)<(((rd a0.Configs a).Value).size:Int)))) (gtr Z Z) (qu (Bv (decide ((256:Int)<(((rd a0.Configs a).Value).size:Int)))) (Pf Z x Z) (Wz ?_)))))
 obtain rfl:=oi h
 exact Tj ⟨T,Z,l,Z,Z,m,e,c,Z⟩
 rintro g0 e9 g1 ⟨D,rfl,p,o,I,A,q,r,U⟩
 refine Ch h U (fun d8 h=> ?_) (fun d8 h=> ?_)
 refine Sr (qM (Iv a) o ?_)
 obtain ⟨b9,d9,h⟩:=bnd h
 refine We (Ca co54 (QdH ⟨#[99,111,110,102,105,103]⟩ a (2:Int) _ b9 d9) (QcV Z Z Z)) Z ?_
 rintro _ g2 _ c0 ⟨_,⟨rfl,rfl⟩,rfl⟩
 refine WL.a0 (qa (GV b9) (Nt (Cr (Tr (Br (Tr ?_))))))
 have h:=KK.early h b5
 refine WQ.leaveR (inr b9) (oi h).symm (fun E=> ?_)
 subst E
 have h:=(QdZ R)
 refine Br (Tr ?_)
 have h:=KK.early h b4
 exact Dr (Dr (Dr (Rf h [] Z (Rs Z Z) (((k.trans C).trans D).trans c0) ⟨Z,Z⟩)))
 refine Ck (Tc (Sr (qM (Iv a) o (qu (Bv (decide ((0:Int)<a))) (gtr Z Z) (Nt (Ch h Z (fun e0 h=> ?_) (fun e0 h=> ?_)))))))
 refine Sr (qu (pt B 2) (Fa QdY p Z) (qu b (Lb 2 pl26 Z Z Z) (qM (Iv a) o (qu (Iv (i64.wrap (a - 1))) (PO.sub Z Z) ?_))))
 obtain ⟨N,h⟩:=Qa1 h
 have t:=t.mono (C.trans D)
 obtain ⟨f0,f2,c1,c2,hhas72⟩:=t.at N.1 N.2 (by decide)
 obtain rfl:=QbJ c2
 refine qu (.pointer (some f0)) (indexAddr (n:=a0.Configs.length) underlying26 sz74 Z Z N.1 N.2 c1) (qu (a74_ (rd a0.Configs (i64.wrap (a - 1)))) (loadMA (cs:=(l74 (rd a0.Configs (i64.wrap (a - 1))))) ag74 sz74 Z hhas72) (We (Al ze74 Z) Z ?_))
 rintro _ _ _ - ⟨rfl,a8,rfl,rfl⟩
 refine We (Sg (v:=(a74_ (rd a0.Configs (i64.wrap (a - 1))))) (vl:=(l74 (rd a0.Configs (i64.wrap (a - 1))))) (arr':=(l74 (rd a0.Configs (i64.wrap (a - 1))))) Z sz74 Z Z (onb Z) Z Z Z) Z ?_
 rintro _ _ _ - ⟨rfl,rfl⟩
 refine Nt ?_
 obtain ⟨c3,e1,h⟩:=bnd h
 refine Jf (fun(c3:Bool) y M' H'=>e9.le M'∧[(a8, .cells (l74 (rd a0.Configs (i64.wrap (a - 1)))).toArray 74 (0,0))]::[(d4, .cells (l50 J f).toArray 50 (0,0))]::[(z, .cells (l74 (rd a0.Configs a)).toArray 74 (0,0))]::[(B, .cells (l29 a0 g i b j).toArray 29 (0,0))]::F=H'∧y 1=(pt B 0)∧y 3=(Iv a)∧y 9=b∧y 10=(Iv (a0.Configs.length:Int))∧y 11=(Iv a)∧y 70=(Bv c3)) c3 ?_ ?_
 have h:=e1
 refine Cg (qu (pt a8 0) (Fa QeP Z Z) (qu (Iv ((rd a0.Configs (i64.wrap (a - 1))).Topic)) (Lb 0 pl3 Z Z Z) (qu (pt z 0) (Fa QeP I Z) (qu (Iv ((rd a0.Configs a).Topic)) (Lb 2 pl3 Z Z Z) (qu (Bv (decide (((rd a0.Configs a).Topic)<((rd a0.Configs (i64.wrap (a - 1))).Topic)))) (gtr Z Z) (qm (Bv (decide (((rd a0.Configs a).Topic)<((rd a0.Configs (i64.wrap (a - 1))).Topic)))) ?_))))))
 rcases Bi h with⟨d,h⟩ |⟨d,h⟩
 iterate 6 refine Of 57 Z Z d Z ?_
 refine WL.offU 63 Z Z Z (WL.offU 63 Z Z Z (WL.offU 63 Z Z Z (WL.offU 63 Z Z Z (WL.offU 63 Z Z Z (Of 57 Z Z d Z (qu (Bv true) (Pt Z d Z) (Wz ?_)))))))
 obtain rfl:=oi h
 exact Tj ⟨lr,Z,p,o,A,q,r,Z⟩
 refine qo 57 d (pt a8 0) (Fa QeP Z Z) (qo 57 d (Iv ((rd a0.Configs (i64.wrap (a - 1))).Topic)) (Lb 0 pl3 Z Z Z) (qo 57 d (pt z 0) (Fa QeP I Z) (qo 57 d (Iv ((rd a0.Configs a).Topic)) (Lb 2 pl3 Z Z Z) (qo 57 d (Bv (decide (((rd a0.Configs (i64.wrap (a - 1))).Topic)=((rd a0.Configs a).Topic)))) (eql Z Z) (On 57 Z Z d (qm (Bv (decide (((rd a0.Configs (i64.wrap (a - 1))).Topic)=((rd a0.Configs a).Topic)))) ?_))))))
 rcases Bi h with⟨s,h⟩ |⟨s,h⟩
 refine qo 63 s (pt a8 1) (Fa QgQ Z Z) (qo 63 s (Sv ((rd a0.Configs (i64.wrap (a - 1))).Key)) (Lb 0 pl9 Z Z Z) (qo 63 s (pt z 1) (Fa QgQ I Z) (qo 63 s (Sv ((rd a0.Configs a).Key)) (Lb 2 pl9 Z Z Z) (qo 63 s (Bv (!Op.bytesLess ((rd a0.Configs (i64.wrap (a - 1))).Key).toList ((rd a0.Configs a).Key).toList)) (sgeq Z Z) (qo 57 d (Bv (!Op.bytesLess ((rd a0.Configs (i64.wrap (a - 1))).Key).toList ((rd a0.Configs a).Key).toList)) (Pt Z s Z) (qu (Bv (!Op.bytesLess ((rd a0.Configs (i64.wrap (a - 1))).Key).toList ((rd a0.Configs a).Key).toList)) (Pf Z d Z) (Wz ?_)))))))
 obtain rfl:=oi h
 exact Tj ⟨lr,Z,p,o,A,q,r,Z⟩
 iterate 5 refine Of 63 Z Z s Z ?_
 refine qo 57 d (Bv false) (Pf Z s Z) (qu (Bv false) (Pf Z d Z) (Wz ?_))
 obtain rfl:=oi h
 exact Tj ⟨lr,Z,p,o,A,q,r,Z⟩
 rintro g3 g4 g5 ⟨V,rfl,a9,b0,b1,W,X,Y⟩
 refine Ch h Y (fun e2 h=> ?_) (fun e2 h=> ?_)
 refine Sr (qM (Iv a) b0 ?_)
 obtain ⟨c4,e3,h⟩:=bnd h
 refine We (Ca co54 (QdH ⟨#[99,111,110,102,105,103]⟩ a (10:Int) _ c4 e3) (QcV Z Z Z)) Z ?_
 rintro _ g6 _ c5 ⟨_,⟨rfl,rfl⟩,rfl⟩
 refine WL.a0 (qa (GV c4) (Nt (Cr (Br (Tr ?_)))))
 have h:=KK.early h b5
 refine WQ.leaveR (inr c4) (oi h).symm (fun E=> ?_)
 subst E
 have h:=(QdZ R)
 refine Br (Tr ?_)
 have h:=KK.early h b4
 exact Dr (Dr (Dr (Dr (Rf h [] Z (Rs Z Z) ((((k.trans C).trans D).trans V).trans c5) ⟨Z,Z⟩))))
 exact Ck (Bn (Dr (Dr (Dr (WQ.thenFE h ⟨((C.trans D).trans V),Z,a9,b1,W,X⟩)))))
 exact Ck (Bn (Dr (Dr (WQ.thenFE h ⟨(C.trans D),Z,p,A,q,r⟩))))
 rintro _ g7 g8 g9 rfl ⟨c6,rfl,b2,b3,a1,a2⟩
 have h:=(Sum.elim_inl _ _ _).symm.trans h
 exact Cg (qu (Iv (i64.wrap (a+1))) (add a2 Z) (qm (Iv (i64.wrap (a+1))) (Wz (WQ.again (i64.wrap (a+1)) (oi h).symm ⟨(k.trans c6),Z,b2,b3,a1,Z⟩))))
 refine WC.exit (WQ.thenE (WQ.leaveE (inl ()) (oi h).symm (fun E=> ?_)))
 subst E
 have h:=QeV R
 exact WQ.blockH (WQ.thenFE h ⟨k,Z⟩)
 rintro _ h0 h1 h2 rfl ⟨c7,rfl⟩
 have h:=(Sum.elim_inl _ _ _).symm.trans h
 exact Sr (qa (GV GErr.nil) (Nt (Cr (Dr (Rf h [] Z (Rs Z Z) c7 ⟨Z,Z⟩)))))
noncomputable def Qf2 (a0:QaA) (e:((List ((Int×Int)×Int))×Int)):Option (((List ((Int×Int)×Int))×Int)⊕(Unit⊕GErr)):=
 match e with
 |(b,a)=>
 (if(decide (a<(a0.Done.length:Int)))=true then(grd (0≤a∧a<a0.Done.length) (((if(decide (((rd a0.Done a).Client)<(1:Int)))=true then(some true)else(if(decide ((1073741824:Int)<((rd a0.Done a).Client)))=true then(some true)else(if(decide (((rd a0.Done a).Serial)<(1:Int)))=true then(some true)else(if(decide ((1073741824:Int)<((rd a0.Done a).Serial)))=true then(some true)else(if(decide (((rd a0.Done a).Code)<(0:Int)))=true then(some true)else(if(decide ((21:Int)<((rd a0.Done a).Code)))=true then(some true)else(some (decide ((1:Int)<(Qb6 (QeK b ((rd a0.Done a).Client,(rd a0.Done a).Serial) (i64.wrap ((Qb6 b ((rd a0.Done a).Client,(rd a0.Done a).Serial))+(1:Int)))) ((rd a0.Done a).Client,(rd a0.Done a).Serial))))))))))):Option Bool).bind fun c=>(if c=true then((QdQ (⟨#[100,111,110,101]⟩:ByteArray) a (2:Int)).bind fun d=>(some (inr (inr d))))else(some (inl (QeK b ((rd a0.Done a).Client,(rd a0.Done a).Serial) (i64.wrap ((Qb6 b ((rd a0.Done a).Client,(rd a0.Done a).Serial))+(1:Int))),i64.wrap (a+(1:Int))))))))else(some (inr (inl ()))))
noncomputable def QeF (a0:QaA):Option GErr:=
 ((Qh5 a0).bind fun a=>(if(!a.isNil)=true then(some a)else((QiW a0).bind fun b=>(if(!b.isNil)=true then(some b)else((Qh9 a0).bind fun c=>(if(!c.isNil)=true then(some c)else(if(decide ((64:Int)<(a0.Done.length:Int)))=true then((QdQ (⟨#[100,111,110,101]⟩:ByteArray) (a0.Done.length:Int) (6:Int)).bind fun d=>(some d))else((((iter (Qf2 a0) (([]:List ((Int×Int)×Int)),(0:Int))).bind (Sum.elim (fun _=>(some (inl ()))) (fun(e:GErr)=>(((some e)).bind fun r=>some (inr r))))):Option (Unit⊕GErr)).bind (Sum.elim (fun _=>(some GErr.nil)) some)))))))))
def QsD (a0:QaA) (a b c d:Value):GErr→Value→IM→HL→Prop:=
 fun(e:GErr) (v:Value) (g:IM) (f:HL)=>(GV e)=v∧f=[]
theorem QiZ (a0:QaA) (M:IM) (i j l c:Value) (r:RS QaG M i a0.Brokers) (s:RS QaI M j a0.Topics) (t:RS QaH M l a0.Configs) (g:RS QaL M c a0.Done) (b0:GErr) (h:QeF a0=some b0):
 Tri prog 14 #[(a29_ a0 i j l c)] M [] (QsD a0 i j l c b0):=by
 unfold QeF at h
 refine Te func14 Z Z ?_
 intro F ρ e1
 refine Sr (We (box (cs:=(l29 a0 i j l c).toArray) (congrArg Value.cells (asE (a29_ a0 i j l c) (e1 0)))) Z ?_)
 rintro _ _ _ - ⟨rfl,I,rfl,rfl⟩
 refine qa (GV GErr.nil) (Nt (Cs (Sr (qu (a29_ a0 i j l c) (La (cs:=(l29 a0 i j l c)) 0 ag29 sz29 Z Z Z) ?_))))
 obtain ⟨J,b1,h⟩:=bnd h
 refine We (Ca co51 (Qr9 a0 _ _ _ _ _ r s t g J b1) (Qb2 Z)) Z ?_
 rintro _ e2 _ m ⟨_,⟨rfl,rfl⟩,rfl⟩
 refine WL.a0 (qa (GV J) (Ns (qm (GV J) (qu (Bv (!J.isNil)) (errNotNil underlying31 Z) (Nt (Ch h Z (fun b2 h=> ?_) (fun b2 h=> ?_)))))))
 exact Sr (qm (GV J) (qa (GV J) (Nt (Cr (Tr (Dr (Rf h [] Z (Rs Z Z) m ⟨Z,Z⟩)))))))
 refine Ck (Tc (Cs (Sr (qu (a29_ a0 i j l c) (La (cs:=(l29 a0 i j l c)) 0 ag29 sz29 Z Z Z) ?_))))
 obtain ⟨K,b3,h⟩:=bnd h
 have r:=r.mono m
 have s:=s.mono m
 have t:=t.mono m
 have g:=g.mono m
 refine We (Ca co52 (QtO a0 _ _ _ _ _ r s t g K b3) (Qb2 Z)) Z ?_
 rintro _ e3 _ o ⟨_,⟨rfl,rfl⟩,rfl⟩
 refine WL.a0 (qa (GV K) (Ns (qm (GV K) (qu (Bv (!K.isNil)) (errNotNil underlying31 Z) (Nt (Ch h Z (fun b4 h=> ?_) (fun b4 h=> ?_)))))))
 exact Sr (qm (GV K) (qa (GV K) (Nt (Cr (Tr (Dr (Rf h [] Z (Rs Z Z) (m.trans o) ⟨Z,Z⟩)))))))
 refine Ck (Tc (Cs (Sr (qu (a29_ a0 i j l c) (La (cs:=(l29 a0 i j l c)) 0 ag29 sz29 Z Z Z) ?_))))
 obtain ⟨L,b5,h⟩:=bnd h
 have r:=r.mono o
 have s:=s.mono o
 have t:=t.mono o
 have g:=g.mono o
 refine We (Ca co53 (QsC a0 _ _ _ _ _ r s t g L b5) (Qb2 Z)) Z ?_
 rintro _ b6 _ O ⟨_,⟨rfl,rfl⟩,rfl⟩
 have U:=(m.trans o).trans O
 refine WL.a0 (qa (GV L) (Ns (qm (GV L) (qu (Bv (!L.isNil)) (errNotNil underlying31 Z) (Nt (Ch h Z (fun b7 h=> ?_) (fun b7 h=> ?_)))))))
 exact Sr (qm (GV L) (qa (GV L) (Nt (Cr (Tr (Dr (Rf h [] Z (Rs Z Z) U ⟨Z,Z⟩)))))))
 refine Ck (Tc (Cs (Sr (qu (pt I 3) (Fa QeO Z Z) (qu c (Lb 0 pl27 Z Z Z) ?_)))))
 have g:=g.mono O
 refine qu (Iv (a0.Done.length:Int)) (lenS underlying27 Z g.len) (qu (Bv (decide ((64:Int)<(a0.Done.length:Int)))) (gtr Z Z) (Nt (Ch h Z (fun b8 h=> ?_) (fun b8 h=> ?_))))
 refine Sr (qu (pt I 3) (Fa QeO Z Z) (qu c (Lb 0 pl27 Z Z Z) (qu (Iv (a0.Done.length:Int)) (lenS underlying27 Z g.len) ?_)))
 obtain ⟨b9,c0,h⟩:=bnd h
 refine We (Ca co54 (QdH ⟨#[100,111,110,101]⟩ (a0.Done.length:Int) (6:Int) _ b9 c0) (QcV Z Z Z)) Z ?_
 rintro _ e4 _ a2 ⟨_,⟨rfl,rfl⟩,rfl⟩
 exact WL.a0 (qa (GV b9) (Nt (Cr (Tr (Dr (Rf h [] Z (Rs Z Z) (U.trans a2) ⟨Z,Z⟩))))))
 refine Ck (Tc (Sr (We (makeMap maV) Z ?_)))
 rintro c1 _ _ - ⟨rfl,d1,rfl,d2⟩
 refine qa c1 (Nt ?_)
 obtain ⟨d3,c2,h⟩:=bnd h
 refine WC.joinE (fun(_:Unit) N M' H'=>b6.le M'∧[(I, .cells (l29 a0 i j l c).toArray 29 (0,0))]::F=H') d3 ?_ ?_
 have c4:=h
 have h:=c2
 refine Sr (qu (pt I 3) (Fa QeO Z Z) (qu c (Lb 1 pl27 Z Z Z) (qu (Iv (a0.Done.length:Int)) (lenS underlying27 Z g.len) (qm (Iv 0) (Nt (Bk (WC.f1 ?_)))))))
 obtain ⟨e5,c5,Y⟩:=bnd h
 clear h
 refine WC.loop c5 (fun(p_:((List ((Int×Int)×Int))×Int)) N M' H'=>match p_ with |(q,a)=>∃ u P,b6.le M'∧[(I, .cells (l29 a0 i j l c).toArray 29 (0,0))]::P::F=H'∧N 6=u∧N 35=c∧N 36=(Iv (a0.Done.length:Int))∧N 37=(Iv a)∧OwnMp maV M' u q P) ?_ ?_
 exact⟨c1,d1,lr,Z,Z,Z,Z,Z,d2⟩
 rintro ⟨q,a⟩ e7 e8 d4 e9 h ⟨u,P,B,rfl,f,d,e,b,a1⟩
 unfold Qf2 at h
 refine Sr (qu (Bv (decide (a<(a0.Done.length:Int)))) (lss b e) (Nt (Cs (Ch h Z (fun c6 h=> ?_) (fun c6 h=> ?_)))))
 refine Ck (Tc (Cs (Bk (Sr (qM (Iv a) b ?_)))))
 obtain ⟨G,h⟩:=Qa1 h
 have g:=g.mono B
 obtain ⟨d5,e0,a3,a4,hhas60⟩:=g.at G.1 G.2 (by decide)
 obtain rfl:=QcN a4
 refine qu (.pointer (some d5)) (indexAddr (n:=a0.Done.length) underlying27 sz78 d b G.1 G.2 a3) (qu (a78_ (rd a0.Done a)) (loadMA (cs:=(l78 (rd a0.Done a))) ag78 sz78 Z hhas60) (We (Al ze78 Z) Z ?_))
 rintro _ _ _ - ⟨rfl,C,rfl,rfl⟩
 refine qa (Iv a) (We (Sg (v:=(a78_ (rd a0.Done a))) (vl:=(l78 (rd a0.Done a))) (arr':=(l78 (rd a0.Done a))) Z sz78 Z Z (onb Z) Z Z Z) Z ?_)
 rintro _ _ _ - ⟨rfl,rfl⟩
 refine Ns (qu (pt C 0) (Fa QrF Z Z) (qu (Iv ((rd a0.Done a).Client)) (Lb 0 pl3 Z Z Z) (qu (pt C 1) (Fa QpC Z Z) (qu (Iv ((rd a0.Done a).Serial)) (Lb 0 pl3 Z Z Z) (qu (.agg #[(Iv ((rd a0.Done a).Client)),(Iv ((rd a0.Done a).Serial))]) (buildAL (cl:=[(Iv ((rd a0.Done a).Client)),(Iv ((rd a0.Done a).Serial))]) Q6B underlying106 sz3 (Pc (Iv ((rd a0.Done a).Client)) Z Z (Pc (Iv ((rd a0.Done a).Serial)) Z Z Pz)) Z) (We (Al Q6B Z) Z ?_))))))
 rintro _ _ _ - ⟨rfl,d6,rfl,rfl⟩
 refine We (Sg (v:=(.agg #[(Iv ((rd a0.Done a).Client)),(Iv ((rd a0.Done a).Serial))])) (vl:=[(Iv ((rd a0.Done a).Client)),(Iv ((rd a0.Done a).Serial))]) (arr':=[(Iv ((rd a0.Done a).Client)),(Iv ((rd a0.Done a).Serial))]) Z Q4O Z Z (onb Z) Z Z Z) Z ?_
 rintro _ _ _ - ⟨rfl,rfl⟩
 refine Nt (Cs (WC.draw [0,0,3,7,3,19,63] (.pure 0 (.pure 1 (.pure 2 (.pure 3 (.alt 4 (.pure 5 (.alt 6 .done .none)) .none))))) Qc3 (by kernel_rfl) (qt u Z (Mv f) (qt (.agg #[(Iv ((rd a0.Done a).Client)),(Iv ((rd a0.Done a).Serial))]) Z (La (cs:=[(Iv ((rd a0.Done a).Client)),(Iv ((rd a0.Done a).Serial))]) 0 Q5M Q4O Z Z Z) (qt (Iv (Qb6 q ((rd a0.Done a).Client,(rd a0.Done a).Serial))) Z (lookup (val:=maV) (k:=((rd a0.Done a).Client,(rd a0.Done a).Serial)) 3 underlying105 (MKey.arr underlying106 underlying3 pl3 sz3) ze3 Z Z Z a1) (qt (Iv (i64.wrap ((Qb6 q ((rd a0.Done a).Client,(rd a0.Done a).Serial))+1))) Z (add Z Z) (WT.f3 (Ta Z (mapEntry (val:=maV) (k:=((rd a0.Done a).Client,(rd a0.Done a).Serial)) underlying105 (MKey.arr underlying106 underlying3 pl3 sz3) ze3 Z Z a1) Z ?_ ?_))))))))
 rintro _ _ _ - ⟨rfl,d7,f0,rfl,rfl,d8,d9⟩
 refine⟨(Ss Z (add Z Z) Z (Ss Z (lookup (val:=maV) (k:=((rd a0.Done a).Client,(rd a0.Done a).Serial)) 0 underlying105 (MKey.arr underlying106 underlying3 pl3 sz3) ze3 Z Z Z d8) Z (Sl Z))), ?_⟩
 refine qt (Iv d7) Z (Xt Z Z) (Ta Z (entryStore (val:=maV) (k:=((rd a0.Done a).Client,(rd a0.Done a).Serial)) Z Z Z d9) Z ?_ ?_)
 rintro _ _ _ - ⟨rfl,c7,rfl,V⟩
 refine⟨(Sl Z), ?_⟩
 refine Ti (Tc ?_)
 obtain ⟨a5,c8,h⟩:=bnd h
 refine Jf (fun(a5:Bool) N M' H'=>d4.le M'∧[(d6, .cells #[(Iv ((rd a0.Done a).Client)),(Iv ((rd a0.Done a).Serial))] 106 (0,0))]::[(C, .cells (l78 (rd a0.Done a)).toArray 78 (0,0))]::[(I, .cells (l29 a0 i j l c).toArray 29 (0,0))]::c7::F=H'∧N 6=u∧N 7=(Iv a)∧N 35=c∧N 36=(Iv (a0.Done.length:Int))∧N 37=(Iv a)∧N 86=(Bv a5)) a5 ?_ ?_
 have h:=c8
 refine Cg (qu (pt C 0) (Fa QrF Z Z) (qu (Iv ((rd a0.Done a).Client)) (Lb 2 pl3 Z Z Z) (qu (Bv (decide (((rd a0.Done a).Client)<1))) (lss Z Z) (qm (Bv (decide (((rd a0.Done a).Client)<1))) ?_))))
 rcases Bi h with⟨w,h⟩ |⟨w,h⟩
 iterate 3 refine Of 56 Z Z w Z ?_
 refine qu (Bv true) (Pt Z w Z) (qm (Bv true) ?_)
 iterate 3 refine Of 61 Z Z Z Z ?_
 refine qu (Bv true) (Pt Z Z Z) (qm (Bv true) ?_)
 iterate 3 refine Of 66 Z Z Z Z ?_
 refine qu (Bv true) (Pt Z Z Z) (qm (Bv true) ?_)
 iterate 3 refine Of 71 Z Z Z Z ?_
 refine qu (Bv true) (Pt Z Z Z) (qm (Bv true) ?_)
 iterate 3 refine Of 76 Z Z Z Z ?_
 refine qu (Bv true) (Pt Z Z Z) (qm (Bv true) ?_)
 iterate 4 refine Of 81 Z Z Z Z ?_
 refine qu (Bv true) (Pt Z Z Z) (Wz (WQ.f3 (WQ.f3 (WQ.f3 ?_))))
 obtain rfl:=oi h
 exact Tj ⟨lr,Z,f,Z,d,e,b,Z⟩
 refine qo 56 w (pt C 0) (Fa QrF Z Z) (qo 56 w (Iv ((rd a0.Done a).Client)) (Lb 2 pl3 Z Z Z) (qo 56 w (Bv (decide ((1073741824:Int)<((rd a0.Done a).Client)))) (gtr Z Z) (qu (Bv (decide ((1073741824:Int)<((rd a0.Done a).Client)))) (Pf Z w Z) (qm (Bv (decide ((1073741824:Int)<((rd a0.Done a).Client)))) ?_))))
 rcases Bi h with⟨x,h⟩ |⟨x,h⟩
 iterate 3 refine Of 61 Z Z x Z ?_
 refine qu (Bv true) (Pt Z x Z) (qm (Bv true) ?_)
 iterate 3 refine Of 66 Z Z Z Z ?_
 refine qu (Bv true) (Pt Z Z Z) (qm (Bv true) ?_)
 iterate 3 refine Of 71 Z Z Z Z ?_
 refine qu (Bv true) (Pt Z Z Z) (qm (Bv true) ?_)
 iterate 3 refine Of 76 Z Z Z Z ?_
 refine qu (Bv true) (Pt Z Z Z) (qm (Bv true) ?_)
 iterate 4 refine Of 81 Z Z Z Z ?_
 refine qu (Bv true) (Pt Z Z Z) (Wz (WQ.f3 (WQ.f3 (WQ.f3 ?_))))
 obtain rfl:=oi h
 exact Tj ⟨lr,Z,f,Z,d,e,b,Z⟩
 refine qo 61 x (pt C 1) (Fa QpC Z Z) (qo 61 x (Iv ((rd a0.Done a).Serial)) (Lb 2 pl3 Z Z Z) (qo 61 x (Bv (decide (((rd a0.Done a).Serial)<1))) (lss Z Z) (qu (Bv (decide (((rd a0.Done a).Serial)<1))) (Pf Z x Z) (qm (Bv (decide (((rd a0.Done a).Serial)<1))) ?_))))
 rcases Bi h with⟨y,h⟩ |⟨y,h⟩
 iterate 3 refine Of 66 Z Z y Z ?_
 refine qu (Bv true) (Pt Z y Z) (qm (Bv true) ?_)
 iterate 3 refine Of 71 Z Z Z Z ?_
 refine qu (Bv true) (Pt Z Z Z) (qm (Bv true) ?_)
 iterate 3 refine Of 76 Z Z Z Z ?_
 refine qu (Bv true) (Pt Z Z Z) (qm (Bv true) ?_)
 iterate 4 refine Of 81 Z Z Z Z ?_
 refine qu (Bv true) (Pt Z Z Z) (Wz (WQ.f3 (WQ.f3 (WQ.f3 ?_))))
 obtain rfl:=oi h
 exact Tj ⟨lr,Z,f,Z,d,e,b,Z⟩
 refine qo 66 y (pt C 1) (Fa QpC Z Z) (qo 66 y (Iv ((rd a0.Done a).Serial)) (Lb 2 pl3 Z Z Z) (qo 66 y (Bv (decide ((1073741824:Int)<((rd a0.Done a).Serial)))) (gtr Z Z) (qu (Bv (decide ((1073741824:Int)<((rd a0.Done a).Serial)))) (Pf Z y Z) (qm (Bv (decide ((1073741824:Int)<((rd a0.Done a).Serial)))) ?_))))
 rcases Bi h with⟨z,h⟩ |⟨z,h⟩
 iterate 3 refine Of 71 Z Z z Z ?_
 refine qu (Bv true) (Pt Z z Z) (qm (Bv true) ?_)
 iterate 3 refine Of 76 Z Z Z Z ?_
 refine qu (Bv true) (Pt Z Z Z) (qm (Bv true) ?_)
 iterate 4 refine Of 81 Z Z Z Z ?_
 refine qu (Bv true) (Pt Z Z Z) (Wz (WQ.f3 (WQ.f3 (WQ.f3 ?_))))
 obtain rfl:=oi h
 exact Tj ⟨lr,Z,f,Z,d,e,b,Z⟩
 refine qo 71 z (pt C 2) (Fa Qs2 Z Z) (qo 71 z (Iv ((rd a0.Done a).Code)) (Lb 2 pl3 Z Z Z) (qo 71 z (Bv (decide (((rd a0.Done a).Code)<0))) (lss Z Z) (qu (Bv (decide (((rd a0.Done a).Code)<0))) (Pf Z z Z) (qm (Bv (decide (((rd a0.Done a).Code)<0))) ?_))))
 rcases Bi h with⟨A,h⟩ |⟨A,h⟩
 iterate 3 refine Of 76 Z Z A Z ?_
 refine qu (Bv true) (Pt Z A Z) (qm (Bv true) ?_)
 iterate 4 refine Of 81 Z Z Z Z ?_
 refine qu (Bv true) (Pt Z Z Z) (Wz (WQ.f3 (WQ.f3 (WQ.f3 ?_))))
 obtain rfl:=oi h
 exact Tj ⟨lr,Z,f,Z,d,e,b,Z⟩
 refine qo 76 A (pt C 2) (Fa Qs2 Z Z) (qo 76 A (Iv ((rd a0.Done a).Code)) (Lb 2 pl3 Z Z Z) (qo 76 A (Bv (decide ((21:Int)<((rd a0.Done a).Code)))) (gtr Z Z) (qu (Bv (decide ((21:Int)<((rd a0.Done a).Code)))) (Pf Z A Z) (qm (Bv (decide ((21:Int)<((rd a0.Done a).Code)))) ?_))))
 rcases Bi h with⟨p,h⟩ |⟨p,h⟩
 iterate 4 refine Of 81 Z Z p Z ?_
 refine qu (Bv true) (Pt Z p Z) (Wz (WQ.f3 (WQ.f3 (WQ.f3 ?_))))
 obtain rfl:=oi h
 exact Tj ⟨lr,Z,f,Z,d,e,b,Z⟩
 refine On 81 Z Z p (qM u f (qo 81 p (.agg #[(Iv ((rd a0.Done a).Client)),(Iv ((rd a0.Done a).Serial))]) (La (cs:=[(Iv ((rd a0.Done a).Client)),(Iv ((rd a0.Done a).Serial))]) 1 Q5M Q4O Z Z Z) (qo 81 p (Iv (Qb6 (QeK q ((rd a0.Done a).Client,(rd a0.Done a).Serial) (i64.wrap ((Qb6 q ((rd a0.Done a).Client,(rd a0.Done a).Serial))+1))) ((rd a0.Done a).Client,(rd a0.Done a).Serial))) (lookup (val:=maV) (k:=((rd a0.Done a).Client,(rd a0.Done a).Serial)) 0 underlying105 (MKey.arr underlying106 underlying3 pl3 sz3) ze3 Z Z Z V) (qo 81 p (Bv (decide ((1:Int)<(Qb6 (QeK q ((rd a0.Done a).Client,(rd a0.Done a).Serial) (i64.wrap ((Qb6 q ((rd a0.Done a).Client,(rd a0.Done a).Serial))+1))) ((rd a0.Done a).Client,(rd a0.Done a).Serial))))) (gtr Z Z) (qu (Bv (decide ((1:Int)<(Qb6 (QeK q ((rd a0.Done a).Client,(rd a0.Done a).Serial) (i64.wrap ((Qb6 q ((rd a0.Done a).Client,(rd a0.Done a).Serial))+1))) ((rd a0.Done a).Client,(rd a0.Done a).Serial))))) (Pf Z p Z) (Wz (WQ.f3 (WQ.f3 (WQ.f3 ?_)))))))))
 obtain rfl:=oi h
 exact Tj ⟨lr,Z,f,Z,d,e,b,Z⟩
 rintro f2 f4 f5 ⟨D,rfl,W,X,Q,R,S,T⟩
 refine Ch h T (fun c9 h=> ?_) (fun c9 h=> ?_)
 refine Sr (qM (Iv a) X ?_)
 obtain ⟨a6,d0,h⟩:=bnd h
 refine We (Ca co54 (QdH ⟨#[100,111,110,101]⟩ a (2:Int) _ a6 d0) (QcV Z Z Z)) Z ?_
 rintro _ f6 _ a7 ⟨_,⟨rfl,rfl⟩,rfl⟩
 refine WL.a0 (qa (GV a6) (Nt (Cr (Br (Tr (WQ.leaveR (inr a6) (oi h).symm (fun E=> ?_)))))))
 subst E
 have h:=(QdZ Y)
 refine Br (Tr ?_)
 have h:=KK.early h c4
 exact Dr (Dr (Dr (Dr (Rf h [] Z (Rs Z Z) (((U.trans B).trans D).trans a7) ⟨Z,Z⟩))))
 refine Ck (Bn (Tc (Cg (qu (Iv (i64.wrap (a+1))) (add S Z) (qm (Iv (i64.wrap (a+1))) (Wz (Dr (Dr (WQ.again (QeK q ((rd a0.Done a).Client,(rd a0.Done a).Serial) (i64.wrap ((Qb6 q ((rd a0.Done a).Client,(rd a0.Done a).Serial))+1)),i64.wrap (a+1)) (oi h).symm ?_)))))))))
 have V:=V.mono D
 exact⟨u,c7,(B.trans D),Z,W,Q,R,Z,V⟩
 exact Tz
 exact Tz
 refine WC.exit (WQ.thenE (WQ.leaveE (inl ()) (oi h).symm (fun E=> ?_)))
 subst E
 have h:=QeV Y
 exact WQ.blockH (Qa (Dr (WQ.thenFE h ⟨B,Z⟩)))
 rintro _ f7 f8 f9 rfl ⟨a8,rfl⟩
 have h:=(Sum.elim_inl _ _ _).symm.trans h
 exact Sr (qa (GV GErr.nil) (Nt (Cr (Dr (Rf h [] Z (Rs Z Z) (U.trans a8) ⟨Z,Z⟩)))))

end Go.Proofs.YtfkmkgpoddbbfaaGreatDoor.G
