/- Go functions: what they come to, and that they do. Printed by a program of the session (gen). -/
import Derived.Test.YtfkmkgpoddbbfaaGreatDoorRF
import Derived.Test.YtfkmkgpoddbbfaaGreatDoorR0
import Derived.Test.YtfkmkgpoddbbfaaGreatDoorKShar2
import Derived.Test.YtfkmkgpoddbbfaaGreatDoorKConv
import Derived.Test.YtfkmkgpoddbbfaaGreatDoorKMap
import Derived.Test.YtfkmkgpoddbbfaaGreatDoorKTight2
set_option linter.unusedVariables false
set_option linter.unusedSimpArgs false
set_option maxHeartbeats 8000000
set_option maxRecDepth 100000
namespace Go.Proofs.YtfkmkgpoddbbfaaGreatDoor.G
open Go Go.KK
open PO EO IntKind Sum Tryz

noncomputable def QkG (a0:(List QaD)) (a1:QaD) (j:((List QaD)×Bool×Int)):Option (((List QaD)×Bool×Int)⊕((List QaD)×Bool)):=
 match j with
 |(b,c,a)=>
 (if(decide (a<(a0.length:Int)))=true then(((((((if(!c)=true then(grd (0≤a∧a<a0.length) (some (decide (a1.Id≤((rd a0 a).Id)))))else(some false)):Option Bool).bind fun f=>(if f=true then(grd (b.length+[a1].length≤274877906944) (some (b++[a1],true)))else(some (b,c)))):Option ((List QaD)×Bool)).bind fun(d,e)=>(grd (0≤a∧a<a0.length) (if(decide (((rd a0 a).Id)≠a1.Id))=true then(grd (0≤a∧a<a0.length) (grd (d.length+[(rd a0 a)].length≤274877906944) (some (d++[(rd a0 a)],e))))else(some (d,e))))):Option ((List QaD)×Bool)).bind fun(g,i)=>(some (inl (g,i,i64.wrap (a+(1:Int))))))else(some (inr (b,c))))
noncomputable def QhQ (a0:(List QaD)) (a1:QaD):Option (List QaD):=
 ((((iter (QkG a0 a1) ([],false,(0:Int))).bind (fun(b,c)=>(some (b,c)))):Option ((List QaD)×Bool)).bind fun(a,d)=>(((if(!d)=true then(grd (a.length+[a1].length≤274877906944) (some (a++[a1])))else(some a)):Option (List QaD)).bind fun e=>(some e)))
def QmY (a0:(List QaD)) (a1:QaD) (f:Value):(List QaD)→Value→IM→HL→Prop:=
 fun(c:(List QaD)) (v:Value) (d:IM) (e:HL)=>∃ a b,a=v∧e=[b]∧OwnS QaG d a c b
theorem QkH (a0:(List QaD)) (a1:QaD) (M:IM) (S:Value) (h0:RS QaG M S a0) (d0:(List QaD)) (h:QhQ a0 a1=some d0):
 Tri prog 107 #[S,(a66_ a1)] M [] (QmY a0 a1 S d0):=by
 unfold QhQ at h
 refine Te func107 Z Z ?_
 intro F ρ h5
 refine Sr (We (box (cs:=(l66 a1).toArray) (congrArg Value.cells (asE (a66_ a1) (h5 1)))) Z ?_)
 rintro _ _ _ - ⟨rfl,d,rfl,rfl⟩
 refine qa Zs (Ns (qa Zs (Ns (qa (Bv false) (Nt ?_)))))
 obtain ⟨d1,d2,h⟩:=bnd h
 refine Jf (fun(p_:((List QaD)×Bool)) c y T=>match p_ with |(b3,V)=>∃ u C,M.le y∧[(d, .cells (l66 a1).toArray 66 (0,0))]::C::F=T∧c 3=(pt d 0)∧c 5=u∧c 6=(Bv V)∧OwnS QaG y u b3 C) d1 ?_ ?_
 have h:=d2
 refine Sr (qa (Iv 0) (Nt (Bk (WC.e0 (WC.f1 ?_)))))
 obtain ⟨h9,d3,d4⟩:=bnd h
 clear h
 refine WC.loop d3 (fun(p_:((List QaD)×Bool×Int)) c y T=>match p_ with |(W,z,b)=>∃ l o,M.le y∧[(d, .cells (l66 a1).toArray 66 (0,0))]::o::F=T∧c 0=S∧c 3=(pt d 0)∧c 5=l∧c 6=(Bv z)∧c 7=(Iv b)∧OwnS QaG y l W o) ?_ ?_
 exact⟨Zs,[],lr,Z,(h5 0),Z,Z,Z,Z,(OwnS.nil _ _)⟩
 rintro ⟨W,z,b⟩ i0 i1 b4 i2 h ⟨l,o,A,rfl,e,f,q,g,i,m⟩
 unfold QkG at h
 refine Cs (Sr (qM (Iv b) i (qM S e ?_)))
 have h0:=h0.mono A
 refine qu (Iv (a0.length:Int)) (lenS underlying24 Z h0.len) (qu (Bv (decide (b<(a0.length:Int)))) (lss Z Z) (Nt (Ch h Z (fun d5 h=> ?_) (fun d5 h=> ?_))))
 refine Ck (Tc ?_)
 obtain ⟨d6,d7,h⟩:=bnd h
 refine Jf (fun(p_:((List QaD)×Bool)) c y T=>match p_ with |(b5,b6)=>∃ D E,b4.le y∧[(d, .cells (l66 a1).toArray 66 (0,0))]::E::F=T∧c 0=S∧c 3=(pt d 0)∧c 5=D∧c 6=(Bv b6)∧c 7=(Iv b)∧OwnS QaG y D b5 E) d6 ?_ ?_
 have h:=d7
 refine Bk ?_
 obtain ⟨d8,d9,h⟩:=bnd h
 refine Jf (fun(p_:((List QaD)×Bool)) c y T=>match p_ with |(b7,e1)=>∃ v G,b4.le y∧[(d, .cells (l66 a1).toArray 66 (0,0))]::G::F=T∧c 0=S∧c 3=(pt d 0)∧c 5=v∧c 6=(Bv e1)∧c 7=(Iv b)∧OwnS QaG y v b7 G) d8 ?_ ?_
 have h:=d9
 obtain ⟨b8,e2,h⟩:=bnd h
 refine Jf (fun(b8:Bool) c y T=>b4.le y∧[(d, .cells (l66 a1).toArray 66 (0,0))]::o::F=T∧c 0=S∧c 3=(pt d 0)∧c 5=l∧c 6=(Bv z)∧c 7=(Iv b)∧c 25=(Bv b8)) b8 ?_ ?_
 have h:=e2
 refine WC.draw [0,1,3,7,7,31,63,127,7,263,1023,2047] (.pure 0 (.pure 1 (.pure 2 (.pure 3 (.pure 4 (.pure 5 (.pure 6 (.pure 7 (.pure 8 (.pure 9 (.pure 10 (.pure 11 .done)))))))))))) Qc3 (by kernel_rfl) (qt (Bv z) Z (Mv g) (qt (Bv (!z)) Z (PO.not Z) (qt (Bv (!z)) Z (Mv Z) ?_)))
 rcases Bi h with⟨a,h⟩ |⟨a,h⟩
 refine Tn S 16 Z Z Z a (Mv e) Z (Tn (Iv b) 16 Z Z Z a (Mv i) Z ?_)
 obtain ⟨I,h⟩:=Qa1 h
 obtain ⟨e3,h6,b9,c0,hhas47⟩:=h0.at I.1 I.2 (by decide)
 obtain rfl:=QbB c0
 refine Tn (.pointer (some e3)) 16 Z Z Z a (indexAddr (n:=a0.length) underlying24 sz66 Z Z I.1 I.2 b9) Z (Tn (.pointer (some (e3.add 0))) 16 Z Z Z a (Fa QhO Z Z) Z (Tn (Iv ((rd a0 b).Id)) 16 Z Z Z a (loadM pl3 Z (IM.has0 hhas47)) Z (Tn (pt d 0) 16 Z Z Z a (Fa QhO f Z) Z (Tn (Iv a1.Id) 16 Z Z Z a (Lb 0 pl3 Z Z Z) Z (Tn (Bv (decide (a1.Id≤((rd a0 b).Id)))) 16 Z Z Z a (geq Z Z) Z (qt (Bv (decide (a1.Id≤((rd a0 b).Id)))) Z (Pt Z a Z) (Ti ?_)))))))
 obtain rfl:=oi h
 exact Tj ⟨lr,Z,e,f,q,g,i,Z⟩
 refine Tf 16 Z Z Z a Z (Tf 16 Z Z Z a Z (Tf 16 Z Z Z a Z (Tf 16 Z Z Z a Z (Tf 16 Z Z Z a Z (Tf 16 Z Z Z a Z (Tf 16 Z Z Z a Z (Tf 16 Z Z Z a Z (qt (Bv false) Z (Pf Z a Z) (Ti ?_)))))))))
 obtain rfl:=oi h
 exact Tj ⟨lr,Z,e,f,q,g,i,Z⟩
 rintro i3 g2 i4 ⟨r,rfl,J,s,K,X,L,U⟩
 refine Ch h U (fun e4 h=> ?_) (fun e4 h=> ?_)
 refine Sr (qM l K (qu (a66_ a1) (La (cs:=(l66 a1)) 0 ag66 sz66 s Z Z) (We (buildSliceL (cl:=(l66 a1)) underlying24 iz66 Z (Pc (a66_ a1) Z Z Pz) Z) Z ?_)))
 rintro _ _ _ - ⟨rfl,e5,rfl,rfl⟩
 have g3:OwnS QaG g2 (.slice (some ⟨e5,0,none⟩) 1 1) [a1] [(e5, .cells (l66 a1).toArray 66 (0,0))]:=OwnS.rows (css:=[(l66 a1)]) (Rows.cons (Qd3 (x:=a1)) Rows.nil) Z Z
 obtain ⟨e6,h⟩:=Qa1 h
 refine Wb ?_
 have m:=m.mono r
 refine We (append (dd:=QaG) (xs:=W) (ys:=[a1]) underlying24 underlying24 in66 Z (appB (by decide) e6) (by decide) Z Z m (g3.src 1 Z)) Z ?_
 rintro e7 _ _ - ⟨rfl,g4,rfl,g5⟩
 refine qa e7 (Nt (Cg (qa (Bv true) (Wz (Qa (Dr (Qa ?_)))))))
 obtain rfl:=oi h
 exact Tj ⟨e7,g4,r,Z,J,s,Z,Z,L,g5⟩
 refine Ck ?_
 obtain rfl:=oi h
 refine Tj ?_
 have m:=m.mono r
 exact⟨l,o,r,Z,J,s,K,X,L,m⟩
 obtain ⟨b7,e1⟩:=d8
 rintro i5 g6 i6 ⟨v,G,B,rfl,j,t,N,O,k,b0⟩
 refine Cs (WC.draw [0,0,3,7,15,0,32,127] (.pure 0 (.pure 1 (.pure 2 (.pure 3 (.pure 4 (.pure 5 (.pure 6 (.pure 7 .done)))))))) Qc3 (by kernel_rfl) (qt S Z (Mv j) (qt (Iv b) Z (Mv k) ?_)))
 obtain ⟨P,h⟩:=Qa1 h
 have h0:=h0.mono B
 obtain ⟨e8,h7,c1,c2,hhas62⟩:=h0.at P.1 P.2 (by decide)
 obtain rfl:=QbB c2
 refine qt (.pointer (some e8)) Z (indexAddr (n:=a0.length) underlying24 sz66 Z Z P.1 P.2 c1) (qt (.pointer (some (e8.add 0))) Z (Fa QhO Z Z) (qt (Iv ((rd a0 b).Id)) Z (loadM pl3 Z (IM.has0 hhas62)) (qt (pt d 0) Z (Fa QhO t Z) (qt (Iv a1.Id) Z (Lb 0 pl3 Z Z Z) (qt (Bv (decide (((rd a0 b).Id)≠a1.Id))) Z (neq Z Z) (Ti (Tc (Ch h Z (fun e9 h=> ?_) (fun e9 h=> ?_)))))))))
 refine Cg (qM v N (qM S j (qM (Iv b) k ?_)))
 obtain ⟨Q,h⟩:=Qa1 h
 obtain ⟨g7,h8,c3,c4,hhas70⟩:=h0.at Q.1 Q.2 (by decide)
 obtain rfl:=QbB c4
 refine qu (.pointer (some g7)) (indexAddr (n:=a0.length) underlying24 sz66 Z Z Q.1 Q.2 c3) (qu (a66_ (rd a0 b)) (loadMA (cs:=(l66 (rd a0 b))) ag66 sz66 Z hhas70) (We (buildSliceL (cl:=(l66 (rd a0 b))) underlying24 iz66 Z (Pc (a66_ (rd a0 b)) Z Z Pz) Z) Z ?_))
 rintro _ _ _ - ⟨rfl,f0,rfl,rfl⟩
 have g8:OwnS QaG g6 (.slice (some ⟨f0,0,none⟩) 1 1) [(rd a0 b)] [(f0, .cells (l66 (rd a0 b)).toArray 66 (0,0))]:=OwnS.rows (css:=[(l66 (rd a0 b))]) (Rows.cons (Qd3 (x:=(rd a0 b))) Rows.nil) Z Z
 obtain ⟨f2,h⟩:=Qa1 h
 refine Wb (We (append (dd:=QaG) (xs:=b7) (ys:=[(rd a0 b)]) underlying24 underlying24 in66 Z (appB (by decide) f2) (by decide) Z Z b0 (g8.src 1 Z)) Z ?_)
 rintro f3 _ _ - ⟨rfl,g9,rfl,h1⟩
 refine qa f3 (Wz (Bn (Qa (Dr (Qa ?_)))))
 obtain rfl:=oi h
 exact Tj ⟨f3,g9,B,Z,j,t,Z,O,k,h1⟩
 refine Ck (Bn ?_)
 obtain rfl:=oi h
 exact Tj ⟨v,G,B,Z,j,t,N,O,k,b0⟩
 obtain ⟨b5,b6⟩:=d6
 rintro i7 i8 i9 ⟨D,E,c5,rfl,Y,a2,a3,a4,a5,f4⟩
 exact Cg (qM (Iv b) a5 (qu (Iv (i64.wrap (b+1))) (add Z Z) (qa (Iv (i64.wrap (b+1))) (Wz (WQ.again (b5,b6,i64.wrap (b+1)) (oi h).symm ⟨D,E,(A.trans c5),Z,Y,a2,a3,a4,Z,f4⟩)))))
 refine WC.exit (WQ.thenE (WQ.leaveE (W,z) (oi h).symm (fun c6=> ?_)))
 subst c6
 have h:=d4
 refine WQ.blockH ?_
 obtain rfl:=oi h
 exact Tj ⟨l,o,A,Z,f,q,g,m⟩
 obtain ⟨b3,V⟩:=d1
 rintro j0 f5 j1 ⟨u,C,c7,rfl,a6,R,a7,b1⟩
 obtain ⟨c8,f6,h⟩:=bnd h
 refine Jf (fun(c8:(List QaD)) c y T=>∃ p w,f5.le y∧[(d, .cells (l66 a1).toArray 66 (0,0))]::w::F=T∧c 5=p∧OwnS QaG y p c8 w) c8 ?_ ?_
 have h:=f6
 refine Sr (qM (Bv V) a7 (qu (Bv (!V)) (PO.not Z) (Nt (Ch h Z (fun f7 h=> ?_) (fun f7 h=> ?_)))))
 refine Cg (qM u R (qu (a66_ a1) (La (cs:=(l66 a1)) 0 ag66 sz66 a6 Z Z) (We (buildSliceL (cl:=(l66 a1)) underlying24 iz66 Z (Pc (a66_ a1) Z Z Pz) Z) Z ?_)))
 rintro _ _ _ - ⟨rfl,f8,rfl,rfl⟩
 have h2:OwnS QaG f5 (.slice (some ⟨f8,0,none⟩) 1 1) [a1] [(f8, .cells (l66 a1).toArray 66 (0,0))]:=OwnS.rows (css:=[(l66 a1)]) (Rows.cons (Qd3 (x:=a1)) Rows.nil) Z Z
 obtain ⟨f9,h⟩:=Qa1 h
 refine Wb (We (append (dd:=QaG) (xs:=b3) (ys:=[a1]) underlying24 underlying24 in66 Z (appB (by decide) f9) (by decide) Z Z b1 (h2.src 1 Z)) Z ?_)
 rintro g0 _ _ - ⟨rfl,h3,rfl,h4⟩
 refine qa g0 (Wz (Qa (Dr (Qa ?_))))
 obtain rfl:=oi h
 exact Tj ⟨g0,h3,lr,Z,Z,h4⟩
 refine Ck ?_
 obtain rfl:=oi h
 exact Tj ⟨u,C,lr,Z,R,b1⟩
 rintro j2 j3 j4 ⟨p,w,c9,rfl,a8,g1⟩
 exact Sr (qM p a8 (qa p (Nt (Cr (Dr (Rf h [w] Z (Rs Z Z) (c7.trans c9) ⟨p,w,Z,Z,g1⟩))))))
noncomputable def QkA (a0:QaA) (a1:QaO):Option (QaA×Int):=
 ((QeE a0 a1.Broker).bind fun(b,a)=>(((if a=true then(some (decide (a1.Epoch≤b.Epoch)))else(some false)):Option Bool).bind fun c=>(if c=true then(some (a0,(11:Int)))else(((if a=true then((QgA a0 a1.Broker).bind fun d=>(some d))else(some false)):Option Bool).bind fun e=>(if e=true then(some (a0,(10:Int)))else((QhQ a0.Brokers (⟨a1.Broker,a1.Epoch,a1.Rack,true,false⟩:QaD)).bind fun f=>(some ((⟨f,a0.Topics,a0.Configs,a0.Done,a0.Last⟩:QaA),(0:Int)))))))))
def QnH (a0:QaA) (a1:QaO) (l m n o g i j k:Value):(QaA×Int)→Value→IM→HL→Prop:=
 fun(p:(QaA×Int)) (v:Value) (f:IM) (q:HL)=>match p with |(e,r)=>∃ a b c d,(.tuple #[(.agg #[a,b,c,d,(.int .i64 e.Last)]),(.int .i64 r)])=v∧q=[]∧RS QaG f a e.Brokers∧RS QaI f b e.Topics∧RS QaH f c e.Configs∧RS QaL f d e.Done
theorem QpI (a0:QaA) (a1:QaO) (M:IM) (d a b c j k l m:Value) (i:RS QaG M d a0.Brokers) (e:RS QaI M a a0.Topics) (f:RS QaH M b a0.Configs) (g:RS QaL M c a0.Done) (a8:RS (Kd.int .i64) M j a1.Ids) (a9:RS (Kd.int .i64) M k a1.Isr) (b0:RS (Kd.int .i64) M l a1.Add) (b1:RS (Kd.int .i64) M m a1.Drop) (V:(QaA×Int)) (h:QkA a0 a1=some V):
 Tri prog 72 #[(a29_ a0 d a b c),(QjM a1 j k l m)] M [] (QnH a0 a1 d a b c j k l m V):=by
 unfold QkA at h
 refine Te func72 Z Z ?_
 intro F ρ b8
 refine Sr (We (box (cs:=(l29 a0 d a b c).toArray) (congrArg Value.cells (asE (a29_ a0 d a b c) (b8 0)))) Z ?_)
 rintro _ _ _ - ⟨rfl,G,rfl,rfl⟩
 refine We (box (cs:=(l102 a1 j k l m).toArray) (congrArg Value.cells (asE (QjM a1 j k l m) (b8 1)))) Z ?_
 rintro _ _ _ - ⟨rfl,u,rfl,rfl⟩
 refine We (Al ze29 Z) Z ?_
 rintro _ _ _ - ⟨rfl,L,rfl,rfl⟩
 refine qa (Iv 0) (Ns (qu (a29_ a0 d a b c) (La (cs:=(l29 a0 d a b c)) 2 ag29 sz29 Z Z Z) (qu (pt u 1) (Fa Qp3 Z Z) (qu (Iv a1.Broker) (Lb 1 pl3 Z Z Z) ?_))))
 obtain ⟨⟨t,y⟩,W,h⟩:=bnd h
 refine We (Ca Q1D (QfV a0 a1.Broker _ _ _ _ _ i e f g (t,y) W) (QaS Z Z)) Z ?_
 rintro _ b2 _ O ⟨_,⟨rfl,rfl⟩,rfl⟩
 refine WL.a0 (qm (.tuple #[(a66_ t),(Bv y)]) (qu (a66_ t) (Xt Z Z) (qu (Bv y) (Xt Z Z) (We (Al ze66 Z) Z ?_))))
 rintro _ _ _ - ⟨rfl,P,rfl,rfl⟩
 refine We (Sg (v:=(a66_ t)) (vl:=(l66 t)) (arr':=(l66 t)) Z sz66 Z Z (onb Z) Z Z Z) Z ?_
 rintro _ _ _ - ⟨rfl,rfl⟩
 refine qa (Bv y) (Nt (Cs ?_))
 obtain ⟨Q,X,h⟩:=bnd h
 refine Jf (fun(Q:Bool) K M' H'=>b2.le M'∧[(P, .cells (l66 t).toArray 66 (0,0))]::[(L, .cells z29_.toArray 29 (0,0))]::[(u, .cells (l102 a1 j k l m).toArray 102 (0,0))]::[(G, .cells (l29 a0 d a b c).toArray 29 (0,0))]::F=H'∧K 2=(pt G 0)∧K 3=(pt u 0)∧K 4=(pt L 0)∧K 7=(Bv y)∧K 23=(Bv Q)) Q ?_ ?_
 have h:=X
 refine Cg (qm (Bv y) (qm (Bv y) ?_))
 rcases Bi h with⟨n,h⟩ |⟨n,h⟩
 refine qo 17 n (pt P 1) (Fa QmU Z Z) (qo 17 n (Iv t.Epoch) (Lb 0 pl3 Z Z Z) (qo 17 n (pt u 2) (Fa QlQ Z Z) (qo 17 n (Iv a1.Epoch) (Lb 2 pl3 Z Z Z) (qo 17 n (Bv (decide (a1.Epoch≤t.Epoch))) (geq Z Z) (qu (Bv (decide (a1.Epoch≤t.Epoch))) (Pt Z n Z) (Wz ?_))))))
 obtain rfl:=oi h
 exact Tj ⟨lr,Z,Z,Z,Z,Z,Z⟩
 iterate 5 refine Of 17 Z Z n Z ?_
 refine qu (Bv false) (Pf Z n Z) (Wz ?_)
 obtain rfl:=oi h
 exact Tj ⟨lr,Z,Z,Z,Z,Z,Z⟩
 rintro c0 b5 c1 ⟨R,rfl,q,z,r,N,I⟩
 have w:=O.trans R
 refine Ch h I (fun Y h=> ?_) (fun Y h=> ?_)
 refine Sr (qu (a29_ a0 d a b c) (La (cs:=(l29 a0 d a b c)) 3 ag29 sz29 q Z Z) (WL.f1 ?_))
 have i:=i.mono w
 have e:=e.mono w
 have f:=f.mono w
 have g:=g.mono w
 refine We (Sg (v:=(a29_ a0 d a b c)) (vl:=(l29 a0 d a b c)) (arr':=(l29 a0 d a b c)) Z sz29 r Z (QaX (Oc (RS.one i) (Oc (RS.one e) (Oc (RS.one f) (Oc (RS.one g) (Oc Z Oz)))))) Z Z Z) Z ?_
 rintro _ _ _ - ⟨rfl,rfl⟩
 exact qa (Iv 11) (Nt (Cr (Tr (Qa (Dr (Qa (Dr (Qa (Dr (Rd h [] (fun _ hs=>hs.drop) (QaP Z (RVs.cons (Rc (cs:=(l29 a0 d a b c)) 0 ag29 sz29 r Z Z) (RVs.cons (RV.tmp Z) RVs.nil))) w ⟨d,a,b,c,Z,Z,i,e,f,g⟩))))))))))
 refine Ck (Tc (Cs ?_))
 obtain ⟨S,a2,h⟩:=bnd h
 refine Jf (fun(S:Bool) K M' H'=>b5.le M'∧[(P, .cells (l66 t).toArray 66 (0,0))]::[(L, .cells z29_.toArray 29 (0,0))]::[(u, .cells (l102 a1 j k l m).toArray 102 (0,0))]::[(G, .cells (l29 a0 d a b c).toArray 29 (0,0))]::F=H'∧K 2=(pt G 0)∧K 3=(pt u 0)∧K 4=(pt L 0)∧K 31=(Bv S)) S ?_ ?_
 have h:=a2
 refine Cg (qM (Bv y) N (qm (Bv y) ?_))
 rcases Bi h with⟨p,h⟩ |⟨p,h⟩
 refine qo 26 p (a29_ a0 d a b c) (La (cs:=(l29 a0 d a b c)) 3 ag29 sz29 q Z Z) (qo 26 p (pt u 1) (Fa Qp3 z Z) (qo 26 p (Iv a1.Broker) (Lb 2 pl3 Z Z Z) (On 26 Z Z p ?_)))
 obtain ⟨a3,a4,h⟩:=bnd h
 have i:=i.mono w
 have e:=e.mono w
 have f:=f.mono w
 have g:=g.mono w
 refine We (Ca co94 (Qj9 a0 a1.Broker _ _ _ _ _ i e f g a3 a4) (QaS Z Z)) Z ?_
 rintro _ c2 _ T ⟨_,⟨rfl,rfl⟩,rfl⟩
 refine WL.a0 (qu (Bv a3) (Pt Z p Z) (Wz ?_))
 obtain rfl:=oi h
 exact Tj ⟨T,Z,q,z,r,Z⟩
 iterate 4 refine Of 26 Z Z p Z ?_
 refine qu (Bv false) (Pf Z p Z) (Wz ?_)
 obtain rfl:=oi h
 exact Tj ⟨lr,Z,q,z,r,Z⟩
 rintro c3 c4 c5 ⟨U,rfl,A,B,s,J⟩
 have x:=w.trans U
 refine Ch h J (fun a5 h=> ?_) (fun a5 h=> ?_)
 refine Sr (qu (a29_ a0 d a b c) (La (cs:=(l29 a0 d a b c)) 3 ag29 sz29 A Z Z) (WL.f1 ?_))
 have i:=i.mono x
 have e:=e.mono x
 have f:=f.mono x
 have g:=g.mono x
 refine We (Sg (v:=(a29_ a0 d a b c)) (vl:=(l29 a0 d a b c)) (arr':=(l29 a0 d a b c)) Z sz29 s Z (QaX (Oc (RS.one i) (Oc (RS.one e) (Oc (RS.one f) (Oc (RS.one g) (Oc Z Oz)))))) Z Z Z) Z ?_
 rintro _ _ _ - ⟨rfl,rfl⟩
 exact qa (Iv 10) (Nt (Cr (Tr (Qa (Dr (Qa (Dr (Qa (Dr (Rd h [] (fun _ hs=>hs.drop) (QaP Z (RVs.cons (Rc (cs:=(l29 a0 d a b c)) 0 ag29 sz29 s Z Z) (RVs.cons (RV.tmp Z) RVs.nil))) x ⟨d,a,b,c,Z,Z,i,e,f,g⟩))))))))))
 refine Ck (Tc (Sr (qu (a29_ a0 d a b c) (La (cs:=(l29 a0 d a b c)) 3 ag29 sz29 A Z Z) (We (Al ze29 Z) Z ?_))))
 rintro _ _ _ - ⟨rfl,b6,rfl,rfl⟩
 have i:=i.mono x
 have e:=e.mono x
 have f:=f.mono x
 have g:=g.mono x
 refine We (Sg (v:=(a29_ a0 d a b c)) (vl:=(l29 a0 d a b c)) (arr':=(l29 a0 d a b c)) Z sz29 Z Z (QaX (Oc (RS.one i) (Oc (RS.one e) (Oc (RS.one f) (Oc (RS.one g) (Oc Z Oz)))))) Z Z Z) Z ?_
 rintro _ _ _ - ⟨rfl,rfl⟩
 refine Ns (qu (pt G 0) (Fa QeU A Z) (qu d (Lb 4 pl24 Z Z Z) (qu (pt u 1) (Fa Qp3 B Z) (qu (Iv a1.Broker) (Lb 3 pl3 Z Z Z) (qu (pt u 2) (Fa QlQ B Z) (qu (Iv a1.Epoch) (Lb 3 pl3 Z Z Z) (qu (pt u 13) (Fa QwW B Z) (qu (Sv a1.Rack) (Lb 3 pl9 Z Z Z) (qu (.agg #[(Iv a1.Broker),(Iv a1.Epoch),(Sv a1.Rack),(Bv true),(Bv false)]) (Bl (cl:=[(Iv a1.Broker),(Iv a1.Epoch),(Sv a1.Rack),(Bv true),(Bv false)]) ze66 fp66 (Pc (Iv a1.Broker) Z Z (Pc (Iv a1.Epoch) Z Z (Pc (Sv a1.Rack) Z Z (Pc (Bv true) Z Z Pz)))) Z) ?_)))))))))
 obtain ⟨b7,a6,h⟩:=bnd h
 refine We (Ca Q5Q (QkH a0.Brokers (⟨a1.Broker,a1.Epoch,a1.Rack,true,false⟩:QaD) _ _ i b7 a6) (QaS Z Z)) Z ?_
 rintro _ c6 _ C ⟨_,⟨o,b9,rfl,rfl,E⟩,rfl⟩
 refine WL.a1 (qu (pt b6 0) (Fa QeU Z Z) (WL.f1 (We (Es o ((l29 a0 o a b c)) E.cells sz24 Z Z (Ow E) Z Z Z) Z ?_)))
 rintro _ _ _ - ⟨rfl,rfl⟩
 refine Ns (qu (a29_ a0 o a b c) (La (cs:=(l29 a0 o a b c)) 0 ag29 sz29 Z Z Z) (WL.f3 ?_))
 have e:=e.mono C
 have f:=f.mono C
 have g:=g.mono C
 refine We (Sg (v:=(a29_ a0 o a b c)) (vl:=(l29 a0 o a b c)) (arr':=(l29 a0 o a b c)) Z sz29 s Z (QaX (Oc (Ow E) (Oc (RS.one e) (Oc (RS.one f) (Oc (RS.one g) (Oc Z Oz)))))) Z Z Z) Z ?_
 rintro _ _ _ - ⟨rfl,rfl⟩
 refine qa (Iv 0) (Nt (Cr (Qb (WQ.know (fun _ hs=>E.rs hs) (fun a7=> ?_)))))
 refine WQ.freeze (fun D=> ?_)
 refine Qa (Dr (Qa (Dr (Qa (Dr (Qa (Dr ?_)))))))
 have e:=e.mono D
 have f:=f.mono D
 have g:=g.mono D
 exact Rd h [] (fun _ hs=>hs.drop) (QaP Z (RVs.cons (Rc (cs:=(l29 a0 o a b c)) 0 ag29 sz29 s Z Z) (RVs.cons (RV.tmp Z) RVs.nil))) ((x.trans C).trans D) ⟨o,a,b,c,Z,Z,a7,e,f,g⟩
noncomputable def Qh4 (a0:(List Int)) (a1:Int) (b:Int):Option (Int⊕(Unit⊕Unit)):=
 match b with
 |a=>
 (if(decide (a<(a0.length:Int)))=true then(grd (0≤a∧a<a0.length) (if(decide ((rd a0 a)=a1))=true then(some (inr (inr ())))else(some (inl (i64.wrap (a+(1:Int)))))))else(some (inr (inl ()))))
noncomputable def QeL (a0:(List Int)) (a1:Int):Option Bool:=
 ((((iter (Qh4 a0 a1) (0:Int)).bind (Sum.elim (fun _=>(some (inl ()))) (fun _=>(((some true)).bind fun r=>some (inr r))))):Option (Unit⊕Bool)).bind (Sum.elim (fun _=>(some false)) some))
def QtC (a0:(List Int)) (a1:Int) (c:Value):Bool→Value→IM→HL→Prop:=
 fun(a:Bool) (v:Value) (d:IM) (b:HL)=>(.bool a)=v∧b=[]
theorem QgT (a0:(List Int)) (a1:Int) (M:IM) (m:Value) (u:RS (Kd.int .i64) M m a0) (o:Bool) (h:QeL a0 a1=some o):
 Tri prog 128 #[m,(Iv a1)] M [] (QtC a0 a1 m o):=by
 unfold QeL at h
 refine Te func128 Z Z ?_
 intro F N A
 refine Sr (qa (Bv false) (Nt ?_))
 obtain ⟨w,p,h⟩:=bnd h
 refine WC.joinE (fun(_:Unit) v x y=>M.le x∧F=y) w ?_ ?_
 have q:=h
 have h:=p
 refine Sr (qa (Iv 0) (Nt (Bk ?_)))
 obtain ⟨C,r,i⟩:=bnd h
 clear h
 refine WC.loop r (fun(a:Int) v x y=>M.le x∧F=y∧v 0=m∧v 1=(Iv a1)∧v 5=(Iv a)) ?_ ?_
 exact⟨lr,Z,(A 0),(A 1),Z⟩
 rintro a D E G I h ⟨b,rfl,c,f,d⟩
 unfold Qh4 at h
 refine Cs (Sr (qM (Iv a) d (qM m c ?_)))
 have u:=u.mono b
 refine qu (Iv (a0.length:Int)) (lenS underlying51 Z u.len) (qu (Bv (decide (a<(a0.length:Int)))) (lss Z Z) (Nt (Ch h Z (fun s h=> ?_) (fun s h=> ?_))))
 refine Ck (Tc (Cs (Bk (Sr (qM m c (qM (Iv a) d ?_))))))
 obtain ⟨g,h⟩:=Qa1 h
 obtain ⟨z,B,j,k,hhas30⟩:=u.at g.1 g.2 (by decide)
 obtain rfl:=k
 refine qu (.pointer (some z)) (indexAddr (n:=a0.length) underlying51 sz3 Z Z g.1 g.2 j) (qu (Iv (rd a0 a)) (loadM pl3 Z (IM.has0 hhas30)) (qM (Iv a1) f (qu (Bv (decide ((rd a0 a)=a1))) (eql Z Z) (Nt (Ch h Z (fun t h=> ?_) (fun t h=> ?_))))))
 refine Sr (qa (Bv true) (Nt (Cr (Br (Tr (WQ.leaveR (inr ()) (oi h).symm (fun e=> ?_)))))))
 subst e
 have h:=(QdZ i)
 refine Br (Tr ?_)
 have h:=KK.early h q
 exact Rf h [] Z (Rs Z Z) b ⟨Z,Z⟩
 exact Ck (Bn (Tc (Cg (qM (Iv a) d (qu (Iv (i64.wrap (a+1))) (add Z Z) (qa (Iv (i64.wrap (a+1))) (Wz (WQ.again (i64.wrap (a+1)) (oi h).symm ⟨b,Z,c,f,Z⟩))))))))
 refine WC.exit (WQ.thenE (WQ.leaveE (inl ()) (oi h).symm (fun e=> ?_)))
 subst e
 have h:=QeV i
 exact WQ.blockH (WQ.thenFE h ⟨b,Z⟩)
 rintro _ J K L rfl ⟨l,rfl⟩
 have h:=(Sum.elim_inl _ _ _).symm.trans h
 exact Sr (qa (Bv false) (Nt (Cr (Rf h [] Z (Rs Z Z) l ⟨Z,Z⟩))))
noncomputable def QnI (a0:QaA) (a1:Int) (a:Int) (d:Int):Option (Int⊕(Unit⊕Unit)):=
 match d with
 |b=>
 (grd (0≤a∧a<a0.Topics.length) (if(decide (b<(((rd a0.Topics a).Parts).length:Int)))=true then(grd (0≤a∧a<a0.Topics.length) (grd (0≤b∧b<((rd a0.Topics a).Parts).length) ((QeL ((rd ((rd a0.Topics a).Parts) b).Ids) a1).bind fun c=>(if c=true then(some (inr (inr ())))else(some (inl (i64.wrap (b+(1:Int)))))))))else(some (inr (inl ())))))
noncomputable def QnJ (a0:QaA) (a1:Int) (b:Int):Option (Int⊕(Unit⊕Unit)):=
 match b with
 |a=>
 (if(decide (a<(a0.Topics.length:Int)))=true then((((iter (QnI a0 a1 a) (0:Int)).bind (Sum.elim (fun _=>(some (inl ()))) (fun _=>(((some (inr (inr ())))).bind fun r=>some (inr r))))):Option (Unit⊕(Int⊕(Unit⊕Unit)))).bind (Sum.elim (fun _=>(some (inl (i64.wrap (a+(1:Int)))))) some))else(some (inr (inl ()))))
noncomputable def QnK (a0:QaA) (a1:Int):Option Bool:=
 ((((iter (QnJ a0 a1) (0:Int)).bind (Sum.elim (fun _=>(some (inl ()))) (fun _=>(((some true)).bind fun r=>some (inr r))))):Option (Unit⊕Bool)).bind (Sum.elim (fun _=>(some false)) some))
def QrV (a0:QaA) (a1:Int) (a b c d:Value):Bool→Value→IM→HL→Prop:=
 fun(e:Bool) (v:Value) (g:IM) (f:HL)=>(.bool e)=v∧f=[]
theorem QuO (a0:QaA) (a1:Int) (M:IM) (c a d e:Value) (c5:RS QaG M c a0.Brokers) (i:RS QaI M a a0.Topics) (c6:RS QaH M d a0.Configs) (c7:RS QaL M e a0.Done) (Y:Bool) (h:QnK a0 a1=some Y):
 Tri prog 108 #[(a29_ a0 c a d e),(Iv a1)] M [] (QrV a0 a1 c a d e Y):=by
 unfold QnK at h
 refine Te func108 Z Z ?_
 intro F ρ c8
 refine Sr (We (box (cs:=(l29 a0 c a d e).toArray) (congrArg Value.cells (asE (a29_ a0 c a d e) (c8 0)))) Z ?_)
 rintro _ _ _ - ⟨rfl,j,rfl,rfl⟩
 refine qa (Bv false) (Nt ?_)
 obtain ⟨c2,a2,h⟩:=bnd h
 refine WC.joinE (fun(_:Unit) x O P=>M.le O∧[(j, .cells (l29 a0 c a d e).toArray 29 (0,0))]::F=P) c2 ?_ ?_
 have a3:=h
 have h:=a2
 refine Sr (qa (Iv 0) (Nt (Bk ?_)))
 obtain ⟨d2,a4,L⟩:=bnd h
 clear h
 refine WC.loop a4 (fun(b:Int) x O P=>M.le O∧[(j, .cells (l29 a0 c a d e).toArray 29 (0,0))]::F=P∧x 1=(Iv a1)∧x 2=(pt j 0)∧x 5=(Iv b)) ?_ ?_
 exact⟨lr,Z,(c8 1),Z,Z⟩
 rintro b d3 d4 a5 d5 h ⟨l,rfl,z,s,t⟩
 unfold QnJ at h
 refine Cs (Sr (qM (Iv b) t (qu (pt j 1) (Fa QcB s Z) (qu a (Lb 0 pl25 Z Z Z) ?_))))
 have i:=i.mono l
 refine qu (Iv (a0.Topics.length:Int)) (lenS underlying25 Z i.len) (qu (Bv (decide (b<(a0.Topics.length:Int)))) (lss Z Z) (Nt (Ch h Z (fun a6 h=> ?_) (fun a6 h=> ?_))))
 refine Ck (Tc ?_)
 obtain ⟨c3,a7,h⟩:=bnd h
 refine WC.joinE (fun(_:Unit) x O P=>a5.le O∧[(j, .cells (l29 a0 c a d e).toArray 29 (0,0))]::F=P∧x 1=(Iv a1)∧x 2=(pt j 0)∧x 5=(Iv b)) c3 ?_ ?_
 have a8:=h
 have h:=a7
 refine Bk (Sr (qa (Iv 0) (Nt (Bk ?_))))
 obtain ⟨d6,a9,N⟩:=bnd h
 clear h
 refine WC.loop a9 (fun(k:Int) x O P=>a5.le O∧[(j, .cells (l29 a0 c a d e).toArray 29 (0,0))]::F=P∧x 1=(Iv a1)∧x 2=(pt j 0)∧x 5=(Iv b)∧x 6=(Iv k)) ?_ ?_
 exact⟨lr,Z,z,s,t,Z⟩
 rintro k d7 d8 d9 e0 h ⟨m,rfl,o,f,g,p⟩
 unfold QnI at h
 refine Cs (Sr (qM (Iv k) p (qu (pt j 1) (Fa QcB f Z) (qu a (Lb 0 pl25 Z Z Z) (qM (Iv b) g ?_)))))
 obtain ⟨u,h⟩:=Qa1 h
 have i:=i.mono m
 obtain ⟨b0,c9,Q,R,hhas34⟩:=i.at u.1 u.2 (by decide)
 obtain ⟨A,rfl,B⟩:=QaW R
 refine qu (.pointer (some b0)) (indexAddr (n:=a0.Topics.length) underlying25 sz50 Z Z u.1 u.2 Q) (qu (.pointer (some (b0.add 2))) (Fa Qd0 Z Z) (qu A (loadM pl48 Z (hhas34 2 _ Z)) (qu (Iv (((rd a0.Topics b).Parts).length:Int)) (lenS underlying48 Z B.len) (qu (Bv (decide (k<(((rd a0.Topics b).Parts).length:Int)))) (lss Z Z) (Nt (Ch h Z (fun b1 h=> ?_) (fun b1 h=> ?_)))))))
 refine Ck (Tc (Cs (Bk (Sr (qu (pt j 1) (Fa QcB f Z) (qu a (Lb 0 pl25 Z Z Z) (qM (Iv b) g ?_)))))))
 obtain ⟨v,h⟩:=Qa1 h
 obtain ⟨b2,d0,S,T,hhas42⟩:=i.at v.1 v.2 (by decide)
 obtain ⟨C,rfl,D⟩:=QaW T
 refine qu (.pointer (some b2)) (indexAddr (n:=a0.Topics.length) underlying25 sz50 Z Z v.1 v.2 S) (qu (.pointer (some (b2.add 2))) (Fa Qd0 Z Z) (qu C (loadM pl48 Z (hhas42 2 _ Z)) (qM (Iv k) p ?_)))
 obtain ⟨w,h⟩:=Qa1 h
 obtain ⟨b3,d1,U,V,hhas49⟩:=D.at w.1 w.2 (by decide)
 obtain ⟨E,b6,b7,b8,rfl,G,b9,c0,c1⟩:=QcY V
 refine qu (.pointer (some b3)) (indexAddr (n:=((rd a0.Topics b).Parts).length) underlying48 sz53 Z Z w.1 w.2 U) (qu (.pointer (some (b3.add 0))) (Fa QiN Z Z) (qu E (loadM pl51 Z (IM.has0 hhas49)) (qM (Iv a1) o ?_)))
 obtain ⟨c4,b4,h⟩:=bnd h
 refine We (Ca Q0M (QgT ((rd ((rd a0.Topics b).Parts) k).Ids) a1 _ _ G c4 b4) (QaS Z Z)) Z ?_
 rintro _ e1 _ y ⟨_,⟨rfl,rfl⟩,rfl⟩
 refine WL.a0 (Nt (Ch h Z (fun b5 h=> ?_) (fun b5 h=> ?_)))
 refine Sr (qa (Bv true) (Nt (Cr (Br (Tr (WQ.leaveR (inr ()) (oi h).symm (fun q=> ?_)))))))
 subst q
 have h:=(QdZ N)
 refine Br (Br (Tr ?_))
 have h:=KK.early h a8
 refine WQ.leaveR (inr ()) (oi h).symm (fun r=> ?_)
 subst r
 have h:=(QdZ L)
 refine Br (Tr ?_)
 have h:=KK.early h a3
 exact Dr (Rf h [] Z (Rs Z Z) ((l.trans m).trans y) ⟨Z,Z⟩)
 exact Ck (Bn (Tc (Cg (qM (Iv k) p (qu (Iv (i64.wrap (k+1))) (add Z Z) (qa (Iv (i64.wrap (k+1))) (Wz (WQ.again (i64.wrap (k+1)) (oi h).symm ⟨(m.trans y),Z,o,f,g,Z⟩))))))))
 refine WC.exit (WQ.thenE (WQ.leaveE (inl ()) (oi h).symm (fun q=> ?_)))
 subst q
 have h:=QeV N
 exact WQ.blockH (Bn (WQ.thenFE h ⟨m,Z,o,f,g⟩))
 rintro _ e2 e3 e4 rfl ⟨W,rfl,I,J,K⟩
 have h:=(Sum.elim_inl _ _ _).symm.trans h
 exact Cg (qM (Iv b) K (qu (Iv (i64.wrap (b+1))) (add Z Z) (qa (Iv (i64.wrap (b+1))) (Wz (WQ.again (i64.wrap (b+1)) (oi h).symm ⟨(l.trans W),Z,I,J,Z⟩)))))
 refine WC.exit (WQ.thenE (WQ.leaveE (inl ()) (oi h).symm (fun r=> ?_)))
 subst r
 have h:=QeV L
 exact WQ.blockH (WQ.thenFE h ⟨l,Z⟩)
 rintro _ e5 e6 e7 rfl ⟨X,rfl⟩
 have h:=(Sum.elim_inl _ _ _).symm.trans h
 exact Sr (qa (Bv false) (Nt (Cr (Dr (Rf h [] Z (Rs Z Z) X ⟨Z,Z⟩)))))
noncomputable def QlT (a0:QaA) (c:QaD) (e:(Int×(List QaD))):Option ((Int×(List QaD))⊕(List QaD)):=
 match e with
 |(a,b)=>
 (if(decide (a<(a0.Brokers.length:Int)))=true then(((grd (0≤a∧a<a0.Brokers.length) (if(decide (((rd a0.Brokers a).Id)≠c.Id))=true then(grd (0≤a∧a<a0.Brokers.length) (grd (b.length+[(rd a0.Brokers a)].length≤274877906944) (some (b++[(rd a0.Brokers a)]))))else(some b))):Option (List QaD)).bind fun d=>(some (inl (i64.wrap (a+(1:Int)),d))))else(some (inr b)))
noncomputable def QlG (a0:QaA) (a1:QaO):Option (QaA×Int):=
 ((QeE a0 a1.Broker).bind fun(a,b)=>(if(!b)=true then(some (a0,(8:Int)))else(if(decide (a.Epoch≠a1.Epoch))=true then(some (a0,(11:Int)))else(((if(decide (a1.Kind=(3:Int)))=true then(((if a.Fenced=true then(some true)else((QgA a0 a.Id).bind fun c=>(some c))):Option Bool).bind fun d=>(if d=true then(((some (a0,(10:Int)))).bind fun r=>some (inr r))else(some (inl (true,a.Leaving)))))else(if(decide (a1.Kind=(4:Int)))=true then(if(!a.Fenced)=true then(((some (a0,(10:Int)))).bind fun r=>some (inr r))else(some (inl (false,false))))else(if(decide (a1.Kind=(5:Int)))=true then(((if a.Fenced=true then(some true)else(some a.Leaving)):Option Bool).bind fun e=>(if e=true then(((some (a0,(10:Int)))).bind fun r=>some (inr r))else(some (inl (a.Fenced,true)))))else((QnK a0 a.Id).bind fun f=>(if f=true then(((some (a0,(10:Int)))).bind fun r=>some (inr r))else((((iter (QlT a0 a) ((0:Int),[])).bind (fun(g:(List QaD))=>(some g))):Option (List QaD)).bind fun i=>(((some ((⟨i,a0.Topics,a0.Configs,a0.Done,a0.Last⟩:QaA),(0:Int)))).bind fun r=>some (inr r)))))))):Option ((Bool×Bool)⊕(QaA×Int))).bind (Sum.elim (fun(j,k)=>((QhQ a0.Brokers (⟨a.Id,a.Epoch,a.Rack,j,k⟩:QaD)).bind fun l=>(some ((⟨l,a0.Topics,a0.Configs,a0.Done,a0.Last⟩:QaA),(0:Int))))) some)))))
def QpJ (a0:QaA) (a1:QaO) (l m n o g i j k:Value):(QaA×Int)→Value→IM→HL→Prop:=
 fun(p:(QaA×Int)) (v:Value) (f:IM) (q:HL)=>match p with |(e,r)=>∃ a b c d,(.tuple #[(.agg #[a,b,c,d,(.int .i64 e.Last)]),(.int .i64 r)])=v∧q=[]∧RS QaG f a e.Brokers∧RS QaI f b e.Topics∧RS QaH f c e.Configs∧RS QaL f d e.Done
theorem QrW (a0:QaA) (a1:QaO) (M:IM) (d a b c l m o p:Value) (i:RS QaG M d a0.Brokers) (e:RS QaI M a a0.Topics) (f:RS QaH M b a0.Configs) (g:RS QaL M c a0.Done) (i8:RS (Kd.int .i64) M l a1.Ids) (i9:RS (Kd.int .i64) M m a1.Isr) (j0:RS (Kd.int .i64) M o a1.Add) (j1:RS (Kd.int .i64) M p a1.Drop) (f7:(QaA×Int)) (h:QlG a0 a1=some f7):
 Tri prog 73 #[(a29_ a0 d a b c),(QjM a1 l m o p)] M [] (QpJ a0 a1 d a b c l m o p f7):=by
 unfold QlG at h
 refine Te func73 Z Z ?_
 intro F ρ j9
 refine Sr (We (box (cs:=(l29 a0 d a b c).toArray) (congrArg Value.cells (asE (a29_ a0 d a b c) (j9 0)))) Z ?_)
 rintro _ _ _ - ⟨rfl,y,rfl,rfl⟩
 refine We (box (cs:=(l102 a1 l m o p).toArray) (congrArg Value.cells (asE (QjM a1 l m o p) (j9 1)))) Z ?_
 rintro _ _ _ - ⟨rfl,O,rfl,rfl⟩
 refine We (Al ze29 Z) Z ?_
 rintro _ _ _ - ⟨rfl,I,rfl,rfl⟩
 refine qa (Iv 0) (Ns (qu (a29_ a0 d a b c) (La (cs:=(l29 a0 d a b c)) 2 ag29 sz29 Z Z Z) (qu (pt O 1) (Fa Qp3 Z Z) (qu (Iv a1.Broker) (Lb 1 pl3 Z Z Z) ?_))))
 obtain ⟨⟨j,b5⟩,f8,h⟩:=bnd h
 refine We (Ca Q1D (QfV a0 a1.Broker _ _ _ _ _ i e f g (j,b5) f8) (QaS Z Z)) Z ?_
 rintro _ d6 _ k ⟨_,⟨rfl,rfl⟩,rfl⟩
 refine WL.a0 (qm (.tuple #[(a66_ j),(Bv b5)]) (qu (a66_ j) (Xt Z Z) (qu (Bv b5) (Xt Z Z) (We (Al ze66 Z) Z ?_))))
 rintro _ _ _ - ⟨rfl,q,rfl,rfl⟩
 refine We (Sg (v:=(a66_ j)) (vl:=(l66 j)) (arr':=(l66 j)) Z sz66 Z Z (onb Z) Z Z Z) Z ?_
 rintro _ _ _ - ⟨rfl,rfl⟩
 refine qa (Bv b5) (Nt (Cs (Sr (qm (Bv b5) (qu (Bv (!b5)) (PO.not Z) (Nt (Ch h Z (fun f9 h=> ?_) (fun f9 h=> ?_))))))))
 refine Sr (qu (a29_ a0 d a b c) (La (cs:=(l29 a0 d a b c)) 3 ag29 sz29 Z Z Z) (WL.f1 ?_))
 have i:=i.mono k
 have e:=e.mono k
 have f:=f.mono k
 have g:=g.mono k
 refine We (Sg (v:=(a29_ a0 d a b c)) (vl:=(l29 a0 d a b c)) (arr':=(l29 a0 d a b c)) Z sz29 Z Z (QaX (Oc (RS.one i) (Oc (RS.one e) (Oc (RS.one f) (Oc (RS.one g) (Oc Z Oz)))))) Z Z Z) Z ?_
 rintro _ _ _ - ⟨rfl,rfl⟩
 exact qa (Iv 8) (Nt (Cr (Tr (Qa (Dr (Qa (Dr (Qa (Dr (Rd h [] (fun _ hs=>hs.drop) (QaP Z (RVs.cons (Rc (cs:=(l29 a0 d a b c)) 0 ag29 sz29 Z Z Z) (RVs.cons (RV.tmp Z) RVs.nil))) k ⟨d,a,b,c,Z,Z,i,e,f,g⟩))))))))))
 refine Ck (Tc (Cs (Sr (qu (pt q 1) (Fa QmU Z Z) (qu (Iv j.Epoch) (Lb 0 pl3 Z Z Z) (qu (pt O 2) (Fa QlQ Z Z) (qu (Iv a1.Epoch) (Lb 2 pl3 Z Z Z) (qu (Bv (decide (j.Epoch≠a1.Epoch))) (neq Z Z) (Nt (Ch h Z (fun g0 h=> ?_) (fun g0 h=> ?_)))))))))))
 refine Sr (qu (a29_ a0 d a b c) (La (cs:=(l29 a0 d a b c)) 3 ag29 sz29 Z Z Z) (WL.f1 ?_))
 have i:=i.mono k
 have e:=e.mono k
 have f:=f.mono k
 have g:=g.mono k
 refine We (Sg (v:=(a29_ a0 d a b c)) (vl:=(l29 a0 d a b c)) (arr':=(l29 a0 d a b c)) Z sz29 Z Z (QaX (Oc (RS.one i) (Oc (RS.one e) (Oc (RS.one f) (Oc (RS.one g) (Oc Z Oz)))))) Z Z Z) Z ?_
 rintro _ _ _ - ⟨rfl,rfl⟩
 exact qa (Iv 11) (Nt (Cr (Tr (Qa (Dr (Qa (Dr (Qa (Dr (Rd h [] (fun _ hs=>hs.drop) (QaP Z (RVs.cons (Rc (cs:=(l29 a0 d a b c)) 0 ag29 sz29 Z Z Z) (RVs.cons (RV.tmp Z) RVs.nil))) k ⟨d,a,b,c,Z,Z,i,e,f,g⟩))))))))))
 refine Ck (Tc (Sr (qu (a29_ a0 d a b c) (La (cs:=(l29 a0 d a b c)) 3 ag29 sz29 Z Z Z) (We (Al ze29 Z) Z ?_))))
 rintro _ _ _ - ⟨rfl,u,rfl,rfl⟩
 have i:=i.mono k
 have e:=e.mono k
 have f:=f.mono k
 have g:=g.mono k
 refine We (Sg (v:=(a29_ a0 d a b c)) (vl:=(l29 a0 d a b c)) (arr':=(l29 a0 d a b c)) Z sz29 Z Z (QaX (Oc (RS.one i) (Oc (RS.one e) (Oc (RS.one f) (Oc (RS.one g) (Oc Z Oz)))))) Z Z Z) Z ?_
 rintro _ _ _ - ⟨rfl,rfl⟩
 refine Nt ?_
 obtain ⟨j2,g1,h⟩:=bnd h
 refine WC.joinE (fun(p_:(Bool×Bool)) z M' H'=>match p_ with |(b7,b8)=>d6.le M'∧[(u, .cells (l29 a0 d a b c).toArray 29 (0,0))]::[(q, .cells #[(Iv j.Id),(Iv j.Epoch),(Sv j.Rack),(Bv b7),(Bv b8)] 66 (0,0))]::[(I, .cells z29_.toArray 29 (0,0))]::[(O, .cells (l102 a1 l m o p).toArray 102 (0,0))]::[(y, .cells (l29 a0 d a b c).toArray 29 (0,0))]::F=H'∧z 2=(pt y 0)∧z 4=(pt I 0)∧z 6=(pt q 0)∧z 8=(pt u 0)) j2 ?_ ?_
 have W:=h
 have h:=g1
 refine Sr (qu (pt O 0) (Fa QvB Z Z) (qu (Iv a1.Kind) (Lb 3 pl3 Z Z Z) (Nt (Bk (Sr (qu (Bv (decide (a1.Kind=3))) (eql Z Z) (qa (Bv (decide (a1.Kind=3))) (Nt (Ch h Z (fun g2 h=> ?_) (fun g2 h=> ?_))))))))))
 refine Cs ?_
 obtain ⟨d7,g3,h⟩:=bnd h
 refine Jf (fun(d7:Bool) z M' H'=>d6.le M'∧[(u, .cells (l29 a0 d a b c).toArray 29 (0,0))]::[(q, .cells (l66 j).toArray 66 (0,0))]::[(I, .cells z29_.toArray 29 (0,0))]::[(O, .cells (l102 a1 l m o p).toArray 102 (0,0))]::[(y, .cells (l29 a0 d a b c).toArray 29 (0,0))]::F=H'∧z 2=(pt y 0)∧z 4=(pt I 0)∧z 6=(pt q 0)∧z 8=(pt u 0)∧z 71=(Bv d7)) d7 ?_ ?_
 have h:=g3
 refine Cg (qu (pt q 3) (Fa Qn8 Z Z) (qu (Bv j.Fenced) (Lb 1 pl4 Z Z Z) (qm (Bv j.Fenced) ?_)))
 rcases Bi h with⟨G,h⟩ |⟨G,h⟩
 iterate 4 refine Of 66 Z Z G Z ?_
 refine qu (Bv true) (Pt Z G Z) (Wz ?_)
 obtain rfl:=oi h
 exact Tj ⟨lr,Z,Z,Z,Z,Z,Z⟩
 refine qo 66 G (a29_ a0 d a b c) (La (cs:=(l29 a0 d a b c)) 4 ag29 sz29 Z Z Z) (qo 66 G (pt q 0) (Fa QhO Z Z) (qo 66 G (Iv j.Id) (Lb 1 pl3 Z Z Z) (On 66 Z Z G ?_)))
 obtain ⟨g4,g5,h⟩:=bnd h
 refine We (Ca co94 (Qj9 a0 j.Id _ _ _ _ _ i e f g g4 g5) (QaS Z Z)) Z ?_
 rintro _ k3 _ d8 ⟨_,⟨rfl,rfl⟩,rfl⟩
 refine WL.a0 (qu (Bv g4) (Pf Z G Z) (Wz ?_))
 obtain rfl:=oi h
 exact Tj ⟨d8,Z,Z,Z,Z,Z,Z⟩
 rintro k4 k5 k6 ⟨D,rfl,a3,P,a4,c3,b9⟩
 refine Ch h b9 (fun g6 h=> ?_) (fun g6 h=> ?_)
 refine Sr (qu (a29_ a0 d a b c) (La (cs:=(l29 a0 d a b c)) 4 ag29 sz29 a3 Z Z) (Wb ?_))
 have i:=i.mono D
 have e:=e.mono D
 have f:=f.mono D
 have g:=g.mono D
 refine We (Sg (v:=(a29_ a0 d a b c)) (vl:=(l29 a0 d a b c)) (arr':=(l29 a0 d a b c)) Z sz29 P Z (QaX (Oc (RS.one i) (Oc (RS.one e) (Oc (RS.one f) (Oc (RS.one g) (Oc Z Oz)))))) Z Z Z) Z ?_
 rintro _ _ _ - ⟨rfl,rfl⟩
 refine qa (Iv 10) (Nt (Cr (Tr (Br (Tr ?_)))))
 have h:=KK.early h W
 exact Qa (Dr (Qa (Dr (Qa (Dr (Qa (Dr (Rd h [] (fun _ hs=>hs.drop) (QaP Z (RVs.cons (Rc (cs:=(l29 a0 d a b c)) 0 ag29 sz29 P Z Z) (RVs.cons (RV.tmp Z) RVs.nil))) (k.trans D) ⟨d,a,b,c,Z,Z,i,e,f,g⟩))))))))
 refine Ck (Tc (Cg (qu (pt q 3) (Fa Qn8 a4 Z) (WL.f1 (We (Es (Bv true) [(Iv j.Id),(Iv j.Epoch),(Sv j.Rack),(Bv true),(Bv j.Leaving)] Z sz4 Z Z Z Z Z Z) Z ?_)))))
 rintro _ _ _ - ⟨rfl,rfl⟩
 exact Wz (Bn (WQ.f4 (WQ.f4 (WQ.f4 (WQ.f3 (WQ.f4 (WQ.thenFE h ⟨D,Z,a3,P,a4,c3⟩)))))))
 refine Sr (qu (Bv (decide (a1.Kind=4))) (eql Z Z) (qa (Bv (decide (a1.Kind=4))) (Nt (Ch h Z (fun g7 h=> ?_) (fun g7 h=> ?_)))))
 refine Cs (Sr (qu (pt q 3) (Fa Qn8 Z Z) (qu (Bv j.Fenced) (Lb 1 pl4 Z Z Z) (qu (Bv (!j.Fenced)) (PO.not Z) (Nt (Ch h Z (fun g8 h=> ?_) (fun g8 h=> ?_)))))))
 refine Sr (qu (a29_ a0 d a b c) (La (cs:=(l29 a0 d a b c)) 4 ag29 sz29 Z Z Z) (Wb (We (Sg (v:=(a29_ a0 d a b c)) (vl:=(l29 a0 d a b c)) (arr':=(l29 a0 d a b c)) Z sz29 Z Z (QaX (Oc (RS.one i) (Oc (RS.one e) (Oc (RS.one f) (Oc (RS.one g) (Oc Z Oz)))))) Z Z Z) Z ?_)))
 rintro _ _ _ - ⟨rfl,rfl⟩
 refine qa (Iv 10) (Nt (Cr (Tr (Br (Tr ?_)))))
 have h:=KK.early h W
 exact Qa (Dr (Qa (Dr (Qa (Dr (Qa (Dr (Rd h [] (fun _ hs=>hs.drop) (QaP Z (RVs.cons (Rc (cs:=(l29 a0 d a b c)) 0 ag29 sz29 Z Z Z) (RVs.cons (RV.tmp Z) RVs.nil))) k ⟨d,a,b,c,Z,Z,i,e,f,g⟩))))))))
 refine Ck (Tc (Sr (qu (pt q 3) (Fa Qn8 Z Z) (WL.f1 (We (Es (Bv false) [(Iv j.Id),(Iv j.Epoch),(Sv j.Rack),(Bv false),(Bv j.Leaving)] Z sz4 Z Z Z Z Z Z) Z ?_)))))
 rintro _ _ _ - ⟨rfl,rfl⟩
 refine Nt (Cg (qu (pt q 4) (Fa Qs1 Z Z) (We (Es (Bv false) [(Iv j.Id),(Iv j.Epoch),(Sv j.Rack),(Bv false),(Bv false)] Z sz4 Z Z Z Z Z Z) Z ?_)))
 rintro _ _ _ - ⟨rfl,rfl⟩
 exact Wz (Bn (WQ.f4 (WQ.f4 (WQ.f4 (WQ.f3 (WQ.f4 (WQ.thenFE h ⟨lr,Z,Z,Z,Z,Z⟩)))))))
 refine Sr (qu (Bv (decide (a1.Kind=5))) (eql Z Z) (qa (Bv (decide (a1.Kind=5))) (Nt (Ch h Z (fun g9 h=> ?_) (fun g9 h=> ?_)))))
 refine Cs ?_
 obtain ⟨d9,h0,h⟩:=bnd h
 refine Jf (fun(d9:Bool) z M' H'=>d6.le M'∧[(u, .cells (l29 a0 d a b c).toArray 29 (0,0))]::[(q, .cells (l66 j).toArray 66 (0,0))]::[(I, .cells z29_.toArray 29 (0,0))]::[(O, .cells (l102 a1 l m o p).toArray 102 (0,0))]::[(y, .cells (l29 a0 d a b c).toArray 29 (0,0))]::F=H'∧z 2=(pt y 0)∧z 4=(pt I 0)∧z 6=(pt q 0)∧z 8=(pt u 0)∧z 89=(Bv d9)) d9 ?_ ?_
 have h:=h0
 refine Cg (qu (pt q 3) (Fa Qn8 Z Z) (qu (Bv j.Fenced) (Lb 1 pl4 Z Z Z) (qm (Bv j.Fenced) ?_)))
 rcases Bi h with⟨L,h⟩ |⟨L,h⟩
 iterate 2 refine Of 86 Z Z L Z ?_
 refine qu (Bv true) (Pt Z L Z) (Wz ?_)
 obtain rfl:=oi h
 exact Tj ⟨lr,Z,Z,Z,Z,Z,Z⟩
 refine qo 86 L (pt q 4) (Fa Qs1 Z Z) (qo 86 L (Bv j.Leaving) (Lb 1 pl4 Z Z Z) (qu (Bv j.Leaving) (Pf Z L Z) (Wz ?_)))
 obtain rfl:=oi h
 exact Tj ⟨lr,Z,Z,Z,Z,Z,Z⟩
 rintro k7 k8 k9 ⟨E,rfl,a5,Q,a6,c4,c0⟩
 refine Ch h c0 (fun h1 h=> ?_) (fun h1 h=> ?_)
 refine Sr (qu (a29_ a0 d a b c) (La (cs:=(l29 a0 d a b c)) 4 ag29 sz29 a5 Z Z) (Wb ?_))
 have i:=i.mono E
 have e:=e.mono E
 have f:=f.mono E
 have g:=g.mono E
 refine We (Sg (v:=(a29_ a0 d a b c)) (vl:=(l29 a0 d a b c)) (arr':=(l29 a0 d a b c)) Z sz29 Q Z (QaX (Oc (RS.one i) (Oc (RS.one e) (Oc (RS.one f) (Oc (RS.one g) (Oc Z Oz)))))) Z Z Z) Z ?_
 rintro _ _ _ - ⟨rfl,rfl⟩
 refine qa (Iv 10) (Nt (Cr (Tr (Br (Tr ?_)))))
 have h:=KK.early h W
 exact Qa (Dr (Qa (Dr (Qa (Dr (Qa (Dr (Rd h [] (fun _ hs=>hs.drop) (QaP Z (RVs.cons (Rc (cs:=(l29 a0 d a b c)) 0 ag29 sz29 Q Z Z) (RVs.cons (RV.tmp Z) RVs.nil))) (k.trans E) ⟨d,a,b,c,Z,Z,i,e,f,g⟩))))))))
 refine Ck (Tc (Cg (qu (pt q 4) (Fa Qs1 a6 Z) (WL.f1 (We (Es (Bv true) [(Iv j.Id),(Iv j.Epoch),(Sv j.Rack),(Bv j.Fenced),(Bv true)] Z sz4 Z Z Z Z Z Z) Z ?_)))))
 rintro _ _ _ - ⟨rfl,rfl⟩
 exact Wz (Bn (WQ.f4 (WQ.f4 (WQ.f4 (WQ.f3 (WQ.f4 (WQ.thenFE h ⟨E,Z,a5,Q,a6,c4⟩)))))))
 refine Cs (Sr (qu (a29_ a0 d a b c) (La (cs:=(l29 a0 d a b c)) 4 ag29 sz29 Z Z Z) (qu (pt q 0) (Fa QhO Z Z) (qu (Iv j.Id) (Lb 1 pl3 Z Z Z) ?_))))
 obtain ⟨j4,h2,h⟩:=bnd h
 refine We (Ca Q7J (QuO a0 j.Id _ _ _ _ _ i e f g j4 h2) (QaS Z Z)) Z ?_
 rintro _ h3 _ s ⟨_,⟨rfl,rfl⟩,rfl⟩
 refine WL.a0 (Nt (Ch h Z (fun h4 h=> ?_) (fun h4 h=> ?_)))
 refine Sr (qu (a29_ a0 d a b c) (La (cs:=(l29 a0 d a b c)) 4 ag29 sz29 Z Z Z) (Wb ?_))
 have i:=i.mono s
 have e:=e.mono s
 have f:=f.mono s
 have g:=g.mono s
 refine We (Sg (v:=(a29_ a0 d a b c)) (vl:=(l29 a0 d a b c)) (arr':=(l29 a0 d a b c)) Z sz29 Z Z (QaX (Oc (RS.one i) (Oc (RS.one e) (Oc (RS.one f) (Oc (RS.one g) (Oc Z Oz)))))) Z Z Z) Z ?_
 rintro _ _ _ - ⟨rfl,rfl⟩
 refine qa (Iv 10) (Nt (Cr (Tr (Br (Tr ?_)))))
 have h:=KK.early h W
 exact Qa (Dr (Qa (Dr (Qa (Dr (Qa (Dr (Rd h [] (fun _ hs=>hs.drop) (QaP Z (RVs.cons (Rc (cs:=(l29 a0 d a b c)) 0 ag29 sz29 Z Z Z) (RVs.cons (RV.tmp Z) RVs.nil))) (k.trans s) ⟨d,a,b,c,Z,Z,i,e,f,g⟩))))))))
 refine Ck (Tc (Sr (qu (pt u 0) (Fa QeU Z Z) (We (Es Zs ((l29 a0 Zs a b c)) Z sz24 Z Z Z Z Z Z) Z ?_))))
 rintro _ _ _ - ⟨rfl,rfl⟩
 refine Nt ?_
 obtain ⟨e1,h5,h⟩:=bnd h
 refine Jf (fun(e1:(List QaD)) z M' H'=>∃ w c1,h3.le M'∧[(u, .cells (l29 a0 w a b c).toArray 29 (0,0))]::[(q, .cells (l66 j).toArray 66 (0,0))]::[(I, .cells z29_.toArray 29 (0,0))]::[(O, .cells (l102 a1 l m o p).toArray 102 (0,0))]::[(y, .cells (l29 a0 d a b c).toArray 29 (0,0))]::c1::F=H'∧z 4=(pt I 0)∧z 8=(pt u 0)∧OwnS QaG M' w e1 c1) e1 ?_ ?_
 have h:=h5
 refine Sr (qa (Iv 0) (Nt (Bk (WC.e0 (WC.f5 (WC.f5 (WC.f5 (WC.f5 (WC.f5 ?_)))))))))
 obtain ⟨l0,h6,h7⟩:=bnd h
 clear h
 refine WC.loop h6 (fun(p_:(Int×(List QaD))) z M' H'=>match p_ with |(r,c5)=>∃ N X,h3.le M'∧[(u, .cells (l29 a0 N a b c).toArray 29 (0,0))]::[(q, .cells (l66 j).toArray 66 (0,0))]::[(I, .cells z29_.toArray 29 (0,0))]::[(O, .cells (l102 a1 l m o p).toArray 102 (0,0))]::[(y, .cells (l29 a0 d a b c).toArray 29 (0,0))]::X::F=H'∧z 2=(pt y 0)∧z 4=(pt I 0)∧z 6=(pt q 0)∧z 8=(pt u 0)∧z 9=(Iv r)∧OwnS QaG M' N c5 X) ?_ ?_
 exact⟨Zs,[],lr,Z,Z,Z,Z,Z,Z,(OwnS.nil _ _)⟩
 rintro ⟨r,c5⟩ l1 l2 h8 l3 h ⟨N,X,Y,rfl,A,R,S,t,B,c2⟩
 unfold QlT at h
 refine Cs (Sr (qM (Iv r) B (qu (pt y 0) (Fa QeU A Z) (qu d (Lb 4 pl24 Z Z Z) ?_))))
 have i:=i.mono (s.trans Y)
 refine qu (Iv (a0.Brokers.length:Int)) (lenS underlying24 Z i.len) (qu (Bv (decide (r<(a0.Brokers.length:Int)))) (lss Z Z) (Nt (Ch h Z (fun h9 h=> ?_) (fun h9 h=> ?_))))
 refine Ck (Tc ?_)
 obtain ⟨c6,i0,h⟩:=bnd h
 refine Jf (fun(c6:(List QaD)) z M' H'=>∃ a7 a8,h8.le M'∧[(u, .cells (l29 a0 a7 a b c).toArray 29 (0,0))]::[(q, .cells (l66 j).toArray 66 (0,0))]::[(I, .cells z29_.toArray 29 (0,0))]::[(O, .cells (l102 a1 l m o p).toArray 102 (0,0))]::[(y, .cells (l29 a0 d a b c).toArray 29 (0,0))]::a8::F=H'∧z 2=(pt y 0)∧z 4=(pt I 0)∧z 6=(pt q 0)∧z 8=(pt u 0)∧z 9=(Iv r)∧OwnS QaG M' a7 c6 a8) c6 ?_ ?_
 have h:=i0
 refine Bk (Cs (WC.draw [0,1,0,7,15,31,0,64,255] (.pure 0 (.pure 1 (.pure 2 (.pure 3 (.pure 4 (.pure 5 (.pure 6 (.pure 7 (.pure 8 .done))))))))) Qc3 (by kernel_rfl) (qt (pt y 0) Z (Fa QeU A Z) (qt d Z (Lb 4 pl24 Z Z Z) (qt (Iv r) Z (Mv B) ?_)))))
 obtain ⟨a9,h⟩:=Qa1 h
 obtain ⟨i1,k0,e2,e3,hhas76⟩:=i.at a9.1 a9.2 (by decide)
 obtain rfl:=QbB e3
 refine qt (.pointer (some i1)) Z (indexAddr (n:=a0.Brokers.length) underlying24 sz66 Z Z a9.1 a9.2 e2) (qt (.pointer (some (i1.add 0))) Z (Fa QhO Z Z) (qt (Iv ((rd a0.Brokers r).Id)) Z (loadM pl3 Z (IM.has0 hhas76)) (qt (pt q 0) Z (Fa QhO S Z) (qt (Iv j.Id) Z (Lb 1 pl3 Z Z Z) (qt (Bv (decide (((rd a0.Brokers r).Id)≠j.Id))) Z (neq Z Z) (Ti (Tc (Ch h Z (fun i2 h=> ?_) (fun i2 h=> ?_)))))))))
 refine WC.draw [0,1,0,4,0,28,60,124,255,511,1023] (.pure 0 (.pure 1 (.pure 2 (.pure 3 (.pure 4 (.pure 5 (.pure 6 (.alt 7 (.alt 8 (.pure 9 (.alt 10 .done .none)) .none) .none)))))))) Qc3 (by kernel_rfl) (qt (pt u 0) Z (Fa QeU t Z) (qt N Z (Lb 0 pl24 Z Z Z) (qt (pt y 0) Z (Fa QeU A Z) (qt d Z (Lb 4 pl24 Z Z Z) (qt (Iv r) Z (Mv B) ?_)))))
 obtain ⟨b0,h⟩:=Qa1 h
 obtain ⟨j5,k1,e4,e5,hhas84⟩:=i.at b0.1 b0.2 (by decide)
 obtain rfl:=QbB e5
 refine qt (.pointer (some j5)) Z (indexAddr (n:=a0.Brokers.length) underlying24 sz66 Z Z b0.1 b0.2 e4) (qt (a66_ (rd a0.Brokers r)) Z (loadMA (cs:=(l66 (rd a0.Brokers r))) ag66 sz66 Z hhas84) (Ta Z (buildSliceL (cl:=(l66 (rd a0.Brokers r))) underlying24 iz66 Z (Pc (a66_ (rd a0.Brokers r)) Z Z Pz) Z) Z ?_ ?_))
 rintro _ _ _ - ⟨rfl,i3,rfl,rfl⟩
 have j6:OwnS QaG h8 (.slice (some ⟨i3,0,none⟩) 1 1) [(rd a0.Brokers r)] [(i3, .cells (l66 (rd a0.Brokers r)).toArray 66 (0,0))]:=OwnS.rows (css:=[(l66 (rd a0.Brokers r))]) (Rows.cons (Qd3 (x:=(rd a0.Brokers r))) Rows.nil) Z Z
 refine⟨(Sk 5 Z (Ss Z (Lb 1 pl24 Z Z Z) Z (Ss Z (Fa QeU t Z) Z trivial))), ?_⟩
 obtain ⟨i4,h⟩:=Qa1 h
 refine WT.f6 (Ta Z (append (dd:=QaG) (xs:=c5) (ys:=[(rd a0.Brokers r)]) underlying24 underlying24 in66 Z (appB (by decide) i4) (by decide) Z Z c2 (j6.src 1 Z)) Z ?_ ?_)
 rintro e6 _ _ - ⟨rfl,j7,rfl,e7⟩
 refine⟨(Sl Z), ?_⟩
 refine qt (pt u 0) Z (Fa QeU t Z) (WT.f2 (Ta Z (Es e6 ((l29 a0 e6 a b c)) e7.cells sz24 Z Z (Ow e7) Z Z Z) Z ?_ ?_))
 rintro _ _ _ - ⟨rfl,rfl⟩
 refine⟨(Sl Z), ?_⟩
 refine Ti (Bn (Qb (Dr (Qa (WQ.f5 (WQ.f5 (WQ.f5 (WQ.f5 (WQ.f5 ?_)))))))))
 obtain rfl:=oi h
 exact Tj ⟨e6,j7,lr,Z,A,R,S,t,B,e7⟩
 exact Tz
 exact Tz
 exact Tz
 refine Ck (Bn ?_)
 obtain rfl:=oi h
 exact Tj ⟨N,X,lr,Z,A,R,S,t,B,c2⟩
 rintro l4 l5 l6 ⟨a7,a8,e8,rfl,c7,c8,c9,d0,d1,i5⟩
 exact Cg (qM (Iv r) d1 (qu (Iv (i64.wrap (r+1))) (add Z Z) (qa (Iv (i64.wrap (r+1))) (Wz (WQ.again (i64.wrap (r+1),c6) (oi h).symm ⟨a7,a8,(Y.trans e8),Z,c7,c8,c9,d0,Z,i5⟩)))))
 refine WC.exit (WQ.thenE (WQ.leaveE c5 (oi h).symm (fun e9=> ?_)))
 subst e9
 have h:=h7
 refine WQ.blockH ?_
 obtain rfl:=oi h
 exact Tj ⟨N,X,Y,Z,R,t,c2⟩
 rintro l7 l8 l9 ⟨w,c1,T,rfl,b1,d2,d5⟩
 refine Sr (qu (a29_ a0 w a b c) (La (cs:=(l29 a0 w a b c)) 0 ag29 sz29 d2 Z Z) (Wb ?_))
 have e:=e.mono (s.trans T)
 have f:=f.mono (s.trans T)
 have g:=g.mono (s.trans T)
 refine We (Sg (v:=(a29_ a0 w a b c)) (vl:=(l29 a0 w a b c)) (arr':=(l29 a0 w a b c)) Z sz29 b1 Z (QaX (Oc (Ow d5) (Oc (RS.one e) (Oc (RS.one f) (Oc (RS.one g) (Oc Z Oz)))))) Z Z Z) Z ?_
 rintro _ _ _ - ⟨rfl,rfl⟩
 refine qa (Iv 0) (Nt (Cr (Br (Tr ?_))))
 have h:=KK.early h W
 refine WQ.f5 (WQ.know (fun _ hs=>d5.rs hs) (fun i6=> ?_))
 refine WQ.freeze (fun U=> ?_)
 refine Qa (Dr (Qa (Dr (Qa (Dr (Qa (Dr ?_)))))))
 have e:=e.mono U
 have f:=f.mono U
 have g:=g.mono U
 exact Rd h [] (fun _ hs=>hs.drop) (QaP Z (RVs.cons (Rc (cs:=(l29 a0 w a b c)) 0 ag29 sz29 b1 Z Z) (RVs.cons (RV.tmp Z) RVs.nil))) (((k.trans s).trans T).trans U) ⟨w,a,b,c,Z,Z,i6,e,f,g⟩
 rintro ⟨b7,b8⟩ m0 m1 m2 rfl ⟨K,rfl,d3,b2,d4,b3⟩
 have h:=(Sum.elim_inl _ _ _).symm.trans h
 refine Sr (qu (pt y 0) (Fa QeU d3 Z) (qu d (Lb 4 pl24 Z Z Z) (qu (.agg #[(Iv j.Id),(Iv j.Epoch),(Sv j.Rack),(Bv b7),(Bv b8)]) (La (cs:=[(Iv j.Id),(Iv j.Epoch),(Sv j.Rack),(Bv b7),(Bv b8)]) 1 ag66 sz66 d4 Z Z) ?_)))
 obtain ⟨j8,i7,h⟩:=bnd h
 have i:=i.mono K
 refine We (Ca Q5Q (QkH a0.Brokers (⟨j.Id,j.Epoch,j.Rack,b7,b8⟩:QaD) _ _ i j8 i7) (QaS Z Z)) Z ?_
 rintro _ m3 _ V ⟨_,⟨C,k2,rfl,rfl,b4⟩,rfl⟩
 refine WL.a1 (qu (pt u 0) (Fa QeU b3 Z) (WL.f1 (We (Es C ((l29 a0 C a b c)) b4.cells sz24 Z Z (Ow b4) Z Z Z) Z ?_)))
 rintro _ _ _ - ⟨rfl,rfl⟩
 refine Ns (qu (a29_ a0 C a b c) (La (cs:=(l29 a0 C a b c)) 0 ag29 sz29 b3 Z Z) (WL.f3 ?_))
 have e:=e.mono (K.trans V)
 have f:=f.mono (K.trans V)
 have g:=g.mono (K.trans V)
 refine We (Sg (v:=(a29_ a0 C a b c)) (vl:=(l29 a0 C a b c)) (arr':=(l29 a0 C a b c)) Z sz29 b2 Z (QaX (Oc (Ow b4) (Oc (RS.one e) (Oc (RS.one f) (Oc (RS.one g) (Oc Z Oz)))))) Z Z Z) Z ?_
 rintro _ _ _ - ⟨rfl,rfl⟩
 refine qa (Iv 0) (Nt (Cr (Qb (WQ.know (fun _ hs=>b4.rs hs) (fun f0=> ?_)))))
 refine WQ.freeze (fun J=> ?_)
 refine Qa (Dr (Qa (Dr (Qa (Dr (Qa (Dr ?_)))))))
 have e:=e.mono J
 have f:=f.mono J
 have g:=g.mono J
 exact Rd h [] (fun _ hs=>hs.drop) (QaP Z (RVs.cons (Rc (cs:=(l29 a0 C a b c)) 0 ag29 sz29 b2 Z Z) (RVs.cons (RV.tmp Z) RVs.nil))) (((k.trans K).trans V).trans J) ⟨C,a,b,c,Z,Z,f0,e,f,g⟩
noncomputable def QiB (a0:QaA) (a1:Int) (b:Int):Option (Int⊕(Unit⊕(Int×ByteArray×(List QaK)))):=
 match b with
 |a=>
 (if(decide (a<(a0.Topics.length:Int)))=true then(grd (0≤a∧a<a0.Topics.length) (if(decide (((rd a0.Topics a).Id)=a1))=true then(grd (0≤a∧a<a0.Topics.length) (some (inr (inr ((rd a0.Topics a).Id,(rd a0.Topics a).Name,(rd a0.Topics a).Parts)))))else(some (inl (i64.wrap (a+(1:Int)))))))else(some (inr (inl ()))))
noncomputable def Qe7 (a0:QaA) (a1:Int):Option (QaE×Bool):=
 ((((iter (QiB a0 a1) (0:Int)).bind (Sum.elim (fun _=>(some (inl ()))) (fun(a,b,c)=>(((some ((⟨a,b,c⟩:QaE),true))).bind fun r=>some (inr r))))):Option (Unit⊕(QaE×Bool))).bind (Sum.elim (fun _=>(some ((⟨(0:Int),(⟨#[]⟩:ByteArray),[]⟩:QaE),false))) some))
def QqI (a0:QaA) (a1:Int) (c d e f:Value):(QaE×Bool)→Value→IM→HL→Prop:=
 fun(g:(QaE×Bool)) (v:Value) (i:IM) (j:HL)=>match g with |(b,k)=>∃ a,(.tuple #[(.agg #[(.int .i64 b.Id),(.string b.Name),a]),(.bool k)])=v∧j=[]∧RS QbD i a b.Parts
theorem QiC (a0:QaA) (a1:Int) (M:IM) (g c i j:Value) (T:RS QaG M g a0.Brokers) (l:RS QaI M c a0.Topics) (U:RS QaH M i a0.Configs) (V:RS QaL M j a0.Done) (D:(QaE×Bool)) (h:Qe7 a0 a1=some D):
 Tri prog 96 #[(a29_ a0 g c i j),(Iv a1)] M [] (QqI a0 a1 g c i j D):=by
 unfold Qe7 at h
 refine Te func96 Z Z ?_
 intro F ρ W
 refine Sr (We (box (cs:=(l29 a0 g c i j).toArray) (congrArg Value.cells (asE (a29_ a0 g c i j) (W 0)))) Z ?_)
 rintro _ _ _ - ⟨rfl,t,rfl,rfl⟩
 refine We (Al ze50 Z) Z ?_
 rintro _ _ _ - ⟨rfl,u,rfl,rfl⟩
 refine qa (Bv false) (Nt ?_)
 obtain ⟨P,E,h⟩:=bnd h
 refine WC.joinE (fun(_:Unit) C Q R=>M.le Q∧[(u, .cells #[(Iv 0),(Sv ⟨#[]⟩),Zs] 50 (0,0))]::[(t, .cells (l29 a0 g c i j).toArray 29 (0,0))]::F=R∧C 4=(pt u 0)) P ?_ ?_
 have G:=h
 have h:=E
 refine Sr (qa (Iv 0) (Nt (Bk ?_)))
 obtain ⟨a2,I,w⟩:=bnd h
 clear h
 refine WC.loop I (fun(a:Int) C Q R=>M.le Q∧[(u, .cells #[(Iv 0),(Sv ⟨#[]⟩),Zs] 50 (0,0))]::[(t, .cells (l29 a0 g c i j).toArray 29 (0,0))]::F=R∧C 1=(Iv a1)∧C 2=(pt t 0)∧C 4=(pt u 0)∧C 6=(Iv a)) ?_ ?_
 exact⟨lr,Z,(W 1),Z,Z,Z⟩
 rintro a a3 a4 a5 a6 h ⟨k,rfl,o,d,e,f⟩
 unfold QiB at h
 refine Cs (Sr (qM (Iv a) f (qu (pt t 1) (Fa QcB d Z) (qu c (Lb 1 pl25 Z Z Z) ?_))))
 have l:=l.mono k
 refine qu (Iv (a0.Topics.length:Int)) (lenS underlying25 Z l.len) (qu (Bv (decide (a<(a0.Topics.length:Int)))) (lss Z Z) (Nt (Ch h Z (fun J h=> ?_) (fun J h=> ?_))))
 refine Ck (Tc (Cs (Bk (Sr (qu (pt t 1) (Fa QcB d Z) (qu c (Lb 1 pl25 Z Z Z) (qM (Iv a) f ?_)))))))
 obtain ⟨p,h⟩:=Qa1 h
 obtain ⟨K,X,x,y,hhas35⟩:=l.at p.1 p.2 (by decide)
 obtain ⟨N,rfl,O⟩:=QaW y
 refine qu (.pointer (some K)) (indexAddr (n:=a0.Topics.length) underlying25 sz50 Z Z p.1 p.2 x) (qu (.pointer (some (K.add 0))) (Fa QkJ Z Z) (qu (Iv ((rd a0.Topics a).Id)) (loadM pl3 Z (IM.has0 hhas35)) (qM (Iv a1) o (qu (Bv (decide (((rd a0.Topics a).Id)=a1))) (eql Z Z) (Nt (Ch h Z (fun L h=> ?_) (fun L h=> ?_)))))))
 refine Sr (qu (pt t 1) (Fa QcB d Z) (qu c (Lb 1 pl25 Z Z Z) (qM (Iv a) f ?_)))
 obtain ⟨q,h⟩:=Qa1 h
 obtain ⟨S,Y,z,A,hhas43⟩:=l.at q.1 q.2 (by decide)
 obtain ⟨b,rfl,r⟩:=QaW A
 refine qu (.pointer (some S)) (indexAddr (n:=a0.Topics.length) underlying25 sz50 Z Z q.1 q.2 z) (qu (a50_ (rd a0.Topics a) b) (loadMA (cs:=(l50 (rd a0.Topics a) b)) ag50 sz50 Z hhas43) (We (Sg (v:=(a50_ (rd a0.Topics a) b)) (vl:=(l50 (rd a0.Topics a) b)) (arr':=(l50 (rd a0.Topics a) b)) Z sz50 e Z (QaX (Oc Z (Oc Z (Oc (RS.one r) Oz)))) Z Z Z) Z ?_))
 rintro _ _ _ - ⟨rfl,rfl⟩
 refine qa (Bv true) (Nt (Cr (Br (Tr (WQ.leaveR (inr ((rd a0.Topics a).Id,(rd a0.Topics a).Name,(rd a0.Topics a).Parts)) (oi h).symm (fun m=> ?_))))))
 subst m
 have h:=(QdZ w)
 refine Br (Tr ?_)
 have h:=KK.early h G
 exact Qa (Dr (Rd h [] (fun _ hs=>hs.drop) (QaP Z (RVs.cons (Rc (cs:=(l50 (rd a0.Topics a) b)) 0 ag50 sz50 e Z Z) (RVs.cons (RV.tmp Z) RVs.nil))) k ⟨b,Z,Z,r⟩))
 exact Ck (Bn (Tc (Cg (qM (Iv a) f (qu (Iv (i64.wrap (a+1))) (add Z Z) (qa (Iv (i64.wrap (a+1))) (Wz (WQ.again (i64.wrap (a+1)) (oi h).symm ⟨k,Z,o,d,e,Z⟩))))))))
 refine WC.exit (WQ.thenE (WQ.leaveE (inl ()) (oi h).symm (fun m=> ?_)))
 subst m
 have h:=QeV w
 exact WQ.blockH (WQ.thenFE h ⟨k,Z,e⟩)
 rintro _ a7 a8 a9 rfl ⟨B,rfl,s⟩
 have h:=(Sum.elim_inl _ _ _).symm.trans h
 refine Sr (qu (.agg #[(Iv 0),(Sv ⟨#[]⟩),Zs]) (Bl (cl:=[(Iv 0),(Sv ⟨#[]⟩),Zs]) ze50 fp50 Pz Z) (We (Sg (v:=(.agg #[(Iv 0),(Sv ⟨#[]⟩),Zs])) (vl:=[(Iv 0),(Sv ⟨#[]⟩),Zs]) (arr':=[(Iv 0),(Sv ⟨#[]⟩),Zs]) Z sz50 s Z (onb Z) Z Z Z) Z ?_))
 rintro _ _ _ - ⟨rfl,rfl⟩
 exact qa (Bv false) (Nt (Cr (Qa (Dr (Rd h [] (fun _ hs=>hs.drop) (QaP Z (RVs.cons (Rc (cs:=[(Iv 0),(Sv ⟨#[]⟩),Zs]) 0 ag50 sz50 s Z Z) (RVs.cons (RV.tmp Z) RVs.nil))) B ⟨Zs,Z,Z,RS.nil _ _⟩)))))
noncomputable def QhR (a0:QaA) (a1:Int):Option Bool:=
 ((QeE a0 a1).bind fun(a,b)=>(((if b=true then(some (!a.Fenced))else(some false)):Option Bool).bind fun c=>(some c)))
def QqJ (a0:QaA) (a1:Int) (a b c d:Value):Bool→Value→IM→HL→Prop:=
 fun(e:Bool) (v:Value) (g:IM) (f:HL)=>(.bool e)=v∧f=[]
theorem QtD (a0:QaA) (a1:Int) (M:IM) (a b c d:Value) (m:RS QaG M a a0.Brokers) (n:RS QaI M b a0.Topics) (o:RS QaH M c a0.Configs) (p:RS QaL M d a0.Done) (q:Bool) (h:QhR a0 a1=some q):
 Tri prog 129 #[(a29_ a0 a b c d),(Iv a1)] M [] (QqJ a0 a1 a b c d q):=by
 unfold QhR at h
 refine Te func129 Z Z ?_
 intro F E x
 refine Sr (We (box (cs:=(l29 a0 a b c d).toArray) (congrArg Value.cells (asE (a29_ a0 a b c d) (x 0)))) Z ?_)
 rintro _ _ _ - ⟨rfl,u,rfl,rfl⟩
 refine qa (Bv false) (Ns (qu (a29_ a0 a b c d) (La (cs:=(l29 a0 a b c d)) 0 ag29 sz29 Z Z Z) (qM (Iv a1) (x 1) ?_)))
 obtain ⟨⟨e,g⟩,r,h⟩:=bnd h
 refine We (Ca Q1D (QfV a0 a1 _ _ _ _ _ m n o p (e,g) r) (QaS Z Z)) Z ?_
 rintro _ w _ j ⟨_,⟨rfl,rfl⟩,rfl⟩
 refine WL.a0 (qm (.tuple #[(a66_ e),(Bv g)]) (qu (a66_ e) (Xt Z Z) (qu (Bv g) (Xt Z Z) (We (Al ze66 Z) Z ?_))))
 rintro _ _ _ - ⟨rfl,s,rfl,rfl⟩
 refine We (Sg (v:=(a66_ e)) (vl:=(l66 e)) (arr':=(l66 e)) Z sz66 Z Z (onb Z) Z Z Z) Z ?_
 rintro _ _ _ - ⟨rfl,rfl⟩
 refine qa (Bv g) (Nt ?_)
 obtain ⟨k,t,h⟩:=bnd h
 refine Jf (fun(k:Bool) y z A=>w.le z∧[(s, .cells (l66 e).toArray 66 (0,0))]::[(u, .cells (l29 a0 a b c d).toArray 29 (0,0))]::F=A∧y 4=(Bv k)) k ?_ ?_
 have h:=t
 refine Cg (qm (Bv g) (qm (Bv g) ?_))
 rcases Bi h with⟨f,h⟩ |⟨f,h⟩
 refine qo 14 f (pt s 3) (Fa Qn8 Z Z) (qo 14 f (Bv e.Fenced) (Lb 0 pl4 Z Z Z) (qo 14 f (Bv (!e.Fenced)) (PO.not Z) (qu (Bv (!e.Fenced)) (Pt Z f Z) (qa (Bv (!e.Fenced)) (Wz ?_)))))
 obtain rfl:=oi h
 exact Tj ⟨lr,Z,Z⟩
 iterate 3 refine Of 14 Z Z f Z ?_
 refine qu (Bv false) (Pf Z f Z) (qa (Bv false) (Wz ?_))
 obtain rfl:=oi h
 exact Tj ⟨lr,Z,Z⟩
 rintro B C D ⟨l,rfl,i⟩
 exact Cr (Dr (Dr (Rf h [] Z (Rs Z i) (j.trans l) ⟨Z,Z⟩)))
noncomputable def QgF (a0:QaA) (a1:QaK) (d:Int):Option (Int⊕(Unit⊕Unit)):=
 match d with
 |a=>
 (if(decide (a<(a1.Ids.length:Int)))=true then(((grd (0≤a∧a<a1.Ids.length) ((QeE a0 (rd a1.Ids a)).bind fun(e,b)=>(some b))):Option Bool).bind fun c=>(if(!c)=true then(some (inr (inr ())))else(some (inl (i64.wrap (a+(1:Int)))))))else(some (inr (inl ()))))
noncomputable def QgG (a1:QaK) (c:Int):Option (Int⊕(Unit⊕Unit)):=
 match c with
 |a=>
 (if(decide (a<(a1.Isr.length:Int)))=true then(grd (0≤a∧a<a1.Isr.length) ((QeL a1.Ids (rd a1.Isr a)).bind fun b=>(if(!b)=true then(some (inr (inr ())))else(some (inl (i64.wrap (a+(1:Int))))))))else(some (inr (inl ()))))
noncomputable def QgH (a1:QaK) (e:Int):Option (Int⊕(Unit⊕Unit)):=
 match e with
 |a=>
 (if(decide (a<(a1.Add.length:Int)))=true then(((grd (0≤a∧a<a1.Add.length) ((QeL a1.Ids (rd a1.Add a)).bind fun b=>(if(!b)=true then(some true)else(grd (0≤a∧a<a1.Add.length) ((QeL a1.Drop (rd a1.Add a)).bind fun c=>(some c)))))):Option Bool).bind fun d=>(if d=true then(some (inr (inr ())))else(some (inl (i64.wrap (a+(1:Int)))))))else(some (inr (inl ()))))
noncomputable def QgI (a1:QaK) (c:Int):Option (Int⊕(Unit⊕Unit)):=
 match c with
 |a=>
 (if(decide (a<(a1.Drop.length:Int)))=true then(grd (0≤a∧a<a1.Drop.length) ((QeL a1.Ids (rd a1.Drop a)).bind fun b=>(if(!b)=true then(some (inr (inr ())))else(some (inl (i64.wrap (a+(1:Int))))))))else(some (inr (inl ()))))
noncomputable def QhS (a0:QaA) (a1:QaK):Option Int:=
 (if(decide ((a1.Ids.length:Int)=(0:Int)))=true then(some (18:Int))else((((iter (QgF a0 a1) (0:Int)).bind (Sum.elim (fun _=>(some (inl ()))) (fun _=>(((some (18:Int))).bind fun r=>some (inr r))))):Option (Unit⊕Int)).bind (Sum.elim (fun _=>(if(decide ((a1.Isr.length:Int)=(0:Int)))=true then(some (18:Int))else((((iter (QgG a1) (0:Int)).bind (Sum.elim (fun _=>(some (inl ()))) (fun _=>(((some (18:Int))).bind fun r=>some (inr r))))):Option (Unit⊕Int)).bind (Sum.elim (fun _=>(((if(decide (a1.Leader≠(0:Int)))=true then((QeL a1.Isr a1.Leader).bind fun a=>(if(!a)=true then(some true)else((QhR a0 a1.Leader).bind fun b=>(some (!b)))))else(some false)):Option Bool).bind fun c=>(if c=true then(some (17:Int))else((((iter (QgH a1) (0:Int)).bind (Sum.elim (fun _=>(some (inl ()))) (fun _=>(((some (18:Int))).bind fun r=>some (inr r))))):Option (Unit⊕Int)).bind (Sum.elim (fun _=>((((iter (QgI a1) (0:Int)).bind (Sum.elim (fun _=>(some (inl ()))) (fun _=>(((some (18:Int))).bind fun r=>some (inr r))))):Option (Unit⊕Int)).bind (Sum.elim (fun _=>(some (0:Int))) some))) some))))) some)))) some)))
def QqK (a0:QaA) (a1:QaK) (a b c d e f g i:Value):Int→Value→IM→HL→Prop:=
 fun(j:Int) (v:Value) (l:IM) (k:HL)=>(.int .i64 j)=v∧k=[]
theorem QmP (a0:QaA) (a1:QaK) (M:IM) (c d e f g i j k:Value) (K:RS QaG M c a0.Brokers) (L:RS QaI M d a0.Topics) (N:RS QaH M e a0.Configs) (O:RS QaL M f a0.Done) (m:RS (Kd.int .i64) M g a1.Ids) (y:RS (Kd.int .i64) M i a1.Isr) (P:RS (Kd.int .i64) M j a1.Add) (Q:RS (Kd.int .i64) M k a1.Drop) (h6:Int) (h:QhS a0 a1=some h6):
 Tri prog 109 #[(a29_ a0 c d e f),(a53_ a1 g i j k)] M [] (QqK a0 a1 c d e f g i j k h6):=by
 unfold QhS at h
 refine Te func109 Z Z ?_
 intro F ρ m3
 refine Sr (We (box (cs:=(l29 a0 c d e f).toArray) (congrArg Value.cells (asE (a29_ a0 c d e f) (m3 0)))) Z ?_)
 rintro _ _ _ - ⟨rfl,x,rfl,rfl⟩
 refine We (box (cs:=(l53 a1 g i j k).toArray) (congrArg Value.cells (asE (a53_ a1 g i j k) (m3 1)))) Z ?_
 rintro _ _ _ - ⟨rfl,a,rfl,rfl⟩
 refine qa (Iv 0) (Nt (Cs (Sr (qu (pt a 0) (Fa QiN Z Z) (qu g (Lb 0 pl51 Z Z Z) (qu (Iv (a1.Ids.length:Int)) (lenS underlying51 Z m.len) (qu (Bv (decide ((a1.Ids.length:Int)=(0:Int)))) (eql Z Z) (Nt (Ch h Z (fun h7 h=> ?_) (fun h7 h=> ?_))))))))))
 exact Sr (qa (Iv 18) (Nt (Cr (Tr (Dr (Dr (Rf h [] Z (Rs Z Z) lr ⟨Z,Z⟩)))))))
 refine Ck (Tc ?_)
 obtain ⟨l2,h8,h⟩:=bnd h
 refine WC.joinE (fun(_:Unit) t U V=>M.le U∧[(a, .cells (l53 a1 g i j k).toArray 53 (0,0))]::[(x, .cells (l29 a0 c d e f).toArray 29 (0,0))]::F=V∧t 2=(pt x 0)∧t 3=(pt a 0)) l2 ?_ ?_
 have h9:=h
 have h:=h8
 refine Sr (qa (Iv 0) (Nt (Bk ?_)))
 obtain ⟨n8,i0,e9⟩:=bnd h
 clear h
 refine WC.loop i0 (fun(E:Int) t U V=>M.le U∧[(a, .cells (l53 a1 g i j k).toArray 53 (0,0))]::[(x, .cells (l29 a0 c d e f).toArray 29 (0,0))]::F=V∧t 2=(pt x 0)∧t 3=(pt a 0)∧t 5=(Iv E)) ?_ ?_
 exact⟨lr,Z,Z,Z,Z⟩
 rintro E n9 o0 l3 o1 h ⟨r,rfl,u,p,w⟩
 unfold QgF at h
 refine Cs (Sr (qM (Iv E) w (qu (pt a 0) (Fa QiN p Z) (qu g (Lb 0 pl51 Z Z Z) ?_))))
 have m:=m.mono r
 refine qu (Iv (a1.Ids.length:Int)) (lenS underlying51 Z m.len) (qu (Bv (decide (E<(a1.Ids.length:Int)))) (lss Z Z) (Nt (Ch h Z (fun i1 h=> ?_) (fun i1 h=> ?_))))
 refine Ck (Tc (Cs (Bk ?_)))
 obtain ⟨b7,i2,h⟩:=bnd h
 refine Jf (fun(b7:Bool) t U V=>l3.le U∧[(a, .cells (l53 a1 g i j k).toArray 53 (0,0))]::[(x, .cells (l29 a0 c d e f).toArray 29 (0,0))]::F=V∧t 2=(pt x 0)∧t 3=(pt a 0)∧t 5=(Iv E)∧t 7=(Bv b7)) b7 ?_ ?_
 have h:=i2
 refine WC.draw [0,0,2,0,14,30,63,127,255,255,0,1535,4095] (.pure 0 (.pure 1 (.pure 2 (.pure 3 (.pure 4 (.pure 5 (.alt 6 (.pure 7 (.pure 8 (.pure 9 (.alt 10 (.alt 11 (.pure 12 .done) .none) .none)))) (.alt 10 (.alt 6 (.pure 7 (.pure 8 (.pure 9 (.alt 11 (.pure 12 .done) .none)))) .none) .none)))))))) Qc3 (by kernel_rfl) (qt (a29_ a0 c d e f) Z (La (cs:=(l29 a0 c d e f)) 1 ag29 sz29 u Z Z) (qt (pt a 0) Z (Fa QiN p Z) (qt g Z (Lb 0 pl51 Z Z Z) (qt (Iv E) Z (Mv w) ?_))))
 obtain ⟨I,h⟩:=Qa1 h
 obtain ⟨l4,m4,a4,f4,hhas35⟩:=m.at I.1 I.2 (by decide)
 obtain rfl:=f4
 refine qt (.pointer (some l4)) Z (indexAddr (n:=a1.Ids.length) underlying51 sz3 Z Z I.1 I.2 a4) (qt (Iv (rd a1.Ids E)) Z (loadM pl3 Z (IM.has0 hhas35)) ?_)
 have i3:=h
 obtain ⟨⟨b5,c8⟩,i4,h⟩:=bnd h
 have K:=K.mono r
 have L:=L.mono r
 have N:=N.mono r
 have O:=O.mono r
 refine Ta Z (Ca Q1D (QfV a0 (rd a1.Ids E) _ _ _ _ _ K L N O (b5,c8) i4) (QaS Z Z)) Z ?_ ?_
 rintro _ o2 _ b8 ⟨_,⟨rfl,rfl⟩,rfl⟩
 refine⟨(Sl Z), ?_⟩
 refine WT.a0 (qt (.tuple #[(a66_ b5),(Bv c8)]) Z (Mv Z) (qt (a66_ b5) Z (Xt Z Z) (qt (Bv c8) Z (Xt Z Z) (Ta Z (Al ze66 Z) Z ?_ ?_))))
 rintro _ _ _ - ⟨rfl,o3,rfl,rfl⟩
 have hhas35:=hhas35.mono b8
 refine⟨(Ss Z (Xt Z Z) Z (Ss Z (Xt Z Z) Z (Ss Z (Mv Z) Z (Ss Z (loadM pl3 Z (IM.has0 hhas35)) Z (Ss Z (indexAddr (n:=a1.Ids.length) underlying51 sz3 Z Z I.1 I.2 a4) Z (Ss Z (Mv w) Z (Ss Z (Lb 1 pl51 Z Z Z) Z (Ss Z (Fa QiN p Z) Z (Ss Z (La (cs:=(l29 a0 c d e f)) 2 ag29 sz29 u Z Z) Z trivial))))))))), ?_⟩
 refine Ta Z (Sg (v:=(a66_ b5)) (vl:=(l66 b5)) (arr':=(l66 b5)) Z sz66 Z Z (onb Z) Z Z Z) Z ?_ ?_
 rintro _ _ _ - ⟨rfl,rfl⟩
 refine⟨(Ss Z (Xt Z Z) Z (Sl Z)), ?_⟩
 refine qt (Bv c8) Z (Ag Z) (Ti (Dr ?_))
 obtain rfl:=oi h
 exact Tj ⟨b8,Z,u,p,w,Z⟩
 exact Tz
 exact Tz
 have h:=i3
 refine Ta Z (Al ze66 Z) Z ?_ ?_
 rintro _ _ _ - ⟨rfl,o4,rfl,rfl⟩
 refine⟨(Ss Z (loadM pl3 Z (IM.has0 hhas35)) Z (Ss Z (indexAddr (n:=a1.Ids.length) underlying51 sz3 Z Z I.1 I.2 a4) Z (Ss Z (Mv w) Z (Ss Z (Lb 1 pl51 Z Z Z) Z (Ss Z (Fa QiN p Z) Z (Ss Z (La (cs:=(l29 a0 c d e f)) 2 ag29 sz29 u Z Z) Z trivial)))))), ?_⟩
 obtain ⟨⟨b6,c9⟩,i5,h⟩:=bnd h
 refine Ta Z (Ca Q1D (QfV a0 (rd a1.Ids E) _ _ _ _ _ K L N O (b6,c9) i5) (QaS Z Z)) Z ?_ ?_
 rintro _ o5 _ f5 ⟨_,⟨rfl,rfl⟩,rfl⟩
 refine⟨(Sl Z), ?_⟩
 refine WT.a0 (qt (.tuple #[(a66_ b6),(Bv c9)]) Z (Mv Z) (qt (a66_ b6) Z (Xt Z Z) (qt (Bv c9) Z (Xt Z Z) (Ta Z (Sg (v:=(a66_ b6)) (vl:=(l66 b6)) (arr':=(l66 b6)) Z sz66 Z Z (onb Z) Z Z Z) Z ?_ ?_))))
 rintro _ _ _ - ⟨rfl,rfl⟩
 refine⟨(Ss Z (Xt Z Z) Z (Sl Z)), ?_⟩
 refine qt (Bv c9) Z (Ag Z) (Ti (Dr ?_))
 obtain rfl:=oi h
 exact Tj ⟨f5,Z,u,p,w,Z⟩
 exact Tz
 exact Tz
 exact Tz
 rintro o6 o7 o8 ⟨b9,rfl,d0,d1,d2,d3⟩
 refine Sr (qM (Bv b7) d3 (qu (Bv (!b7)) (PO.not Z) (Nt (Ch h Z (fun i6 h=> ?_) (fun i6 h=> ?_)))))
 refine Sr (qa (Iv 18) (Nt (Cr (Br (Tr (WQ.leaveR (inr ()) (oi h).symm (fun a5=> ?_)))))))
 subst a5
 have h:=(QdZ e9)
 refine Br (Tr ?_)
 have h:=KK.early h h9
 exact Dr (Dr (Rf h [] Z (Rs Z Z) (r.trans b9) ⟨Z,Z⟩))
 exact Ck (Bn (Tc (Cg (qM (Iv E) d2 (qu (Iv (i64.wrap (E+1))) (add Z Z) (qa (Iv (i64.wrap (E+1))) (Wz (WQ.again (i64.wrap (E+1)) (oi h).symm ⟨(r.trans b9),Z,d0,d1,Z⟩))))))))
 refine WC.exit (WQ.thenE (WQ.leaveE (inl ()) (oi h).symm (fun a5=> ?_)))
 subst a5
 have h:=QeV e9
 exact WQ.blockH (WQ.thenFE h ⟨r,Z,u,p⟩)
 rintro _ o9 i7 p0 rfl ⟨R,rfl,d4,b0⟩
 have h:=(Sum.elim_inl _ _ _).symm.trans h
 refine Cs (Sr (qu (pt a 1) (Fa QlA b0 Z) (qu i (Lb 0 pl51 Z Z Z) ?_)))
 have y:=y.mono R
 refine qu (Iv (a1.Isr.length:Int)) (lenS underlying51 Z y.len) (qu (Bv (decide ((a1.Isr.length:Int)=(0:Int)))) (eql Z Z) (Nt (Ch h Z (fun i8 h=> ?_) (fun i8 h=> ?_))))
 exact Sr (qa (Iv 18) (Nt (Cr (Tr (Dr (Dr (Rf h [] Z (Rs Z Z) R ⟨Z,Z⟩)))))))
 refine Ck (Tc ?_)
 obtain ⟨l5,i9,h⟩:=bnd h
 refine WC.joinE (fun(_:Unit) t U V=>i7.le U∧[(a, .cells (l53 a1 g i j k).toArray 53 (0,0))]::[(x, .cells (l29 a0 c d e f).toArray 29 (0,0))]::F=V∧t 2=(pt x 0)∧t 3=(pt a 0)) l5 ?_ ?_
 have j0:=h
 have h:=i9
 refine Sr (qa (Iv 0) (Nt (Bk ?_)))
 obtain ⟨p1,j1,f0⟩:=bnd h
 clear h
 refine WC.loop j1 (fun(S:Int) t U V=>i7.le U∧[(a, .cells (l53 a1 g i j k).toArray 53 (0,0))]::[(x, .cells (l29 a0 c d e f).toArray 29 (0,0))]::F=V∧t 2=(pt x 0)∧t 3=(pt a 0)∧t 8=(Iv S)) ?_ ?_
 exact⟨lr,Z,d4,b0,Z⟩
 rintro S p2 p3 p4 p5 h ⟨T,rfl,b1,A,W⟩
 unfold QgG at h
 refine Cs (Sr (qM (Iv S) W (qu (pt a 1) (Fa QlA A Z) (qu i (Lb 0 pl51 Z Z Z) ?_))))
 have y:=y.mono T
 refine qu (Iv (a1.Isr.length:Int)) (lenS underlying51 Z y.len) (qu (Bv (decide (S<(a1.Isr.length:Int)))) (lss Z Z) (Nt (Ch h Z (fun j2 h=> ?_) (fun j2 h=> ?_))))
 refine Ck (Tc (Cs (Bk (Cs (WC.draw [0,1,0,4,0,28,60,127,255] (.pure 0 (.pure 1 (.pure 2 (.pure 3 (.pure 4 (.pure 5 (.pure 6 (.alt 7 (.pure 8 .done) .none)))))))) Qc3 (by kernel_rfl) (qt (pt a 0) Z (Fa QiN A Z) (qt g Z (Lb 0 pl51 Z Z Z) (qt (pt a 1) Z (Fa QlA A Z) (qt i Z (Lb 0 pl51 Z Z Z) (qt (Iv S) Z (Mv W) ?_))))))))))
 obtain ⟨b2,h⟩:=Qa1 h
 obtain ⟨l6,m5,f6,f7,hhas65⟩:=y.at b2.1 b2.2 (by decide)
 obtain rfl:=f7
 refine qt (.pointer (some l6)) Z (indexAddr (n:=a1.Isr.length) underlying51 sz3 Z Z b2.1 b2.2 f6) (qt (Iv (rd a1.Isr S)) Z (loadM pl3 Z (IM.has0 hhas65)) ?_)
 obtain ⟨j3,j4,h⟩:=bnd h
 have m:=m.mono (R.trans T)
 refine Ta Z (Ca Q0M (QgT a1.Ids (rd a1.Isr S) _ _ m j3 j4) (QaS Z Z)) Z ?_ ?_
 rintro _ p6 _ c0 ⟨_,⟨rfl,rfl⟩,rfl⟩
 refine⟨(Sl Z), ?_⟩
 refine WT.a0 (qt (Bv (!j3)) Z (PO.not Z) (Ti (Tc (Ch h Z (fun j5 h=> ?_) (fun j5 h=> ?_)))))
 refine Sr (qa (Iv 18) (Nt (Cr (Br (Tr (WQ.leaveR (inr ()) (oi h).symm (fun a6=> ?_)))))))
 subst a6
 have h:=(QdZ f0)
 refine Br (Tr ?_)
 have h:=KK.early h j0
 exact Dr (Dr (Rf h [] Z (Rs Z Z) ((R.trans T).trans c0) ⟨Z,Z⟩))
 exact Ck (Bn (Tc (Cg (qM (Iv S) W (qu (Iv (i64.wrap (S+1))) (add Z Z) (qa (Iv (i64.wrap (S+1))) (Wz (WQ.again (i64.wrap (S+1)) (oi h).symm ⟨(T.trans c0),Z,b1,A,Z⟩))))))))
 exact Tz
 refine WC.exit (WQ.thenE (WQ.leaveE (inl ()) (oi h).symm (fun a6=> ?_)))
 subst a6
 have h:=QeV f0
 exact WQ.blockH (WQ.thenFE h ⟨T,Z,b1,A⟩)
 rintro _ p7 l7 p8 rfl ⟨c1,rfl,d5,q⟩
 have j6:=R.trans c1
 have h:=(Sum.elim_inl _ _ _).symm.trans h
 refine Cs ?_
 obtain ⟨f8,j7,h⟩:=bnd h
 refine Jf (fun(f8:Bool) t U V=>l7.le U∧[(a, .cells (l53 a1 g i j k).toArray 53 (0,0))]::[(x, .cells (l29 a0 c d e f).toArray 29 (0,0))]::F=V∧t 3=(pt a 0)∧t 71=(Bv f8)) f8 ?_ ?_
 have h:=j7
 refine Cg (qu (pt a 2) (Fa QkK q Z) (qu (Iv a1.Leader) (Lb 0 pl3 Z Z Z) (qu (Bv (decide (a1.Leader≠0))) (neq Z Z) (qm (Bv (decide (a1.Leader≠0))) ?_))))
 rcases Bi h with⟨l,h⟩ |⟨l,h⟩
 refine qo 57 l (pt a 1) (Fa QlA q Z) (qo 57 l i (Lb 0 pl51 Z Z Z) (qo 57 l (pt a 2) (Fa QkK q Z) (qo 57 l (Iv a1.Leader) (Lb 0 pl3 Z Z Z) (On 57 Z Z l ?_))))
 obtain ⟨f9,j8,h⟩:=bnd h
 have y:=y.mono c1
 refine We (Ca Q0M (QgT a1.Isr a1.Leader _ _ y f9 j8) (QaS Z Z)) Z ?_
 rintro _ p9 _ a7 ⟨_,⟨rfl,rfl⟩,rfl⟩
 have d6:=j6.trans a7
 refine WL.a0 (qo 57 l (Bv (!f9)) (PO.not Z) (On 57 Z Z l (qm (Bv (!f9)) ?_)))
 rcases Bi h with⟨B,h⟩ |⟨B,h⟩
 iterate 5 refine Of 64 Z Z B Z ?_
 refine qo 57 l (Bv true) (Pt Z B Z) (qu (Bv true) (Pt Z l Z) (Wz ?_))
 obtain rfl:=oi h
 exact Tj ⟨a7,Z,q,Z⟩
 refine qo 64 B (a29_ a0 c d e f) (La (cs:=(l29 a0 c d e f)) 1 ag29 sz29 d5 Z Z) (qo 64 B (pt a 2) (Fa QkK q Z) (qo 64 B (Iv a1.Leader) (Lb 0 pl3 Z Z Z) (On 64 Z Z B ?_)))
 obtain ⟨d7,j9,h⟩:=bnd h
 have K:=K.mono d6
 have L:=L.mono d6
 have N:=N.mono d6
 have O:=O.mono d6
 refine We (Ca Q7V (QtD a0 a1.Leader _ _ _ _ _ K L N O d7 j9) (QaS Z Z)) Z ?_
 rintro _ q0 _ g0 ⟨_,⟨rfl,rfl⟩,rfl⟩
 refine WL.a0 (qo 64 B (Bv (!d7)) (PO.not Z) (qo 57 l (Bv (!d7)) (Pf Z B Z) (qu (Bv (!d7)) (Pt Z l Z) (Wz ?_))))
 obtain rfl:=oi h
 exact Tj ⟨(a7.trans g0),Z,q,Z⟩
 iterate 7 refine Of 57 Z Z l Z ?_
 refine WL.offU 64 Z Z Z (WL.offU 64 Z Z Z (WL.offU 64 Z Z Z (WL.offU 64 Z Z Z (WL.offU 64 Z Z Z (Of 57 Z Z l Z (qu (Bv false) (Pf Z l Z) (Wz ?_)))))))
 obtain rfl:=oi h
 exact Tj ⟨lr,Z,q,Z⟩
 rintro q1 k0 q2 ⟨g1,rfl,d8,c2⟩
 have g2:=j6.trans g1
 refine Ch h c2 (fun k1 h=> ?_) (fun k1 h=> ?_)
 exact Sr (qa (Iv 17) (Nt (Cr (Tr (Dr (Dr (Rf h [] Z (Rs Z Z) g2 ⟨Z,Z⟩)))))))
 refine Ck (Tc ?_)
 obtain ⟨l8,k2,h⟩:=bnd h
 refine WC.joinE (fun(_:Unit) t U V=>k0.le U∧[(a, .cells (l53 a1 g i j k).toArray 53 (0,0))]::[(x, .cells (l29 a0 c d e f).toArray 29 (0,0))]::F=V∧t 3=(pt a 0)) l8 ?_ ?_
 have k3:=h
 have h:=k2
 refine Sr (qa (Iv 0) (Nt (Bk ?_)))
 obtain ⟨q3,k4,f1⟩:=bnd h
 clear h
 refine WC.loop k4 (fun(z:Int) t U V=>k0.le U∧[(a, .cells (l53 a1 g i j k).toArray 53 (0,0))]::[(x, .cells (l29 a0 c d e f).toArray 29 (0,0))]::F=V∧t 3=(pt a 0)∧t 9=(Iv z)) ?_ ?_
 exact⟨lr,Z,d8,Z⟩
 rintro z q4 q5 l9 q6 h ⟨a8,rfl,o,C⟩
 have d9:=g2.trans a8
 unfold QgH at h
 refine Cs (Sr (qM (Iv z) C (qu (pt a 4) (Fa Qn7 o Z) (qu j (Lb 0 pl51 Z Z Z) ?_))))
 have P:=P.mono d9
 refine qu (Iv (a1.Add.length:Int)) (lenS underlying51 Z P.len) (qu (Bv (decide (z<(a1.Add.length:Int)))) (lss Z Z) (Nt (Ch h Z (fun k5 h=> ?_) (fun k5 h=> ?_))))
 refine Ck (Tc (Cs (Bk ?_)))
 obtain ⟨g3,k6,h⟩:=bnd h
 refine Jf (fun(g3:Bool) t U V=>l9.le U∧[(a, .cells (l53 a1 g i j k).toArray 53 (0,0))]::[(x, .cells (l29 a0 c d e f).toArray 29 (0,0))]::F=V∧t 3=(pt a 0)∧t 9=(Iv z)∧t 97=(Bv g3)) g3 ?_ ?_
 have h:=k6
 refine WC.draw [0,1,0,4,0,28,60,127,255,511,1023,2047,1023,5119,1023,29695,62463,131071,262143] (.pure 0 (.pure 1 (.pure 2 (.pure 3 (.pure 4 (.pure 5 (.pure 6 (.alt 7 (.pure 8 (.pure 9 (.pure 10 (.pure 11 (.pure 12 (.pure 13 (.pure 14 (.pure 15 (.pure 16 (.alt 17 (.pure 18 .done) .none)))))))))) .none)))))))) Qc3 (by kernel_rfl) (qt (pt a 0) Z (Fa QiN o Z) (qt g Z (Lb 0 pl51 Z Z Z) (qt (pt a 4) Z (Fa Qn7 o Z) (qt j Z (Lb 0 pl51 Z Z Z) (qt (Iv z) Z (Mv C) ?_)))))
 obtain ⟨b3,h⟩:=Qa1 h
 obtain ⟨m0,m6,g4,g5,hhas99⟩:=P.at b3.1 b3.2 (by decide)
 obtain rfl:=g5
 refine qt (.pointer (some m0)) Z (indexAddr (n:=a1.Add.length) underlying51 sz3 Z Z b3.1 b3.2 g4) (qt (Iv (rd a1.Add z)) Z (loadM pl3 Z (IM.has0 hhas99)) ?_)
 obtain ⟨c3,g6,h⟩:=bnd h
 have m:=m.mono d9
 refine Ta Z (Ca Q0M (QgT a1.Ids (rd a1.Add z) _ _ m c3 g6) (QaS Z Z)) Z ?_ ?_
 rintro _ m7 _ J ⟨_,⟨rfl,rfl⟩,rfl⟩
 refine⟨(Sl Z), ?_⟩
 refine WT.a0 (qt (Bv (!c3)) Z (PO.not Z) (qt (Bv (!c3)) Z (Mv Z) ?_))
 rcases Bi h with⟨b,h⟩ |⟨b,h⟩
 refine Tf 88 Z Z Z b Z (Tf 88 Z Z Z b Z (Tf 88 Z Z Z b Z (Tf 88 Z Z Z b Z (Tf 88 Z Z Z b Z (Tf 88 Z Z Z b Z (Tf 88 Z Z Z b Z (Tg 88 Z Z Z b Z ⟨(Sl Z), ?_⟩ ?_)))))))
 refine qt (Bv true) Z (Pt Z b Z) (Ti ?_)
 obtain rfl:=oi h
 exact Tj ⟨J,Z,o,C,Z⟩
 exact Tz
 refine Tn (pt a 5) 88 Z Z Z b (Fa QmT o Z) Z (Tn k 88 Z Z Z b (Lb 0 pl51 Z Z Z) Z (Tn (pt a 4) 88 Z Z Z b (Fa Qn7 o Z) Z (Tn j 88 Z Z Z b (Lb 0 pl51 Z Z Z) Z (Tn (Iv z) 88 Z Z Z b (Mv C) Z ?_))))
 obtain ⟨X,h⟩:=Qa1 h
 have P:=P.mono J
 obtain ⟨k7,m1,e0,e1,hhas112⟩:=P.at X.1 X.2 (by decide)
 obtain rfl:=e1
 refine Tn (.pointer (some k7)) 88 Z Z Z b (indexAddr (n:=a1.Add.length) underlying51 sz3 Z Z X.1 X.2 e0) Z (Tn (Iv (rd a1.Add z)) 88 Z Z Z b (loadM pl3 Z (IM.has0 hhas112)) Z ?_)
 obtain ⟨f2,g7,h⟩:=bnd h
 have Q:=Q.mono (d9.trans J)
 refine WT.altOn 88 Z Z Z b (Ca Q0M (QgT a1.Drop (rd a1.Add z) _ _ Q f2 g7) (QaS Z Z)) Z ?_ ?_
 rintro _ m8 _ e2 ⟨_,⟨rfl,rfl⟩,rfl⟩
 refine⟨(Sl Z), ?_⟩
 refine WT.a0 (qt (Bv f2) Z (Pf Z b Z) (Ti ?_))
 obtain rfl:=oi h
 exact Tj ⟨(J.trans e2),Z,o,C,Z⟩
 exact Tz
 exact Tz
 rintro q7 q8 q9 ⟨c4,rfl,e3,e4,c5⟩
 refine Ch h c5 (fun g8 h=> ?_) (fun g8 h=> ?_)
 refine Sr (qa (Iv 18) (Nt (Cr (Br (Tr (WQ.leaveR (inr ()) (oi h).symm (fun a9=> ?_)))))))
 subst a9
 have h:=(QdZ f1)
 refine Br (Tr ?_)
 have h:=KK.early h k3
 exact Dr (Dr (Rf h [] Z (Rs Z Z) (d9.trans c4) ⟨Z,Z⟩))
 exact Ck (Bn (Tc (Cg (qM (Iv z) e4 (qu (Iv (i64.wrap (z+1))) (add Z Z) (qa (Iv (i64.wrap (z+1))) (Wz (WQ.again (i64.wrap (z+1)) (oi h).symm ⟨(a8.trans c4),Z,e3,Z⟩))))))))
 refine WC.exit (WQ.thenE (WQ.leaveE (inl ()) (oi h).symm (fun a9=> ?_)))
 subst a9
 have h:=QeV f1
 exact WQ.blockH (WQ.thenFE h ⟨a8,Z,o⟩)
 rintro _ r0 k8 r1 rfl ⟨g9,rfl,e5⟩
 have k9:=g2.trans g9
 have h:=(Sum.elim_inl _ _ _).symm.trans h
 obtain ⟨l0,h0,h⟩:=bnd h
 refine WC.joinE (fun(_:Unit) t U V=>k8.le U∧[(a, .cells (l53 a1 g i j k).toArray 53 (0,0))]::[(x, .cells (l29 a0 c d e f).toArray 29 (0,0))]::F=V) l0 ?_ ?_
 have h1:=h
 have h:=h0
 refine Sr (qa (Iv 0) (Nt (Bk ?_)))
 obtain ⟨m9,h2,c6⟩:=bnd h
 clear h
 refine WC.loop h2 (fun(s:Int) t U V=>k8.le U∧[(a, .cells (l53 a1 g i j k).toArray 53 (0,0))]::[(x, .cells (l29 a0 c d e f).toArray 29 (0,0))]::F=V∧t 3=(pt a 0)∧t 10=(Iv s)) ?_ ?_
 exact⟨lr,Z,e5,Z⟩
 rintro s n0 n1 n2 n3 h ⟨Y,rfl,D,G⟩
 have c7:=k9.trans Y
 unfold QgI at h
 refine Cs (Sr (qM (Iv s) G (qu (pt a 5) (Fa QmT D Z) (qu k (Lb 0 pl51 Z Z Z) ?_))))
 have Q:=Q.mono c7
 refine qu (Iv (a1.Drop.length:Int)) (lenS underlying51 Z Q.len) (qu (Bv (decide (s<(a1.Drop.length:Int)))) (lss Z Z) (Nt (Ch h Z (fun h3 h=> ?_) (fun h3 h=> ?_))))
 refine Ck (Tc (Cs (Bk (Cs (WC.draw [0,1,0,4,0,28,60,127,255] (.pure 0 (.pure 1 (.pure 2 (.pure 3 (.pure 4 (.pure 5 (.pure 6 (.alt 7 (.pure 8 .done) .none)))))))) Qc3 (by kernel_rfl) (qt (pt a 0) Z (Fa QiN D Z) (qt g Z (Lb 0 pl51 Z Z Z) (qt (pt a 5) Z (Fa QmT D Z) (qt k Z (Lb 0 pl51 Z Z Z) (qt (Iv s) Z (Mv G) ?_))))))))))
 obtain ⟨a2,h⟩:=Qa1 h
 obtain ⟨l1,m2,e6,e7,hhas129⟩:=Q.at a2.1 a2.2 (by decide)
 obtain rfl:=e7
 refine qt (.pointer (some l1)) Z (indexAddr (n:=a1.Drop.length) underlying51 sz3 Z Z a2.1 a2.2 e6) (qt (Iv (rd a1.Drop s)) Z (loadM pl3 Z (IM.has0 hhas129)) ?_)
 obtain ⟨f3,h4,h⟩:=bnd h
 have m:=m.mono c7
 refine Ta Z (Ca Q0M (QgT a1.Ids (rd a1.Drop s) _ _ m f3 h4) (QaS Z Z)) Z ?_ ?_
 rintro _ n4 _ b4 ⟨_,⟨rfl,rfl⟩,rfl⟩
 refine⟨(Sl Z), ?_⟩
 refine WT.a0 (qt (Bv (!f3)) Z (PO.not Z) (Ti (Tc (Ch h Z (fun h5 h=> ?_) (fun h5 h=> ?_)))))
 refine Sr (qa (Iv 18) (Nt (Cr (Br (Tr (WQ.leaveR (inr ()) (oi h).symm (fun a3=> ?_)))))))
 subst a3
 have h:=(QdZ c6)
 refine Br (Tr ?_)
 have h:=KK.early h h1
 exact Dr (Dr (Rf h [] Z (Rs Z Z) (c7.trans b4) ⟨Z,Z⟩))
 exact Ck (Bn (Tc (Cg (qM (Iv s) G (qu (Iv (i64.wrap (s+1))) (add Z Z) (qa (Iv (i64.wrap (s+1))) (Wz (WQ.again (i64.wrap (s+1)) (oi h).symm ⟨(Y.trans b4),Z,D,Z⟩))))))))
 exact Tz
 refine WC.exit (WQ.thenE (WQ.leaveE (inl ()) (oi h).symm (fun a3=> ?_)))
 subst a3
 have h:=QeV c6
 exact WQ.blockH (WQ.thenFE h ⟨Y,Z⟩)
 rintro _ n5 n6 n7 rfl ⟨e8,rfl⟩
 have h:=(Sum.elim_inl _ _ _).symm.trans h
 exact Sr (qa (Iv 0) (Nt (Cr (Dr (Dr (Rf h [] Z (Rs Z Z) (k9.trans e8) ⟨Z,Z⟩))))))
noncomputable def Qk8 (a0:QaA) (a1:Int) (a2:Int) (a3:QaK) (e:(Int×(List QaE))):Option ((Int×(List QaE))⊕(List QaE)):=
 match e with
 |(a,b)=>
 (if(decide (a<(a0.Topics.length:Int)))=true then(grd (0≤a∧a<a0.Topics.length) (((if(decide (((rd a0.Topics a).Id)=a1))=true then(grd (0≤(0:Int)∧(0:Int)≤a2∧a2≤(((rd a0.Topics a).Parts).length:Int)) (grd (([]:List QaK).length+(sub ((rd a0.Topics a).Parts) (0:Int) a2).length≤274877906944) (grd ((([]:List QaK)++(sub ((rd a0.Topics a).Parts) (0:Int) a2)).length+[a3].length≤274877906944) (((if(decide (a2<(((rd a0.Topics a).Parts).length:Int)))=true then(grd (0≤i64.wrap (a2+(1:Int))∧i64.wrap (a2+(1:Int))≤(((rd a0.Topics a).Parts).length:Int)∧(((rd a0.Topics a).Parts).length:Int)≤(((rd a0.Topics a).Parts).length:Int)) (grd (((([]:List QaK)++(sub ((rd a0.Topics a).Parts) (0:Int) a2))++[a3]).length+(sub ((rd a0.Topics a).Parts) (i64.wrap (a2+(1:Int))) (((rd a0.Topics a).Parts).length:Int)).length≤274877906944) (some (((([]:List QaK)++(sub ((rd a0.Topics a).Parts) (0:Int) a2))++[a3])++(sub ((rd a0.Topics a).Parts) (i64.wrap (a2+(1:Int))) (((rd a0.Topics a).Parts).length:Int))))))else(some ((([]:List QaK)++(sub ((rd a0.Topics a).Parts) (0:Int) a2))++[a3]))):Option (List QaK)).bind fun d=>(some d)))))else(some ((rd a0.Topics a).Parts))):Option (List QaK)).bind fun c=>(grd (b.length+[(⟨(rd a0.Topics a).Id,(rd a0.Topics a).Name,c⟩:QaE)].length≤274877906944) (some (inl (i64.wrap (a+(1:Int)),b++[(⟨(rd a0.Topics a).Id,(rd a0.Topics a).Name,c⟩:QaE)]))))))else(some (inr b)))
noncomputable def QiQ (a0:QaA) (a1:Int) (a2:Int) (a3:QaK):Option QaA:=
 ((((iter (Qk8 a0 a1 a2 a3) ((0:Int),[])).bind (fun(a:(List QaE))=>(some a))):Option (List QaE)).bind fun b=>(some (⟨a0.Brokers,b,a0.Configs,a0.Done,a0.Last⟩:QaA)))
def QoP (a0:QaA) (a1:Int) (a2:Int) (a3:QaK) (i j k l m n o p:Value):QaA→Value→IM→HL→Prop:=
 fun(f:QaA) (v:Value) (g:IM) (q:HL)=>∃ a b c d e,(.agg #[a,b,d,e,(.int .i64 f.Last)])=v∧q=[c]∧RS QaG g a f.Brokers∧OwnS QaI g b f.Topics c∧RS QaH g d f.Configs∧RS QaL g e f.Done
theorem Qk9 (a0:QaA) (a1:Int) (a2:Int) (a3:QaK) (M:IM) (b f c d i j k m:Value) (O:RS QaG M b a0.Brokers) (P:RS QaI M f a0.Topics) (Q:RS QaH M c a0.Configs) (R:RS QaL M d a0.Done) (a5:RS (Kd.int .i64) M i a3.Ids) (a6:RS (Kd.int .i64) M j a3.Isr) (a7:RS (Kd.int .i64) M k a3.Add) (a8:RS (Kd.int .i64) M m a3.Drop) (e4:QaA) (h:QiQ a0 a1 a2 a3=some e4):
 Tri prog 110 #[(a29_ a0 b f c d),(Iv a1),(Iv a2),(a53_ a3 i j k m)] M [] (QoP a0 a1 a2 a3 b f c d i j k m e4):=by
 unfold QiQ at h
 refine Te func110 Z Z ?_
 intro F ρ g9
 refine Sr (We (box (cs:=(l29 a0 b f c d).toArray) (congrArg Value.cells (asE (a29_ a0 b f c d) (g9 0)))) Z ?_)
 rintro _ _ _ - ⟨rfl,J,rfl,rfl⟩
 refine We (box (cs:=(l53 a3 i j k m).toArray) (congrArg Value.cells (asE (a53_ a3 i j k m) (g9 3)))) Z ?_
 rintro _ _ _ - ⟨rfl,V,rfl,rfl⟩
 refine We (Al ze29 Z) Z ?_
 rintro _ _ _ - ⟨rfl,S,rfl,rfl⟩
 refine Ns (qu (a29_ a0 b f c d) (La (cs:=(l29 a0 b f c d)) 2 ag29 sz29 Z Z Z) (We (Al ze29 Z) Z ?_))
 rintro _ _ _ - ⟨rfl,B,rfl,rfl⟩
 refine We (Sg (v:=(a29_ a0 b f c d)) (vl:=(l29 a0 b f c d)) (arr':=(l29 a0 b f c d)) Z sz29 Z Z (QaX (Oc (RS.one O) (Oc (RS.one P) (Oc (RS.one Q) (Oc (RS.one R) (Oc Z Oz)))))) Z Z Z) Z ?_
 rintro _ _ _ - ⟨rfl,rfl⟩
 refine Ns (qu (pt B 1) (Fa QcB Z Z) (We (Es Zs ((l29 a0 b Zs c d)) Z sz25 Z Z Z Z Z Z) Z ?_))
 rintro _ _ _ - ⟨rfl,rfl⟩
 refine Nt ?_
 obtain ⟨d1,e5,h⟩:=bnd h
 refine Jf (fun(d1:(List QaE)) s M' H'=>∃ q T,M.le M'∧[(B, .cells (l29 a0 b q c d).toArray 29 (0,0))]::[(S, .cells z29_.toArray 29 (0,0))]::[(V, .cells (l53 a3 i j k m).toArray 53 (0,0))]::[(J, .cells (l29 a0 b f c d).toArray 29 (0,0))]::T::F=H'∧s 8=(pt S 0)∧s 9=(pt B 0)∧OwnS QaI M' q d1 T) d1 ?_ ?_
 have h:=e5
 refine Sr (qa (Iv 0) (Nt (Bk (WC.e0 (WC.f4 (WC.f4 (WC.f4 (WC.f4 ?_))))))))
 obtain ⟨i2,e6,e7⟩:=bnd h
 clear h
 refine WC.loop e6 (fun(p_:(Int×(List QaE))) s M' H'=>match p_ with |(a,b0)=>∃ C G,M.le M'∧[(B, .cells (l29 a0 b C c d).toArray 29 (0,0))]::[(S, .cells z29_.toArray 29 (0,0))]::[(V, .cells (l53 a3 i j k m).toArray 53 (0,0))]::[(J, .cells (l29 a0 b f c d).toArray 29 (0,0))]::G::F=H'∧s 1=(Iv a1)∧s 2=(Iv a2)∧s 4=(pt J 0)∧s 7=(pt V 0)∧s 8=(pt S 0)∧s 9=(pt B 0)∧s 10=(Iv a)∧OwnS QaI M' C b0 G) ?_ ?_
 exact⟨Zs,[],lr,Z,(g9 1),(g9 2),Z,Z,Z,Z,Z,(OwnS.nil _ _)⟩
 rintro ⟨a,b0⟩ i4 i5 d3 i6 h ⟨C,G,r,rfl,w,p,t,y,z,A,o,X⟩
 unfold Qk8 at h
 refine Cs (Sr (qM (Iv a) o (qu (pt J 1) (Fa QcB t Z) (qu f (Lb 3 pl25 Z Z Z) ?_))))
 have P:=P.mono r
 refine qu (Iv (a0.Topics.length:Int)) (lenS underlying25 Z P.len) (qu (Bv (decide (a<(a0.Topics.length:Int)))) (lss Z Z) (Nt (Ch h Z (fun e8 h=> ?_) (fun e8 h=> ?_))))
 refine Ck (Tc (Cs (Bk (Sr (qu (pt J 1) (Fa QcB t Z) (qu f (Lb 3 pl25 Z Z Z) (qM (Iv a) o ?_)))))))
 obtain ⟨Y,h⟩:=Qa1 h
 obtain ⟨h0,i1,d4,d5,hhas38⟩:=P.at Y.1 Y.2 (by decide)
 obtain ⟨e,rfl,g⟩:=QaW d5
 refine qu (.pointer (some h0)) (indexAddr (n:=a0.Topics.length) underlying25 sz50 Z Z Y.1 Y.2 d4) (qu (a50_ (rd a0.Topics a) e) (loadMA (cs:=(l50 (rd a0.Topics a) e)) ag50 sz50 Z hhas38) (We (Al ze50 Z) Z ?_))
 rintro _ _ _ - ⟨rfl,K,rfl,rfl⟩
 refine We (Sg (v:=(a50_ (rd a0.Topics a) e)) (vl:=(l50 (rd a0.Topics a) e)) (arr':=(l50 (rd a0.Topics a) e)) Z sz50 Z Z (QaX (Oc Z (Oc Z (Oc (RS.one g) Oz)))) Z Z Z) Z ?_
 rintro _ _ _ - ⟨rfl,rfl⟩
 refine Nt ?_
 obtain ⟨W,e9,h⟩:=bnd h
 refine Jf (fun(W:(List QaK)) s M' H'=>∃ u,d3.le M'∧[(K, .cells (l50 (rd a0.Topics a) u).toArray 50 (0,0))]::[(B, .cells (l29 a0 b C c d).toArray 29 (0,0))]::[(S, .cells z29_.toArray 29 (0,0))]::[(V, .cells (l53 a3 i j k m).toArray 53 (0,0))]::[(J, .cells (l29 a0 b f c d).toArray 29 (0,0))]::G::F=H'∧s 1=(Iv a1)∧s 2=(Iv a2)∧s 4=(pt J 0)∧s 7=(pt V 0)∧s 8=(pt S 0)∧s 9=(pt B 0)∧s 10=(Iv a)∧s 11=(pt K 0)∧RS QbD M' u W) W ?_ ?_
 have h:=e9
 refine Sr (qu (pt K 0) (Fa QkJ Z Z) (qu (Iv ((rd a0.Topics a).Id)) (Lb 0 pl3 Z Z Z) (qM (Iv a1) w (qu (Bv (decide (((rd a0.Topics a).Id)=a1))) (eql Z Z) (Nt (Ch h Z (fun f0 h=> ?_) (fun f0 h=> ?_)))))))
 refine Sr (qa Zs (Ns (qm Zs (qu (pt K 2) (Fa Qd0 Z Z) (qu e (Lb 0 pl48 Z Z Z) (qM (Iv a2) p ?_))))))
 obtain ⟨D,h⟩:=Qa1 h
 have h1:=g.sub D.1 D.2.1 D.2.2
 refine qu (slV e 6 ((0:Int)).toNat (a2).toNat) (slice (n:=((rd a0.Topics a).Parts).length) (l:=((0:Int)).toNat) (h:=(a2).toNat) underlying48 sz53 Z g.len g.cap (Q31 Z) ⟨_,_,Z,(Int.le_trans D.1 D.2.1),Z⟩ (Int.toNat_le_toNat D.2.1) (Qe4 D.2.2)) ?_
 obtain ⟨f2,h⟩:=Qa1 h
 refine WL.e0 (We (append (dd:=QbD) (xs:=[]) (ys:=sub ((rd a0.Topics a).Parts) (0:Int) a2) underlying48 underlying48 in53 Z (appB (by decide) f2) (by decide) Z Z (OwnS.nil _ _) (h1.src _)) Z ?_)
 rintro f7 _ _ - ⟨rfl,i7,rfl,h2⟩
 refine qa f7 (Ns (qm f7 (qu (a53_ a3 i j k m) (La (cs:=(l53 a3 i j k m)) 4 ag53 sz53 y Z Z) (We (buildSliceL (cl:=(l53 a3 i j k m)) underlying48 iz53 Z (Pc (a53_ a3 i j k m) Z Z Pz) Z) Z ?_))))
 rintro _ _ _ - ⟨rfl,f8,rfl,rfl⟩
 have a5:=a5.mono r
 have a6:=a6.mono r
 have a7:=a7.mono r
 have a8:=a8.mono r
 have h3:OwnS QbD d3 (.slice (some ⟨f8,0,none⟩) 1 1) [a3] [(f8, .cells (l53 a3 i j k m).toArray 53 (0,0))]:=OwnS.rows (css:=[(l53 a3 i j k m)]) (Rows.cons (QlN (x:=a3) a5 a6 a7 a8) Rows.nil) Z Z
 obtain ⟨f9,h⟩:=Qa1 h
 refine WL.f1 (We (append (dd:=QbD) (xs:=([]:List QaK)++(sub ((rd a0.Topics a).Parts) (0:Int) a2)) (ys:=[a3]) underlying48 underlying48 in53 Z (appB (by decide) f9) (by decide) Z Z h2 (h3.src 1 Z)) Z ?_)
 rintro d6 _ _ - ⟨rfl,h4,rfl,g0⟩
 refine qa d6 (Nt ?_)
 obtain ⟨d7,g1,h⟩:=bnd h
 refine Jf (fun(d7:(List QaK)) s M' H'=>∃ E b1,d3.le M'∧[(K, .cells (l50 (rd a0.Topics a) e).toArray 50 (0,0))]::[(B, .cells (l29 a0 b C c d).toArray 29 (0,0))]::[(S, .cells z29_.toArray 29 (0,0))]::[(V, .cells (l53 a3 i j k m).toArray 53 (0,0))]::[(J, .cells (l29 a0 b f c d).toArray 29 (0,0))]::b1::G::F=H'∧s 1=(Iv a1)∧s 2=(Iv a2)∧s 4=(pt J 0)∧s 7=(pt V 0)∧s 8=(pt S 0)∧s 9=(pt B 0)∧s 10=(Iv a)∧s 11=(pt K 0)∧s 12=E∧OwnS QbD M' E d7 b1) d7 ?_ ?_
 have h:=g1
 refine Sr (qM (Iv a2) p (qu (pt K 2) (Fa Qd0 Z Z) (qu e (Lb 2 pl48 Z Z Z) (qu (Iv (((rd a0.Topics a).Parts).length:Int)) (lenS underlying48 Z g.len) (qu (Bv (decide (a2<(((rd a0.Topics a).Parts).length:Int)))) (lss Z Z) (Nt (Ch h Z (fun g2 h=> ?_) (fun g2 h=> ?_))))))))
 refine Cg (qm d6 (qu (pt K 2) (Fa Qd0 Z Z) (qu e (Lb 2 pl48 Z Z Z) (qM (Iv a2) p (qu (Iv (i64.wrap (a2+1))) (add Z Z) ?_)))))
 obtain ⟨I,h⟩:=Qa1 h
 have h5:=g.sub I.1 I.2.1 I.2.2
 refine qu (slV e 6 (i64.wrap (a2+1)).toNat ((((rd a0.Topics a).Parts).length:Int)).toNat) (slice (n:=((rd a0.Topics a).Parts).length) (l:=(i64.wrap (a2+1)).toNat) (h:=((((rd a0.Topics a).Parts).length:Int)).toNat) underlying48 sz53 Z g.len g.cap ⟨_,_,Z,I.1,Z⟩ (QwS Z) (Int.toNat_le_toNat I.2.1) (Qe4 I.2.2)) ?_
 obtain ⟨g3,h⟩:=Qa1 h
 refine We (append (dd:=QbD) (xs:=(([]:List QaK)++(sub ((rd a0.Topics a).Parts) (0:Int) a2))++[a3]) (ys:=sub ((rd a0.Topics a).Parts) (i64.wrap (a2+1)) (((rd a0.Topics a).Parts).length:Int)) underlying48 underlying48 in53 Z (appB (by decide) g3) (by decide) Z Z g0 (h5.src _)) Z ?_
 rintro g4 _ _ - ⟨rfl,h6,rfl,h7⟩
 refine qa g4 (Wz (Qa (Dr (WQ.f6 (Qa (WQ.f6 (WQ.f6 (WQ.f6 (WQ.f6 (WQ.f6 ?_))))))))))
 obtain rfl:=oi h
 exact Tj ⟨g4,h6,lr,Z,w,p,t,y,z,A,o,Z,Z,h7⟩
 refine Ck (Qa (Dr (WQ.f6 (Qa (WQ.f6 (WQ.f6 (WQ.f6 (WQ.f6 (WQ.f6 ?_)))))))))
 obtain rfl:=oi h
 exact Tj ⟨d6,h4,lr,Z,w,p,t,y,z,A,o,Z,Z,g0⟩
 rintro i8 i9 j0 ⟨E,b1,d8,rfl,b8,b9,c0,c1,c2,c3,b2,U,b3,b4⟩
 refine Cg (qM E b3 (qu (pt K 2) (Fa Qd0 U Z) (We (Es E ((l50 (rd a0.Topics a) E)) b4.cells sz48 Z Z (Ow b4) Z Z Z) Z ?_)))
 rintro _ _ _ - ⟨rfl,rfl⟩
 refine Wz (WQ.f5 (WQ.know (fun _ hs=>b4.rs hs) (fun g5=> ?_)))
 refine WQ.freeze (fun d9=> ?_)
 obtain rfl:=oi h
 exact Tj ⟨E,(d8.trans d9),Z,b8,b9,c0,c1,c2,c3,b2,U,g5⟩
 refine Ck ?_
 obtain rfl:=oi h
 exact Tj ⟨e,lr,Z,w,p,t,y,z,A,o,Z,g⟩
 rintro j1 h8 j2 ⟨u,b5,rfl,c4,c5,c6,c7,c8,L,b6,b7,g6⟩
 refine Cg (qu (pt B 1) (Fa QcB L Z) (qu C (Lb 1 pl25 Z Z Z) (qu (a50_ (rd a0.Topics a) u) (La (cs:=(l50 (rd a0.Topics a) u)) 0 ag50 sz50 b7 Z Z) (We (buildSliceL (cl:=(l50 (rd a0.Topics a) u)) underlying25 iz50 Z (Pc (a50_ (rd a0.Topics a) u) Z Z Pz) Z) Z ?_))))
 rintro _ _ _ - ⟨rfl,g7,rfl,rfl⟩
 have h9:OwnS QaI h8 (.slice (some ⟨g7,0,none⟩) 1 1) [(⟨(rd a0.Topics a).Id,(rd a0.Topics a).Name,W⟩:QaE)] [(g7, .cells (l50 (rd a0.Topics a) u).toArray 50 (0,0))]:=OwnS.rows (css:=[(l50 (rd a0.Topics a) u)]) (Rows.cons (QhN (x:=(⟨(rd a0.Topics a).Id,(rd a0.Topics a).Name,W⟩:QaE)) g6) Rows.nil) Z Z
 obtain ⟨g8,h⟩:=Qa1 h
 refine WL.f6 ?_
 have X:=X.mono b5
 refine We (append (dd:=QaI) (xs:=b0) (ys:=[(⟨(rd a0.Topics a).Id,(rd a0.Topics a).Name,W⟩:QaE)]) underlying25 underlying25 in50 Z (appB (by decide) g8) (by decide) Z Z X (h9.src 1 Z)) Z ?_
 rintro e1 _ _ - ⟨rfl,i0,rfl,e2⟩
 refine qu (pt B 1) (Fa QcB L Z) (WL.f3 (We (Es e1 ((l29 a0 b e1 c d)) e2.cells sz25 Z Z (Ow e2) Z Z Z) Z ?_))
 rintro _ _ _ - ⟨rfl,rfl⟩
 refine Wz (Bn (Tc (Cg (qM (Iv a) b6 (qu (Iv (i64.wrap (a+1))) (add Z Z) (qa (Iv (i64.wrap (a+1))) (Wz (Qb (Dr (Qb (Dr ?_)))))))))))
 exact Qa (WQ.f4 (WQ.f4 (WQ.f4 (WQ.f4 (WQ.again (i64.wrap (a+1),b0++[(⟨(rd a0.Topics a).Id,(rd a0.Topics a).Name,W⟩:QaE)]) (oi h).symm ⟨e1,i0,(r.trans b5),Z,c4,c5,c6,c7,c8,L,Z,e2⟩)))))
 refine WC.exit (WQ.thenE (WQ.leaveE b0 (oi h).symm (fun e3=> ?_)))
 subst e3
 have h:=e7
 refine WQ.blockH ?_
 obtain rfl:=oi h
 exact Tj ⟨C,G,r,Z,z,A,X⟩
 rintro j3 j4 j5 ⟨q,T,N,rfl,a4,c9,d0⟩
 refine Sr (qu (a29_ a0 b q c d) (La (cs:=(l29 a0 b q c d)) 0 ag29 sz29 c9 Z Z) (WL.f1 ?_))
 have O:=O.mono N
 have Q:=Q.mono N
 have R:=R.mono N
 refine We (Sg (v:=(a29_ a0 b q c d)) (vl:=(l29 a0 b q c d)) (arr':=(l29 a0 b q c d)) Z sz29 a4 Z (QaX (Oc (RS.one O) (Oc (Ow d0) (Oc (RS.one Q) (Oc (RS.one R) (Oc Z Oz)))))) Z Z Z) Z ?_
 rintro _ _ _ - ⟨rfl,rfl⟩
 exact Nt (Cr (Qa (Dr (Qa (Dr (Qa (Dr (Rd h [T] (fun _ hs=>hs.drop) (QbA Z (Rc (cs:=(l29 a0 b q c d)) 0 ag29 sz29 a4 Z Z)) N ⟨b,q,T,c,d,Z,Z,O,d0,Q,R⟩))))))))
noncomputable def Qg5 (a0:(List Int)) (a1:(List Int)) (b:Int):Option (Int⊕(Unit⊕Unit)):=
 match b with
 |a=>
 (if(decide (a<(a0.length:Int)))=true then(grd (0≤a∧a<a0.length) (grd (0≤a∧a<a1.length) (if(decide ((rd a0 a)≠(rd a1 a)))=true then(some (inr (inr ())))else(some (inl (i64.wrap (a+(1:Int))))))))else(some (inr (inl ()))))
noncomputable def Qf9 (a0:(List Int)) (a1:(List Int)):Option Bool:=
 (if(decide ((a0.length:Int)≠(a1.length:Int)))=true then(some false)else((((iter (Qg5 a0 a1) (0:Int)).bind (Sum.elim (fun _=>(some (inl ()))) (fun _=>(((some false)).bind fun r=>some (inr r))))):Option (Unit⊕Bool)).bind (Sum.elim (fun _=>(some true)) some)))
def QrX (a0:(List Int)) (a1:(List Int)) (c d:Value):Bool→Value→IM→HL→Prop:=
 fun(a:Bool) (v:Value) (e:IM) (b:HL)=>(.bool a)=v∧b=[]
theorem QiR (a0:(List Int)) (a1:(List Int)) (M:IM) (k r:Value) (s:RS (Kd.int .i64) M k a0) (A:RS (Kd.int .i64) M r a1) (t:Bool) (h:Qf9 a0 a1=some t):
 Tri prog 101 #[k,r] M [] (QrX a0 a1 k r t):=by
 unfold Qf9 at h
 refine Te func101 Z Z ?_
 intro F V B
 refine Sr (qa (Bv false) (Nt (Cs (Sr (qM k (B 0) (qu (Iv (a0.length:Int)) (lenS underlying51 Z s.len) (qM r (B 1) (qu (Iv (a1.length:Int)) (lenS underlying51 Z A.len) (qu (Bv (decide ((a0.length:Int)≠(a1.length:Int)))) (neq Z Z) (Nt (Ch h Z (fun u h=> ?_) (fun u h=> ?_))))))))))))
 exact Sr (qa (Bv false) (Nt (Cr (Tr (Rf h [] Z (Rs Z Z) lr ⟨Z,Z⟩)))))
 refine Ck (Tc ?_)
 obtain ⟨D,v,h⟩:=bnd h
 refine WC.joinE (fun(_:Unit) C E G=>M.le E∧F=G) D ?_ ?_
 have w:=h
 have h:=v
 refine Sr (qa (Iv 0) (Nt (Bk ?_)))
 obtain ⟨N,x,j⟩:=bnd h
 clear h
 refine WC.loop x (fun(a:Int) C E G=>M.le E∧F=G∧C 0=k∧C 1=r∧C 5=(Iv a)) ?_ ?_
 exact⟨lr,Z,(B 0),(B 1),Z⟩
 rintro a O P Q R h ⟨c,rfl,d,f,b⟩
 unfold Qg5 at h
 refine Cs (Sr (qM (Iv a) b (qM k d ?_)))
 have s:=s.mono c
 refine qu (Iv (a0.length:Int)) (lenS underlying51 Z s.len) (qu (Bv (decide (a<(a0.length:Int)))) (lss Z Z) (Nt (Ch h Z (fun y h=> ?_) (fun y h=> ?_))))
 refine Ck (Tc (Cs (Bk (Cs (WC.draw [0,0,3,7,0,0,48,112,255] (.pure 0 (.pure 1 (.pure 2 (.pure 3 (.pure 4 (.pure 5 (.pure 6 (.pure 7 (.pure 8 .done))))))))) Qc3 (by kernel_rfl) (qt k Z (Mv d) (qt (Iv a) Z (Mv b) ?_)))))))
 obtain ⟨g,h⟩:=Qa1 h
 obtain ⟨I,K,l,m,hhas31⟩:=s.at g.1 g.2 (by decide)
 obtain rfl:=m
 refine qt (.pointer (some I)) Z (indexAddr (n:=a0.length) underlying51 sz3 Z Z g.1 g.2 l) (qt (Iv (rd a0 a)) Z (loadM pl3 Z (IM.has0 hhas31)) (qt r Z (Mv f) (qt (Iv a) Z (Mv b) ?_)))
 obtain ⟨i,h⟩:=Qa1 h
 have A:=A.mono c
 obtain ⟨J,L,o,p,hhas38⟩:=A.at i.1 i.2 (by decide)
 obtain rfl:=p
 refine qt (.pointer (some J)) Z (indexAddr (n:=a1.length) underlying51 sz3 Z Z i.1 i.2 o) (qt (Iv (rd a1 a)) Z (loadM pl3 Z (IM.has0 hhas38)) (qt (Bv (decide ((rd a0 a)≠(rd a1 a)))) Z (neq Z Z) (Ti (Tc (Ch h Z (fun z h=> ?_) (fun z h=> ?_))))))
 refine Sr (qa (Bv false) (Nt (Cr (Br (Tr (WQ.leaveR (inr ()) (oi h).symm (fun e=> ?_)))))))
 subst e
 have h:=(QdZ j)
 refine Br (Tr ?_)
 have h:=KK.early h w
 exact Rf h [] Z (Rs Z Z) c ⟨Z,Z⟩
 exact Ck (Bn (Tc (Cg (qM (Iv a) b (qu (Iv (i64.wrap (a+1))) (add Z Z) (qa (Iv (i64.wrap (a+1))) (Wz (WQ.again (i64.wrap (a+1)) (oi h).symm ⟨c,Z,d,f,Z⟩))))))))
 refine WC.exit (WQ.thenE (WQ.leaveE (inl ()) (oi h).symm (fun e=> ?_)))
 subst e
 have h:=QeV j
 exact WQ.blockH (WQ.thenFE h ⟨c,Z⟩)
 rintro _ S T U rfl ⟨q,rfl⟩
 have h:=(Sum.elim_inl _ _ _).symm.trans h
 exact Sr (qa (Bv true) (Nt (Cr (Rf h [] Z (Rs Z Z) q ⟨Z,Z⟩))))

end Go.Proofs.YtfkmkgpoddbbfaaGreatDoor.G
