/- Go functions: what they come to, and that they do. Printed by a program of the session (gen). -/
import Derived.Test.YtfkmkgpoddbbfaaGreatDoorRF
import Derived.Test.YtfkmkgpoddbbfaaGreatDoorR1
import Derived.Test.YtfkmkgpoddbbfaaGreatDoorKShar2
import Derived.Test.YtfkmkgpoddbbfaaGreatDoorKConv
import Derived.Test.YtfkmkgpoddbbfaaGreatDoorKMap
import Derived.Test.YtfkmkgpoddbbfaaGreatDoorKTight2
set_option linter.unusedVariables false
set_option linter.unusedSimpArgs false
set_option maxHeartbeats 8000000
set_option maxRecDepth 100000
namespace Go.Proofs.YtfkmkgpoddbbfaaGreatDoor.G
open Go Go.KK
open PO EO IntKind Sum Tryz

noncomputable def Qd2 (a0:QaK) (a1:QaK):Option Bool:=
 (((if(decide (a0.Leader≠a1.Leader))=true then(some true)else(some (decide (a0.Epoch≠a1.Epoch)))):Option Bool).bind fun a=>(if a=true then(some false)else((((Qf9 a0.Ids a1.Ids).bind fun b=>(if b=true then((Qf9 a0.Isr a1.Isr).bind fun c=>(some c))else(some false))):Option Bool).bind fun d=>(((if d=true then((Qf9 a0.Add a1.Add).bind fun e=>(if e=true then((Qf9 a0.Drop a1.Drop).bind fun f=>(some f))else(some false)))else(some false)):Option Bool).bind fun g=>(some g)))))
def QnN (a0:QaK) (a1:QaK) (a b c d e f g i:Value):Bool→Value→IM→HL→Prop:=
 fun(j:Bool) (v:Value) (l:IM) (k:HL)=>(.bool j)=v∧k=[]
theorem QkX (a0:QaK) (a1:QaK) (M:IM) (b c d e f g i j:Value) (x:RS (Kd.int .i64) M b a0.Ids) (y:RS (Kd.int .i64) M c a0.Isr) (z:RS (Kd.int .i64) M d a0.Add) (A:RS (Kd.int .i64) M e a0.Drop) (B:RS (Kd.int .i64) M f a1.Ids) (C:RS (Kd.int .i64) M g a1.Isr) (D:RS (Kd.int .i64) M i a1.Add) (E:RS (Kd.int .i64) M j a1.Drop) (V:Bool) (h:Qd2 a0 a1=some V):
 Tri prog 69 #[(a53_ a0 b c d e),(a53_ a1 f g i j)] M [] (QnN a0 a1 b c d e f g i j V):=by
 unfold Qd2 at h
 refine Te func69 Z Z ?_
 intro F ρ b2
 refine Sr (We (box (cs:=(l53 a0 b c d e).toArray) (congrArg Value.cells (asE (a53_ a0 b c d e) (b2 0)))) Z ?_)
 rintro _ _ _ - ⟨rfl,q,rfl,rfl⟩
 refine We (box (cs:=(l53 a1 f g i j).toArray) (congrArg Value.cells (asE (a53_ a1 f g i j) (b2 1)))) Z ?_
 rintro _ _ _ - ⟨rfl,r,rfl,rfl⟩
 refine qa (Bv false) (Nt (Cs ?_))
 obtain ⟨N,W,h⟩:=bnd h
 refine Jf (fun(N:Bool) J X Y=>M.le X∧[(r, .cells (l53 a1 f g i j).toArray 53 (0,0))]::[(q, .cells (l53 a0 b c d e).toArray 53 (0,0))]::F=Y∧J 2=(pt q 0)∧J 3=(pt r 0)∧J 17=(Bv N)) N ?_ ?_
 have h:=W
 refine Cg (qu (pt q 2) (Fa QkK Z Z) (qu (Iv a0.Leader) (Lb 1 pl3 Z Z Z) (qu (pt r 2) (Fa QkK Z Z) (qu (Iv a1.Leader) (Lb 0 pl3 Z Z Z) (qu (Bv (decide (a0.Leader≠a1.Leader))) (neq Z Z) (qm (Bv (decide (a0.Leader≠a1.Leader))) ?_))))))
 rcases Bi h with⟨k,h⟩ |⟨k,h⟩
 iterate 5 refine Of 11 Z Z k Z ?_
 refine qu (Bv true) (Pt Z k Z) (Wz ?_)
 obtain rfl:=oi h
 exact Tj ⟨lr,Z,Z,Z,Z⟩
 refine qo 11 k (pt q 3) (Fa Ql4 Z Z) (qo 11 k (Iv a0.Epoch) (Lb 1 pl3 Z Z Z) (qo 11 k (pt r 3) (Fa Ql4 Z Z) (qo 11 k (Iv a1.Epoch) (Lb 0 pl3 Z Z Z) (qo 11 k (Bv (decide (a0.Epoch≠a1.Epoch))) (neq Z Z) (qu (Bv (decide (a0.Epoch≠a1.Epoch))) (Pf Z k Z) (Wz ?_))))))
 obtain rfl:=oi h
 exact Tj ⟨lr,Z,Z,Z,Z⟩
 rintro b3 b0 b4 ⟨a,rfl,o,p,G⟩
 refine Ch h G (fun a2 h=> ?_) (fun a2 h=> ?_)
 exact Sr (qa (Bv false) (Nt (Cr (Tr (Dr (Dr (Rf h [] Z (Rs Z Z) a ⟨Z,Z⟩)))))))
 refine Ck (Tc ?_)
 obtain ⟨I,a3,h⟩:=bnd h
 refine Jf (fun(I:Bool) J X Y=>b0.le X∧[(r, .cells (l53 a1 f g i j).toArray 53 (0,0))]::[(q, .cells (l53 a0 b c d e).toArray 53 (0,0))]::F=Y∧J 2=(pt q 0)∧J 3=(pt r 0)∧J 5=(Bv I)) I ?_ ?_
 have h:=a3
 refine Cg (qu (pt q 0) (Fa QiN o Z) (qu b (Lb 1 pl51 Z Z Z) (qu (pt r 0) (Fa QiN p Z) (qu f (Lb 0 pl51 Z Z Z) ?_))))
 obtain ⟨a4,a5,h⟩:=bnd h
 have x:=x.mono a
 have B:=B.mono a
 refine We (Ca Q23 (QiR a0.Ids a1.Ids _ _ _ x B a4 a5) (QaS Z Z)) Z ?_
 rintro _ b5 _ t ⟨_,⟨rfl,rfl⟩,rfl⟩
 refine WL.a0 (qm (Bv a4) ?_)
 rcases Bi h with⟨l,h⟩ |⟨l,h⟩
 refine qo 23 l (pt q 1) (Fa QlA o Z) (qo 23 l c (Lb 1 pl51 Z Z Z) (qo 23 l (pt r 1) (Fa QlA p Z) (qo 23 l g (Lb 0 pl51 Z Z Z) (On 23 Z Z l ?_))))
 obtain ⟨O,a6,h⟩:=bnd h
 have y:=y.mono (a.trans t)
 have C:=C.mono (a.trans t)
 refine We (Ca Q23 (QiR a0.Isr a1.Isr _ _ _ y C O a6) (QaS Z Z)) Z ?_
 rintro _ b6 _ P ⟨_,⟨rfl,rfl⟩,rfl⟩
 refine WL.a0 (qu (Bv O) (Pt Z l Z) (qa (Bv O) (Wz ?_)))
 obtain rfl:=oi h
 exact Tj ⟨(t.trans P),Z,o,p,Z⟩
 iterate 5 refine Of 23 Z Z l Z ?_
 refine qu (Bv false) (Pf Z l Z) (qa (Bv false) (Wz ?_))
 obtain rfl:=oi h
 exact Tj ⟨t,Z,o,p,Z⟩
 rintro b7 b1 b8 ⟨s,rfl,v,w,K⟩
 obtain ⟨Q,a7,h⟩:=bnd h
 refine Jf (fun(Q:Bool) J X Y=>b1.le X∧[(r, .cells (l53 a1 f g i j).toArray 53 (0,0))]::[(q, .cells (l53 a0 b c d e).toArray 53 (0,0))]::F=Y∧J 4=(Bv Q)) Q ?_ ?_
 have h:=a7
 refine Cg (qM (Bv I) K (qm (Bv I) ?_))
 rcases Bi h with⟨m,h⟩ |⟨m,h⟩
 refine qo 31 m (pt q 4) (Fa Qn7 v Z) (qo 31 m d (Lb 1 pl51 Z Z Z) (qo 31 m (pt r 4) (Fa Qn7 w Z) (qo 31 m i (Lb 0 pl51 Z Z Z) (On 31 Z Z m ?_))))
 obtain ⟨R,a8,h⟩:=bnd h
 have z:=z.mono (a.trans s)
 have D:=D.mono (a.trans s)
 refine We (Ca Q23 (QiR a0.Add a1.Add _ _ _ z D R a8) (QaS Z Z)) Z ?_
 rintro _ b9 _ u ⟨_,⟨rfl,rfl⟩,rfl⟩
 refine WL.a0 (qu (Bv R) (Pt Z m Z) (qm (Bv R) ?_))
 rcases Bi h with⟨n,h⟩ |⟨n,h⟩
 refine qo 38 n (pt q 5) (Fa QmT v Z) (qo 38 n e (Lb 1 pl51 Z Z Z) (qo 38 n (pt r 5) (Fa QmT w Z) (qo 38 n j (Lb 0 pl51 Z Z Z) (On 38 Z Z n ?_))))
 obtain ⟨S,a9,h⟩:=bnd h
 have A:=A.mono ((a.trans s).trans u)
 have E:=E.mono ((a.trans s).trans u)
 refine We (Ca Q23 (QiR a0.Drop a1.Drop _ _ _ A E S a9) (QaS Z Z)) Z ?_
 rintro _ c0 _ T ⟨_,⟨rfl,rfl⟩,rfl⟩
 refine WL.a0 (qu (Bv S) (Pt Z n Z) (qa (Bv S) (Wz ?_)))
 obtain rfl:=oi h
 exact Tj ⟨(u.trans T),Z,Z⟩
 iterate 5 refine Of 38 Z Z n Z ?_
 refine qu (Bv false) (Pf Z n Z) (qa (Bv false) (Wz ?_))
 obtain rfl:=oi h
 exact Tj ⟨u,Z,Z⟩
 iterate 5 refine Of 31 Z Z m Z ?_
 refine qu (Bv false) (Pf Z m Z) (qm (Bv false) ?_)
 iterate 5 refine Of 38 Z Z Z Z ?_
 refine qu (Bv false) (Pf Z Z Z) (qa (Bv false) (Wz ?_))
 obtain rfl:=oi h
 exact Tj ⟨lr,Z,Z⟩
 rintro c1 c2 c3 ⟨U,rfl,L⟩
 exact Cr (Dr (Dr (Rf h [] Z (Rs Z L) ((a.trans s).trans U) ⟨Z,Z⟩)))
noncomputable def QnO (a0:QaA) (a1:QaO):Option (QaA×Int):=
 ((Qe7 a0 a1.Topic).bind fun(a,c)=>(if(!c)=true then(some (a0,(8:Int)))else((QhS a0 (⟨a1.Ids,a1.Isr,a1.Leader,a1.Epoch,a1.Add,a1.Drop⟩:QaK)).bind fun b=>(if(decide (b≠(0:Int)))=true then(some (a0,b))else(if(decide (a1.Kind=(8:Int)))=true then(if(decide (a1.Part≠(a.Parts.length:Int)))=true then(some (a0,(10:Int)))else((QiQ a0 a1.Topic a1.Part (⟨a1.Ids,a1.Isr,a1.Leader,a1.Epoch,a1.Add,a1.Drop⟩:QaK)).bind fun d=>(some (d,(0:Int)))))else(if(decide ((a.Parts.length:Int)≤a1.Part))=true then(some (a0,(8:Int)))else(grd (0≤a1.Part∧a1.Part<a.Parts.length) (((if(decide (a1.Epoch<((rd a.Parts a1.Part).Epoch)))=true then(some true)else(if(decide ((i64.wrap (((rd a.Parts a1.Part).Epoch)+(1:Int)))<a1.Epoch))=true then(some true)else(if(decide (a1.Epoch=((rd a.Parts a1.Part).Epoch)))=true then(some (decide (a1.Leader≠((rd a.Parts a1.Part).Leader))))else(some false)))):Option Bool).bind fun e=>(if e=true then(some (a0,(11:Int)))else((Qd2 (rd a.Parts a1.Part) (⟨a1.Ids,a1.Isr,a1.Leader,a1.Epoch,a1.Add,a1.Drop⟩:QaK)).bind fun f=>(if f=true then(some (a0,(10:Int)))else((QiQ a0 a1.Topic a1.Part (⟨a1.Ids,a1.Isr,a1.Leader,a1.Epoch,a1.Add,a1.Drop⟩:QaK)).bind fun g=>(some (g,(0:Int)))))))))))))))
def Qr3 (a0:QaA) (a1:QaO) (l m n o g i j k:Value):(QaA×Int)→Value→IM→HL→Prop:=
 fun(p:(QaA×Int)) (v:Value) (f:IM) (q:HL)=>match p with |(e,r)=>∃ a b c d,(.tuple #[(.agg #[a,b,c,d,(.int .i64 e.Last)]),(.int .i64 r)])=v∧q=[]∧RS QaG f a e.Brokers∧RS QaI f b e.Topics∧RS QaH f c e.Configs∧RS QaL f d e.Done
theorem QuV (a0:QaA) (a1:QaO) (M:IM) (a b c d k l m o:Value) (e:RS QaG M a a0.Brokers) (f:RS QaI M b a0.Topics) (g:RS QaH M c a0.Configs) (i:RS QaL M d a0.Done) (q:RS (Kd.int .i64) M k a1.Ids) (r:RS (Kd.int .i64) M l a1.Isr) (s:RS (Kd.int .i64) M m a1.Add) (t:RS (Kd.int .i64) M o a1.Drop) (d2:(QaA×Int)) (h:QnO a0 a1=some d2):
 Tri prog 74 #[(a29_ a0 a b c d),(QjM a1 k l m o)] M [] (Qr3 a0 a1 a b c d k l m o d2):=by
 unfold QnO at h
 refine Te func74 Z Z ?_
 intro F ρ f9
 refine Sr (We (box (cs:=(l29 a0 a b c d).toArray) (congrArg Value.cells (asE (a29_ a0 a b c d) (f9 0)))) Z ?_)
 rintro _ _ _ - ⟨rfl,d3,rfl,rfl⟩
 refine We (box (cs:=(l102 a1 k l m o).toArray) (congrArg Value.cells (asE (QjM a1 k l m o) (f9 1)))) Z ?_
 rintro _ _ _ - ⟨rfl,D,rfl,rfl⟩
 refine We (Al ze29 Z) Z ?_
 rintro _ _ _ - ⟨rfl,d4,rfl,rfl⟩
 refine qa (Iv 0) (Ns (qu (a29_ a0 a b c d) (La (cs:=(l29 a0 a b c d)) 2 ag29 sz29 Z Z Z) (qu (pt D 3) (Fa QgY Z Z) (qu (Iv a1.Topic) (Lb 1 pl3 Z Z Z) ?_))))
 obtain ⟨⟨p,b8⟩,d5,h⟩:=bnd h
 refine We (Ca co96 (QiC a0 a1.Topic _ _ _ _ _ e f g i (p,b8) d5) (QaS Z Z)) Z ?_
 rintro _ g1 _ u ⟨_,⟨w,rfl,rfl,x⟩,rfl⟩
 refine WL.a0 (qm (.tuple #[(a50_ p w),(Bv b8)]) (qu (a50_ p w) (Xt Z Z) (qu (Bv b8) (Xt Z Z) (We (Al ze50 Z) Z ?_))))
 rintro _ _ _ - ⟨rfl,c5,rfl,rfl⟩
 refine We (Sg (v:=(a50_ p w)) (vl:=(l50 p w)) (arr':=(l50 p w)) Z sz50 Z Z (QaX (Oc Z (Oc Z (Oc (RS.one x) Oz)))) Z Z Z) Z ?_
 rintro _ _ _ - ⟨rfl,rfl⟩
 refine qa (Bv b8) (Nt (Cs (Sr (qm (Bv b8) (qu (Bv (!b8)) (PO.not Z) (Nt (Ch h Z (fun d6 h=> ?_) (fun d6 h=> ?_))))))))
 refine Sr (qu (a29_ a0 a b c d) (La (cs:=(l29 a0 a b c d)) 3 ag29 sz29 Z Z Z) (WL.f1 ?_))
 have e:=e.mono u
 have f:=f.mono u
 have g:=g.mono u
 have i:=i.mono u
 refine We (Sg (v:=(a29_ a0 a b c d)) (vl:=(l29 a0 a b c d)) (arr':=(l29 a0 a b c d)) Z sz29 Z Z (QaX (Oc (RS.one e) (Oc (RS.one f) (Oc (RS.one g) (Oc (RS.one i) (Oc Z Oz)))))) Z Z Z) Z ?_
 rintro _ _ _ - ⟨rfl,rfl⟩
 exact qa (Iv 8) (Nt (Cr (Tr (Qa (Dr (Qa (Dr (Qa (Dr (Rd h [] (fun _ hs=>hs.drop) (QaP Z (RVs.cons (Rc (cs:=(l29 a0 a b c d)) 0 ag29 sz29 Z Z Z) (RVs.cons (RV.tmp Z) RVs.nil))) u ⟨a,b,c,d,Z,Z,e,f,g,i⟩))))))))))
 refine Ck (Tc (Sr (qu (pt D 14) (Fa Qt8 Z Z) (qu k (Lb 2 pl51 Z Z Z) (qu (pt D 15) (Fa QwX Z Z) (qu l (Lb 2 pl51 Z Z Z) (qu (pt D 5) (Fa QvC Z Z) (qu (Iv a1.Leader) (Lb 2 pl3 Z Z Z) (qu (pt D 2) (Fa QlQ Z Z) (qu (Iv a1.Epoch) (Lb 2 pl3 Z Z Z) (qu (pt D 16) (Fa QwY Z Z) ?_)))))))))))
 refine qu m (Lb 2 pl51 Z Z Z) (qu (pt D 17) (Fa QwZ Z Z) (qu o (Lb 2 pl51 Z Z Z) ?_))
 have q:=q.mono u
 have r:=r.mono u
 have s:=s.mono u
 have t:=t.mono u
 refine qu (.agg #[k,l,(Iv a1.Leader),(Iv a1.Epoch),m,o]) (Bl (cl:=[k,l,(Iv a1.Leader),(Iv a1.Epoch),m,o]) ze53 fp53 (Parts.cons ((congrArg Value.cells (show ev _ _=k from Z)).trans q.cells) (Parts.cons ((congrArg Value.cells (show ev _ _=l from Z)).trans r.cells) (Pc (Iv a1.Leader) Z Z (Pc (Iv a1.Epoch) Z Z (Parts.cons ((congrArg Value.cells (show ev _ _=m from Z)).trans s.cells) (Parts.cons ((congrArg Value.cells (show ev _ _=o from Z)).trans t.cells) Pz)))))) Z) (We (Al ze53 Z) Z ?_)
 rintro _ _ _ - ⟨rfl,d7,rfl,rfl⟩
 refine We (Sg (v:=(.agg #[k,l,(Iv a1.Leader),(Iv a1.Epoch),m,o])) (vl:=[k,l,(Iv a1.Leader),(Iv a1.Epoch),m,o]) (arr':=[k,l,(Iv a1.Leader),(Iv a1.Epoch),m,o]) Z sz53 Z Z (QaX (Oc (RS.one q) (Oc (RS.one r) (Oc Z (Oc Z (Oc (RS.one s) (Oc (RS.one t) Oz))))))) Z Z Z) Z ?_
 rintro _ _ _ - ⟨rfl,rfl⟩
 refine Nt (Cs (Sr (qu (a29_ a0 a b c d) (La (cs:=(l29 a0 a b c d)) 4 ag29 sz29 Z Z Z) (qu (.agg #[k,l,(Iv a1.Leader),(Iv a1.Epoch),m,o]) (La (cs:=[k,l,(Iv a1.Leader),(Iv a1.Epoch),m,o]) 0 ag53 sz53 Z Z Z) ?_))))
 obtain ⟨b9,d8,h⟩:=bnd h
 have e:=e.mono u
 have f:=f.mono u
 have g:=g.mono u
 have i:=i.mono u
 refine We (Ca Q5R (QmP a0 (⟨a1.Ids,a1.Isr,a1.Leader,a1.Epoch,a1.Add,a1.Drop⟩:QaK) _ _ _ _ _ _ _ _ _ e f g i q r s t b9 d8) (QaS Z Z)) Z ?_
 rintro _ f6 _ j ⟨_,⟨rfl,rfl⟩,rfl⟩
 have b2:=u.trans j
 refine WL.a0 (qa (Iv b9) (Ns (qm (Iv b9) (qu (Bv (decide (b9≠0))) (neq Z Z) (Nt (Ch h Z (fun d9 h=> ?_) (fun d9 h=> ?_)))))))
 refine Sr (qu (a29_ a0 a b c d) (La (cs:=(l29 a0 a b c d)) 4 ag29 sz29 Z Z Z) (qm (Iv b9) (Wb ?_)))
 have e:=e.mono j
 have f:=f.mono j
 have g:=g.mono j
 have i:=i.mono j
 refine We (Sg (v:=(a29_ a0 a b c d)) (vl:=(l29 a0 a b c d)) (arr':=(l29 a0 a b c d)) Z sz29 Z Z (QaX (Oc (RS.one e) (Oc (RS.one f) (Oc (RS.one g) (Oc (RS.one i) (Oc Z Oz)))))) Z Z Z) Z ?_
 rintro _ _ _ - ⟨rfl,rfl⟩
 refine qa (Iv b9) (Nt (Cr (Tr (Qa (Dr (Qa (Dr (Qa (Dr (Qa (Dr ?_)))))))))))
 exact Rd h [] (fun _ hs=>hs.drop) (QaP Z (RVs.cons (Rc (cs:=(l29 a0 a b c d)) 0 ag29 sz29 Z Z Z) (RVs.cons (RV.tmp Z) RVs.nil))) b2 ⟨a,b,c,d,Z,Z,e,f,g,i⟩
 refine Ck (Tc (Cs (Sr (qu (pt D 0) (Fa QvB Z Z) (qu (Iv a1.Kind) (Lb 3 pl3 Z Z Z) (qu (Bv (decide (a1.Kind=8))) (eql Z Z) (Nt (Ch h Z (fun e0 h=> ?_) (fun e0 h=> ?_)))))))))
 refine Cs (Sr (qu (pt D 4) (Fa Qn5 Z Z) (qu (Iv a1.Part) (Lb 3 pl3 Z Z Z) (qu (pt c5 2) (Fa Qd0 Z Z) (qu w (Lb 1 pl48 Z Z Z) ?_)))))
 have x:=x.mono j
 refine qu (Iv (p.Parts.length:Int)) (lenS underlying48 Z x.len) (qu (Bv (decide (a1.Part≠(p.Parts.length:Int)))) (neq Z Z) (Nt (Ch h Z (fun e1 h=> ?_) (fun e1 h=> ?_))))
 refine Sr (qu (a29_ a0 a b c d) (La (cs:=(l29 a0 a b c d)) 4 ag29 sz29 Z Z Z) (Wb ?_))
 have e:=e.mono j
 have f:=f.mono j
 have g:=g.mono j
 have i:=i.mono j
 refine We (Sg (v:=(a29_ a0 a b c d)) (vl:=(l29 a0 a b c d)) (arr':=(l29 a0 a b c d)) Z sz29 Z Z (QaX (Oc (RS.one e) (Oc (RS.one f) (Oc (RS.one g) (Oc (RS.one i) (Oc Z Oz)))))) Z Z Z) Z ?_
 rintro _ _ _ - ⟨rfl,rfl⟩
 refine qa (Iv 10) (Nt (Cr (Tr (Tr (Qa (Dr (Qa (Dr (Qa (Dr (Qa ?_)))))))))))
 exact Dr (Rd h [] (fun _ hs=>hs.drop) (QaP Z (RVs.cons (Rc (cs:=(l29 a0 a b c d)) 0 ag29 sz29 Z Z Z) (RVs.cons (RV.tmp Z) RVs.nil))) b2 ⟨a,b,c,d,Z,Z,e,f,g,i⟩)
 refine Ck (Tc (Sr (qu (a29_ a0 a b c d) (La (cs:=(l29 a0 a b c d)) 4 ag29 sz29 Z Z Z) (qu (pt D 3) (Fa QgY Z Z) (qu (Iv a1.Topic) (Lb 3 pl3 Z Z Z) (qu (pt D 4) (Fa Qn5 Z Z) (qu (Iv a1.Part) (Lb 3 pl3 Z Z Z) (qu (.agg #[k,l,(Iv a1.Leader),(Iv a1.Epoch),m,o]) (La (cs:=[k,l,(Iv a1.Leader),(Iv a1.Epoch),m,o]) 0 ag53 sz53 Z Z Z) ?_))))))))
 obtain ⟨c1,e2,h⟩:=bnd h
 have e:=e.mono j
 have f:=f.mono j
 have g:=g.mono j
 have i:=i.mono j
 have q:=q.mono j
 have r:=r.mono j
 have s:=s.mono j
 have t:=t.mono j
 refine We (Ca Q5S (Qk9 a0 a1.Topic a1.Part (⟨a1.Ids,a1.Isr,a1.Leader,a1.Epoch,a1.Add,a1.Drop⟩:QaK) _ _ _ _ _ _ _ _ _ e f g i q r s t c1 e2) (QiO Z Z Z Z)) Z ?_
 rintro _ g2 _ c6 ⟨_,⟨K,L,f2,N,O,rfl,rfl,U,b3,V,W⟩,rfl⟩
 refine WL.a1 (WL.f3 (We (Sg (v:=(a29_ c1 K L N O)) (vl:=(l29 c1 K L N O)) (arr':=(l29 c1 K L N O)) Z sz29 Z Z (QaX (Oc (RS.one U) (Oc (Ow b3) (Oc (RS.one V) (Oc (RS.one W) (Oc Z Oz)))))) Z Z Z) Z ?_))
 rintro _ _ _ - ⟨rfl,rfl⟩
 refine qa (Iv 0) (Nt (Cr (Tr (Qa (WQ.know (fun _ hs=>b3.rs hs) (fun e3=> ?_))))))
 refine WQ.freeze (fun a7=> ?_)
 refine Qa (Dr (Qa (Dr (Qa (Dr (Qa (Dr ?_)))))))
 have U:=U.mono a7
 have V:=V.mono a7
 have W:=W.mono a7
 exact Rd h [] (fun _ hs=>hs.drop) (QaP Z (RVs.cons (Rc (cs:=(l29 c1 K L N O)) 0 ag29 sz29 Z Z Z) (RVs.cons (RV.tmp Z) RVs.nil))) ((b2.trans c6).trans a7) ⟨K,L,N,O,Z,Z,U,e3,V,W⟩
 refine Ck (Tc (Cs (Sr (qu (pt D 4) (Fa Qn5 Z Z) (qu (Iv a1.Part) (Lb 3 pl3 Z Z Z) (qu (pt c5 2) (Fa Qd0 Z Z) (qu w (Lb 1 pl48 Z Z Z) ?_)))))))
 have x:=x.mono j
 refine qu (Iv (p.Parts.length:Int)) (lenS underlying48 Z x.len) (qu (Bv (decide ((p.Parts.length:Int)≤a1.Part))) (geq Z Z) (Nt (Ch h Z (fun e4 h=> ?_) (fun e4 h=> ?_))))
 refine Sr (qu (a29_ a0 a b c d) (La (cs:=(l29 a0 a b c d)) 4 ag29 sz29 Z Z Z) (Wb ?_))
 have e:=e.mono j
 have f:=f.mono j
 have g:=g.mono j
 have i:=i.mono j
 refine We (Sg (v:=(a29_ a0 a b c d)) (vl:=(l29 a0 a b c d)) (arr':=(l29 a0 a b c d)) Z sz29 Z Z (QaX (Oc (RS.one e) (Oc (RS.one f) (Oc (RS.one g) (Oc (RS.one i) (Oc Z Oz)))))) Z Z Z) Z ?_
 rintro _ _ _ - ⟨rfl,rfl⟩
 refine qa (Iv 8) (Nt (Cr (Tr (Qa (Dr (Qa (Dr (Qa (Dr (Qa (Dr ?_)))))))))))
 exact Rd h [] (fun _ hs=>hs.drop) (QaP Z (RVs.cons (Rc (cs:=(l29 a0 a b c d)) 0 ag29 sz29 Z Z Z) (RVs.cons (RV.tmp Z) RVs.nil))) b2 ⟨a,b,c,d,Z,Z,e,f,g,i⟩
 refine Ck (Tc (Sr (qu (pt c5 2) (Fa Qd0 Z Z) (qu w (Lb 1 pl48 Z Z Z) (qu (pt D 4) (Fa Qn5 Z Z) (qu (Iv a1.Part) (Lb 3 pl3 Z Z Z) ?_))))))
 obtain ⟨b4,h⟩:=Qa1 h
 obtain ⟨f7,g0,c7,c8,hhas55⟩:=x.at b4.1 b4.2 (by decide)
 obtain ⟨y,z,A,B,rfl,X,Y,a2,a3⟩:=QcY c8
 refine qu (.pointer (some f7)) (indexAddr (n:=p.Parts.length) underlying48 sz53 Z Z b4.1 b4.2 c7) (qu (a53_ (rd p.Parts a1.Part) y z A B) (loadMA (cs:=(l53 (rd p.Parts a1.Part) y z A B)) ag53 sz53 Z hhas55) (We (Al ze53 Z) Z ?_))
 rintro _ _ _ - ⟨rfl,c0,rfl,rfl⟩
 refine We (Sg (v:=(a53_ (rd p.Parts a1.Part) y z A B)) (vl:=(l53 (rd p.Parts a1.Part) y z A B)) (arr':=(l53 (rd p.Parts a1.Part) y z A B)) Z sz53 Z Z (QaX (Oc (RS.one X) (Oc (RS.one Y) (Oc Z (Oc Z (Oc (RS.one a2) (Oc (RS.one a3) Oz))))))) Z Z Z) Z ?_
 rintro _ _ _ - ⟨rfl,rfl⟩
 refine Nt (Cs ?_)
 obtain ⟨c9,e5,h⟩:=bnd h
 refine Jf (fun(c9:Bool) d1 M' H'=>f6.le M'∧[(c0, .cells (l53 (rd p.Parts a1.Part) y z A B).toArray 53 (0,0))]::[(d7, .cells #[k,l,(Iv a1.Leader),(Iv a1.Epoch),m,o] 53 (0,0))]::[(c5, .cells (l50 p w).toArray 50 (0,0))]::[(d4, .cells z29_.toArray 29 (0,0))]::[(D, .cells (l102 a1 k l m o).toArray 102 (0,0))]::[(d3, .cells (l29 a0 a b c d).toArray 29 (0,0))]::F=H'∧d1 2=(pt d3 0)∧d1 3=(pt D 0)∧d1 4=(pt d4 0)∧d1 8=(pt d7 0)∧d1 10=(pt c0 0)∧d1 97=(Bv c9)) c9 ?_ ?_
 have h:=e5
 refine Cg (qu (pt D 2) (Fa QlQ Z Z) (qu (Iv a1.Epoch) (Lb 4 pl3 Z Z Z) (qu (pt c0 3) (Fa Ql4 Z Z) (qu (Iv ((rd p.Parts a1.Part).Epoch)) (Lb 0 pl3 Z Z Z) (qu (Bv (decide (a1.Epoch<((rd p.Parts a1.Part).Epoch)))) (lss Z Z) (qm (Bv (decide (a1.Epoch<((rd p.Parts a1.Part).Epoch)))) ?_))))))
 rcases Bi h with⟨I,h⟩ |⟨I,h⟩
 iterate 6 refine Of 76 Z Z I Z ?_
 refine qu (Bv true) (Pt Z I Z) (qm (Bv true) ?_)
 iterate 6 refine Of 84 Z Z Z Z ?_
 refine WL.offU 90 Z Z Z (WL.offU 90 Z Z Z (WL.offU 90 Z Z Z (WL.offU 90 Z Z Z (WL.offU 90 Z Z Z (Of 84 Z Z Z Z (qu (Bv true) (Pt Z Z Z) (Wz ?_)))))))
 obtain rfl:=oi h
 exact Tj ⟨lr,Z,Z,Z,Z,Z,Z,Z⟩
 refine qo 76 I (pt D 2) (Fa QlQ Z Z) (qo 76 I (Iv a1.Epoch) (Lb 4 pl3 Z Z Z) (qo 76 I (pt c0 3) (Fa Ql4 Z Z) (qo 76 I (Iv ((rd p.Parts a1.Part).Epoch)) (Lb 0 pl3 Z Z Z) (qo 76 I (Iv (i64.wrap (((rd p.Parts a1.Part).Epoch)+1))) (add Z Z) (qo 76 I (Bv (decide ((i64.wrap (((rd p.Parts a1.Part).Epoch)+1))<a1.Epoch))) (gtr Z Z) (qu (Bv (decide ((i64.wrap (((rd p.Parts a1.Part).Epoch)+1))<a1.Epoch))) (Pf Z I Z) (qm (Bv (decide ((i64.wrap (((rd p.Parts a1.Part).Epoch)+1))<a1.Epoch))) ?_)))))))
 rcases Bi h with⟨C,h⟩ |⟨C,h⟩
 iterate 6 refine Of 84 Z Z C Z ?_
 refine WL.offU 90 Z Z Z (WL.offU 90 Z Z Z (WL.offU 90 Z Z Z (WL.offU 90 Z Z Z (WL.offU 90 Z Z Z (Of 84 Z Z C Z (qu (Bv true) (Pt Z C Z) (Wz ?_)))))))
 obtain rfl:=oi h
 exact Tj ⟨lr,Z,Z,Z,Z,Z,Z,Z⟩
 refine qo 84 C (pt D 2) (Fa QlQ Z Z) (qo 84 C (Iv a1.Epoch) (Lb 4 pl3 Z Z Z) (qo 84 C (pt c0 3) (Fa Ql4 Z Z) (qo 84 C (Iv ((rd p.Parts a1.Part).Epoch)) (Lb 0 pl3 Z Z Z) (qo 84 C (Bv (decide (a1.Epoch=((rd p.Parts a1.Part).Epoch)))) (eql Z Z) (On 84 Z Z C (qm (Bv (decide (a1.Epoch=((rd p.Parts a1.Part).Epoch)))) ?_))))))
 rcases Bi h with⟨P,h⟩ |⟨P,h⟩
 refine qo 90 P (pt D 5) (Fa QvC Z Z) (qo 90 P (Iv a1.Leader) (Lb 4 pl3 Z Z Z) (qo 90 P (pt c0 2) (Fa QkK Z Z) (qo 90 P (Iv ((rd p.Parts a1.Part).Leader)) (Lb 0 pl3 Z Z Z) (qo 90 P (Bv (decide (a1.Leader≠((rd p.Parts a1.Part).Leader)))) (neq Z Z) (qo 84 C (Bv (decide (a1.Leader≠((rd p.Parts a1.Part).Leader)))) (Pt Z P Z) (qu (Bv (decide (a1.Leader≠((rd p.Parts a1.Part).Leader)))) (Pf Z C Z) (Wz ?_)))))))
 obtain rfl:=oi h
 exact Tj ⟨lr,Z,Z,Z,Z,Z,Z,Z⟩
 iterate 5 refine Of 90 Z Z P Z ?_
 refine qo 84 C (Bv false) (Pf Z P Z) (qu (Bv false) (Pf Z C Z) (Wz ?_))
 obtain rfl:=oi h
 exact Tj ⟨lr,Z,Z,Z,Z,Z,Z,Z⟩
 rintro g5 g6 g7 ⟨E,rfl,a8,b5,G,b6,c2,c3⟩
 have a9:=j.trans E
 refine Ch h c3 (fun e6 h=> ?_) (fun e6 h=> ?_)
 refine Sr (qu (a29_ a0 a b c d) (La (cs:=(l29 a0 a b c d)) 5 ag29 sz29 a8 Z Z) (WL.f3 ?_))
 have e:=e.mono a9
 have f:=f.mono a9
 have g:=g.mono a9
 have i:=i.mono a9
 refine We (Sg (v:=(a29_ a0 a b c d)) (vl:=(l29 a0 a b c d)) (arr':=(l29 a0 a b c d)) Z sz29 G Z (QaX (Oc (RS.one e) (Oc (RS.one f) (Oc (RS.one g) (Oc (RS.one i) (Oc Z Oz)))))) Z Z Z) Z ?_
 rintro _ _ _ - ⟨rfl,rfl⟩
 refine qa (Iv 11) (Nt (Cr (Tr (Qa (Dr (Qa (Dr (Qa (Dr (Qa (Dr ?_)))))))))))
 exact Qa (Dr (Rd h [] (fun _ hs=>hs.drop) (QaP Z (RVs.cons (Rc (cs:=(l29 a0 a b c d)) 0 ag29 sz29 G Z Z) (RVs.cons (RV.tmp Z) RVs.nil))) (b2.trans E) ⟨a,b,c,d,Z,Z,e,f,g,i⟩))
 refine Ck (Tc (Cs (Sr (qu (a53_ (rd p.Parts a1.Part) y z A B) (La (cs:=(l53 (rd p.Parts a1.Part) y z A B)) 0 ag53 sz53 c2 Z Z) (qu (.agg #[k,l,(Iv a1.Leader),(Iv a1.Epoch),m,o]) (La (cs:=[k,l,(Iv a1.Leader),(Iv a1.Epoch),m,o]) 1 ag53 sz53 b6 Z Z) ?_)))))
 obtain ⟨f8,e7,h⟩:=bnd h
 have X:=X.mono E
 have Y:=Y.mono E
 have a2:=a2.mono E
 have a3:=a3.mono E
 have q:=q.mono a9
 have r:=r.mono a9
 have s:=s.mono a9
 have t:=t.mono a9
 refine We (Ca co69 (QkX (rd p.Parts a1.Part) (⟨a1.Ids,a1.Isr,a1.Leader,a1.Epoch,a1.Add,a1.Drop⟩:QaK) _ _ _ _ _ _ _ _ _ X Y a2 a3 q r s t f8 e7) (QaS Z Z)) Z ?_
 rintro _ g8 _ J ⟨_,⟨rfl,rfl⟩,rfl⟩
 have b1:=a9.trans J
 refine WL.a0 (Nt (Ch h Z (fun e8 h=> ?_) (fun e8 h=> ?_)))
 refine Sr (qu (a29_ a0 a b c d) (La (cs:=(l29 a0 a b c d)) 5 ag29 sz29 a8 Z Z) (WL.f3 ?_))
 have e:=e.mono b1
 have f:=f.mono b1
 have g:=g.mono b1
 have i:=i.mono b1
 refine We (Sg (v:=(a29_ a0 a b c d)) (vl:=(l29 a0 a b c d)) (arr':=(l29 a0 a b c d)) Z sz29 G Z (QaX (Oc (RS.one e) (Oc (RS.one f) (Oc (RS.one g) (Oc (RS.one i) (Oc Z Oz)))))) Z Z Z) Z ?_
 rintro _ _ _ - ⟨rfl,rfl⟩
 refine qa (Iv 10) (Nt (Cr (Tr (Qa (Dr (Qa (Dr (Qa (Dr (Qa (Dr ?_)))))))))))
 exact Qa (Dr (Rd h [] (fun _ hs=>hs.drop) (QaP Z (RVs.cons (Rc (cs:=(l29 a0 a b c d)) 0 ag29 sz29 G Z Z) (RVs.cons (RV.tmp Z) RVs.nil))) ((b2.trans E).trans J) ⟨a,b,c,d,Z,Z,e,f,g,i⟩))
 refine Ck (Tc (Sr (qu (a29_ a0 a b c d) (La (cs:=(l29 a0 a b c d)) 5 ag29 sz29 a8 Z Z) (qu (pt D 3) (Fa QgY b5 Z) (qu (Iv a1.Topic) (Lb 4 pl3 Z Z Z) (qu (pt D 4) (Fa Qn5 b5 Z) (qu (Iv a1.Part) (Lb 4 pl3 Z Z Z) (qu (.agg #[k,l,(Iv a1.Leader),(Iv a1.Epoch),m,o]) (La (cs:=[k,l,(Iv a1.Leader),(Iv a1.Epoch),m,o]) 1 ag53 sz53 b6 Z Z) ?_))))))))
 obtain ⟨c4,e9,h⟩:=bnd h
 have e:=e.mono b1
 have f:=f.mono b1
 have g:=g.mono b1
 have i:=i.mono b1
 have q:=q.mono J
 have r:=r.mono J
 have s:=s.mono J
 have t:=t.mono J
 refine We (Ca Q5S (Qk9 a0 a1.Topic a1.Part (⟨a1.Ids,a1.Isr,a1.Leader,a1.Epoch,a1.Add,a1.Drop⟩:QaK) _ _ _ _ _ _ _ _ _ e f g i q r s t c4 e9) (QiO Z Z Z Z)) Z ?_
 rintro _ g9 _ d0 ⟨_,⟨Q,R,f5,S,T,rfl,rfl,a4,b7,a5,a6⟩,rfl⟩
 refine WL.a1 (WL.f4 (We (Sg (v:=(a29_ c4 Q R S T)) (vl:=(l29 c4 Q R S T)) (arr':=(l29 c4 Q R S T)) Z sz29 G Z (QaX (Oc (RS.one a4) (Oc (Ow b7) (Oc (RS.one a5) (Oc (RS.one a6) (Oc Z Oz)))))) Z Z Z) Z ?_))
 rintro _ _ _ - ⟨rfl,rfl⟩
 refine qa (Iv 0) (Nt (Cr (Qa (WQ.know (fun _ hs=>b7.rs hs) (fun f0=> ?_)))))
 refine WQ.freeze (fun b0=> ?_)
 refine Qa (Dr (Qa (Dr (Qa (Dr (Qa (Dr (Qa (Dr ?_)))))))))
 have a4:=a4.mono b0
 have a5:=a5.mono b0
 have a6:=a6.mono b0
 exact Rd h [] (fun _ hs=>hs.drop) (QaP Z (RVs.cons (Rc (cs:=(l29 c4 Q R S T)) 0 ag29 sz29 G Z Z) (RVs.cons (RV.tmp Z) RVs.nil))) ((((b2.trans E).trans J).trans d0).trans b0) ⟨Q,R,S,T,Z,Z,a4,f0,a5,a6⟩
noncomputable def QmQ (a0:QaA) (a1:ByteArray) (b:Int):Option (Int⊕(Unit⊕(Int×ByteArray×(List QaK)))):=
 match b with
 |a=>
 (if(decide (a<(a0.Topics.length:Int)))=true then(grd (0≤a∧a<a0.Topics.length) (if(decide (((rd a0.Topics a).Name)=a1))=true then(grd (0≤a∧a<a0.Topics.length) (some (inr (inr ((rd a0.Topics a).Id,(rd a0.Topics a).Name,(rd a0.Topics a).Parts)))))else(some (inl (i64.wrap (a+(1:Int)))))))else(some (inr (inl ()))))
noncomputable def Ql9 (a0:QaA) (a1:ByteArray):Option (QaE×Bool):=
 ((((iter (QmQ a0 a1) (0:Int)).bind (Sum.elim (fun _=>(some (inl ()))) (fun(a,b,c)=>(((some ((⟨a,b,c⟩:QaE),true))).bind fun r=>some (inr r))))):Option (Unit⊕(QaE×Bool))).bind (Sum.elim (fun _=>(some ((⟨(0:Int),(⟨#[]⟩:ByteArray),[]⟩:QaE),false))) some))
def QqP (a0:QaA) (a1:ByteArray) (c d e f:Value):(QaE×Bool)→Value→IM→HL→Prop:=
 fun(g:(QaE×Bool)) (v:Value) (i:IM) (j:HL)=>match g with |(b,k)=>∃ a,(.tuple #[(.agg #[(.int .i64 b.Id),(.string b.Name),a]),(.bool k)])=v∧j=[]∧RS QbD i a b.Parts
theorem QtI (a0:QaA) (a1:ByteArray) (M:IM) (g c i j:Value) (T:RS QaG M g a0.Brokers) (l:RS QaI M c a0.Topics) (U:RS QaH M i a0.Configs) (V:RS QaL M j a0.Done) (D:(QaE×Bool)) (h:Ql9 a0 a1=some D):
 Tri prog 111 #[(a29_ a0 g c i j),(Sv a1)] M [] (QqP a0 a1 g c i j D):=by
 unfold Ql9 at h
 refine Te func111 Z Z ?_
 intro F ρ W
 refine Sr (We (box (cs:=(l29 a0 g c i j).toArray) (congrArg Value.cells (asE (a29_ a0 g c i j) (W 0)))) Z ?_)
 rintro _ _ _ - ⟨rfl,t,rfl,rfl⟩
 refine We (Al ze50 Z) Z ?_
 rintro _ _ _ - ⟨rfl,u,rfl,rfl⟩
 refine qa (Bv false) (Nt ?_)
 obtain ⟨P,E,h⟩:=bnd h
 refine WC.joinE (fun(_:Unit) C Q R=>M.le Q∧[(u, .cells #[(Iv 0),(Sv ⟨#[]⟩),Zs] 50 (0,0))]::[(t, .cells (l29 a0 g c i j).toArray 29 (0,0))]::F=R∧C 4=(pt u 0)) P ?_ ?_
 have G:=h
 have h:=E
 refine Sr (qa (Iv 0) (Nt (Bk ?_)))
 obtain ⟨a2,I,w⟩:=bnd h
 clear h
 refine WC.loop I (fun(a:Int) C Q R=>M.le Q∧[(u, .cells #[(Iv 0),(Sv ⟨#[]⟩),Zs] 50 (0,0))]::[(t, .cells (l29 a0 g c i j).toArray 29 (0,0))]::F=R∧C 1=(Sv a1)∧C 2=(pt t 0)∧C 4=(pt u 0)∧C 6=(Iv a)) ?_ ?_
 exact⟨lr,Z,(W 1),Z,Z,Z⟩
 rintro a a3 a4 a5 a6 h ⟨k,rfl,o,d,e,f⟩
 unfold QmQ at h
 refine Cs (Sr (qM (Iv a) f (qu (pt t 1) (Fa QcB d Z) (qu c (Lb 1 pl25 Z Z Z) ?_))))
 have l:=l.mono k
 refine qu (Iv (a0.Topics.length:Int)) (lenS underlying25 Z l.len) (qu (Bv (decide (a<(a0.Topics.length:Int)))) (lss Z Z) (Nt (Ch h Z (fun J h=> ?_) (fun J h=> ?_))))
 refine Ck (Tc (Cs (Bk (Sr (qu (pt t 1) (Fa QcB d Z) (qu c (Lb 1 pl25 Z Z Z) (qM (Iv a) f ?_)))))))
 obtain ⟨p,h⟩:=Qa1 h
 obtain ⟨K,X,x,y,hhas35⟩:=l.at p.1 p.2 (by decide)
 obtain ⟨N,rfl,O⟩:=QaW y
 refine qu (.pointer (some K)) (indexAddr (n:=a0.Topics.length) underlying25 sz50 Z Z p.1 p.2 x) (qu (.pointer (some (K.add 1))) (Fa Ql3 Z Z) (qu (Sv ((rd a0.Topics a).Name)) (loadM pl9 Z (hhas35 1 _ Z)) (qM (Sv a1) o (qu (Bv (decide (((rd a0.Topics a).Name)=a1))) (seql Z Z) (Nt (Ch h Z (fun L h=> ?_) (fun L h=> ?_)))))))
 refine Sr (qu (pt t 1) (Fa QcB d Z) (qu c (Lb 1 pl25 Z Z Z) (qM (Iv a) f ?_)))
 obtain ⟨q,h⟩:=Qa1 h
 obtain ⟨S,Y,z,A,hhas43⟩:=l.at q.1 q.2 (by decide)
 obtain ⟨b,rfl,r⟩:=QaW A
 refine qu (.pointer (some S)) (indexAddr (n:=a0.Topics.length) underlying25 sz50 Z Z q.1 q.2 z) (qu (a50_ (rd a0.Topics a) b) (loadMA (cs:=(l50 (rd a0.Topics a) b)) ag50 sz50 Z hhas43) (We (Sg (v:=(a50_ (rd a0.Topics a) b)) (vl:=(l50 (rd a0.Topics a) b)) (arr':=(l50 (rd a0.Topics a) b)) Z sz50 e Z (QaX (Oc Z (Oc Z (Oc (RS.one r) Oz)))) Z Z Z) Z ?_))
 rintro _ _ _ - ⟨rfl,rfl⟩
 refine qa (Bv true) (Nt (Cr (Br (Tr (WQ.leaveR (inr ((rd a0.Topics a).Id,(rd a0.Topics a).Name,(rd a0.Topics a).Parts)) (oi h).symm (fun m=> ?_))))))
 subst m
 have h:=(QdZ w)
 refine Br (Tr ?_)
 have h:=KK.early h G
 exact Qa (Dr (Rd h [] (fun _ hs=>hs.drop) (QaP Z (RVs.cons (Rc (cs:=(l50 (rd a0.Topics a) b)) 0 ag50 sz50 e Z Z) (RVs.cons (RV.tmp Z) RVs.nil))) k ⟨b,Z,Z,r⟩))
 exact Ck (Bn (Tc (Cg (qM (Iv a) f (qu (Iv (i64.wrap (a+1))) (add Z Z) (qa (Iv (i64.wrap (a+1))) (Wz (WQ.again (i64.wrap (a+1)) (oi h).symm ⟨k,Z,o,d,e,Z⟩))))))))
 refine WC.exit (WQ.thenE (WQ.leaveE (inl ()) (oi h).symm (fun m=> ?_)))
 subst m
 have h:=QeV w
 exact WQ.blockH (WQ.thenFE h ⟨k,Z,e⟩)
 rintro _ a7 a8 a9 rfl ⟨B,rfl,s⟩
 have h:=(Sum.elim_inl _ _ _).symm.trans h
 refine Sr (qu (.agg #[(Iv 0),(Sv ⟨#[]⟩),Zs]) (Bl (cl:=[(Iv 0),(Sv ⟨#[]⟩),Zs]) ze50 fp50 Pz Z) (We (Sg (v:=(.agg #[(Iv 0),(Sv ⟨#[]⟩),Zs])) (vl:=[(Iv 0),(Sv ⟨#[]⟩),Zs]) (arr':=[(Iv 0),(Sv ⟨#[]⟩),Zs]) Z sz50 s Z (onb Z) Z Z Z) Z ?_))
 rintro _ _ _ - ⟨rfl,rfl⟩
 exact qa (Bv false) (Nt (Cr (Qa (Dr (Rd h [] (fun _ hs=>hs.drop) (QaP Z (RVs.cons (Rc (cs:=[(Iv 0),(Sv ⟨#[]⟩),Zs]) 0 ag50 sz50 s Z Z) (RVs.cons (RV.tmp Z) RVs.nil))) B ⟨Zs,Z,Z,RS.nil _ _⟩)))))
noncomputable def QmA (a0:QaA) (a1:QaO):Option (QaA×Int):=
 (if(decide (a1.Topic≠(i64.wrap (a0.Last+(1:Int)))))=true then(some (a0,(10:Int)))else((Ql9 a0 a1.Name).bind fun(b,a)=>(if a=true then(some (a0,(9:Int)))else(if(decide ((256:Int)≤(a0.Topics.length:Int)))=true then(some (a0,(6:Int)))else(grd (([]:List QaE).length+a0.Topics.length≤274877906944) (grd ((([]:List QaE)++a0.Topics).length+[(⟨a1.Topic,a1.Name,[]⟩:QaE)].length≤274877906944) (some ((⟨a0.Brokers,(([]:List QaE)++a0.Topics)++[(⟨a1.Topic,a1.Name,[]⟩:QaE)],a0.Configs,a0.Done,a1.Topic⟩:QaA),(0:Int)))))))))
def QqQ (a0:QaA) (a1:QaO) (l m n o g i j k:Value):(QaA×Int)→Value→IM→HL→Prop:=
 fun(p:(QaA×Int)) (v:Value) (f:IM) (q:HL)=>match p with |(e,r)=>∃ a b c d,(.tuple #[(.agg #[a,b,c,d,(.int .i64 e.Last)]),(.int .i64 r)])=v∧q=[]∧RS QaG f a e.Brokers∧RS QaI f b e.Topics∧RS QaH f c e.Configs∧RS QaL f d e.Done
theorem QtJ (a0:QaA) (a1:QaO) (M:IM) (a d b c l m n o:Value) (f:RS QaG M a a0.Brokers) (j:RS QaI M d a0.Topics) (g:RS QaH M b a0.Configs) (i:RS QaL M c a0.Done) (O:RS (Kd.int .i64) M l a1.Ids) (P:RS (Kd.int .i64) M m a1.Isr) (Q:RS (Kd.int .i64) M n a1.Add) (R:RS (Kd.int .i64) M o a1.Drop) (C:(QaA×Int)) (h:QmA a0 a1=some C):
 Tri prog 75 #[(a29_ a0 a d b c),(QjM a1 l m n o)] M [] (QqQ a0 a1 a d b c l m n o C):=by
 unfold QmA at h
 refine Te func75 Z Z ?_
 intro F ρ U
 refine Sr (We (box (cs:=(l29 a0 a d b c).toArray) (congrArg Value.cells (asE (a29_ a0 a d b c) (U 0)))) Z ?_)
 rintro _ _ _ - ⟨rfl,z,rfl,rfl⟩
 refine We (box (cs:=(l102 a1 l m n o).toArray) (congrArg Value.cells (asE (QjM a1 l m n o) (U 1)))) Z ?_
 rintro _ _ _ - ⟨rfl,t,rfl,rfl⟩
 refine We (Al ze29 Z) Z ?_
 rintro _ _ _ - ⟨rfl,V,rfl,rfl⟩
 refine qa (Iv 0) (Nt (Cs (Sr (qu (pt t 3) (Fa QgY Z Z) (qu (Iv a1.Topic) (Lb 1 pl3 Z Z Z) (qu (pt z 4) (Fa QmS Z Z) (qu (Iv a0.Last) (Lb 2 pl3 Z Z Z) (qu (Iv (i64.wrap (a0.Last+1))) (add Z Z) (qu (Bv (decide (a1.Topic≠(i64.wrap (a0.Last+1))))) (neq Z Z) (Nt (Ch h Z (fun D h=> ?_) (fun D h=> ?_))))))))))))
 refine Sr (qu (a29_ a0 a d b c) (La (cs:=(l29 a0 a d b c)) 2 ag29 sz29 Z Z Z) (We (Sg (v:=(a29_ a0 a d b c)) (vl:=(l29 a0 a d b c)) (arr':=(l29 a0 a d b c)) Z sz29 Z Z (QaX (Oc (RS.one f) (Oc (RS.one j) (Oc (RS.one g) (Oc (RS.one i) (Oc Z Oz)))))) Z Z Z) Z ?_))
 rintro _ _ _ - ⟨rfl,rfl⟩
 exact qa (Iv 10) (Nt (Cr (Tr (Qa (Dr (Qa (Dr (Rd h [] (fun _ hs=>hs.drop) (QaP Z (RVs.cons (Rc (cs:=(l29 a0 a d b c)) 0 ag29 sz29 Z Z Z) (RVs.cons (RV.tmp Z) RVs.nil))) lr ⟨a,d,b,c,Z,Z,f,j,g,i⟩))))))))
 refine Ck (Tc (Cs (Sr (qu (a29_ a0 a d b c) (La (cs:=(l29 a0 a d b c)) 2 ag29 sz29 Z Z Z) (qu (pt t 10) (Fa QrB Z Z) (qu (Sv a1.Name) (Lb 1 pl9 Z Z Z) ?_))))))
 obtain ⟨⟨r,u⟩,E,h⟩:=bnd h
 refine We (Ca Q7K (QtI a0 a1.Name _ _ _ _ _ f j g i (r,u) E) (QaS Z Z)) Z ?_
 rintro _ S _ e ⟨_,⟨k,rfl,rfl,w⟩,rfl⟩
 refine WL.a0 (qm (.tuple #[(a50_ r k),(Bv u)]) (qu (a50_ r k) (Xt Z Z) (qu (Bv u) (Xt Z Z) (We (Al ze50 Z) Z ?_))))
 rintro _ _ _ - ⟨rfl,W,rfl,rfl⟩
 refine We (Sg (v:=(a50_ r k)) (vl:=(l50 r k)) (arr':=(l50 r k)) Z sz50 Z Z (QaX (Oc Z (Oc Z (Oc (RS.one w) Oz)))) Z Z Z) Z ?_
 rintro _ _ _ - ⟨rfl,rfl⟩
 refine qa (Bv u) (Ns (qm (Bv u) (Nt (Ch h Z (fun G h=> ?_) (fun G h=> ?_)))))
 refine Sr (qu (a29_ a0 a d b c) (La (cs:=(l29 a0 a d b c)) 3 ag29 sz29 Z Z Z) (WL.f1 ?_))
 have f:=f.mono e
 have j:=j.mono e
 have g:=g.mono e
 have i:=i.mono e
 refine We (Sg (v:=(a29_ a0 a d b c)) (vl:=(l29 a0 a d b c)) (arr':=(l29 a0 a d b c)) Z sz29 Z Z (QaX (Oc (RS.one f) (Oc (RS.one j) (Oc (RS.one g) (Oc (RS.one i) (Oc Z Oz)))))) Z Z Z) Z ?_
 rintro _ _ _ - ⟨rfl,rfl⟩
 exact qa (Iv 9) (Nt (Cr (Tr (Qa (Dr (Qa (Dr (Qa (Dr (Rd h [] (fun _ hs=>hs.drop) (QaP Z (RVs.cons (Rc (cs:=(l29 a0 a d b c)) 0 ag29 sz29 Z Z Z) (RVs.cons (RV.tmp Z) RVs.nil))) e ⟨a,d,b,c,Z,Z,f,j,g,i⟩))))))))))
 refine Ck (Tc (Cs (Sr (qu (pt z 1) (Fa QcB Z Z) (qu d (Lb 3 pl25 Z Z Z) ?_)))))
 have j:=j.mono e
 refine qu (Iv (a0.Topics.length:Int)) (lenS underlying25 Z j.len) (qu (Bv (decide ((256:Int)≤(a0.Topics.length:Int)))) (geq Z Z) (Nt (Ch h Z (fun I h=> ?_) (fun I h=> ?_))))
 refine Sr (qu (a29_ a0 a d b c) (La (cs:=(l29 a0 a d b c)) 3 ag29 sz29 Z Z Z) (WL.f1 ?_))
 have f:=f.mono e
 have g:=g.mono e
 have i:=i.mono e
 refine We (Sg (v:=(a29_ a0 a d b c)) (vl:=(l29 a0 a d b c)) (arr':=(l29 a0 a d b c)) Z sz29 Z Z (QaX (Oc (RS.one f) (Oc (RS.one j) (Oc (RS.one g) (Oc (RS.one i) (Oc Z Oz)))))) Z Z Z) Z ?_
 rintro _ _ _ - ⟨rfl,rfl⟩
 exact qa (Iv 6) (Nt (Cr (Tr (Qa (Dr (Qa (Dr (Qa (Dr (Rd h [] (fun _ hs=>hs.drop) (QaP Z (RVs.cons (Rc (cs:=(l29 a0 a d b c)) 0 ag29 sz29 Z Z Z) (RVs.cons (RV.tmp Z) RVs.nil))) e ⟨a,d,b,c,Z,Z,f,j,g,i⟩))))))))))
 refine Ck (Tc (Sr (qu (a29_ a0 a d b c) (La (cs:=(l29 a0 a d b c)) 3 ag29 sz29 Z Z Z) (We (Al ze29 Z) Z ?_))))
 rintro _ _ _ - ⟨rfl,s,rfl,rfl⟩
 have f:=f.mono e
 have g:=g.mono e
 have i:=i.mono e
 refine We (Sg (v:=(a29_ a0 a d b c)) (vl:=(l29 a0 a d b c)) (arr':=(l29 a0 a d b c)) Z sz29 Z Z (QaX (Oc (RS.one f) (Oc (RS.one j) (Oc (RS.one g) (Oc (RS.one i) (Oc Z Oz)))))) Z Z Z) Z ?_
 rintro _ _ _ - ⟨rfl,rfl⟩
 refine Ns (qu (pt s 1) (Fa QcB Z Z) (We (Es Zs ((l29 a0 a Zs b c)) Z sz25 Z Z Z Z Z Z) Z ?_))
 rintro _ _ _ - ⟨rfl,rfl⟩
 refine Ns (qu (pt s 1) (Fa QcB Z Z) (qu Zs (Lb 0 pl25 Z Z Z) (qu (pt z 1) (Fa QcB Z Z) (qu d (Lb 4 pl25 Z Z Z) ?_))))
 obtain ⟨J,h⟩:=Qa1 h
 refine WL.e0 (We (append (dd:=QaI) (xs:=[]) (ys:=a0.Topics) underlying25 underlying25 in50 Z (appB (by decide) J) (by decide) Z Z (OwnS.nil _ _) (j.src _)) Z ?_)
 rintro A _ _ - ⟨rfl,X,rfl,B⟩
 refine qu (pt s 1) (Fa QcB Z Z) (WL.f1 (We (Es A ((l29 a0 a A b c)) B.cells sz25 Z Z (Ow B) Z Z Z) Z ?_))
 rintro _ _ _ - ⟨rfl,rfl⟩
 refine Ns (qu (pt s 1) (Fa QcB Z Z) (qu A (Lb 0 pl25 Z Z Z) (qu (pt t 3) (Fa QgY Z Z) (qu (Iv a1.Topic) (Lb 4 pl3 Z Z Z) (qu (pt t 10) (Fa QrB Z Z) (qu (Sv a1.Name) (Lb 4 pl9 Z Z Z) (qu (.agg #[(Iv a1.Topic),(Sv a1.Name),Zs]) (Bl (cl:=[(Iv a1.Topic),(Sv a1.Name),Zs]) ze50 fp50 (Pc (Iv a1.Topic) Z Z (Pc (Sv a1.Name) Z Z Pz)) Z) (We (buildSliceL (cl:=[(Iv a1.Topic),(Sv a1.Name),Zs]) underlying25 iz50 Z (Pc (.agg #[(Iv a1.Topic),(Sv a1.Name),Zs]) Z Z Pz) Z) Z ?_))))))))
 rintro _ _ _ - ⟨rfl,K,rfl,rfl⟩
 have T:OwnS QaI S (.slice (some ⟨K,0,none⟩) 1 1) [(⟨a1.Topic,a1.Name,[]⟩:QaE)] [(K, .cells #[(Iv a1.Topic),(Sv a1.Name),Zs] 50 (0,0))]:=OwnS.rows (css:=[[(Iv a1.Topic),(Sv a1.Name),Zs]]) (Rows.cons (QhN (x:=(⟨a1.Topic,a1.Name,[]⟩:QaE)) (RS.nil _ _)) Rows.nil) Z Z
 obtain ⟨L,h⟩:=Qa1 h
 refine Wb (We (append (dd:=QaI) (xs:=([]:List QaE)++a0.Topics) (ys:=[(⟨a1.Topic,a1.Name,[]⟩:QaE)]) underlying25 underlying25 in50 Z (appB (by decide) L) (by decide) Z Z B (T.src 1 Z)) Z ?_)
 rintro p _ _ - ⟨rfl,Y,rfl,y⟩
 refine qu (pt s 1) (Fa QcB Z Z) (Wb (We (Es p ((l29 a0 a p b c)) y.cells sz25 Z Z (Ow y) Z Z Z) Z ?_))
 rintro _ _ _ - ⟨rfl,rfl⟩
 refine Ns (qu (pt t 3) (Fa QgY Z Z) (qu (Iv a1.Topic) (Lb 5 pl3 Z Z Z) (qu (pt s 4) (Fa QmS Z Z) (We (Es (Iv a1.Topic) [a,p,b,c,(Iv a1.Topic)] Z sz3 Z Z Z Z Z Z) Z ?_))))
 rintro _ _ _ - ⟨rfl,rfl⟩
 refine Ns (qu (.agg #[a,p,b,c,(Iv a1.Topic)]) (La (cs:=[a,p,b,c,(Iv a1.Topic)]) 0 ag29 sz29 Z Z Z) (WL.f4 (We (Sg (v:=(.agg #[a,p,b,c,(Iv a1.Topic)])) (vl:=[a,p,b,c,(Iv a1.Topic)]) (arr':=[a,p,b,c,(Iv a1.Topic)]) Z sz29 Z Z (QaX (Oc (RS.one f) (Oc (Ow y) (Oc (RS.one g) (Oc (RS.one i) (Oc Z Oz)))))) Z Z Z) Z ?_)))
 rintro _ _ _ - ⟨rfl,rfl⟩
 refine qa (Iv 0) (Nt (Cr (Qb (WQ.know (fun _ hs=>y.rs hs) (fun N=> ?_)))))
 refine WQ.freeze (fun q=> ?_)
 refine Qa (Dr (Qa (Dr (Qa (Dr (Qa (Dr (Qa (Dr ?_)))))))))
 have f:=f.mono q
 have g:=g.mono q
 have i:=i.mono q
 exact Rd h [] (fun _ hs=>hs.drop) (QaP Z (RVs.cons (Rc (cs:=[a,p,b,c,(Iv a1.Topic)]) 0 ag29 sz29 Z Z Z) (RVs.cons (RV.tmp Z) RVs.nil))) (e.trans q) ⟨a,p,b,c,Z,Z,f,N,g,i⟩
noncomputable def QnP (a0:QaA) (a1:Int) (d:(Int×(List QaE))):Option ((Int×(List QaE))⊕(List QaE)):=
 match d with
 |(a,b)=>
 (if(decide (a<(a0.Topics.length:Int)))=true then(((grd (0≤a∧a<a0.Topics.length) (if(decide (((rd a0.Topics a).Id)≠a1))=true then(grd (0≤a∧a<a0.Topics.length) (grd (b.length+[(rd a0.Topics a)].length≤274877906944) (some (b++[(rd a0.Topics a)]))))else(some b))):Option (List QaE)).bind fun c=>(some (inl (i64.wrap (a+(1:Int)),c))))else(some (inr b)))
noncomputable def QnQ (a0:QaA) (a1:Int) (d:(Int×(List QaJ))):Option ((Int×(List QaJ))⊕(List QaJ)):=
 match d with
 |(a,b)=>
 (if(decide (a<(a0.Configs.length:Int)))=true then(((grd (0≤a∧a<a0.Configs.length) (if(decide (((rd a0.Configs a).Topic)≠a1))=true then(grd (0≤a∧a<a0.Configs.length) (grd (b.length+[(rd a0.Configs a)].length≤274877906944) (some (b++[(rd a0.Configs a)]))))else(some b))):Option (List QaJ)).bind fun c=>(some (inl (i64.wrap (a+(1:Int)),c))))else(some (inr b)))
noncomputable def QnR (a0:QaA) (a1:Int):Option (QaA×Int):=
 ((Qe7 a0 a1).bind fun(f,a)=>(if(!a)=true then(some (a0,(8:Int)))else((((iter (QnP a0 a1) ((0:Int),[])).bind (fun(b:(List QaE))=>(some b))):Option (List QaE)).bind fun c=>((((iter (QnQ a0 a1) ((0:Int),[])).bind (fun(d:(List QaJ))=>(some d))):Option (List QaJ)).bind fun e=>(some ((⟨a0.Brokers,c,e,a0.Done,a0.Last⟩:QaA),(0:Int)))))))
def Qr4 (a0:QaA) (a1:Int) (g i j k:Value):(QaA×Int)→Value→IM→HL→Prop:=
 fun(l:(QaA×Int)) (v:Value) (f:IM) (m:HL)=>match l with |(e,n)=>∃ a b c d,(.tuple #[(.agg #[a,b,c,d,(.int .i64 e.Last)]),(.int .i64 n)])=v∧m=[]∧RS QaG f a e.Brokers∧RS QaI f b e.Topics∧RS QaH f c e.Configs∧RS QaL f d e.Done
theorem QuW (a0:QaA) (a1:Int) (M:IM) (a d c b:Value) (j:RS QaG M a a0.Brokers) (m:RS QaI M d a0.Topics) (o:RS QaH M c a0.Configs) (k:RS QaL M b a0.Done) (g4:(QaA×Int)) (h:QnR a0 a1=some g4):
 Tri prog 76 #[(a29_ a0 a d c b),(Iv a1)] M [] (Qr4 a0 a1 a d c b g4):=by
 unfold QnR at h
 refine Te func76 Z Z ?_
 intro F ρ j3
 refine Sr (We (box (cs:=(l29 a0 a d c b).toArray) (congrArg Value.cells (asE (a29_ a0 a d c b) (j3 0)))) Z ?_)
 rintro _ _ _ - ⟨rfl,q,rfl,rfl⟩
 refine We (Al ze29 Z) Z ?_
 rintro _ _ _ - ⟨rfl,C,rfl,rfl⟩
 refine qa (Iv 0) (Nt (Cs (Sr (qu (a29_ a0 a d c b) (La (cs:=(l29 a0 a d c b)) 1 ag29 sz29 Z Z Z) (qM (Iv a1) (j3 1) ?_)))))
 obtain ⟨⟨D,b2⟩,g5,h⟩:=bnd h
 refine We (Ca co96 (QiC a0 a1 _ _ _ _ _ j m o k (D,b2) g5) (QaS Z Z)) Z ?_
 rintro _ g6 _ l ⟨_,⟨e,rfl,rfl,c0⟩,rfl⟩
 refine WL.a0 (qm (.tuple #[(a50_ D e),(Bv b2)]) (qu (a50_ D e) (Xt Z Z) (qu (Bv b2) (Xt Z Z) (We (Al ze50 Z) Z ?_))))
 rintro _ _ _ - ⟨rfl,b3,rfl,rfl⟩
 refine We (Sg (v:=(a50_ D e)) (vl:=(l50 D e)) (arr':=(l50 D e)) Z sz50 Z Z (QaX (Oc Z (Oc Z (Oc (RS.one c0) Oz)))) Z Z Z) Z ?_
 rintro _ _ _ - ⟨rfl,rfl⟩
 refine qa (Bv b2) (Ns (qm (Bv b2) (qu (Bv (!b2)) (PO.not Z) (Nt (Ch h Z (fun g7 h=> ?_) (fun g7 h=> ?_))))))
 refine Sr (qu (a29_ a0 a d c b) (La (cs:=(l29 a0 a d c b)) 2 ag29 sz29 Z Z Z) (WL.f1 ?_))
 have j:=j.mono l
 have m:=m.mono l
 have o:=o.mono l
 have k:=k.mono l
 refine We (Sg (v:=(a29_ a0 a d c b)) (vl:=(l29 a0 a d c b)) (arr':=(l29 a0 a d c b)) Z sz29 Z Z (QaX (Oc (RS.one j) (Oc (RS.one m) (Oc (RS.one o) (Oc (RS.one k) (Oc Z Oz)))))) Z Z Z) Z ?_
 rintro _ _ _ - ⟨rfl,rfl⟩
 exact qa (Iv 8) (Nt (Cr (Tr (Qa (Dr (Qa (Dr (Rd h [] (fun _ hs=>hs.drop) (QaP Z (RVs.cons (Rc (cs:=(l29 a0 a d c b)) 0 ag29 sz29 Z Z Z) (RVs.cons (RV.tmp Z) RVs.nil))) l ⟨a,d,c,b,Z,Z,j,m,o,k⟩))))))))
 refine Ck (Tc (Sr (qu (a29_ a0 a d c b) (La (cs:=(l29 a0 a d c b)) 2 ag29 sz29 Z Z Z) (We (Al ze29 Z) Z ?_))))
 rintro _ _ _ - ⟨rfl,p,rfl,rfl⟩
 have j:=j.mono l
 have m:=m.mono l
 have o:=o.mono l
 have k:=k.mono l
 refine We (Sg (v:=(a29_ a0 a d c b)) (vl:=(l29 a0 a d c b)) (arr':=(l29 a0 a d c b)) Z sz29 Z Z (QaX (Oc (RS.one j) (Oc (RS.one m) (Oc (RS.one o) (Oc (RS.one k) (Oc Z Oz)))))) Z Z Z) Z ?_
 rintro _ _ _ - ⟨rfl,rfl⟩
 refine Ns (qu (pt p 1) (Fa QcB Z Z) (We (Es Zs ((l29 a0 a Zs c b)) Z sz25 Z Z Z Z Z Z) Z ?_))
 rintro _ _ _ - ⟨rfl,rfl⟩
 refine Nt ?_
 obtain ⟨d9,g8,h⟩:=bnd h
 refine Jf (fun(d9:(List QaE)) z S H'=>∃ f G,g6.le S∧[(p, .cells (l29 a0 a f c b).toArray 29 (0,0))]::[(b3, .cells (l50 D e).toArray 50 (0,0))]::[(C, .cells z29_.toArray 29 (0,0))]::[(q, .cells (l29 a0 a d c b).toArray 29 (0,0))]::G::F=H'∧z 1=(Iv a1)∧z 2=(pt q 0)∧z 4=(pt C 0)∧z 8=(pt p 0)∧OwnS QaI S f d9 G) d9 ?_ ?_
 have h:=g8
 refine Sr (qa (Iv 0) (Nt (Bk (WC.e0 (WC.f4 (WC.f4 (WC.f4 (WC.f4 ?_))))))))
 obtain ⟨k5,g9,h0⟩:=bnd h
 clear h
 refine WC.loop g9 (fun(p_:(Int×(List QaE))) z S H'=>match p_ with |(g,c1)=>∃ I T,g6.le S∧[(p, .cells (l29 a0 a I c b).toArray 29 (0,0))]::[(b3, .cells (l50 D e).toArray 50 (0,0))]::[(C, .cells z29_.toArray 29 (0,0))]::[(q, .cells (l29 a0 a d c b).toArray 29 (0,0))]::T::F=H'∧z 1=(Iv a1)∧z 2=(pt q 0)∧z 4=(pt C 0)∧z 8=(pt p 0)∧z 9=(Iv g)∧OwnS QaI S I c1 T) ?_ ?_
 exact⟨Zs,[],lr,Z,(j3 1),Z,Z,Z,Z,(OwnS.nil _ _)⟩
 rintro ⟨g,c1⟩ k6 k7 h1 k8 h ⟨I,T,V,rfl,E,s,K,t,A,b5⟩
 unfold QnP at h
 refine Cs (Sr (qM (Iv g) A (qu (pt q 1) (Fa QcB s Z) (qu d (Lb 3 pl25 Z Z Z) ?_))))
 have m:=m.mono V
 refine qu (Iv (a0.Topics.length:Int)) (lenS underlying25 Z m.len) (qu (Bv (decide (g<(a0.Topics.length:Int)))) (lss Z Z) (Nt (Ch h Z (fun h2 h=> ?_) (fun h2 h=> ?_))))
 refine Ck (Tc ?_)
 obtain ⟨c2,h3,h⟩:=bnd h
 refine Jf (fun(c2:(List QaE)) z S H'=>∃ X Y,h1.le S∧[(p, .cells (l29 a0 a X c b).toArray 29 (0,0))]::[(b3, .cells (l50 D e).toArray 50 (0,0))]::[(C, .cells z29_.toArray 29 (0,0))]::[(q, .cells (l29 a0 a d c b).toArray 29 (0,0))]::Y::F=H'∧z 1=(Iv a1)∧z 2=(pt q 0)∧z 4=(pt C 0)∧z 8=(pt p 0)∧z 9=(Iv g)∧OwnS QaI S X c2 Y) c2 ?_ ?_
 have h:=h3
 refine Bk (Sr (qu (pt q 1) (Fa QcB s Z) (qu d (Lb 3 pl25 Z Z Z) (qM (Iv g) A ?_))))
 obtain ⟨a2,h⟩:=Qa1 h
 obtain ⟨h4,k1,e1,e2,hhas48⟩:=m.at a2.1 a2.2 (by decide)
 obtain ⟨j1,rfl,j2⟩:=QaW e2
 refine qu (.pointer (some h4)) (indexAddr (n:=a0.Topics.length) underlying25 sz50 Z Z a2.1 a2.2 e1) (qu (.pointer (some (h4.add 0))) (Fa QkJ Z Z) (qu (Iv ((rd a0.Topics g).Id)) (loadM pl3 Z (IM.has0 hhas48)) (qM (Iv a1) E (qu (Bv (decide (((rd a0.Topics g).Id)≠a1))) (neq Z Z) (Nt (Ch h Z (fun h5 h=> ?_) (fun h5 h=> ?_)))))))
 refine WC.draw [0,1,0,4,0,28,60,124,255,511,1023] (.pure 0 (.pure 1 (.pure 2 (.pure 3 (.pure 4 (.pure 5 (.pure 6 (.alt 7 (.alt 8 (.pure 9 (.alt 10 .done .none)) .none) .none)))))))) Qc3 (by kernel_rfl) (qt (pt p 1) Z (Fa QcB t Z) (qt I Z (Lb 0 pl25 Z Z Z) (qt (pt q 1) Z (Fa QcB s Z) (qt d Z (Lb 3 pl25 Z Z Z) (qt (Iv g) Z (Mv A) ?_)))))
 obtain ⟨a3,h⟩:=Qa1 h
 obtain ⟨j5,k2,e3,e4,hhas56⟩:=m.at a3.1 a3.2 (by decide)
 obtain ⟨u,rfl,c3⟩:=QaW e4
 refine qt (.pointer (some j5)) Z (indexAddr (n:=a0.Topics.length) underlying25 sz50 Z Z a3.1 a3.2 e3) (qt (a50_ (rd a0.Topics g) u) Z (loadMA (cs:=(l50 (rd a0.Topics g) u)) ag50 sz50 Z hhas56) (Ta Z (buildSliceL (cl:=(l50 (rd a0.Topics g) u)) underlying25 iz50 Z (Pc (a50_ (rd a0.Topics g) u) Z Z Pz) Z) Z ?_ ?_))
 rintro _ _ _ - ⟨rfl,h6,rfl,rfl⟩
 have j6:OwnS QaI h1 (.slice (some ⟨h6,0,none⟩) 1 1) [(rd a0.Topics g)] [(h6, .cells (l50 (rd a0.Topics g) u).toArray 50 (0,0))]:=OwnS.rows (css:=[(l50 (rd a0.Topics g) u)]) (Rows.cons (QhN (x:=(rd a0.Topics g)) c3) Rows.nil) Z Z
 refine⟨(Sk 5 Z (Ss Z (Lb 1 pl25 Z Z Z) Z (Ss Z (Fa QcB t Z) Z trivial))), ?_⟩
 obtain ⟨h7,h⟩:=Qa1 h
 refine WT.f5 (Ta Z (append (dd:=QaI) (xs:=c1) (ys:=[(rd a0.Topics g)]) underlying25 underlying25 in50 Z (appB (by decide) h7) (by decide) Z Z b5 (j6.src 1 Z)) Z ?_ ?_)
 rintro e5 _ _ - ⟨rfl,j7,rfl,e6⟩
 refine⟨(Sl Z), ?_⟩
 refine qt (pt p 1) Z (Fa QcB t Z) (WT.f2 (Ta Z (Es e5 ((l29 a0 a e5 c b)) e6.cells sz25 Z Z (Ow e6) Z Z Z) Z ?_ ?_))
 rintro _ _ _ - ⟨rfl,rfl⟩
 refine⟨(Sl Z), ?_⟩
 refine Ti (Bn (Qb (Dr (Qa (WQ.f4 (WQ.f4 (WQ.f4 (WQ.f4 ?_))))))))
 obtain rfl:=oi h
 exact Tj ⟨e5,j7,lr,Z,E,s,K,t,A,e6⟩
 exact Tz
 exact Tz
 exact Tz
 refine Ck (Bn ?_)
 obtain rfl:=oi h
 exact Tj ⟨I,T,lr,Z,E,s,K,t,A,b5⟩
 rintro k9 l0 l1 ⟨X,Y,e7,rfl,c4,c5,c6,c7,c8,h8⟩
 exact Cg (qM (Iv g) c8 (qu (Iv (i64.wrap (g+1))) (add Z Z) (qa (Iv (i64.wrap (g+1))) (Wz (WQ.again (i64.wrap (g+1),c2) (oi h).symm ⟨X,Y,(V.trans e7),Z,c4,c5,c6,c7,Z,h8⟩)))))
 refine WC.exit (WQ.thenE (WQ.leaveE c1 (oi h).symm (fun e8=> ?_)))
 subst e8
 have h:=h0
 refine WQ.blockH ?_
 obtain rfl:=oi h
 exact Tj ⟨I,T,V,Z,E,s,K,t,b5⟩
 rintro l2 h9 l3 ⟨f,G,L,rfl,c9,d0,d1,a4,a5⟩
 refine Sr (qu (pt p 2) (Fa QdY a4 Z) (We (Es Zs ((l29 a0 a f Zs b)) Z sz26 Z Z Z Z Z Z) Z ?_))
 rintro _ _ _ - ⟨rfl,rfl⟩
 refine Nt ?_
 obtain ⟨e9,i0,h⟩:=bnd h
 refine Jf (fun(e9:(List QaJ)) z S H'=>∃ y b6,h9.le S∧[(p, .cells (l29 a0 a f y b).toArray 29 (0,0))]::[(b3, .cells (l50 D e).toArray 50 (0,0))]::[(C, .cells z29_.toArray 29 (0,0))]::[(q, .cells (l29 a0 a d c b).toArray 29 (0,0))]::G::b6::F=H'∧z 4=(pt C 0)∧z 8=(pt p 0)∧OwnS QaH S y e9 b6) e9 ?_ ?_
 have h:=i0
 refine Sr (qa (Iv 0) (Nt (Bk (WC.e0 (WC.f5 (WC.f5 (WC.f5 (WC.f5 (WC.f5 ?_)))))))))
 obtain ⟨l4,i1,i2⟩:=bnd h
 clear h
 refine WC.loop i1 (fun(p_:(Int×(List QaJ))) z S H'=>match p_ with |(i,d2)=>∃ J U,h9.le S∧[(p, .cells (l29 a0 a f J b).toArray 29 (0,0))]::[(b3, .cells (l50 D e).toArray 50 (0,0))]::[(C, .cells z29_.toArray 29 (0,0))]::[(q, .cells (l29 a0 a d c b).toArray 29 (0,0))]::G::U::F=H'∧z 1=(Iv a1)∧z 2=(pt q 0)∧z 4=(pt C 0)∧z 8=(pt p 0)∧z 10=(Iv i)∧OwnS QaH S J d2 U) ?_ ?_
 exact⟨Zs,[],lr,Z,c9,d0,d1,a4,Z,(OwnS.nil _ _)⟩
 rintro ⟨i,d2⟩ l5 l6 i3 l7 h ⟨J,U,W,rfl,N,B,O,w,r,b7⟩
 unfold QnQ at h
 refine Cs (Sr (qM (Iv i) r (qu (pt q 2) (Fa QdY B Z) (qu c (Lb 3 pl26 Z Z Z) ?_))))
 have o:=o.mono (L.trans W)
 refine qu (Iv (a0.Configs.length:Int)) (lenS underlying26 Z o.len) (qu (Bv (decide (i<(a0.Configs.length:Int)))) (lss Z Z) (Nt (Ch h Z (fun i4 h=> ?_) (fun i4 h=> ?_))))
 refine Ck (Tc ?_)
 obtain ⟨d3,i5,h⟩:=bnd h
 refine Jf (fun(d3:(List QaJ)) z S H'=>∃ a6 a7,i3.le S∧[(p, .cells (l29 a0 a f a6 b).toArray 29 (0,0))]::[(b3, .cells (l50 D e).toArray 50 (0,0))]::[(C, .cells z29_.toArray 29 (0,0))]::[(q, .cells (l29 a0 a d c b).toArray 29 (0,0))]::G::a7::F=H'∧z 1=(Iv a1)∧z 2=(pt q 0)∧z 4=(pt C 0)∧z 8=(pt p 0)∧z 10=(Iv i)∧OwnS QaH S a6 d3 a7) d3 ?_ ?_
 have h:=i5
 refine Bk (Sr (qu (pt q 2) (Fa QdY B Z) (qu c (Lb 3 pl26 Z Z Z) (qM (Iv i) r ?_))))
 obtain ⟨a8,h⟩:=Qa1 h
 obtain ⟨i6,k3,f0,f3,hhas80⟩:=o.at a8.1 a8.2 (by decide)
 obtain rfl:=QbJ f3
 refine qu (.pointer (some i6)) (indexAddr (n:=a0.Configs.length) underlying26 sz74 Z Z a8.1 a8.2 f0) (qu (.pointer (some (i6.add 0))) (Fa QeP Z Z) (qu (Iv ((rd a0.Configs i).Topic)) (loadM pl3 Z (IM.has0 hhas80)) (qM (Iv a1) N (qu (Bv (decide (((rd a0.Configs i).Topic)≠a1))) (neq Z Z) (Nt (Ch h Z (fun i7 h=> ?_) (fun i7 h=> ?_)))))))
 refine WC.draw [0,1,0,4,0,28,60,124,255,511,1023] (.pure 0 (.pure 1 (.pure 2 (.pure 3 (.pure 4 (.pure 5 (.pure 6 (.alt 7 (.alt 8 (.pure 9 (.alt 10 .done .none)) .none) .none)))))))) Qc3 (by kernel_rfl) (qt (pt p 2) Z (Fa QdY w Z) (qt J Z (Lb 0 pl26 Z Z Z) (qt (pt q 2) Z (Fa QdY B Z) (qt c Z (Lb 3 pl26 Z Z Z) (qt (Iv i) Z (Mv r) ?_)))))
 obtain ⟨a9,h⟩:=Qa1 h
 obtain ⟨j8,k4,f7,f8,hhas88⟩:=o.at a9.1 a9.2 (by decide)
 obtain rfl:=QbJ f8
 refine qt (.pointer (some j8)) Z (indexAddr (n:=a0.Configs.length) underlying26 sz74 Z Z a9.1 a9.2 f7) (qt (a74_ (rd a0.Configs i)) Z (loadMA (cs:=(l74 (rd a0.Configs i))) ag74 sz74 Z hhas88) (Ta Z (buildSliceL (cl:=(l74 (rd a0.Configs i))) underlying26 iz74 Z (Pc (a74_ (rd a0.Configs i)) Z Z Pz) Z) Z ?_ ?_))
 rintro _ _ _ - ⟨rfl,i8,rfl,rfl⟩
 have j9:OwnS QaH i3 (.slice (some ⟨i8,0,none⟩) 1 1) [(rd a0.Configs i)] [(i8, .cells (l74 (rd a0.Configs i)).toArray 74 (0,0))]:=OwnS.rows (css:=[(l74 (rd a0.Configs i))]) (Rows.cons (Qd4 (x:=(rd a0.Configs i))) Rows.nil) Z Z
 refine⟨(Sk 5 Z (Ss Z (Lb 1 pl26 Z Z Z) Z (Ss Z (Fa QdY w Z) Z trivial))), ?_⟩
 obtain ⟨i9,h⟩:=Qa1 h
 refine WT.f6 (Ta Z (append (dd:=QaH) (xs:=d2) (ys:=[(rd a0.Configs i)]) underlying26 underlying26 in74 Z (appB (by decide) i9) (by decide) Z Z b7 (j9.src 1 Z)) Z ?_ ?_)
 rintro f9 _ _ - ⟨rfl,k0,rfl,g0⟩
 refine⟨(Sl Z), ?_⟩
 refine qt (pt p 2) Z (Fa QdY w Z) (WT.f2 (Ta Z (Es f9 ((l29 a0 a f f9 b)) g0.cells sz26 Z Z (Ow g0) Z Z Z) Z ?_ ?_))
 rintro _ _ _ - ⟨rfl,rfl⟩
 refine⟨(Sl Z), ?_⟩
 refine Ti (Bn (Qb (Dr (Qa (WQ.f5 (WQ.f5 (WQ.f5 (WQ.f5 (WQ.f5 ?_)))))))))
 obtain rfl:=oi h
 exact Tj ⟨f9,k0,lr,Z,N,B,O,w,r,g0⟩
 exact Tz
 exact Tz
 exact Tz
 refine Ck (Bn ?_)
 obtain rfl:=oi h
 exact Tj ⟨J,U,lr,Z,N,B,O,w,r,b7⟩
 rintro l8 l9 m0 ⟨a6,a7,g1,rfl,d4,d5,d6,d7,b8,j0⟩
 exact Cg (qM (Iv i) b8 (qu (Iv (i64.wrap (i+1))) (add Z Z) (qa (Iv (i64.wrap (i+1))) (Wz (WQ.again (i64.wrap (i+1),d3) (oi h).symm ⟨a6,a7,(W.trans g1),Z,d4,d5,d6,d7,Z,j0⟩)))))
 refine WC.exit (WQ.thenE (WQ.leaveE d2 (oi h).symm (fun g2=> ?_)))
 subst g2
 have h:=i2
 refine WQ.blockH ?_
 obtain rfl:=oi h
 exact Tj ⟨J,U,W,Z,O,w,b7⟩
 rintro m1 m2 m3 ⟨y,b6,P,rfl,b0,d8,b1⟩
 refine Sr (qu (a29_ a0 a f y b) (La (cs:=(l29 a0 a f y b)) 0 ag29 sz29 d8 Z Z) (Wb ?_))
 have j:=j.mono (L.trans P)
 have a5:=a5.mono P
 have k:=k.mono (L.trans P)
 refine We (Sg (v:=(a29_ a0 a f y b)) (vl:=(l29 a0 a f y b)) (arr':=(l29 a0 a f y b)) Z sz29 b0 Z (QaX (Oc (RS.one j) (Oc (Ow a5) (Oc (Ow b1) (Oc (RS.one k) (Oc Z Oz)))))) Z Z Z) Z ?_
 rintro _ _ _ - ⟨rfl,rfl⟩
 refine qa (Iv 0) (Nt (Cr (WQ.f4 (WQ.know (fun _ hs=>a5.rs hs) (fun b9=> ?_)))))
 refine WQ.freeze (fun Q=> ?_)
 refine WQ.f4 ?_
 have b1:=b1.mono Q
 refine WQ.know (fun _ hs=>b1.rs hs) (fun g3=> ?_)
 refine WQ.freeze (fun R=> ?_)
 refine Qa (Dr (Qa (Dr (Qa (Dr ?_)))))
 have j:=j.mono (Q.trans R)
 have b9:=b9.mono R
 have k:=k.mono (Q.trans R)
 exact Rd h [] (fun _ hs=>hs.drop) (QaP Z (RVs.cons (Rc (cs:=(l29 a0 a f y b)) 0 ag29 sz29 b0 Z Z) (RVs.cons (RV.tmp Z) RVs.nil))) ((((l.trans L).trans P).trans Q).trans R) ⟨a,f,y,b,Z,Z,j,b9,g3,k⟩
noncomputable def QlU (a0:QaA) (a1:Int) (a2:ByteArray) (c:Int):Option (Int⊕(Unit⊕ByteArray)):=
 match c with
 |a=>
 (if(decide (a<(a0.Configs.length:Int)))=true then(((grd (0≤a∧a<a0.Configs.length) (if(decide (((rd a0.Configs a).Topic)=a1))=true then(grd (0≤a∧a<a0.Configs.length) (some (decide (((rd a0.Configs a).Key)=a2))))else(some false))):Option Bool).bind fun b=>(if b=true then(grd (0≤a∧a<a0.Configs.length) (some (inr (inr ((rd a0.Configs a).Value)))))else(some (inl (i64.wrap (a+(1:Int)))))))else(some (inr (inl ()))))
noncomputable def QlH (a0:QaA) (a1:Int) (a2:ByteArray):Option (ByteArray×Bool):=
 ((((iter (QlU a0 a1 a2) (0:Int)).bind (Sum.elim (fun _=>(some (inl ()))) (fun(a:ByteArray)=>(((some (a,true))).bind fun r=>some (inr r))))):Option (Unit⊕(ByteArray×Bool))).bind (Sum.elim (fun _=>(some ((⟨#[]⟩:ByteArray),false))) some))
def QpM (a0:QaA) (a1:Int) (a2:ByteArray) (a b c d:Value):(ByteArray×Bool)→Value→IM→HL→Prop:=
 fun(e:(ByteArray×Bool)) (v:Value) (j:IM) (f:HL)=>match e with |(g,i)=>(.tuple #[(.string g),(.bool i)])=v∧f=[]
theorem Qr5 (a0:QaA) (a1:Int) (a2:ByteArray) (M:IM) (f g b i:Value) (a5:RS QaG M f a0.Brokers) (a6:RS QaI M g a0.Topics) (j:RS QaH M b a0.Configs) (a7:RS QaL M i a0.Done) (L:(ByteArray×Bool)) (h:QlH a0 a1 a2=some L):
 Tri prog 112 #[(a29_ a0 f g b i),(Iv a1),(Sv a2)] M [] (QpM a0 a1 a2 f g b i L):=by
 unfold QlH at h
 refine Te func112 Z Z ?_
 intro F ρ Y
 refine Sr (We (box (cs:=(l29 a0 f g b i).toArray) (congrArg Value.cells (asE (a29_ a0 f g b i) (Y 0)))) Z ?_)
 rintro _ _ _ - ⟨rfl,k,rfl,rfl⟩
 refine qa (Sv ⟨#[]⟩) (qa (Bv false) (Nt ?_))
 obtain ⟨a3,N,h⟩:=bnd h
 refine WC.joinE (fun(_:Unit) w O P=>M.le O∧[(k, .cells (l29 a0 f g b i).toArray 29 (0,0))]::F=P) a3 ?_ ?_
 have Q:=h
 have h:=N
 refine Sr (qa (Iv 0) (Nt (Bk ?_)))
 obtain ⟨b1,R,A⟩:=bnd h
 clear h
 refine WC.loop R (fun(a:Int) w O P=>M.le O∧[(k, .cells (l29 a0 f g b i).toArray 29 (0,0))]::F=P∧w 1=(Iv a1)∧w 2=(Sv a2)∧w 3=(pt k 0)∧w 8=(Iv a)) ?_ ?_
 exact⟨lr,Z,(Y 1),(Y 2),Z,Z⟩
 rintro a b2 b3 a4 b4 h ⟨l,rfl,m,o,d,e⟩
 unfold QlU at h
 refine Cs (Sr (qM (Iv a) e (qu (pt k 2) (Fa QdY d Z) (qu b (Lb 0 pl26 Z Z Z) ?_))))
 have j:=j.mono l
 refine qu (Iv (a0.Configs.length:Int)) (lenS underlying26 Z j.len) (qu (Bv (decide (a<(a0.Configs.length:Int)))) (lss Z Z) (Nt (Ch h Z (fun S h=> ?_) (fun S h=> ?_))))
 refine Ck (Tc (Cs (Bk ?_)))
 obtain ⟨B,T,h⟩:=bnd h
 refine Jf (fun(B:Bool) w O P=>a4.le O∧[(k, .cells (l29 a0 f g b i).toArray 29 (0,0))]::F=P∧w 1=(Iv a1)∧w 2=(Sv a2)∧w 3=(pt k 0)∧w 8=(Iv a)∧w 33=(Bv B)) B ?_ ?_
 have h:=T
 refine Cg (qu (pt k 2) (Fa QdY d Z) (qu b (Lb 0 pl26 Z Z Z) (qM (Iv a) e ?_)))
 obtain ⟨r,h⟩:=Qa1 h
 obtain ⟨U,a8,C,D,hhas34⟩:=j.at r.1 r.2 (by decide)
 obtain rfl:=QbJ D
 refine qu (.pointer (some U)) (indexAddr (n:=a0.Configs.length) underlying26 sz74 Z Z r.1 r.2 C) (qu (.pointer (some (U.add 0))) (Fa QeP Z Z) (qu (Iv ((rd a0.Configs a).Topic)) (loadM pl3 Z (IM.has0 hhas34)) (qM (Iv a1) m (qu (Bv (decide (((rd a0.Configs a).Topic)=a1))) (eql Z Z) (qm (Bv (decide (((rd a0.Configs a).Topic)=a1))) ?_)))))
 rcases Bi h with⟨c,h⟩ |⟨c,h⟩
 refine qo 24 c (pt k 2) (Fa QdY d Z) (qo 24 c b (Lb 0 pl26 Z Z Z) (On 24 Z Z c (qM (Iv a) e (On 24 Z Z c ?_))))
 obtain ⟨s,h⟩:=Qa1 h
 obtain ⟨V,a9,E,G,hhas42⟩:=j.at s.1 s.2 (by decide)
 obtain rfl:=QbJ G
 refine qu (.pointer (some V)) (indexAddr (n:=a0.Configs.length) underlying26 sz74 Z Z s.1 s.2 E) (qo 24 c (.pointer (some (V.add 1))) (Fa QgQ Z Z) (qo 24 c (Sv ((rd a0.Configs a).Key)) (loadM pl9 Z (hhas42 1 _ Z)) (On 24 Z Z c (qM (Sv a2) o (qo 24 c (Bv (decide (((rd a0.Configs a).Key)=a2))) (seql Z Z) (qu (Bv (decide (((rd a0.Configs a).Key)=a2))) (Pt Z c Z) (Wz ?_)))))))
 obtain rfl:=oi h
 exact Tj ⟨lr,Z,m,o,d,e,Z⟩
 iterate 8 refine Of 24 Z Z c Z ?_
 refine qu (Bv false) (Pf Z c Z) (Wz ?_)
 obtain rfl:=oi h
 exact Tj ⟨lr,Z,m,o,d,e,Z⟩
 rintro b5 b6 b7 ⟨p,rfl,y,z,t,u,x⟩
 refine Ch h x (fun W h=> ?_) (fun W h=> ?_)
 refine Sr (qu (pt k 2) (Fa QdY t Z) (qu b (Lb 0 pl26 Z Z Z) (qM (Iv a) u ?_)))
 obtain ⟨v,h⟩:=Qa1 h
 have j:=j.mono p
 obtain ⟨X,b0,I,J,hhas50⟩:=j.at v.1 v.2 (by decide)
 obtain rfl:=QbJ J
 refine qu (.pointer (some X)) (indexAddr (n:=a0.Configs.length) underlying26 sz74 Z Z v.1 v.2 I) (qu (.pointer (some (X.add 2))) (Fa QgR Z Z) (qu (Sv ((rd a0.Configs a).Value)) (loadM pl9 Z (hhas50 2 _ Z)) (qa (Sv ((rd a0.Configs a).Value)) (qa (Bv true) (Nt (Cr (Br (Tr (WQ.leaveR (inr ((rd a0.Configs a).Value)) (oi h).symm (fun q=> ?_))))))))))
 subst q
 have h:=(QdZ A)
 refine Br (Tr ?_)
 have h:=KK.early h Q
 exact Dr (Rf h [] Z (Qg1 Z Z Z) (l.trans p) ⟨Z,Z⟩)
 exact Ck (Bn (Tc (Cg (qM (Iv a) u (qu (Iv (i64.wrap (a+1))) (add Z Z) (qa (Iv (i64.wrap (a+1))) (Wz (WQ.again (i64.wrap (a+1)) (oi h).symm ⟨(l.trans p),Z,y,z,t,Z⟩))))))))
 refine WC.exit (WQ.thenE (WQ.leaveE (inl ()) (oi h).symm (fun q=> ?_)))
 subst q
 have h:=QeV A
 exact WQ.blockH (WQ.thenFE h ⟨l,Z⟩)
 rintro _ b8 b9 c0 rfl ⟨K,rfl⟩
 have h:=(Sum.elim_inl _ _ _).symm.trans h
 exact Sr (qa (Sv ⟨#[]⟩) (qa (Bv false) (Nt (Cr (Dr (Rf h [] Z (Qg1 Z Z Z) K ⟨Z,Z⟩))))))
noncomputable def QlV (a0:QaA) (a1:QaO) (k:(Bool×Int×(List QaJ))):Option ((Bool×Int×(List QaJ))⊕(Bool×(List QaJ))):=
 match k with
 |(c,a,b)=>
 (if(decide (a<(a0.Configs.length:Int)))=true then(((grd (0≤a∧a<a0.Configs.length) (((((if(!c)=true then(if(decide (a1.Topic<((rd a0.Configs a).Topic)))=true then(some true)else(if(decide (((rd a0.Configs a).Topic)=a1.Topic))=true then(some (!Op.bytesLess ((rd a0.Configs a).Key).toList a1.Key.toList))else(some false)))else(some false)):Option Bool).bind fun f=>(if f=true then(grd (b.length+[(⟨a1.Topic,a1.Key,a1.Value⟩:QaJ)].length≤274877906944) (some (true,b++[(⟨a1.Topic,a1.Key,a1.Value⟩:QaJ)])))else(some (c,b)))):Option (Bool×(List QaJ))).bind fun(e,d)=>(((if(decide (((rd a0.Configs a).Topic)≠a1.Topic))=true then(some true)else(some (!decide (((rd a0.Configs a).Key)=a1.Key)))):Option Bool).bind fun g=>(if g=true then(grd (d.length+[(rd a0.Configs a)].length≤274877906944) (some (e,d++[(rd a0.Configs a)])))else(some (e,d)))))):Option (Bool×(List QaJ))).bind fun(i,j)=>(some (inl (i,i64.wrap (a+(1:Int)),j))))else(some (inr (c,b))))
noncomputable def QlI (a0:QaA) (a1:QaO):Option (QaA×Int):=
 ((Qe7 a0 a1.Topic).bind fun(k,b)=>(((if(!b)=true then(some (decide (a1.Topic≠(0:Int))))else(some false)):Option Bool).bind fun c=>(if c=true then(some (a0,(8:Int)))else((QlH a0 a1.Topic a1.Key).bind fun(l,d)=>(((if a1.Flag=true then(some (!d))else(some false)):Option Bool).bind fun e=>(if e=true then(some (a0,(8:Int)))else((((iter (QlV a0 a1) (a1.Flag,(0:Int),[])).bind (fun(f,g)=>(some (f,g)))):Option (Bool×(List QaJ))).bind fun(i,a)=>(((if(!i)=true then(grd (a.length+[(⟨a1.Topic,a1.Key,a1.Value⟩:QaJ)].length≤274877906944) (some (a++[(⟨a1.Topic,a1.Key,a1.Value⟩:QaJ)])))else(some a)):Option (List QaJ)).bind fun j=>(some ((⟨a0.Brokers,a0.Topics,j,a0.Done,a0.Last⟩:QaA),(0:Int)))))))))))
def QpN (a0:QaA) (a1:QaO) (l m n o g i j k:Value):(QaA×Int)→Value→IM→HL→Prop:=
 fun(p:(QaA×Int)) (v:Value) (f:IM) (q:HL)=>match p with |(e,r)=>∃ a b c d,(.tuple #[(.agg #[a,b,c,d,(.int .i64 e.Last)]),(.int .i64 r)])=v∧q=[]∧RS QaG f a e.Brokers∧RS QaI f b e.Topics∧RS QaH f c e.Configs∧RS QaL f d e.Done
theorem Qr6 (a0:QaA) (a1:QaO) (M:IM) (a b d c l m o p:Value) (i:RS QaG M a a0.Brokers) (j:RS QaI M b a0.Topics) (q:RS QaH M d a0.Configs) (k:RS QaL M c a0.Done) (n4:RS (Kd.int .i64) M l a1.Ids) (n5:RS (Kd.int .i64) M m a1.Isr) (n6:RS (Kd.int .i64) M o a1.Add) (n7:RS (Kd.int .i64) M p a1.Drop) (k3:(QaA×Int)) (h:QlI a0 a1=some k3):
 Tri prog 77 #[(a29_ a0 a b d c),(QjM a1 l m o p)] M [] (QpN a0 a1 a b d c l m o p k3):=by
 unfold QlI at h
 refine Te func77 Z Z ?_
 intro F ρ o8
 refine Sr (We (box (cs:=(l29 a0 a b d c).toArray) (congrArg Value.cells (asE (a29_ a0 a b d c) (o8 0)))) Z ?_)
 rintro _ _ _ - ⟨rfl,A,rfl,rfl⟩
 refine We (box (cs:=(l102 a1 l m o p).toArray) (congrArg Value.cells (asE (QjM a1 l m o p) (o8 1)))) Z ?_
 rintro _ _ _ - ⟨rfl,g,rfl,rfl⟩
 refine We (Al ze29 Z) Z ?_
 rintro _ _ _ - ⟨rfl,B,rfl,rfl⟩
 refine qa (Iv 0) (Nt (Cs (Sr (qu (a29_ a0 a b d c) (La (cs:=(l29 a0 a b d c)) 2 ag29 sz29 Z Z Z) (qu (pt g 3) (Fa QgY Z Z) (qu (Iv a1.Topic) (Lb 1 pl3 Z Z Z) ?_))))))
 obtain ⟨⟨G,c8⟩,k4,h⟩:=bnd h
 refine We (Ca co96 (QiC a0 a1.Topic _ _ _ _ _ i j q k (G,c8) k4) (QaS Z Z)) Z ?_
 rintro _ n8 _ h9 ⟨_,⟨f,rfl,rfl,g9⟩,rfl⟩
 refine WL.a0 (qm (.tuple #[(a50_ G f),(Bv c8)]) (qu (a50_ G f) (Xt Z Z) (qu (Bv c8) (Xt Z Z) (We (Al ze50 Z) Z ?_))))
 rintro _ _ _ - ⟨rfl,a9,rfl,rfl⟩
 refine We (Sg (v:=(a50_ G f)) (vl:=(l50 G f)) (arr':=(l50 G f)) Z sz50 Z Z (QaX (Oc Z (Oc Z (Oc (RS.one g9) Oz)))) Z Z Z) Z ?_
 rintro _ _ _ - ⟨rfl,rfl⟩
 refine qa (Bv c8) (Nt ?_)
 obtain ⟨i0,k5,h⟩:=bnd h
 refine Jf (fun(i0:Bool) r M' H'=>n8.le M'∧[(a9, .cells (l50 G f).toArray 50 (0,0))]::[(B, .cells z29_.toArray 29 (0,0))]::[(g, .cells (l102 a1 l m o p).toArray 102 (0,0))]::[(A, .cells (l29 a0 a b d c).toArray 29 (0,0))]::F=H'∧r 2=(pt A 0)∧r 3=(pt g 0)∧r 4=(pt B 0)∧r 27=(Bv i0)) i0 ?_ ?_
 have h:=k5
 refine Cg (qm (Bv c8) (qu (Bv (!c8)) (PO.not Z) (qm (Bv (!c8)) ?_)))
 rcases Bi h with⟨W,h⟩ |⟨W,h⟩
 refine qo 23 W (pt g 3) (Fa QgY Z Z) (qo 23 W (Iv a1.Topic) (Lb 2 pl3 Z Z Z) (qo 23 W (Bv (decide (a1.Topic≠0))) (neq Z Z) (qu (Bv (decide (a1.Topic≠0))) (Pt Z W Z) (Wz ?_))))
 obtain rfl:=oi h
 exact Tj ⟨lr,Z,Z,Z,Z,Z⟩
 iterate 3 refine Of 23 Z Z W Z ?_
 refine qu (Bv false) (Pf Z W Z) (Wz ?_)
 obtain rfl:=oi h
 exact Tj ⟨lr,Z,Z,Z,Z,Z⟩
 rintro p0 p1 p2 ⟨i1,rfl,S,I,T,f0⟩
 have X:=h9.trans i1
 refine Ch h f0 (fun k6 h=> ?_) (fun k6 h=> ?_)
 refine Sr (qu (a29_ a0 a b d c) (La (cs:=(l29 a0 a b d c)) 3 ag29 sz29 S Z Z) (WL.f1 ?_))
 have i:=i.mono X
 have j:=j.mono X
 have q:=q.mono X
 have k:=k.mono X
 refine We (Sg (v:=(a29_ a0 a b d c)) (vl:=(l29 a0 a b d c)) (arr':=(l29 a0 a b d c)) Z sz29 T Z (QaX (Oc (RS.one i) (Oc (RS.one j) (Oc (RS.one q) (Oc (RS.one k) (Oc Z Oz)))))) Z Z Z) Z ?_
 rintro _ _ _ - ⟨rfl,rfl⟩
 exact qa (Iv 8) (Nt (Cr (Tr (Qa (Dr (Qa (Dr (Qa (Dr (Rd h [] (fun _ hs=>hs.drop) (QaP Z (RVs.cons (Rc (cs:=(l29 a0 a b d c)) 0 ag29 sz29 T Z Z) (RVs.cons (RV.tmp Z) RVs.nil))) X ⟨a,b,d,c,Z,Z,i,j,q,k⟩))))))))))
 refine Ck (Tc (Sr (qu (a29_ a0 a b d c) (La (cs:=(l29 a0 a b d c)) 3 ag29 sz29 S Z Z) (qu (pt g 3) (Fa QgY I Z) (qu (Iv a1.Topic) (Lb 2 pl3 Z Z Z) (qu (pt g 11) (Fa QmK I Z) (qu (Sv a1.Key) (Lb 2 pl9 Z Z Z) ?_)))))))
 obtain ⟨⟨h0,c9⟩,k7,h⟩:=bnd h
 have i:=i.mono X
 have j:=j.mono X
 have q:=q.mono X
 have k:=k.mono X
 refine We (Ca Q7L (Qr5 a0 a1.Topic a1.Key _ _ _ _ _ i j q k (h0,c9) k7) (QcV Z Z Z)) Z ?_
 rintro _ n9 _ d0 ⟨_,⟨rfl,rfl⟩,rfl⟩
 refine WL.a0 (qm (.tuple #[(Sv h0),(Bv c9)]) (qu (Sv h0) (Xt Z Z) (qu (Bv c9) (Xt Z Z) (qa (Sv h0) (qa (Bv c9) (Nt (Cs ?_)))))))
 obtain ⟨i2,k8,h⟩:=bnd h
 refine Jf (fun(i2:Bool) r M' H'=>n9.le M'∧[(a9, .cells (l50 G f).toArray 50 (0,0))]::[(B, .cells z29_.toArray 29 (0,0))]::[(g, .cells (l102 a1 l m o p).toArray 102 (0,0))]::[(A, .cells (l29 a0 a b d c).toArray 29 (0,0))]::F=H'∧r 2=(pt A 0)∧r 3=(pt g 0)∧r 4=(pt B 0)∧r 43=(Bv i2)) i2 ?_ ?_
 have h:=k8
 refine Cg (qu (pt g 9) (Fa Qw1 I Z) (qu (Bv a1.Flag) (Lb 2 pl4 Z Z Z) (qm (Bv a1.Flag) ?_)))
 rcases Bi h with⟨a5,h⟩ |⟨a5,h⟩
 refine On 40 Z Z a5 (qm (Bv c9) (qo 40 a5 (Bv (!c9)) (PO.not Z) (qu (Bv (!c9)) (Pt Z a5 Z) (Wz ?_))))
 obtain rfl:=oi h
 exact Tj ⟨lr,Z,S,I,T,Z⟩
 iterate 2 refine Of 40 Z Z a5 Z ?_
 refine qu (Bv false) (Pf Z a5 Z) (Wz ?_)
 obtain rfl:=oi h
 exact Tj ⟨lr,Z,S,I,T,Z⟩
 rintro p3 k9 p4 ⟨d1,rfl,b0,d4,b1,f2⟩
 have b8:=d0.trans d1
 refine Ch h f2 (fun l0 h=> ?_) (fun l0 h=> ?_)
 refine Sr (qu (a29_ a0 a b d c) (La (cs:=(l29 a0 a b d c)) 3 ag29 sz29 b0 Z Z) (WL.f1 ?_))
 have i:=i.mono b8
 have j:=j.mono b8
 have q:=q.mono b8
 have k:=k.mono b8
 refine We (Sg (v:=(a29_ a0 a b d c)) (vl:=(l29 a0 a b d c)) (arr':=(l29 a0 a b d c)) Z sz29 b1 Z (QaX (Oc (RS.one i) (Oc (RS.one j) (Oc (RS.one q) (Oc (RS.one k) (Oc Z Oz)))))) Z Z Z) Z ?_
 rintro _ _ _ - ⟨rfl,rfl⟩
 exact qa (Iv 8) (Nt (Cr (Tr (Qa (Dr (Qa (Dr (Qa (Dr (Rd h [] (fun _ hs=>hs.drop) (QaP Z (RVs.cons (Rc (cs:=(l29 a0 a b d c)) 0 ag29 sz29 b1 Z Z) (RVs.cons (RV.tmp Z) RVs.nil))) ((X.trans d0).trans d1) ⟨a,b,d,c,Z,Z,i,j,q,k⟩))))))))))
 refine Ck (Tc (Sr (qu (a29_ a0 a b d c) (La (cs:=(l29 a0 a b d c)) 3 ag29 sz29 b0 Z Z) (We (Al ze29 Z) Z ?_))))
 rintro _ _ _ - ⟨rfl,w,rfl,rfl⟩
 have i:=i.mono b8
 have j:=j.mono b8
 have q:=q.mono b8
 have k:=k.mono b8
 refine We (Sg (v:=(a29_ a0 a b d c)) (vl:=(l29 a0 a b d c)) (arr':=(l29 a0 a b d c)) Z sz29 Z Z (QaX (Oc (RS.one i) (Oc (RS.one j) (Oc (RS.one q) (Oc (RS.one k) (Oc Z Oz)))))) Z Z Z) Z ?_
 rintro _ _ _ - ⟨rfl,rfl⟩
 refine Ns (qu (pt w 2) (Fa QdY Z Z) (We (Es Zs ((l29 a0 a b Zs c)) Z sz26 Z Z Z Z Z Z) Z ?_))
 rintro _ _ _ - ⟨rfl,rfl⟩
 refine Ns (qu (pt g 9) (Fa Qw1 d4 Z) (qu (Bv a1.Flag) (Lb 3 pl4 Z Z Z) (qa (Bv a1.Flag) (Nt ?_))))
 obtain ⟨l1,l2,h⟩:=bnd h
 refine Jf (fun(p_:(Bool×(List QaJ))) r M' H'=>match p_ with |(h1,i4)=>∃ b9 d5,k9.le M'∧[(w, .cells (l29 a0 a b b9 c).toArray 29 (0,0))]::[(a9, .cells (l50 G f).toArray 50 (0,0))]::[(B, .cells z29_.toArray 29 (0,0))]::[(g, .cells (l102 a1 l m o p).toArray 102 (0,0))]::[(A, .cells (l29 a0 a b d c).toArray 29 (0,0))]::d5::F=H'∧r 3=(pt g 0)∧r 4=(pt B 0)∧r 10=(pt w 0)∧r 11=(Bv h1)∧OwnS QaH M' b9 i4 d5) l1 ?_ ?_
 have h:=l2
 refine Sr (qa (Iv 0) (Nt (Bk (WC.e0 (WC.f5 (WC.f5 (WC.f5 (WC.f5 (WC.f5 ?_)))))))))
 obtain ⟨p5,l3,l4⟩:=bnd h
 clear h
 refine WC.loop l3 (fun(p_:(Bool×Int×(List QaJ))) r M' H'=>match p_ with |(d2,e,h2)=>∃ Y a6,k9.le M'∧[(w, .cells (l29 a0 a b Y c).toArray 29 (0,0))]::[(a9, .cells (l50 G f).toArray 50 (0,0))]::[(B, .cells z29_.toArray 29 (0,0))]::[(g, .cells (l102 a1 l m o p).toArray 102 (0,0))]::[(A, .cells (l29 a0 a b d c).toArray 29 (0,0))]::a6::F=H'∧r 2=(pt A 0)∧r 3=(pt g 0)∧r 4=(pt B 0)∧r 10=(pt w 0)∧r 11=(Bv d2)∧r 12=(Iv e)∧OwnS QaH M' Y h2 a6) ?_ ?_
 exact⟨Zs,[],lr,Z,b0,d4,b1,Z,Z,Z,(OwnS.nil _ _)⟩
 rintro ⟨d2,e,h2⟩ p6 p7 i5 p8 h ⟨Y,a6,d3,rfl,D,t,J,C,y,z,a2⟩
 unfold QlV at h
 refine Cs (Sr (qM (Iv e) z (qu (pt A 2) (Fa QdY D Z) (qu d (Lb 4 pl26 Z Z Z) ?_))))
 have q:=q.mono d3
 refine qu (Iv (a0.Configs.length:Int)) (lenS underlying26 Z q.len) (qu (Bv (decide (e<(a0.Configs.length:Int)))) (lss Z Z) (Nt (Ch h Z (fun l5 h=> ?_) (fun l5 h=> ?_))))
 refine Ck (Tc ?_)
 obtain ⟨l6,l7,h⟩:=bnd h
 refine Jf (fun(p_:(Bool×(List QaJ))) r M' H'=>match p_ with |(i6,i7)=>∃ d6 d7,i5.le M'∧[(w, .cells (l29 a0 a b d6 c).toArray 29 (0,0))]::[(a9, .cells (l50 G f).toArray 50 (0,0))]::[(B, .cells z29_.toArray 29 (0,0))]::[(g, .cells (l102 a1 l m o p).toArray 102 (0,0))]::[(A, .cells (l29 a0 a b d c).toArray 29 (0,0))]::d7::F=H'∧r 2=(pt A 0)∧r 3=(pt g 0)∧r 4=(pt B 0)∧r 10=(pt w 0)∧r 11=(Bv i6)∧r 12=(Iv e)∧OwnS QaH M' d6 i7 d7) l6 ?_ ?_
 have h:=l7
 refine Bk (Sr (qu (pt A 2) (Fa QdY D Z) (qu d (Lb 4 pl26 Z Z Z) (qM (Iv e) z ?_))))
 obtain ⟨d8,h⟩:=Qa1 h
 obtain ⟨o0,o9,i8,i9,hhas67⟩:=q.at d8.1 d8.2 (by decide)
 obtain rfl:=QbJ i9
 refine qu (.pointer (some o0)) (indexAddr (n:=a0.Configs.length) underlying26 sz74 Z Z d8.1 d8.2 i8) (qu (a74_ (rd a0.Configs e)) (loadMA (cs:=(l74 (rd a0.Configs e))) ag74 sz74 Z hhas67) (We (Al ze74 Z) Z ?_))
 rintro _ _ _ - ⟨rfl,a3,rfl,rfl⟩
 refine We (Sg (v:=(a74_ (rd a0.Configs e))) (vl:=(l74 (rd a0.Configs e))) (arr':=(l74 (rd a0.Configs e))) Z sz74 Z Z (onb Z) Z Z Z) Z ?_
 rintro _ _ _ - ⟨rfl,rfl⟩
 refine Nt ?_
 obtain ⟨l8,l9,h⟩:=bnd h
 refine Jf (fun(p_:(Bool×(List QaJ))) r M' H'=>match p_ with |(j0,j1)=>∃ a7 c0,i5.le M'∧[(a3, .cells (l74 (rd a0.Configs e)).toArray 74 (0,0))]::[(w, .cells (l29 a0 a b a7 c).toArray 29 (0,0))]::[(a9, .cells (l50 G f).toArray 50 (0,0))]::[(B, .cells z29_.toArray 29 (0,0))]::[(g, .cells (l102 a1 l m o p).toArray 102 (0,0))]::[(A, .cells (l29 a0 a b d c).toArray 29 (0,0))]::c0::F=H'∧r 2=(pt A 0)∧r 3=(pt g 0)∧r 4=(pt B 0)∧r 10=(pt w 0)∧r 11=(Bv j0)∧r 12=(Iv e)∧r 13=(pt a3 0)∧OwnS QaH M' a7 j1 c0) l8 ?_ ?_
 have h:=l9
 obtain ⟨j2,m0,h⟩:=bnd h
 refine Jf (fun(j2:Bool) r M' H'=>i5.le M'∧[(a3, .cells (l74 (rd a0.Configs e)).toArray 74 (0,0))]::[(w, .cells (l29 a0 a b Y c).toArray 29 (0,0))]::[(a9, .cells (l50 G f).toArray 50 (0,0))]::[(B, .cells z29_.toArray 29 (0,0))]::[(g, .cells (l102 a1 l m o p).toArray 102 (0,0))]::[(A, .cells (l29 a0 a b d c).toArray 29 (0,0))]::a6::F=H'∧r 2=(pt A 0)∧r 3=(pt g 0)∧r 4=(pt B 0)∧r 10=(pt w 0)∧r 11=(Bv d2)∧r 12=(Iv e)∧r 13=(pt a3 0)∧r 83=(Bv j2)) j2 ?_ ?_
 have h:=m0
 refine Cg (qM (Bv d2) y (qu (Bv (!d2)) (PO.not Z) (qm (Bv (!d2)) ?_)))
 rcases Bi h with⟨s,h⟩ |⟨s,h⟩
 refine qo 63 s (pt a3 0) (Fa QeP Z Z) (qo 63 s (Iv ((rd a0.Configs e).Topic)) (Lb 0 pl3 Z Z Z) (qo 63 s (pt g 3) (Fa QgY t Z) (qo 63 s (Iv a1.Topic) (Lb 4 pl3 Z Z Z) (qo 63 s (Bv (decide (a1.Topic<((rd a0.Configs e).Topic)))) (gtr Z Z) (On 63 Z Z s (qm (Bv (decide (a1.Topic<((rd a0.Configs e).Topic)))) ?_))))))
 rcases Bi h with⟨u,h⟩ |⟨u,h⟩
 iterate 6 refine Of 69 Z Z u Z ?_
 refine WL.offU 75 Z Z Z (WL.offU 75 Z Z Z (WL.offU 75 Z Z Z (WL.offU 75 Z Z Z (WL.offU 75 Z Z Z (Of 69 Z Z u Z (qo 63 s (Bv true) (Pt Z u Z) (qu (Bv true) (Pt Z s Z) (Wz ?_))))))))
 obtain rfl:=oi h
 exact Tj ⟨lr,Z,D,t,J,C,y,z,Z,Z⟩
 refine qo 69 u (pt a3 0) (Fa QeP Z Z) (qo 69 u (Iv ((rd a0.Configs e).Topic)) (Lb 0 pl3 Z Z Z) (qo 69 u (pt g 3) (Fa QgY t Z) (qo 69 u (Iv a1.Topic) (Lb 4 pl3 Z Z Z) (qo 69 u (Bv (decide (((rd a0.Configs e).Topic)=a1.Topic))) (eql Z Z) (On 69 Z Z u (qm (Bv (decide (((rd a0.Configs e).Topic)=a1.Topic))) ?_))))))
 rcases Bi h with⟨K,h⟩ |⟨K,h⟩
 refine qo 75 K (pt a3 1) (Fa QgQ Z Z) (qo 75 K (Sv ((rd a0.Configs e).Key)) (Lb 0 pl9 Z Z Z) (qo 75 K (pt g 11) (Fa QmK t Z) (qo 75 K (Sv a1.Key) (Lb 4 pl9 Z Z Z) (qo 75 K (Bv (!Op.bytesLess ((rd a0.Configs e).Key).toList a1.Key.toList)) (sgeq Z Z) (qo 69 u (Bv (!Op.bytesLess ((rd a0.Configs e).Key).toList a1.Key.toList)) (Pt Z K Z) (qo 63 s (Bv (!Op.bytesLess ((rd a0.Configs e).Key).toList a1.Key.toList)) (Pf Z u Z) (qu (Bv (!Op.bytesLess ((rd a0.Configs e).Key).toList a1.Key.toList)) (Pt Z s Z) (Wz ?_))))))))
 obtain rfl:=oi h
 exact Tj ⟨lr,Z,D,t,J,C,y,z,Z,Z⟩
 iterate 5 refine Of 75 Z Z K Z ?_
 refine qo 69 u (Bv false) (Pf Z K Z) (qo 63 s (Bv false) (Pf Z u Z) (qu (Bv false) (Pt Z s Z) (Wz ?_)))
 obtain rfl:=oi h
 exact Tj ⟨lr,Z,D,t,J,C,y,z,Z,Z⟩
 iterate 6 refine Of 63 Z Z s Z ?_
 refine WL.offU 69 Z Z Z (WL.offU 69 Z Z Z (WL.offU 69 Z Z Z (WL.offU 69 Z Z Z (WL.offU 69 Z Z Z (WL.offU 69 Z Z Z (WL.offU 75 Z Z Z (WL.offU 75 Z Z Z (WL.offU 75 Z Z Z (WL.offU 75 Z Z Z (WL.offU 75 Z Z Z (WL.offU 69 Z Z Z ?_)))))))))))
 refine Of 63 Z Z s Z (qu (Bv false) (Pf Z s Z) (Wz ?_))
 obtain rfl:=oi h
 exact Tj ⟨lr,Z,D,t,J,C,y,z,Z,Z⟩
 rintro p9 o1 q0 ⟨b2,rfl,d9,L,e1,N,f4,c1,c2,f8⟩
 refine Ch h f8 (fun m1 h=> ?_) (fun m1 h=> ?_)
 refine Sr (qu (pt w 2) (Fa QdY N Z) (qu Y (Lb 1 pl26 Z Z Z) (qu (pt g 3) (Fa QgY L Z) (qu (Iv a1.Topic) (Lb 4 pl3 Z Z Z) (qu (pt g 11) (Fa QmK L Z) (qu (Sv a1.Key) (Lb 4 pl9 Z Z Z) (qu (pt g 12) (Fa QrC L Z) (qu (Sv a1.Value) (Lb 4 pl9 Z Z Z) (qu (.agg #[(Iv a1.Topic),(Sv a1.Key),(Sv a1.Value)]) (Bl (cl:=[(Iv a1.Topic),(Sv a1.Key),(Sv a1.Value)]) ze74 fp74 (Pc (Iv a1.Topic) Z Z (Pc (Sv a1.Key) Z Z (Pc (Sv a1.Value) Z Z Pz))) Z) (We (buildSliceL (cl:=[(Iv a1.Topic),(Sv a1.Key),(Sv a1.Value)]) underlying26 iz74 Z (Pc (.agg #[(Iv a1.Topic),(Sv a1.Key),(Sv a1.Value)]) Z Z Pz) Z) Z ?_))))))))))
 rintro _ _ _ - ⟨rfl,m2,rfl,rfl⟩
 have o2:OwnS QaH o1 (.slice (some ⟨m2,0,none⟩) 1 1) [(⟨a1.Topic,a1.Key,a1.Value⟩:QaJ)] [(m2, .cells #[(Iv a1.Topic),(Sv a1.Key),(Sv a1.Value)] 74 (0,0))]:=OwnS.rows (css:=[[(Iv a1.Topic),(Sv a1.Key),(Sv a1.Value)]]) (Rows.cons (Qd4 (x:=(⟨a1.Topic,a1.Key,a1.Value⟩:QaJ))) Rows.nil) Z Z
 obtain ⟨m3,h⟩:=Qa1 h
 refine WL.f7 ?_
 have a2:=a2.mono b2
 refine We (append (dd:=QaH) (xs:=h2) (ys:=[(⟨a1.Topic,a1.Key,a1.Value⟩:QaJ)]) underlying26 underlying26 in74 Z (appB (by decide) m3) (by decide) Z Z a2 (o2.src 1 Z)) Z ?_
 rintro j3 _ _ - ⟨rfl,o3,rfl,j4⟩
 refine qu (pt w 2) (Fa QdY N Z) (WL.f3 (We (Es j3 ((l29 a0 a b j3 c)) j4.cells sz26 Z Z (Ow j4) Z Z Z) Z ?_))
 rintro _ _ _ - ⟨rfl,rfl⟩
 refine Nt (Cg (qa (Bv true) (Wz (Qb (Dr (Qa (WQ.f6 (WQ.f6 (WQ.f6 (WQ.f6 (WQ.f5 ?_)))))))))))
 refine WQ.f6 ?_
 obtain rfl:=oi h
 exact Tj ⟨j3,o3,b2,Z,d9,L,e1,N,Z,c1,c2,j4⟩
 refine Ck ?_
 obtain rfl:=oi h
 refine Tj ?_
 have a2:=a2.mono b2
 exact⟨Y,a6,b2,Z,d9,L,e1,N,f4,c1,c2,a2⟩
 obtain ⟨j0,j1⟩:=l8
 rintro q1 o4 q2 ⟨a7,c0,f9,rfl,e2,U,e3,c3,c4,c5,O,a8⟩
 obtain ⟨j5,m4,h⟩:=bnd h
 refine Jf (fun(j5:Bool) r M' H'=>o4.le M'∧[(a3, .cells (l74 (rd a0.Configs e)).toArray 74 (0,0))]::[(w, .cells (l29 a0 a b a7 c).toArray 29 (0,0))]::[(a9, .cells (l50 G f).toArray 50 (0,0))]::[(B, .cells z29_.toArray 29 (0,0))]::[(g, .cells (l102 a1 l m o p).toArray 102 (0,0))]::[(A, .cells (l29 a0 a b d c).toArray 29 (0,0))]::c0::F=H'∧r 2=(pt A 0)∧r 3=(pt g 0)∧r 4=(pt B 0)∧r 10=(pt w 0)∧r 11=(Bv j0)∧r 12=(Iv e)∧r 13=(pt a3 0)∧r 107=(Bv j5)) j5 ?_ ?_
 have h:=m4
 refine Cg (qu (pt a3 0) (Fa QeP O Z) (qu (Iv ((rd a0.Configs e).Topic)) (Lb 0 pl3 Z Z Z) (qu (pt g 3) (Fa QgY U Z) (qu (Iv a1.Topic) (Lb 4 pl3 Z Z Z) (qu (Bv (decide (((rd a0.Configs e).Topic)≠a1.Topic))) (neq Z Z) (qm (Bv (decide (((rd a0.Configs e).Topic)≠a1.Topic))) ?_))))))
 rcases Bi h with⟨P,h⟩ |⟨P,h⟩
 iterate 5 refine Of 101 Z Z P Z ?_
 refine qu (Bv true) (Pt Z P Z) (Wz ?_)
 obtain rfl:=oi h
 exact Tj ⟨lr,Z,e2,U,e3,c3,c4,c5,O,Z⟩
 refine qo 101 P (pt a3 1) (Fa QgQ O Z) (qo 101 P (Sv ((rd a0.Configs e).Key)) (Lb 0 pl9 Z Z Z) (qo 101 P (pt g 11) (Fa QmK U Z) (qo 101 P (Sv a1.Key) (Lb 4 pl9 Z Z Z) (qo 101 P (Bv (!decide (((rd a0.Configs e).Key)=a1.Key))) (sneq Z Z) (qu (Bv (!decide (((rd a0.Configs e).Key)=a1.Key))) (Pf Z P Z) (Wz ?_))))))
 obtain rfl:=oi h
 exact Tj ⟨lr,Z,e2,U,e3,c3,c4,c5,O,Z⟩
 rintro q3 o5 q4 ⟨b3,rfl,e4,e5,e6,Q,c6,c7,g0,e9⟩
 refine Ch h e9 (fun m5 h=> ?_) (fun m5 h=> ?_)
 refine Cg (qu (pt w 2) (Fa QdY Q Z) (qu a7 (Lb 1 pl26 Z Z Z) (qu (a74_ (rd a0.Configs e)) (La (cs:=(l74 (rd a0.Configs e))) 0 ag74 sz74 g0 Z Z) (We (buildSliceL (cl:=(l74 (rd a0.Configs e))) underlying26 iz74 Z (Pc (a74_ (rd a0.Configs e)) Z Z Pz) Z) Z ?_))))
 rintro _ _ _ - ⟨rfl,m6,rfl,rfl⟩
 have o6:OwnS QaH o5 (.slice (some ⟨m6,0,none⟩) 1 1) [(rd a0.Configs e)] [(m6, .cells (l74 (rd a0.Configs e)).toArray 74 (0,0))]:=OwnS.rows (css:=[(l74 (rd a0.Configs e))]) (Rows.cons (Qd4 (x:=(rd a0.Configs e))) Rows.nil) Z Z
 obtain ⟨m7,h⟩:=Qa1 h
 refine WL.f7 ?_
 have a8:=a8.mono b3
 refine We (append (dd:=QaH) (xs:=j1) (ys:=[(rd a0.Configs e)]) underlying26 underlying26 in74 Z (appB (by decide) m7) (by decide) Z Z a8 (o6.src 1 Z)) Z ?_
 rintro j6 _ _ - ⟨rfl,o7,rfl,j7⟩
 refine qu (pt w 2) (Fa QdY Q Z) (WL.f3 (We (Es j6 ((l29 a0 a b j6 c)) j7.cells sz26 Z Z (Ow j7) Z Z Z) Z ?_))
 rintro _ _ _ - ⟨rfl,rfl⟩
 refine Wz (Bn (Qb (Dr (Qb (Dr (Qa (WQ.f5 (WQ.f5 (WQ.f5 (WQ.f5 (WQ.f5 ?_)))))))))))
 obtain rfl:=oi h
 exact Tj ⟨j6,o7,(f9.trans b3),Z,e4,e5,e6,Q,c6,c7,j7⟩
 refine Ck (Bn (Dr ?_))
 obtain rfl:=oi h
 refine Tj ?_
 have a8:=a8.mono b3
 exact⟨a7,c0,(f9.trans b3),Z,e4,e5,e6,Q,c6,c7,a8⟩
 obtain ⟨i6,i7⟩:=l6
 rintro q5 q6 q7 ⟨d6,d7,j8,rfl,h3,h4,h5,g1,g2,g3,m8⟩
 exact Cg (qM (Iv e) g3 (qu (Iv (i64.wrap (e+1))) (add Z Z) (qa (Iv (i64.wrap (e+1))) (Wz (WQ.again (i6,i64.wrap (e+1),i7) (oi h).symm ⟨d6,d7,(d3.trans j8),Z,h3,h4,h5,g1,g2,Z,m8⟩)))))
 refine WC.exit (WQ.thenE (WQ.leaveE (d2,h2) (oi h).symm (fun j9=> ?_)))
 subst j9
 have h:=l4
 refine WQ.blockH ?_
 obtain rfl:=oi h
 exact Tj ⟨Y,a6,d3,Z,t,J,C,y,a2⟩
 obtain ⟨h1,i4⟩:=l1
 rintro q8 m9 q9 ⟨b9,d5,b4,rfl,b5,e7,R,g4,h6⟩
 obtain ⟨k0,n0,h⟩:=bnd h
 refine Jf (fun(k0:(List QaJ)) r M' H'=>∃ E g5,m9.le M'∧[(w, .cells (l29 a0 a b E c).toArray 29 (0,0))]::[(a9, .cells (l50 G f).toArray 50 (0,0))]::[(B, .cells z29_.toArray 29 (0,0))]::[(g, .cells (l102 a1 l m o p).toArray 102 (0,0))]::[(A, .cells (l29 a0 a b d c).toArray 29 (0,0))]::g5::F=H'∧r 4=(pt B 0)∧r 10=(pt w 0)∧OwnS QaH M' E k0 g5) k0 ?_ ?_
 have h:=n0
 refine Sr (qM (Bv h1) g4 (qu (Bv (!h1)) (PO.not Z) (Nt (Ch h Z (fun n1 h=> ?_) (fun n1 h=> ?_)))))
 refine Cg (qu (pt w 2) (Fa QdY R Z) (qu b9 (Lb 0 pl26 Z Z Z) (qu (pt g 3) (Fa QgY b5 Z) (qu (Iv a1.Topic) (Lb 3 pl3 Z Z Z) (qu (pt g 11) (Fa QmK b5 Z) (qu (Sv a1.Key) (Lb 3 pl9 Z Z Z) (qu (pt g 12) (Fa QrC b5 Z) (qu (Sv a1.Value) (Lb 3 pl9 Z Z Z) (qu (.agg #[(Iv a1.Topic),(Sv a1.Key),(Sv a1.Value)]) (Bl (cl:=[(Iv a1.Topic),(Sv a1.Key),(Sv a1.Value)]) ze74 fp74 (Pc (Iv a1.Topic) Z Z (Pc (Sv a1.Key) Z Z (Pc (Sv a1.Value) Z Z Pz))) Z) (We (buildSliceL (cl:=[(Iv a1.Topic),(Sv a1.Key),(Sv a1.Value)]) underlying26 iz74 Z (Pc (.agg #[(Iv a1.Topic),(Sv a1.Key),(Sv a1.Value)]) Z Z Pz) Z) Z ?_))))))))))
 rintro _ _ _ - ⟨rfl,h7,rfl,rfl⟩
 have n2:OwnS QaH m9 (.slice (some ⟨h7,0,none⟩) 1 1) [(⟨a1.Topic,a1.Key,a1.Value⟩:QaJ)] [(h7, .cells #[(Iv a1.Topic),(Sv a1.Key),(Sv a1.Value)] 74 (0,0))]:=OwnS.rows (css:=[[(Iv a1.Topic),(Sv a1.Key),(Sv a1.Value)]]) (Rows.cons (Qd4 (x:=(⟨a1.Topic,a1.Key,a1.Value⟩:QaJ))) Rows.nil) Z Z
 obtain ⟨k1,h⟩:=Qa1 h
 refine WL.f6 (We (append (dd:=QaH) (xs:=i4) (ys:=[(⟨a1.Topic,a1.Key,a1.Value⟩:QaJ)]) underlying26 underlying26 in74 Z (appB (by decide) k1) (by decide) Z Z h6 (n2.src 1 Z)) Z ?_)
 rintro g6 _ _ - ⟨rfl,n3,rfl,g7⟩
 refine qu (pt w 2) (Fa QdY R Z) (Wb (We (Es g6 ((l29 a0 a b g6 c)) g7.cells sz26 Z Z (Ow g7) Z Z Z) Z ?_))
 rintro _ _ _ - ⟨rfl,rfl⟩
 refine Wz (Qb (Dr (Qa (WQ.f5 (WQ.f5 (WQ.f5 (WQ.f5 (WQ.f5 ?_))))))))
 obtain rfl:=oi h
 exact Tj ⟨g6,n3,lr,Z,e7,R,g7⟩
 refine Ck ?_
 obtain rfl:=oi h
 exact Tj ⟨b9,d5,lr,Z,e7,R,h6⟩
 rintro r0 r1 r2 ⟨E,g5,b6,rfl,e8,g8,h8⟩
 refine Sr (qu (a29_ a0 a b E c) (La (cs:=(l29 a0 a b E c)) 0 ag29 sz29 g8 Z Z) (Wb ?_))
 have i:=i.mono (b4.trans b6)
 have j:=j.mono (b4.trans b6)
 have k:=k.mono (b4.trans b6)
 refine We (Sg (v:=(a29_ a0 a b E c)) (vl:=(l29 a0 a b E c)) (arr':=(l29 a0 a b E c)) Z sz29 e8 Z (QaX (Oc (RS.one i) (Oc (RS.one j) (Oc (Ow h8) (Oc (RS.one k) (Oc Z Oz)))))) Z Z Z) Z ?_
 rintro _ _ _ - ⟨rfl,rfl⟩
 refine qa (Iv 0) (Nt (Cr (WQ.f5 (WQ.know (fun _ hs=>h8.rs hs) (fun k2=> ?_)))))
 refine WQ.freeze (fun V=> ?_)
 refine Qa (Dr (Qa (Dr (Qa (Dr (Qa (Dr ?_)))))))
 have i:=i.mono V
 have j:=j.mono V
 have k:=k.mono V
 exact Rd h [] (fun _ hs=>hs.drop) (QaP Z (RVs.cons (Rc (cs:=(l29 a0 a b E c)) 0 ag29 sz29 e8 Z Z) (RVs.cons (RV.tmp Z) RVs.nil))) (((((X.trans d0).trans d1).trans b4).trans b6).trans V) ⟨a,b,E,c,Z,Z,i,j,k2,k⟩
noncomputable def QkY (a0:QaA) (a1:Int) (a2:Int) (c:Int):Option (Int⊕(Unit⊕Int)):=
 match c with
 |a=>
 (if(decide (a<(a0.Done.length:Int)))=true then(((grd (0≤a∧a<a0.Done.length) (if(decide (((rd a0.Done a).Client)=a1))=true then(grd (0≤a∧a<a0.Done.length) (some (decide (((rd a0.Done a).Serial)=a2))))else(some false))):Option Bool).bind fun b=>(if b=true then(grd (0≤a∧a<a0.Done.length) (some (inr (inr ((rd a0.Done a).Code)))))else(some (inl (i64.wrap (a+(1:Int)))))))else(some (inr (inl ()))))
noncomputable def QkB (a0:QaA) (a1:Int) (a2:Int):Option (Int×Bool):=
 ((((iter (QkY a0 a1 a2) (0:Int)).bind (Sum.elim (fun _=>(some (inl ()))) (fun(a:Int)=>(((some (a,true))).bind fun r=>some (inr r))))):Option (Unit⊕(Int×Bool))).bind (Sum.elim (fun _=>(some ((0:Int),false))) some))
def QnS (a0:QaA) (a1:Int) (a2:Int) (a b c d:Value):(Int×Bool)→Value→IM→HL→Prop:=
 fun(e:(Int×Bool)) (v:Value) (j:IM) (f:HL)=>match e with |(g,i)=>(.tuple #[(.int .i64 g),(.bool i)])=v∧f=[]
theorem QpO (a0:QaA) (a1:Int) (a2:Int) (M:IM) (f g i b:Value) (a5:RS QaG M f a0.Brokers) (a6:RS QaI M g a0.Topics) (a7:RS QaH M i a0.Configs) (j:RS QaL M b a0.Done) (L:(Int×Bool)) (h:QkB a0 a1 a2=some L):
 Tri prog 113 #[(a29_ a0 f g i b),(Iv a1),(Iv a2)] M [] (QnS a0 a1 a2 f g i b L):=by
 unfold QkB at h
 refine Te func113 Z Z ?_
 intro F ρ Y
 refine Sr (We (box (cs:=(l29 a0 f g i b).toArray) (congrArg Value.cells (asE (a29_ a0 f g i b) (Y 0)))) Z ?_)
 rintro _ _ _ - ⟨rfl,k,rfl,rfl⟩
 refine qa (Iv 0) (qa (Bv false) (Nt ?_))
 obtain ⟨a3,N,h⟩:=bnd h
 refine WC.joinE (fun(_:Unit) w O P=>M.le O∧[(k, .cells (l29 a0 f g i b).toArray 29 (0,0))]::F=P) a3 ?_ ?_
 have Q:=h
 have h:=N
 refine Sr (qa (Iv 0) (Nt (Bk ?_)))
 obtain ⟨b1,R,A⟩:=bnd h
 clear h
 refine WC.loop R (fun(a:Int) w O P=>M.le O∧[(k, .cells (l29 a0 f g i b).toArray 29 (0,0))]::F=P∧w 1=(Iv a1)∧w 2=(Iv a2)∧w 3=(pt k 0)∧w 8=(Iv a)) ?_ ?_
 exact⟨lr,Z,(Y 1),(Y 2),Z,Z⟩
 rintro a b2 b3 a4 b4 h ⟨l,rfl,m,o,d,e⟩
 unfold QkY at h
 refine Cs (Sr (qM (Iv a) e (qu (pt k 3) (Fa QeO d Z) (qu b (Lb 0 pl27 Z Z Z) ?_))))
 have j:=j.mono l
 refine qu (Iv (a0.Done.length:Int)) (lenS underlying27 Z j.len) (qu (Bv (decide (a<(a0.Done.length:Int)))) (lss Z Z) (Nt (Ch h Z (fun S h=> ?_) (fun S h=> ?_))))
 refine Ck (Tc (Cs (Bk ?_)))
 obtain ⟨B,T,h⟩:=bnd h
 refine Jf (fun(B:Bool) w O P=>a4.le O∧[(k, .cells (l29 a0 f g i b).toArray 29 (0,0))]::F=P∧w 1=(Iv a1)∧w 2=(Iv a2)∧w 3=(pt k 0)∧w 8=(Iv a)∧w 33=(Bv B)) B ?_ ?_
 have h:=T
 refine Cg (qu (pt k 3) (Fa QeO d Z) (qu b (Lb 0 pl27 Z Z Z) (qM (Iv a) e ?_)))
 obtain ⟨r,h⟩:=Qa1 h
 obtain ⟨U,a8,C,D,hhas34⟩:=j.at r.1 r.2 (by decide)
 obtain rfl:=QcN D
 refine qu (.pointer (some U)) (indexAddr (n:=a0.Done.length) underlying27 sz78 Z Z r.1 r.2 C) (qu (.pointer (some (U.add 0))) (Fa QrF Z Z) (qu (Iv ((rd a0.Done a).Client)) (loadM pl3 Z (IM.has0 hhas34)) (qM (Iv a1) m (qu (Bv (decide (((rd a0.Done a).Client)=a1))) (eql Z Z) (qm (Bv (decide (((rd a0.Done a).Client)=a1))) ?_)))))
 rcases Bi h with⟨c,h⟩ |⟨c,h⟩
 refine qo 24 c (pt k 3) (Fa QeO d Z) (qo 24 c b (Lb 0 pl27 Z Z Z) (On 24 Z Z c (qM (Iv a) e (On 24 Z Z c ?_))))
 obtain ⟨s,h⟩:=Qa1 h
 obtain ⟨V,a9,E,G,hhas42⟩:=j.at s.1 s.2 (by decide)
 obtain rfl:=QcN G
 refine qu (.pointer (some V)) (indexAddr (n:=a0.Done.length) underlying27 sz78 Z Z s.1 s.2 E) (qo 24 c (.pointer (some (V.add 1))) (Fa QpC Z Z) (qo 24 c (Iv ((rd a0.Done a).Serial)) (loadM pl3 Z (hhas42 1 _ Z)) (On 24 Z Z c (qM (Iv a2) o (qo 24 c (Bv (decide (((rd a0.Done a).Serial)=a2))) (eql Z Z) (qu (Bv (decide (((rd a0.Done a).Serial)=a2))) (Pt Z c Z) (Wz ?_)))))))
 obtain rfl:=oi h
 exact Tj ⟨lr,Z,m,o,d,e,Z⟩
 iterate 8 refine Of 24 Z Z c Z ?_
 refine qu (Bv false) (Pf Z c Z) (Wz ?_)
 obtain rfl:=oi h
 exact Tj ⟨lr,Z,m,o,d,e,Z⟩
 rintro b5 b6 b7 ⟨p,rfl,y,z,t,u,x⟩
 refine Ch h x (fun W h=> ?_) (fun W h=> ?_)
 refine Sr (qu (pt k 3) (Fa QeO t Z) (qu b (Lb 0 pl27 Z Z Z) (qM (Iv a) u ?_)))
 obtain ⟨v,h⟩:=Qa1 h
 have j:=j.mono p
 obtain ⟨X,b0,I,J,hhas50⟩:=j.at v.1 v.2 (by decide)
 obtain rfl:=QcN J
 refine qu (.pointer (some X)) (indexAddr (n:=a0.Done.length) underlying27 sz78 Z Z v.1 v.2 I) (qu (.pointer (some (X.add 2))) (Fa Qs2 Z Z) (qu (Iv ((rd a0.Done a).Code)) (loadM pl3 Z (hhas50 2 _ Z)) (qa (Iv ((rd a0.Done a).Code)) (qa (Bv true) (Nt (Cr (Br (Tr (WQ.leaveR (inr ((rd a0.Done a).Code)) (oi h).symm (fun q=> ?_))))))))))
 subst q
 have h:=(QdZ A)
 refine Br (Tr ?_)
 have h:=KK.early h Q
 exact Dr (Rf h [] Z (Qg1 Z Z Z) (l.trans p) ⟨Z,Z⟩)
 exact Ck (Bn (Tc (Cg (qM (Iv a) u (qu (Iv (i64.wrap (a+1))) (add Z Z) (qa (Iv (i64.wrap (a+1))) (Wz (WQ.again (i64.wrap (a+1)) (oi h).symm ⟨(l.trans p),Z,y,z,t,Z⟩))))))))
 refine WC.exit (WQ.thenE (WQ.leaveE (inl ()) (oi h).symm (fun q=> ?_)))
 subst q
 have h:=QeV A
 exact WQ.blockH (WQ.thenFE h ⟨l,Z⟩)
 rintro _ b8 b9 c0 rfl ⟨K,rfl⟩
 have h:=(Sum.elim_inl _ _ _).symm.trans h
 exact Sr (qa (Iv 0) (qa (Bv false) (Nt (Cr (Dr (Rf h [] Z (Qg1 Z Z Z) K ⟨Z,Z⟩))))))

end Go.Proofs.YtfkmkgpoddbbfaaGreatDoor.G
