/- Go functions: what they come to, and that they do. Printed by a program of the session (gen). -/
import Derived.Test.YtpcbipcdfccnnaaGreatDoorPF
import Derived.Test.YtpcbipcdfccnnaaGreatDoorP1
import Derived.Test.YtpcbipcdfccnnaaGreatDoorP2
import Derived.Test.YtpcbipcdfccnnaaGreatDoorKShar2
import Derived.Test.YtpcbipcdfccnnaaGreatDoorKConv
import Derived.Test.YtpcbipcdfccnnaaGreatDoorKMap
import Derived.Test.YtpcbipcdfccnnaaGreatDoorKTight2
set_option linter.unusedVariables false
set_option linter.unusedSimpArgs false
set_option maxHeartbeats 8000000
set_option maxRecDepth 100000
namespace Go.Proofs.YtpcbipcdfccnnaaGreatDoor.G
open Go Go.KK
open PO EO IntKind Sum Tryz

noncomputable def QhW (a0:QaA) (a1:Int) (a2:ByteArray) (s_:Int):Option (Int⊕(Unit⊕ByteArray)):=
 match s_ with
 |a=>
 (if(decide (a<(a0.Configs.length:Int)))=true then(((grd (0≤a∧a<a0.Configs.length) (if(decide (((rd a0.Configs a).Topic)=a1))=true then(grd (0≤a∧a<a0.Configs.length) (some (decide (((rd a0.Configs a).Key)=a2))))else(some false))):Option Bool).bind fun b=>(if b=true then(grd (0≤a∧a<a0.Configs.length) (some (inr (inr ((rd a0.Configs a).Value)))))else(some (inl (i64.wrap (a+(1:Int)))))))else(some (inr (inl ()))))
noncomputable def Qh6 (a0:QaA) (a1:Int) (a2:ByteArray):Option (ByteArray×Bool):=
 ((((iter (QhW a0 a1 a2) (0:Int)).bind (Sum.elim (fun _=>(some (inl ()))) (fun(a:ByteArray)=>(((some (a,true))).bind fun r=>some (inr r))))):Option (Unit⊕(ByteArray×Bool))).bind (Sum.elim (fun _=>(some ((⟨#[]⟩:ByteArray),false))) some))
def QpR (a0:QaA) (a1:Int) (a2:ByteArray) (a b c d:Value):(ByteArray×Bool)→Value→IM→HL→Prop:=
 fun(p_:(ByteArray×Bool)) (v:Value) (M':IM) (H':HL)=>match p_ with |(e,f)=>(.tuple #[(.string e),(.bool f)])=v∧H'=[]
theorem Qr6 (a0:QaA) (a1:Int) (a2:ByteArray) (M:IM) (f g b i:Value) (W:RS QaD M f a0.Brokers) (X:RS QaG M g a0.Topics) (j:RS QaF M b a0.Configs) (Y:RS QaI M i a0.Done) (res:(ByteArray×Bool)) (h:Qh6 a0 a1 a2=some res):
 Tri prog 135 #[(a27_ a0 f g b i),(Iv a1),(Sv a2)] M [] (QpR a0 a1 a2 f g b i res):=by
 unfold Qh6 at h
 refine Te func135 Z Z ?_
 intro F ρ hρ
 refine Sr (We (box (cs:=(l27 a0 f g b i).toArray) (congrArg Value.cells (asE (a27_ a0 f g b i) (hρ 0)))) Z ?_)
 rintro _ _ _ - ⟨rfl,k,rfl,rfl⟩
 refine qa (Sv ⟨#[]⟩) (qa (Bv false) (Nt ?_))
 obtain ⟨U,K,h⟩:=bnd h
 refine WC.joinE (fun(_:Unit) ρ' M' H'=>M.le M'∧[(k, .cells (l27 a0 f g b i).toArray 27 (0,0))]::F=H') U ?_ ?_
 have L:=h
 have h:=K
 refine Sr (qa (Iv 0) (Nt (Bk ?_)))
 obtain ⟨a6,N,z⟩:=bnd h
 clear h
 refine WC.loop N (fun(a:Int) ρ' M' H'=>M.le M'∧[(k, .cells (l27 a0 f g b i).toArray 27 (0,0))]::F=H'∧ρ' 1=(Iv a1)∧ρ' 2=(Sv a2)∧ρ' 3=(pt k 0)∧ρ' 8=(Iv a)) ?_ ?_
 exact⟨lr,Z,(hρ 1),(hρ 2),Z,Z⟩
 rintro a a7 a8 V a9 h ⟨l,rfl,m,o,d,e⟩
 unfold QhW at h
 refine Cs (Sr (qM (Iv a) e (qu (pt k 2) (Fa Qc5 d Z) (qu b (Lb 0 pl24 Z Z Z) ?_))))
 have j:=j.mono l
 refine qu (Iv (a0.Configs.length:Int)) (lenS underlying24 Z j.len) (qu (Bv (decide (a<(a0.Configs.length:Int)))) (lss Z Z) (Nt (Ch h Z (fun O h=> ?_) (fun O h=> ?_))))
 refine Ck (Tc (Cs (Bk ?_)))
 obtain ⟨A,P,h⟩:=bnd h
 refine Jf (fun(A:Bool) ρ' M' H'=>V.le M'∧[(k, .cells (l27 a0 f g b i).toArray 27 (0,0))]::F=H'∧ρ' 1=(Iv a1)∧ρ' 2=(Sv a2)∧ρ' 3=(pt k 0)∧ρ' 8=(Iv a)∧ρ' 33=(Bv A)) A ?_ ?_
 have h:=P
 refine Cg (qu (pt k 2) (Fa Qc5 d Z) (qu b (Lb 0 pl24 Z Z Z) (qM (Iv a) e ?_)))
 obtain ⟨r,h⟩:=QaQ h
 obtain ⟨Q,a3,B,C,hhas34⟩:=j.at r.1 r.2 (by decide)
 obtain rfl:=Qa8 C
 refine qu (.pointer (some Q)) (indexAddr (n:=a0.Configs.length) underlying24 sz76 Z Z r.1 r.2 B) (qu (.pointer (some (Q.add 0))) (Fa QeF Z Z) (qu (Iv ((rd a0.Configs a).Topic)) (loadM pl3 Z (IM.has0 hhas34)) (qM (Iv a1) m (qu (Bv (decide (((rd a0.Configs a).Topic)=a1))) (eql Z Z) (qm (Bv (decide (((rd a0.Configs a).Topic)=a1))) ?_)))))
 rcases Bi h with⟨c,h⟩ |⟨c,h⟩
 refine qo 24 c (pt k 2) (Fa Qc5 d Z) (qo 24 c b (Lb 0 pl24 Z Z Z) (On 24 Z Z c (qM (Iv a) e (On 24 Z Z c ?_))))
 obtain ⟨s,h⟩:=QaQ h
 obtain ⟨R,a4,D,E,hhas42⟩:=j.at s.1 s.2 (by decide)
 obtain rfl:=Qa8 E
 refine qu (.pointer (some R)) (indexAddr (n:=a0.Configs.length) underlying24 sz76 Z Z s.1 s.2 D) (qo 24 c (.pointer (some (R.add 1))) (Fa QfV Z Z) (qo 24 c (Sv ((rd a0.Configs a).Key)) (loadM pl9 Z (hhas42 1 _ Z)) (On 24 Z Z c (qM (Sv a2) o (qo 24 c (Bv (decide (((rd a0.Configs a).Key)=a2))) (seql Z Z) (qu (Bv (decide (((rd a0.Configs a).Key)=a2))) (Pt Z c Z) (Wz ?_)))))))
 obtain rfl:=oi h
 exact Tj ⟨lr,Z,m,o,d,e,Z⟩
 iterate 8 refine Of 24 Z Z c Z ?_
 refine qu (Bv false) (Pf Z c Z) (Wz ?_)
 obtain rfl:=oi h
 exact Tj ⟨lr,Z,m,o,d,e,Z⟩
 rintro b0 b1 b2 ⟨p,rfl,x,y,t,u,w⟩
 refine Ch h w (fun S h=> ?_) (fun S h=> ?_)
 refine Sr (qu (pt k 2) (Fa Qc5 t Z) (qu b (Lb 0 pl24 Z Z Z) (qM (Iv a) u ?_)))
 obtain ⟨v,h⟩:=QaQ h
 have j:=j.mono p
 obtain ⟨T,a5,G,I,hhas50⟩:=j.at v.1 v.2 (by decide)
 obtain rfl:=Qa8 I
 refine qu (.pointer (some T)) (indexAddr (n:=a0.Configs.length) underlying24 sz76 Z Z v.1 v.2 G) (qu (.pointer (some (T.add 2))) (Fa QfW Z Z) (qu (Sv ((rd a0.Configs a).Value)) (loadM pl9 Z (hhas50 2 _ Z)) (qa (Sv ((rd a0.Configs a).Value)) (qa (Bv true) (Nt (Cr (Br (Tr (WQ.leaveR (inr ((rd a0.Configs a).Value)) (oi h).symm (fun q=> ?_))))))))))
 subst q
 have h:=(QdO z)
 refine Br (Tr ?_)
 have h:=KK.early h L
 exact Dr (Rf h [] Z (QgZ Z Z Z) (l.trans p) ⟨Z,Z⟩)
 exact Ck (Bn (Tc (Cg (qM (Iv a) u (qu (Iv (i64.wrap (a+1))) (add Z Z) (qa (Iv (i64.wrap (a+1))) (Wz (WQ.again (i64.wrap (a+1)) (oi h).symm ⟨(l.trans p),Z,x,y,t,Z⟩))))))))
 refine WC.exit (WQ.thenE (WQ.leaveE (inl ()) (oi h).symm (fun q=> ?_)))
 subst q
 have h:=QeJ z
 exact WQ.blockH (WQ.thenFE h ⟨l,Z⟩)
 rintro _ b3 b4 b5 rfl ⟨J,rfl⟩
 have h:=(Sum.elim_inl _ _ _).symm.trans h
 exact Sr (qa (Sv ⟨#[]⟩) (qa (Bv false) (Nt (Cr (Dr (Rf h [] Z (QgZ Z Z Z) J ⟨Z,Z⟩))))))
noncomputable def Qd7 (a0:QaA) (a1:QaK) (s_:(Bool×Int×(List QaJ))):Option ((Bool×Int×(List QaJ))⊕(Bool×(List QaJ))):=
 match s_ with
 |(c,a,b)=>
 (if(decide (a<(a0.Configs.length:Int)))=true then(((grd (0≤a∧a<a0.Configs.length) (((((if(!c)=true then(if(decide (a1.Topic<((rd a0.Configs a).Topic)))=true then(some true)else(if(decide (((rd a0.Configs a).Topic)=a1.Topic))=true then(some (!Op.bytesLess ((rd a0.Configs a).Key).toList a1.Key.toList))else(some false)))else(some false)):Option Bool).bind fun f=>(if f=true then(grd (b.length+[(⟨a1.Topic,a1.Key,a1.Value⟩:QaJ)].length≤274877906944) (some (true,b++[(⟨a1.Topic,a1.Key,a1.Value⟩:QaJ)])))else(some (c,b)))):Option (Bool×(List QaJ))).bind fun(e,d)=>(((if(decide (((rd a0.Configs a).Topic)≠a1.Topic))=true then(some true)else(some (!decide (((rd a0.Configs a).Key)=a1.Key)))):Option Bool).bind fun g=>(if g=true then(grd (d.length+[(rd a0.Configs a)].length≤274877906944) (some (e,d++[(rd a0.Configs a)])))else(some (e,d)))))):Option (Bool×(List QaJ))).bind fun(i,j)=>(some (inl (i,i64.wrap (a+(1:Int)),j))))else(some (inr (c,b))))
noncomputable def Qh7 (a0:QaA) (a1:QaK):Option (QaA×Int):=
 ((QeV a0 a1.Topic).bind fun(k,b)=>(((if(!b)=true then(some (decide (a1.Topic≠(0:Int))))else(some false)):Option Bool).bind fun c=>(if c=true then(some (a0,(8:Int)))else((Qh6 a0 a1.Topic a1.Key).bind fun(l,d)=>(((if a1.Flag=true then(some (!d))else(some false)):Option Bool).bind fun e=>(if e=true then(some (a0,(8:Int)))else((((iter (Qd7 a0 a1) (a1.Flag,(0:Int),[])).bind (fun(f,g)=>(some (f,g)))):Option (Bool×(List QaJ))).bind fun(i,a)=>(((if(!i)=true then(grd (a.length+[(⟨a1.Topic,a1.Key,a1.Value⟩:QaJ)].length≤274877906944) (some (a++[(⟨a1.Topic,a1.Key,a1.Value⟩:QaJ)])))else(some a)):Option (List QaJ)).bind fun j=>(some ((⟨a0.Brokers,a0.Topics,j,a0.Done,a0.Last⟩:QaA),(0:Int)))))))))))
def QpS (a0:QaA) (a1:QaK) (k l m n f g i j:Value):(QaA×Int)→Value→IM→HL→Prop:=
 fun(p_:(QaA×Int)) (v:Value) (M':IM) (H':HL)=>match p_ with |(e,o)=>∃ a b c d,(.tuple #[(.agg #[a,b,c,d,(.int .i64 e.Last)]),(.int .i64 o)])=v∧H'=[]∧RS QaD M' a e.Brokers∧RS QaG M' b e.Topics∧RS QaF M' c e.Configs∧RS QaI M' d e.Done
theorem Qr7 (a0:QaA) (a1:QaK) (M:IM) (a b d c l m o p:Value) (i:RS QaD M a a0.Brokers) (j:RS QaG M b a0.Topics) (q:RS QaF M d a0.Configs) (k:RS QaI M c a0.Done) (m9:RS (Kd.int .i64) M l a1.Ids) (n0:RS (Kd.int .i64) M m a1.Isr) (n1:RS (Kd.int .i64) M o a1.Add) (n2:RS (Kd.int .i64) M p a1.Drop) (res:(QaA×Int)) (h:Qh7 a0 a1=some res):
 Tri prog 97 #[(a27_ a0 a b d c),(QjY a1 l m o p)] M [] (QpS a0 a1 a b d c l m o p res):=by
 unfold Qh7 at h
 refine Te func97 Z Z ?_
 intro F ρ hρ
 refine Sr (We (box (cs:=(l27 a0 a b d c).toArray) (congrArg Value.cells (asE (a27_ a0 a b d c) (hρ 0)))) Z ?_)
 rintro _ _ _ - ⟨rfl,z,rfl,rfl⟩
 refine We (box (cs:=(l111 a1 l m o p).toArray) (congrArg Value.cells (asE (QjY a1 l m o p) (hρ 1)))) Z ?_
 rintro _ _ _ - ⟨rfl,g,rfl,rfl⟩
 refine We (Al ze27 Z) Z ?_
 rintro _ _ _ - ⟨rfl,A,rfl,rfl⟩
 refine qa (Iv 0) (Nt (Cs (Sr (qu (a27_ a0 a b d c) (La (cs:=(l27 a0 a b d c)) 2 ag27 sz27 Z Z Z) (qu (pt g 3) (Fa QgV Z Z) (qu (Iv a1.Topic) (Lb 1 pl3 Z Z Z) ?_))))))
 obtain ⟨⟨E,c5⟩,j9,h⟩:=bnd h
 refine We (Ca co78 (QiG a0 a1.Topic _ _ _ _ _ i j q k (E,c5) j9) (QaU Z Z)) Z ?_
 rintro _ n3 _ h6 ⟨_,⟨f,rfl,rfl,g6⟩,rfl⟩
 refine WL.a0 (qm (.tuple #[(a55_ E f),(Bv c5)]) (qu (a55_ E f) (Xt Z Z) (qu (Bv c5) (Xt Z Z) (We (Al ze55 Z) Z ?_))))
 rintro _ _ _ - ⟨rfl,a7,rfl,rfl⟩
 refine We (Sg (v:=(a55_ E f)) (vl:=(l55 E f)) (arr':=(l55 E f)) Z sz55 Z Z (QbG (Oc Z (Oc Z (Oc (RS.one g6) Oz)))) Z Z Z) Z ?_
 rintro _ _ _ - ⟨rfl,rfl⟩
 refine qa (Bv c5) (Nt ?_)
 obtain ⟨h7,k0,h⟩:=bnd h
 refine Jf (fun(h7:Bool) ρ' M' H'=>n3.le M'∧[(a7, .cells (l55 E f).toArray 55 (0,0))]::[(A, .cells z27_.toArray 27 (0,0))]::[(g, .cells (l111 a1 l m o p).toArray 111 (0,0))]::[(z, .cells (l27 a0 a b d c).toArray 27 (0,0))]::F=H'∧ρ' 2=(pt z 0)∧ρ' 3=(pt g 0)∧ρ' 4=(pt A 0)∧ρ' 27=(Bv h7)) h7 ?_ ?_
 have h:=k0
 refine Cg (qm (Bv c5) (qu (Bv (!c5)) (PO.not Z) (qm (Bv (!c5)) ?_)))
 rcases Bi h with⟨V,h⟩ |⟨V,h⟩
 refine qo 23 V (pt g 3) (Fa QgV Z Z) (qo 23 V (Iv a1.Topic) (Lb 2 pl3 Z Z Z) (qo 23 V (Bv (decide (a1.Topic≠0))) (neq Z Z) (qu (Bv (decide (a1.Topic≠0))) (Pt Z V Z) (Wz ?_))))
 obtain rfl:=oi h
 exact Tj ⟨lr,Z,Z,Z,Z,Z⟩
 iterate 3 refine Of 23 Z Z V Z ?_
 refine qu (Bv false) (Pf Z V Z) (Wz ?_)
 obtain rfl:=oi h
 exact Tj ⟨lr,Z,Z,Z,Z,Z⟩
 rintro o4 o5 o6 ⟨h8,rfl,R,G,S,e7⟩
 have W:=h6.trans h8
 refine Ch h e7 (fun k1 h=> ?_) (fun k1 h=> ?_)
 refine Sr (qu (a27_ a0 a b d c) (La (cs:=(l27 a0 a b d c)) 3 ag27 sz27 R Z Z) (WL.f1 ?_))
 have i:=i.mono W
 have j:=j.mono W
 have q:=q.mono W
 have k:=k.mono W
 refine We (Sg (v:=(a27_ a0 a b d c)) (vl:=(l27 a0 a b d c)) (arr':=(l27 a0 a b d c)) Z sz27 S Z (QbG (Oc (RS.one i) (Oc (RS.one j) (Oc (RS.one q) (Oc (RS.one k) (Oc Z Oz)))))) Z Z Z) Z ?_
 rintro _ _ _ - ⟨rfl,rfl⟩
 exact qa (Iv 8) (Nt (Cr (Tr (Qa (Dr (Qa (Dr (Qa (Dr (Rd h [] (fun _ hs=>hs.drop) (QaX Z (RVs.cons (Rc (cs:=(l27 a0 a b d c)) 0 ag27 sz27 S Z Z) (RVs.cons (RV.tmp Z) RVs.nil))) W ⟨a,b,d,c,Z,Z,i,j,q,k⟩))))))))))
 refine Ck (Tc (Sr (qu (a27_ a0 a b d c) (La (cs:=(l27 a0 a b d c)) 3 ag27 sz27 R Z Z) (qu (pt g 3) (Fa QgV G Z) (qu (Iv a1.Topic) (Lb 2 pl3 Z Z Z) (qu (pt g 11) (Fa QmK G Z) (qu (Sv a1.Key) (Lb 2 pl9 Z Z Z) ?_)))))))
 obtain ⟨⟨g7,c6⟩,k2,h⟩:=bnd h
 have i:=i.mono W
 have j:=j.mono W
 have q:=q.mono W
 have k:=k.mono W
 refine We (Ca Q9J (Qr6 a0 a1.Topic a1.Key _ _ _ _ _ i j q k (g7,c6) k2) (QhR Z Z Z)) Z ?_
 rintro _ n4 _ c7 ⟨_,⟨rfl,rfl⟩,rfl⟩
 refine WL.a0 (qm (.tuple #[(Sv g7),(Bv c6)]) (qu (Sv g7) (Xt Z Z) (qu (Bv c6) (Xt Z Z) (qa (Sv g7) (qa (Bv c6) (Nt (Cs ?_)))))))
 obtain ⟨h9,k3,h⟩:=bnd h
 refine Jf (fun(h9:Bool) ρ' M' H'=>n4.le M'∧[(a7, .cells (l55 E f).toArray 55 (0,0))]::[(A, .cells z27_.toArray 27 (0,0))]::[(g, .cells (l111 a1 l m o p).toArray 111 (0,0))]::[(z, .cells (l27 a0 a b d c).toArray 27 (0,0))]::F=H'∧ρ' 2=(pt z 0)∧ρ' 3=(pt g 0)∧ρ' 4=(pt A 0)∧ρ' 43=(Bv h9)) h9 ?_ ?_
 have h:=k3
 refine Cg (qu (pt g 9) (Fa Qw8 G Z) (qu (Bv a1.Flag) (Lb 2 pl4 Z Z Z) (qm (Bv a1.Flag) ?_)))
 rcases Bi h with⟨a3,h⟩ |⟨a3,h⟩
 refine On 40 Z Z a3 (qm (Bv c6) (qo 40 a3 (Bv (!c6)) (PO.not Z) (qu (Bv (!c6)) (Pt Z a3 Z) (Wz ?_))))
 obtain rfl:=oi h
 exact Tj ⟨lr,Z,R,G,S,Z⟩
 iterate 2 refine Of 40 Z Z a3 Z ?_
 refine qu (Bv false) (Pf Z a3 Z) (Wz ?_)
 obtain rfl:=oi h
 exact Tj ⟨lr,Z,R,G,S,Z⟩
 rintro o7 k4 o8 ⟨c8,rfl,a8,d1,a9,e8⟩
 have b5:=c7.trans c8
 refine Ch h e8 (fun k5 h=> ?_) (fun k5 h=> ?_)
 refine Sr (qu (a27_ a0 a b d c) (La (cs:=(l27 a0 a b d c)) 3 ag27 sz27 a8 Z Z) (WL.f1 ?_))
 have i:=i.mono b5
 have j:=j.mono b5
 have q:=q.mono b5
 have k:=k.mono b5
 refine We (Sg (v:=(a27_ a0 a b d c)) (vl:=(l27 a0 a b d c)) (arr':=(l27 a0 a b d c)) Z sz27 a9 Z (QbG (Oc (RS.one i) (Oc (RS.one j) (Oc (RS.one q) (Oc (RS.one k) (Oc Z Oz)))))) Z Z Z) Z ?_
 rintro _ _ _ - ⟨rfl,rfl⟩
 exact qa (Iv 8) (Nt (Cr (Tr (Qa (Dr (Qa (Dr (Qa (Dr (Rd h [] (fun _ hs=>hs.drop) (QaX Z (RVs.cons (Rc (cs:=(l27 a0 a b d c)) 0 ag27 sz27 a9 Z Z) (RVs.cons (RV.tmp Z) RVs.nil))) ((W.trans c7).trans c8) ⟨a,b,d,c,Z,Z,i,j,q,k⟩))))))))))
 refine Ck (Tc (Sr (qu (a27_ a0 a b d c) (La (cs:=(l27 a0 a b d c)) 3 ag27 sz27 a8 Z Z) (We (Al ze27 Z) Z ?_))))
 rintro _ _ _ - ⟨rfl,u,rfl,rfl⟩
 have i:=i.mono b5
 have j:=j.mono b5
 have q:=q.mono b5
 have k:=k.mono b5
 refine We (Sg (v:=(a27_ a0 a b d c)) (vl:=(l27 a0 a b d c)) (arr':=(l27 a0 a b d c)) Z sz27 Z Z (QbG (Oc (RS.one i) (Oc (RS.one j) (Oc (RS.one q) (Oc (RS.one k) (Oc Z Oz)))))) Z Z Z) Z ?_
 rintro _ _ _ - ⟨rfl,rfl⟩
 refine Ns (qu (pt u 2) (Fa Qc5 Z Z) (We (Es Zs ((l27 a0 a b Zs c)) Z sz24 Z Z Z Z Z Z) Z ?_))
 rintro _ _ _ - ⟨rfl,rfl⟩
 refine Ns (qu (pt g 9) (Fa Qw8 d1 Z) (qu (Bv a1.Flag) (Lb 3 pl4 Z Z Z) (qa (Bv a1.Flag) (Nt ?_))))
 obtain ⟨k6,k7,h⟩:=bnd h
 refine Jf (fun(p_:(Bool×(List QaJ))) ρ' M' H'=>match p_ with |(g8,i0)=>∃ b6 d2,k4.le M'∧[(u, .cells (l27 a0 a b b6 c).toArray 27 (0,0))]::[(a7, .cells (l55 E f).toArray 55 (0,0))]::[(A, .cells z27_.toArray 27 (0,0))]::[(g, .cells (l111 a1 l m o p).toArray 111 (0,0))]::[(z, .cells (l27 a0 a b d c).toArray 27 (0,0))]::d2::F=H'∧ρ' 3=(pt g 0)∧ρ' 4=(pt A 0)∧ρ' 10=(pt u 0)∧ρ' 11=(Bv g8)∧OwnS QaF M' b6 i0 d2) k6 ?_ ?_
 have h:=k7
 refine Sr (qa (Iv 0) (Nt (Bk (WC.e0 (WC.f5 (WC.f5 (WC.f5 (WC.f5 (WC.f5 ?_)))))))))
 obtain ⟨o9,k8,k9⟩:=bnd h
 clear h
 refine WC.loop k8 (fun(p_:(Bool×Int×(List QaJ))) ρ' M' H'=>match p_ with |(c9,e,g9)=>∃ X a4,k4.le M'∧[(u, .cells (l27 a0 a b X c).toArray 27 (0,0))]::[(a7, .cells (l55 E f).toArray 55 (0,0))]::[(A, .cells z27_.toArray 27 (0,0))]::[(g, .cells (l111 a1 l m o p).toArray 111 (0,0))]::[(z, .cells (l27 a0 a b d c).toArray 27 (0,0))]::a4::F=H'∧ρ' 2=(pt z 0)∧ρ' 3=(pt g 0)∧ρ' 4=(pt A 0)∧ρ' 10=(pt u 0)∧ρ' 11=(Bv c9)∧ρ' 12=(Iv e)∧OwnS QaF M' X g9 a4) ?_ ?_
 exact⟨Zs,[],lr,Z,a8,d1,a9,Z,Z,Z,(OwnS.nil _ _)⟩
 rintro ⟨c9,e,g9⟩ p0 p1 i1 p2 h ⟨X,a4,d0,rfl,C,s,I,B,w,y,Y⟩
 unfold Qd7 at h
 refine Cs (Sr (qM (Iv e) y (qu (pt z 2) (Fa Qc5 C Z) (qu d (Lb 4 pl24 Z Z Z) ?_))))
 have q:=q.mono d0
 refine qu (Iv (a0.Configs.length:Int)) (lenS underlying24 Z q.len) (qu (Bv (decide (e<(a0.Configs.length:Int)))) (lss Z Z) (Nt (Ch h Z (fun l0 h=> ?_) (fun l0 h=> ?_))))
 refine Ck (Tc ?_)
 obtain ⟨l1,l2,h⟩:=bnd h
 refine Jf (fun(p_:(Bool×(List QaJ))) ρ' M' H'=>match p_ with |(i2,i3)=>∃ d3 d4,i1.le M'∧[(u, .cells (l27 a0 a b d3 c).toArray 27 (0,0))]::[(a7, .cells (l55 E f).toArray 55 (0,0))]::[(A, .cells z27_.toArray 27 (0,0))]::[(g, .cells (l111 a1 l m o p).toArray 111 (0,0))]::[(z, .cells (l27 a0 a b d c).toArray 27 (0,0))]::d4::F=H'∧ρ' 2=(pt z 0)∧ρ' 3=(pt g 0)∧ρ' 4=(pt A 0)∧ρ' 10=(pt u 0)∧ρ' 11=(Bv i2)∧ρ' 12=(Iv e)∧OwnS QaF M' d3 i3 d4) l1 ?_ ?_
 have h:=l2
 refine Bk (Sr (qu (pt z 2) (Fa Qc5 C Z) (qu d (Lb 4 pl24 Z Z Z) (qM (Iv e) y ?_))))
 obtain ⟨d5,h⟩:=QaQ h
 obtain ⟨n5,o3,i4,i5,hhas67⟩:=q.at d5.1 d5.2 (by decide)
 obtain rfl:=Qa8 i5
 refine qu (.pointer (some n5)) (indexAddr (n:=a0.Configs.length) underlying24 sz76 Z Z d5.1 d5.2 i4) (qu (a76_ (rd a0.Configs e)) (loadMA (cs:=(l76 (rd a0.Configs e))) ag76 sz76 Z hhas67) (We (Al ze76 Z) Z ?_))
 rintro _ _ _ - ⟨rfl,a2,rfl,rfl⟩
 refine We (Sg (v:=(a76_ (rd a0.Configs e))) (vl:=(l76 (rd a0.Configs e))) (arr':=(l76 (rd a0.Configs e))) Z sz76 Z Z (onb Z) Z Z Z) Z ?_
 rintro _ _ _ - ⟨rfl,rfl⟩
 refine Nt ?_
 obtain ⟨l3,l4,h⟩:=bnd h
 refine Jf (fun(p_:(Bool×(List QaJ))) ρ' M' H'=>match p_ with |(i6,i7)=>∃ a5 b7,i1.le M'∧[(a2, .cells (l76 (rd a0.Configs e)).toArray 76 (0,0))]::[(u, .cells (l27 a0 a b a5 c).toArray 27 (0,0))]::[(a7, .cells (l55 E f).toArray 55 (0,0))]::[(A, .cells z27_.toArray 27 (0,0))]::[(g, .cells (l111 a1 l m o p).toArray 111 (0,0))]::[(z, .cells (l27 a0 a b d c).toArray 27 (0,0))]::b7::F=H'∧ρ' 2=(pt z 0)∧ρ' 3=(pt g 0)∧ρ' 4=(pt A 0)∧ρ' 10=(pt u 0)∧ρ' 11=(Bv i6)∧ρ' 12=(Iv e)∧ρ' 13=(pt a2 0)∧OwnS QaF M' a5 i7 b7) l3 ?_ ?_
 have h:=l4
 obtain ⟨i8,l5,h⟩:=bnd h
 refine Jf (fun(i8:Bool) ρ' M' H'=>i1.le M'∧[(a2, .cells (l76 (rd a0.Configs e)).toArray 76 (0,0))]::[(u, .cells (l27 a0 a b X c).toArray 27 (0,0))]::[(a7, .cells (l55 E f).toArray 55 (0,0))]::[(A, .cells z27_.toArray 27 (0,0))]::[(g, .cells (l111 a1 l m o p).toArray 111 (0,0))]::[(z, .cells (l27 a0 a b d c).toArray 27 (0,0))]::a4::F=H'∧ρ' 2=(pt z 0)∧ρ' 3=(pt g 0)∧ρ' 4=(pt A 0)∧ρ' 10=(pt u 0)∧ρ' 11=(Bv c9)∧ρ' 12=(Iv e)∧ρ' 13=(pt a2 0)∧ρ' 83=(Bv i8)) i8 ?_ ?_
 have h:=l5
 refine Cg (qM (Bv c9) w (qu (Bv (!c9)) (PO.not Z) (qm (Bv (!c9)) ?_)))
 rcases Bi h with⟨r,h⟩ |⟨r,h⟩
 refine qo 63 r (pt a2 0) (Fa QeF Z Z) (qo 63 r (Iv ((rd a0.Configs e).Topic)) (Lb 0 pl3 Z Z Z) (qo 63 r (pt g 3) (Fa QgV s Z) (qo 63 r (Iv a1.Topic) (Lb 4 pl3 Z Z Z) (qo 63 r (Bv (decide (a1.Topic<((rd a0.Configs e).Topic)))) (gtr Z Z) (On 63 Z Z r (qm (Bv (decide (a1.Topic<((rd a0.Configs e).Topic)))) ?_))))))
 rcases Bi h with⟨t,h⟩ |⟨t,h⟩
 iterate 6 refine Of 69 Z Z t Z ?_
 refine WL.offU 75 Z Z Z (WL.offU 75 Z Z Z (WL.offU 75 Z Z Z (WL.offU 75 Z Z Z (WL.offU 75 Z Z Z (Of 69 Z Z t Z (qo 63 r (Bv true) (Pt Z t Z) (qu (Bv true) (Pt Z r Z) (Wz ?_))))))))
 obtain rfl:=oi h
 exact Tj ⟨lr,Z,C,s,I,B,w,y,Z,Z⟩
 refine qo 69 t (pt a2 0) (Fa QeF Z Z) (qo 69 t (Iv ((rd a0.Configs e).Topic)) (Lb 0 pl3 Z Z Z) (qo 69 t (pt g 3) (Fa QgV s Z) (qo 69 t (Iv a1.Topic) (Lb 4 pl3 Z Z Z) (qo 69 t (Bv (decide (((rd a0.Configs e).Topic)=a1.Topic))) (eql Z Z) (On 69 Z Z t (qm (Bv (decide (((rd a0.Configs e).Topic)=a1.Topic))) ?_))))))
 rcases Bi h with⟨J,h⟩ |⟨J,h⟩
 refine qo 75 J (pt a2 1) (Fa QfV Z Z) (qo 75 J (Sv ((rd a0.Configs e).Key)) (Lb 0 pl9 Z Z Z) (qo 75 J (pt g 11) (Fa QmK s Z) (qo 75 J (Sv a1.Key) (Lb 4 pl9 Z Z Z) (qo 75 J (Bv (!Op.bytesLess ((rd a0.Configs e).Key).toList a1.Key.toList)) (sgeq Z Z) (qo 69 t (Bv (!Op.bytesLess ((rd a0.Configs e).Key).toList a1.Key.toList)) (Pt Z J Z) (qo 63 r (Bv (!Op.bytesLess ((rd a0.Configs e).Key).toList a1.Key.toList)) (Pf Z t Z) (qu (Bv (!Op.bytesLess ((rd a0.Configs e).Key).toList a1.Key.toList)) (Pt Z r Z) (Wz ?_))))))))
 obtain rfl:=oi h
 exact Tj ⟨lr,Z,C,s,I,B,w,y,Z,Z⟩
 iterate 5 refine Of 75 Z Z J Z ?_
 refine qo 69 t (Bv false) (Pf Z J Z) (qo 63 r (Bv false) (Pf Z t Z) (qu (Bv false) (Pt Z r Z) (Wz ?_)))
 obtain rfl:=oi h
 exact Tj ⟨lr,Z,C,s,I,B,w,y,Z,Z⟩
 iterate 6 refine Of 63 Z Z r Z ?_
 refine WL.offU 69 Z Z Z (WL.offU 69 Z Z Z (WL.offU 69 Z Z Z (WL.offU 69 Z Z Z (WL.offU 69 Z Z Z (WL.offU 69 Z Z Z (WL.offU 75 Z Z Z (WL.offU 75 Z Z Z (WL.offU 75 Z Z Z (WL.offU 75 Z Z Z (WL.offU 75 Z Z Z (WL.offU 69 Z Z Z ?_)))))))))))
 refine Of 63 Z Z r Z (qu (Bv false) (Pf Z r Z) (Wz ?_))
 obtain rfl:=oi h
 exact Tj ⟨lr,Z,C,s,I,B,w,y,Z,Z⟩
 rintro p3 n6 p4 ⟨b0,rfl,d6,K,d7,L,e9,b8,b9,f0⟩
 refine Ch h f0 (fun l6 h=> ?_) (fun l6 h=> ?_)
 refine Sr (qu (pt u 2) (Fa Qc5 L Z) (qu X (Lb 1 pl24 Z Z Z) (qu (pt g 3) (Fa QgV K Z) (qu (Iv a1.Topic) (Lb 4 pl3 Z Z Z) (qu (pt g 11) (Fa QmK K Z) (qu (Sv a1.Key) (Lb 4 pl9 Z Z Z) (qu (pt g 12) (Fa QrH K Z) (qu (Sv a1.Value) (Lb 4 pl9 Z Z Z) (qu (.agg #[(Iv a1.Topic),(Sv a1.Key),(Sv a1.Value)]) (Bl (cl:=[(Iv a1.Topic),(Sv a1.Key),(Sv a1.Value)]) ze76 fp76 (Pc (Iv a1.Topic) Z Z (Pc (Sv a1.Key) Z Z (Pc (Sv a1.Value) Z Z Pz))) Z) (We (buildSliceL (cl:=[(Iv a1.Topic),(Sv a1.Key),(Sv a1.Value)]) underlying24 iz76 Z (Pc (.agg #[(Iv a1.Topic),(Sv a1.Key),(Sv a1.Value)]) Z Z Pz) Z) Z ?_))))))))))
 rintro _ _ _ - ⟨rfl,l7,rfl,rfl⟩
 have n7:OwnS QaF n6 (.slice (some ⟨l7,0,none⟩) 1 1) [(⟨a1.Topic,a1.Key,a1.Value⟩:QaJ)] [(l7, .cells #[(Iv a1.Topic),(Sv a1.Key),(Sv a1.Value)] 76 (0,0))]:=OwnS.rows (css:=[[(Iv a1.Topic),(Sv a1.Key),(Sv a1.Value)]]) (Rows.cons (QeQ (x:=(⟨a1.Topic,a1.Key,a1.Value⟩:QaJ))) Rows.nil) Z Z
 obtain ⟨l8,h⟩:=QaQ h
 refine WL.f7 ?_
 have Y:=Y.mono b0
 refine We (append (dd:=QaF) (xs:=g9) (ys:=[(⟨a1.Topic,a1.Key,a1.Value⟩:QaJ)]) underlying24 underlying24 in76 Z (appB (by decide) l8) (by decide) Z Z Y (n7.src 1 Z)) Z ?_
 rintro i9 _ _ - ⟨rfl,n8,rfl,j0⟩
 refine qu (pt u 2) (Fa Qc5 L Z) (WL.f3 (We (Es i9 ((l27 a0 a b i9 c)) j0.cells sz24 Z Z (Ow j0) Z Z Z) Z ?_))
 rintro _ _ _ - ⟨rfl,rfl⟩
 refine Nt (Cg (qa (Bv true) (Wz (Qb (Dr (Qa (WQ.f6 (WQ.f6 (WQ.f6 (WQ.f6 (WQ.f5 ?_)))))))))))
 refine WQ.f6 ?_
 obtain rfl:=oi h
 exact Tj ⟨i9,n8,b0,Z,d6,K,d7,L,Z,b8,b9,j0⟩
 refine Ck ?_
 obtain rfl:=oi h
 refine Tj ?_
 have Y:=Y.mono b0
 exact⟨X,a4,b0,Z,d6,K,d7,L,e9,b8,b9,Y⟩
 obtain ⟨i6,i7⟩:=l3
 rintro p5 n9 p6 ⟨a5,b7,f2,rfl,d8,T,d9,c0,c1,c2,N,a6⟩
 obtain ⟨j1,l9,h⟩:=bnd h
 refine Jf (fun(j1:Bool) ρ' M' H'=>n9.le M'∧[(a2, .cells (l76 (rd a0.Configs e)).toArray 76 (0,0))]::[(u, .cells (l27 a0 a b a5 c).toArray 27 (0,0))]::[(a7, .cells (l55 E f).toArray 55 (0,0))]::[(A, .cells z27_.toArray 27 (0,0))]::[(g, .cells (l111 a1 l m o p).toArray 111 (0,0))]::[(z, .cells (l27 a0 a b d c).toArray 27 (0,0))]::b7::F=H'∧ρ' 2=(pt z 0)∧ρ' 3=(pt g 0)∧ρ' 4=(pt A 0)∧ρ' 10=(pt u 0)∧ρ' 11=(Bv i6)∧ρ' 12=(Iv e)∧ρ' 13=(pt a2 0)∧ρ' 107=(Bv j1)) j1 ?_ ?_
 have h:=l9
 refine Cg (qu (pt a2 0) (Fa QeF N Z) (qu (Iv ((rd a0.Configs e).Topic)) (Lb 0 pl3 Z Z Z) (qu (pt g 3) (Fa QgV T Z) (qu (Iv a1.Topic) (Lb 4 pl3 Z Z Z) (qu (Bv (decide (((rd a0.Configs e).Topic)≠a1.Topic))) (neq Z Z) (qm (Bv (decide (((rd a0.Configs e).Topic)≠a1.Topic))) ?_))))))
 rcases Bi h with⟨O,h⟩ |⟨O,h⟩
 iterate 5 refine Of 101 Z Z O Z ?_
 refine qu (Bv true) (Pt Z O Z) (Wz ?_)
 obtain rfl:=oi h
 exact Tj ⟨lr,Z,d8,T,d9,c0,c1,c2,N,Z⟩
 refine qo 101 O (pt a2 1) (Fa QfV N Z) (qo 101 O (Sv ((rd a0.Configs e).Key)) (Lb 0 pl9 Z Z Z) (qo 101 O (pt g 11) (Fa QmK T Z) (qo 101 O (Sv a1.Key) (Lb 4 pl9 Z Z Z) (qo 101 O (Bv (!decide (((rd a0.Configs e).Key)=a1.Key))) (sneq Z Z) (qu (Bv (!decide (((rd a0.Configs e).Key)=a1.Key))) (Pf Z O Z) (Wz ?_))))))
 obtain rfl:=oi h
 exact Tj ⟨lr,Z,d8,T,d9,c0,c1,c2,N,Z⟩
 rintro p7 o0 p8 ⟨b1,rfl,e1,e2,e3,P,c3,c4,f4,e6⟩
 refine Ch h e6 (fun m0 h=> ?_) (fun m0 h=> ?_)
 refine Cg (qu (pt u 2) (Fa Qc5 P Z) (qu a5 (Lb 1 pl24 Z Z Z) (qu (a76_ (rd a0.Configs e)) (La (cs:=(l76 (rd a0.Configs e))) 0 ag76 sz76 f4 Z Z) (We (buildSliceL (cl:=(l76 (rd a0.Configs e))) underlying24 iz76 Z (Pc (a76_ (rd a0.Configs e)) Z Z Pz) Z) Z ?_))))
 rintro _ _ _ - ⟨rfl,m1,rfl,rfl⟩
 have o1:OwnS QaF o0 (.slice (some ⟨m1,0,none⟩) 1 1) [(rd a0.Configs e)] [(m1, .cells (l76 (rd a0.Configs e)).toArray 76 (0,0))]:=OwnS.rows (css:=[(l76 (rd a0.Configs e))]) (Rows.cons (QeQ (x:=(rd a0.Configs e))) Rows.nil) Z Z
 obtain ⟨m2,h⟩:=QaQ h
 refine WL.f7 ?_
 have a6:=a6.mono b1
 refine We (append (dd:=QaF) (xs:=i7) (ys:=[(rd a0.Configs e)]) underlying24 underlying24 in76 Z (appB (by decide) m2) (by decide) Z Z a6 (o1.src 1 Z)) Z ?_
 rintro j2 _ _ - ⟨rfl,o2,rfl,j3⟩
 refine qu (pt u 2) (Fa Qc5 P Z) (WL.f3 (We (Es j2 ((l27 a0 a b j2 c)) j3.cells sz24 Z Z (Ow j3) Z Z Z) Z ?_))
 rintro _ _ _ - ⟨rfl,rfl⟩
 refine Wz (Bn (Qb (Dr (Qb (Dr (Qa (WQ.f5 (WQ.f5 (WQ.f5 (WQ.f5 (WQ.f5 ?_)))))))))))
 obtain rfl:=oi h
 exact Tj ⟨j2,o2,(f2.trans b1),Z,e1,e2,e3,P,c3,c4,j3⟩
 refine Ck (Bn (Dr ?_))
 obtain rfl:=oi h
 refine Tj ?_
 have a6:=a6.mono b1
 exact⟨a5,b7,(f2.trans b1),Z,e1,e2,e3,P,c3,c4,a6⟩
 obtain ⟨i2,i3⟩:=l1
 rintro p9 q0 q1 ⟨d3,d4,j4,rfl,h0,h1,h2,f8,f9,g0,m3⟩
 exact Cg (qM (Iv e) g0 (qu (Iv (i64.wrap (e+1))) (add Z Z) (qa (Iv (i64.wrap (e+1))) (Wz (WQ.again (i2,i64.wrap (e+1),i3) (oi h).symm ⟨d3,d4,(d0.trans j4),Z,h0,h1,h2,f8,f9,Z,m3⟩)))))
 refine WC.exit (WQ.thenE (WQ.leaveE (c9,g9) (oi h).symm (fun j5=> ?_)))
 subst j5
 have h:=k9
 refine WQ.blockH ?_
 obtain rfl:=oi h
 exact Tj ⟨X,a4,d0,Z,s,I,B,w,Y⟩
 obtain ⟨g8,i0⟩:=k6
 rintro q2 m4 q3 ⟨b6,d2,b2,rfl,b3,e4,Q,g1,h3⟩
 obtain ⟨j6,m5,h⟩:=bnd h
 refine Jf (fun(j6:(List QaJ)) ρ' M' H'=>∃ D g2,m4.le M'∧[(u, .cells (l27 a0 a b D c).toArray 27 (0,0))]::[(a7, .cells (l55 E f).toArray 55 (0,0))]::[(A, .cells z27_.toArray 27 (0,0))]::[(g, .cells (l111 a1 l m o p).toArray 111 (0,0))]::[(z, .cells (l27 a0 a b d c).toArray 27 (0,0))]::g2::F=H'∧ρ' 4=(pt A 0)∧ρ' 10=(pt u 0)∧OwnS QaF M' D j6 g2) j6 ?_ ?_
 have h:=m5
 refine Sr (qM (Bv g8) g1 (qu (Bv (!g8)) (PO.not Z) (Nt (Ch h Z (fun m6 h=> ?_) (fun m6 h=> ?_)))))
 refine Cg (qu (pt u 2) (Fa Qc5 Q Z) (qu b6 (Lb 0 pl24 Z Z Z) (qu (pt g 3) (Fa QgV b3 Z) (qu (Iv a1.Topic) (Lb 3 pl3 Z Z Z) (qu (pt g 11) (Fa QmK b3 Z) (qu (Sv a1.Key) (Lb 3 pl9 Z Z Z) (qu (pt g 12) (Fa QrH b3 Z) (qu (Sv a1.Value) (Lb 3 pl9 Z Z Z) (qu (.agg #[(Iv a1.Topic),(Sv a1.Key),(Sv a1.Value)]) (Bl (cl:=[(Iv a1.Topic),(Sv a1.Key),(Sv a1.Value)]) ze76 fp76 (Pc (Iv a1.Topic) Z Z (Pc (Sv a1.Key) Z Z (Pc (Sv a1.Value) Z Z Pz))) Z) (We (buildSliceL (cl:=[(Iv a1.Topic),(Sv a1.Key),(Sv a1.Value)]) underlying24 iz76 Z (Pc (.agg #[(Iv a1.Topic),(Sv a1.Key),(Sv a1.Value)]) Z Z Pz) Z) Z ?_))))))))))
 rintro _ _ _ - ⟨rfl,h4,rfl,rfl⟩
 have m7:OwnS QaF m4 (.slice (some ⟨h4,0,none⟩) 1 1) [(⟨a1.Topic,a1.Key,a1.Value⟩:QaJ)] [(h4, .cells #[(Iv a1.Topic),(Sv a1.Key),(Sv a1.Value)] 76 (0,0))]:=OwnS.rows (css:=[[(Iv a1.Topic),(Sv a1.Key),(Sv a1.Value)]]) (Rows.cons (QeQ (x:=(⟨a1.Topic,a1.Key,a1.Value⟩:QaJ))) Rows.nil) Z Z
 obtain ⟨j7,h⟩:=QaQ h
 refine WL.f6 (We (append (dd:=QaF) (xs:=i0) (ys:=[(⟨a1.Topic,a1.Key,a1.Value⟩:QaJ)]) underlying24 underlying24 in76 Z (appB (by decide) j7) (by decide) Z Z h3 (m7.src 1 Z)) Z ?_)
 rintro g3 _ _ - ⟨rfl,m8,rfl,g4⟩
 refine qu (pt u 2) (Fa Qc5 Q Z) (Wb (We (Es g3 ((l27 a0 a b g3 c)) g4.cells sz24 Z Z (Ow g4) Z Z Z) Z ?_))
 rintro _ _ _ - ⟨rfl,rfl⟩
 refine Wz (Qb (Dr (Qa (WQ.f5 (WQ.f5 (WQ.f5 (WQ.f5 (WQ.f5 ?_))))))))
 obtain rfl:=oi h
 exact Tj ⟨g3,m8,lr,Z,e4,Q,g4⟩
 refine Ck ?_
 obtain rfl:=oi h
 exact Tj ⟨b6,d2,lr,Z,e4,Q,h3⟩
 rintro q4 q5 q6 ⟨D,g2,b4,rfl,e5,g5,h5⟩
 refine Sr (qu (a27_ a0 a b D c) (La (cs:=(l27 a0 a b D c)) 0 ag27 sz27 g5 Z Z) (Wb ?_))
 have i:=i.mono (b2.trans b4)
 have j:=j.mono (b2.trans b4)
 have k:=k.mono (b2.trans b4)
 refine We (Sg (v:=(a27_ a0 a b D c)) (vl:=(l27 a0 a b D c)) (arr':=(l27 a0 a b D c)) Z sz27 e5 Z (QbG (Oc (RS.one i) (Oc (RS.one j) (Oc (Ow h5) (Oc (RS.one k) (Oc Z Oz)))))) Z Z Z) Z ?_
 rintro _ _ _ - ⟨rfl,rfl⟩
 refine qa (Iv 0) (Nt (Cr (WQ.f5 (WQ.know (fun _ hs=>h5.rs hs) (fun j8=> ?_)))))
 refine WQ.freeze (fun U=> ?_)
 refine Qa (Dr (Qa (Dr (Qa (Dr (Qa (Dr ?_)))))))
 have i:=i.mono U
 have j:=j.mono U
 have k:=k.mono U
 exact Rd h [] (fun _ hs=>hs.drop) (QaX Z (RVs.cons (Rc (cs:=(l27 a0 a b D c)) 0 ag27 sz27 e5 Z Z) (RVs.cons (RV.tmp Z) RVs.nil))) (((((W.trans c7).trans c8).trans b2).trans b4).trans U) ⟨a,b,D,c,Z,Z,i,j,j8,k⟩
noncomputable def Qf0 (a0:QaA) (a1:Int) (a2:Int) (s_:Int):Option (Int⊕(Unit⊕Int)):=
 match s_ with
 |a=>
 (if(decide (a<(a0.Done.length:Int)))=true then(((grd (0≤a∧a<a0.Done.length) (if(decide (((rd a0.Done a).Client)=a1))=true then(grd (0≤a∧a<a0.Done.length) (some (decide (((rd a0.Done a).Serial)=a2))))else(some false))):Option Bool).bind fun b=>(if b=true then(grd (0≤a∧a<a0.Done.length) (some (inr (inr ((rd a0.Done a).Code)))))else(some (inl (i64.wrap (a+(1:Int)))))))else(some (inr (inl ()))))
noncomputable def QgC (a0:QaA) (a1:Int) (a2:Int):Option (Int×Bool):=
 ((((iter (Qf0 a0 a1 a2) (0:Int)).bind (Sum.elim (fun _=>(some (inl ()))) (fun(a:Int)=>(((some (a,true))).bind fun r=>some (inr r))))):Option (Unit⊕(Int×Bool))).bind (Sum.elim (fun _=>(some ((0:Int),false))) some))
def QnK (a0:QaA) (a1:Int) (a2:Int) (a b c d:Value):(Int×Bool)→Value→IM→HL→Prop:=
 fun(p_:(Int×Bool)) (v:Value) (M':IM) (H':HL)=>match p_ with |(e,f)=>(.tuple #[(.int .i64 e),(.bool f)])=v∧H'=[]
theorem QpT (a0:QaA) (a1:Int) (a2:Int) (M:IM) (f g i b:Value) (W:RS QaD M f a0.Brokers) (X:RS QaG M g a0.Topics) (Y:RS QaF M i a0.Configs) (j:RS QaI M b a0.Done) (res:(Int×Bool)) (h:QgC a0 a1 a2=some res):
 Tri prog 136 #[(a27_ a0 f g i b),(Iv a1),(Iv a2)] M [] (QnK a0 a1 a2 f g i b res):=by
 unfold QgC at h
 refine Te func136 Z Z ?_
 intro F ρ hρ
 refine Sr (We (box (cs:=(l27 a0 f g i b).toArray) (congrArg Value.cells (asE (a27_ a0 f g i b) (hρ 0)))) Z ?_)
 rintro _ _ _ - ⟨rfl,k,rfl,rfl⟩
 refine qa (Iv 0) (qa (Bv false) (Nt ?_))
 obtain ⟨U,K,h⟩:=bnd h
 refine WC.joinE (fun(_:Unit) ρ' M' H'=>M.le M'∧[(k, .cells (l27 a0 f g i b).toArray 27 (0,0))]::F=H') U ?_ ?_
 have L:=h
 have h:=K
 refine Sr (qa (Iv 0) (Nt (Bk ?_)))
 obtain ⟨a6,N,z⟩:=bnd h
 clear h
 refine WC.loop N (fun(a:Int) ρ' M' H'=>M.le M'∧[(k, .cells (l27 a0 f g i b).toArray 27 (0,0))]::F=H'∧ρ' 1=(Iv a1)∧ρ' 2=(Iv a2)∧ρ' 3=(pt k 0)∧ρ' 8=(Iv a)) ?_ ?_
 exact⟨lr,Z,(hρ 1),(hρ 2),Z,Z⟩
 rintro a a7 a8 V a9 h ⟨l,rfl,m,o,d,e⟩
 unfold Qf0 at h
 refine Cs (Sr (qM (Iv a) e (qu (pt k 3) (Fa QdW d Z) (qu b (Lb 0 pl25 Z Z Z) ?_))))
 have j:=j.mono l
 refine qu (Iv (a0.Done.length:Int)) (lenS underlying25 Z j.len) (qu (Bv (decide (a<(a0.Done.length:Int)))) (lss Z Z) (Nt (Ch h Z (fun O h=> ?_) (fun O h=> ?_))))
 refine Ck (Tc (Cs (Bk ?_)))
 obtain ⟨A,P,h⟩:=bnd h
 refine Jf (fun(A:Bool) ρ' M' H'=>V.le M'∧[(k, .cells (l27 a0 f g i b).toArray 27 (0,0))]::F=H'∧ρ' 1=(Iv a1)∧ρ' 2=(Iv a2)∧ρ' 3=(pt k 0)∧ρ' 8=(Iv a)∧ρ' 33=(Bv A)) A ?_ ?_
 have h:=P
 refine Cg (qu (pt k 3) (Fa QdW d Z) (qu b (Lb 0 pl25 Z Z Z) (qM (Iv a) e ?_)))
 obtain ⟨r,h⟩:=QaQ h
 obtain ⟨Q,a3,B,C,hhas34⟩:=j.at r.1 r.2 (by decide)
 obtain rfl:=Qb8 C
 refine qu (.pointer (some Q)) (indexAddr (n:=a0.Done.length) underlying25 sz67 Z Z r.1 r.2 B) (qu (.pointer (some (Q.add 0))) (Fa QrI Z Z) (qu (Iv ((rd a0.Done a).Client)) (loadM pl3 Z (IM.has0 hhas34)) (qM (Iv a1) m (qu (Bv (decide (((rd a0.Done a).Client)=a1))) (eql Z Z) (qm (Bv (decide (((rd a0.Done a).Client)=a1))) ?_)))))
 rcases Bi h with⟨c,h⟩ |⟨c,h⟩
 refine qo 24 c (pt k 3) (Fa QdW d Z) (qo 24 c b (Lb 0 pl25 Z Z Z) (On 24 Z Z c (qM (Iv a) e (On 24 Z Z c ?_))))
 obtain ⟨s,h⟩:=QaQ h
 obtain ⟨R,a4,D,E,hhas42⟩:=j.at s.1 s.2 (by decide)
 obtain rfl:=Qb8 E
 refine qu (.pointer (some R)) (indexAddr (n:=a0.Done.length) underlying25 sz67 Z Z s.1 s.2 D) (qo 24 c (.pointer (some (R.add 1))) (Fa QpF Z Z) (qo 24 c (Iv ((rd a0.Done a).Serial)) (loadM pl3 Z (hhas42 1 _ Z)) (On 24 Z Z c (qM (Iv a2) o (qo 24 c (Bv (decide (((rd a0.Done a).Serial)=a2))) (eql Z Z) (qu (Bv (decide (((rd a0.Done a).Serial)=a2))) (Pt Z c Z) (Wz ?_)))))))
 obtain rfl:=oi h
 exact Tj ⟨lr,Z,m,o,d,e,Z⟩
 iterate 8 refine Of 24 Z Z c Z ?_
 refine qu (Bv false) (Pf Z c Z) (Wz ?_)
 obtain rfl:=oi h
 exact Tj ⟨lr,Z,m,o,d,e,Z⟩
 rintro b0 b1 b2 ⟨p,rfl,x,y,t,u,w⟩
 refine Ch h w (fun S h=> ?_) (fun S h=> ?_)
 refine Sr (qu (pt k 3) (Fa QdW t Z) (qu b (Lb 0 pl25 Z Z Z) (qM (Iv a) u ?_)))
 obtain ⟨v,h⟩:=QaQ h
 have j:=j.mono p
 obtain ⟨T,a5,G,I,hhas50⟩:=j.at v.1 v.2 (by decide)
 obtain rfl:=Qb8 I
 refine qu (.pointer (some T)) (indexAddr (n:=a0.Done.length) underlying25 sz67 Z Z v.1 v.2 G) (qu (.pointer (some (T.add 2))) (Fa Qs4 Z Z) (qu (Iv ((rd a0.Done a).Code)) (loadM pl3 Z (hhas50 2 _ Z)) (qa (Iv ((rd a0.Done a).Code)) (qa (Bv true) (Nt (Cr (Br (Tr (WQ.leaveR (inr ((rd a0.Done a).Code)) (oi h).symm (fun q=> ?_))))))))))
 subst q
 have h:=(QdO z)
 refine Br (Tr ?_)
 have h:=KK.early h L
 exact Dr (Rf h [] Z (QgZ Z Z Z) (l.trans p) ⟨Z,Z⟩)
 exact Ck (Bn (Tc (Cg (qM (Iv a) u (qu (Iv (i64.wrap (a+1))) (add Z Z) (qa (Iv (i64.wrap (a+1))) (Wz (WQ.again (i64.wrap (a+1)) (oi h).symm ⟨(l.trans p),Z,x,y,t,Z⟩))))))))
 refine WC.exit (WQ.thenE (WQ.leaveE (inl ()) (oi h).symm (fun q=> ?_)))
 subst q
 have h:=QeJ z
 exact WQ.blockH (WQ.thenFE h ⟨l,Z⟩)
 rintro _ b3 b4 b5 rfl ⟨J,rfl⟩
 have h:=(Sum.elim_inl _ _ _).symm.trans h
 exact Sr (qa (Iv 0) (qa (Bv false) (Nt (Cr (Dr (Rf h [] Z (QgZ Z Z Z) J ⟨Z,Z⟩))))))
noncomputable def QkC (a0:QaA) (a1:QaK):Option (QaA×Int):=
 ((QgC a0 a1.Client a1.Serial).bind fun(c,b)=>(if b=true then(some (a0,(9:Int)))else(((if(decide ((64:Int)≤(a0.Done.length:Int)))=true then(some (i64.wrap ((a0.Done.length:Int)- (63:Int))))else(some (0:Int))):Option Int).bind fun a=>(grd (0≤a∧a≤(a0.Done.length:Int)∧(a0.Done.length:Int)≤(a0.Done.length:Int)) (grd (([]:List Qa4).length+(sub a0.Done a (a0.Done.length:Int)).length≤274877906944) (grd ((([]:List Qa4)++(sub a0.Done a (a0.Done.length:Int))).length+[(⟨a1.Client,a1.Serial,a1.Code⟩:Qa4)].length≤274877906944) (some ((⟨a0.Brokers,a0.Topics,a0.Configs,(([]:List Qa4)++(sub a0.Done a (a0.Done.length:Int)))++[(⟨a1.Client,a1.Serial,a1.Code⟩:Qa4)],a0.Last⟩:QaA),(0:Int)))))))))
def Qr8 (a0:QaA) (a1:QaK) (k l m n f g i j:Value):(QaA×Int)→Value→IM→HL→Prop:=
 fun(p_:(QaA×Int)) (v:Value) (M':IM) (H':HL)=>match p_ with |(e,o)=>∃ a b c d,(.tuple #[(.agg #[a,b,c,d,(.int .i64 e.Last)]),(.int .i64 o)])=v∧H'=[]∧RS QaD M' a e.Brokers∧RS QaG M' b e.Topics∧RS QaF M' c e.Configs∧RS QaI M' d e.Done
theorem QuT (a0:QaA) (a1:QaK) (M:IM) (a b c d m o p q:Value) (f:RS QaD M a a0.Brokers) (g:RS QaG M b a0.Topics) (i:RS QaF M c a0.Configs) (e:RS QaI M d a0.Done) (W:RS (Kd.int .i64) M m a1.Ids) (X:RS (Kd.int .i64) M o a1.Isr) (Y:RS (Kd.int .i64) M p a1.Add) (a2:RS (Kd.int .i64) M q a1.Drop) (res:(QaA×Int)) (h:QkC a0 a1=some res):
 Tri prog 98 #[(a27_ a0 a b c d),(QjY a1 m o p q)] M [] (Qr8 a0 a1 a b c d m o p q res):=by
 unfold QkC at h
 refine Te func98 Z Z ?_
 intro F ρ hρ
 refine Sr (We (box (cs:=(l27 a0 a b c d).toArray) (congrArg Value.cells (asE (a27_ a0 a b c d) (hρ 0)))) Z ?_)
 rintro _ _ _ - ⟨rfl,C,rfl,rfl⟩
 refine We (box (cs:=(l111 a1 m o p q).toArray) (congrArg Value.cells (asE (QjY a1 m o p q) (hρ 1)))) Z ?_
 rintro _ _ _ - ⟨rfl,z,rfl,rfl⟩
 refine We (Al ze27 Z) Z ?_
 rintro _ _ _ - ⟨rfl,N,rfl,rfl⟩
 refine qa (Iv 0) (Nt (Cs (Sr (qu (a27_ a0 a b c d) (La (cs:=(l27 a0 a b c d)) 2 ag27 sz27 Z Z Z) (qu (pt z 6) (Fa QvB Z Z) (qu (Iv a1.Client) (Lb 1 pl3 Z Z Z) (qu (pt z 7) (Fa Qw7 Z Z) (qu (Iv a1.Serial) (Lb 1 pl3 Z Z Z) ?_))))))))
 obtain ⟨⟨E,D⟩,O,h⟩:=bnd h
 refine We (Ca Q9K (QpT a0 a1.Client a1.Serial _ _ _ _ _ f g i e (E,D) O) (QhR Z Z Z)) Z ?_
 rintro _ a3 _ j ⟨_,⟨rfl,rfl⟩,rfl⟩
 refine WL.a0 (qm (.tuple #[(Iv E),(Bv D)]) (qu (Iv E) (Xt Z Z) (qu (Bv D) (Xt Z Z) (qa (Iv E) (qa (Bv D) (Ns (qm (Bv D) (Nt (Ch h Z (fun P h=> ?_) (fun P h=> ?_))))))))))
 refine Sr (qu (a27_ a0 a b c d) (La (cs:=(l27 a0 a b c d)) 2 ag27 sz27 Z Z Z) ?_)
 have f:=f.mono j
 have g:=g.mono j
 have i:=i.mono j
 have e:=e.mono j
 refine We (Sg (v:=(a27_ a0 a b c d)) (vl:=(l27 a0 a b c d)) (arr':=(l27 a0 a b c d)) Z sz27 Z Z (QbG (Oc (RS.one f) (Oc (RS.one g) (Oc (RS.one i) (Oc (RS.one e) (Oc Z Oz)))))) Z Z Z) Z ?_
 rintro _ _ _ - ⟨rfl,rfl⟩
 exact qa (Iv 9) (Nt (Cr (Tr (Qa (Dr (Qa (Dr (Rd h [] (fun _ hs=>hs.drop) (QaX Z (RVs.cons (Rc (cs:=(l27 a0 a b c d)) 0 ag27 sz27 Z Z Z) (RVs.cons (RV.tmp Z) RVs.nil))) j ⟨a,b,c,d,Z,Z,f,g,i,e⟩))))))))
 refine Ck (Tc (Sr (qu (a27_ a0 a b c d) (La (cs:=(l27 a0 a b c d)) 2 ag27 sz27 Z Z Z) (We (Al ze27 Z) Z ?_))))
 rintro _ _ _ - ⟨rfl,A,rfl,rfl⟩
 have f:=f.mono j
 have g:=g.mono j
 have i:=i.mono j
 have e:=e.mono j
 refine We (Sg (v:=(a27_ a0 a b c d)) (vl:=(l27 a0 a b c d)) (arr':=(l27 a0 a b c d)) Z sz27 Z Z (QbG (Oc (RS.one f) (Oc (RS.one g) (Oc (RS.one i) (Oc (RS.one e) (Oc Z Oz)))))) Z Z Z) Z ?_
 rintro _ _ _ - ⟨rfl,rfl⟩
 refine Ns (qu (pt A 3) (Fa QdW Z Z) (We (Es Zs ((l27 a0 a b c Zs)) Z sz25 Z Z Z Z Z Z) Z ?_))
 rintro _ _ _ - ⟨rfl,rfl⟩
 refine Ns (qa (Iv 0) (Nt ?_))
 obtain ⟨y,Q,h⟩:=bnd h
 refine Jf (fun(y:Int) ρ' M' H'=>a3.le M'∧[(A, .cells (l27 a0 a b c Zs).toArray 27 (0,0))]::[(N, .cells z27_.toArray 27 (0,0))]::[(z, .cells (l111 a1 m o p q).toArray 111 (0,0))]::[(C, .cells (l27 a0 a b c d).toArray 27 (0,0))]::F=H'∧ρ' 2=(pt C 0)∧ρ' 3=(pt z 0)∧ρ' 4=(pt N 0)∧ρ' 8=(pt A 0)∧ρ' 9=(Iv y)) y ?_ ?_
 have h:=Q
 refine Sr (qu (pt C 3) (Fa QdW Z Z) (qu d (Lb 3 pl25 Z Z Z) (qu (Iv (a0.Done.length:Int)) (lenS underlying25 Z e.len) (qu (Bv (decide ((64:Int)≤(a0.Done.length:Int)))) (geq Z Z) (Nt (Ch h Z (fun R h=> ?_) (fun R h=> ?_)))))))
 refine Cg (qu (pt C 3) (Fa QdW Z Z) (qu d (Lb 3 pl25 Z Z Z) (qu (Iv (a0.Done.length:Int)) (lenS underlying25 Z e.len) (qu (Iv (i64.wrap ((a0.Done.length:Int)- (63:Int)))) (PO.sub Z Z) (qa (Iv (i64.wrap ((a0.Done.length:Int)- (63:Int)))) (Wz ?_))))))
 obtain rfl:=oi h
 exact Tj ⟨lr,Z,Z,Z,Z,Z,Z⟩
 refine Ck ?_
 obtain rfl:=oi h
 exact Tj ⟨lr,Z,Z,Z,Z,Z,Z⟩
 rintro a7 a4 a8 ⟨r,rfl,G,t,B,k,I⟩
 refine Cs (WC.draw [0,1,0,4,0,28,63,127,255] (.pure 0 (.pure 1 (.pure 2 (.pure 3 (.pure 4 (.pure 5 (.alt 6 (.pure 7 (.alt 8 .done .none)) .none))))))) QdC (by kernel_rfl) (qt (pt A 3) Z (Fa QdW k Z) (qt Zs Z (Lb 0 pl25 Z Z Z) (qt (pt C 3) Z (Fa QdW G Z) (qt d Z (Lb 3 pl25 Z Z Z) (qt (Iv y) Z (Mv I) ?_))))))
 obtain ⟨s,h⟩:=QaQ h
 have e:=e.mono r
 have a5:=e.sub s.1 s.2.1 s.2.2
 refine qt (slV d 3 (y).toNat ((a0.Done.length:Int)).toNat) Z (slice (n:=a0.Done.length) (l:=(y).toNat) (h:=((a0.Done.length:Int)).toNat) underlying25 sz67 Z e.len e.cap ⟨_,_,Z,s.1,Z⟩ (QwY Z) (Int.toNat_le_toNat s.2.1) (Qg5 s.2.2)) ?_
 obtain ⟨S,h⟩:=QaQ h
 refine WT.e0 (Ta Z (append (dd:=QaI) (xs:=[]) (ys:=sub a0.Done y (a0.Done.length:Int)) underlying25 underlying25 in67 Z (appB (by decide) S) (by decide) Z Z (OwnS.nil _ _) (a5.src _)) Z ?_ ?_)
 rintro K _ _ - ⟨rfl,a9,rfl,L⟩
 refine⟨(Sl Z), ?_⟩
 refine qt (pt A 3) Z (Fa QdW k Z) (WT.f1 (Ta Z (Es K ((l27 a0 a b c K)) L.cells sz25 Z Z (Ow L) Z Z Z) Z ?_ ?_))
 rintro _ _ _ - ⟨rfl,rfl⟩
 refine⟨(Sl Z), ?_⟩
 refine Ti (Tc (Sr (qu (pt A 3) (Fa QdW k Z) (qu K (Lb 0 pl25 Z Z Z) (qu (pt z 6) (Fa QvB t Z) (qu (Iv a1.Client) (Lb 3 pl3 Z Z Z) (qu (pt z 7) (Fa Qw7 t Z) (qu (Iv a1.Serial) (Lb 3 pl3 Z Z Z) (qu (pt z 8) (Fa QzE t Z) (qu (Iv a1.Code) (Lb 3 pl3 Z Z Z) (qu (.agg #[(Iv a1.Client),(Iv a1.Serial),(Iv a1.Code)]) (Bl (cl:=[(Iv a1.Client),(Iv a1.Serial),(Iv a1.Code)]) ze67 fp67 (Pc (Iv a1.Client) Z Z (Pc (Iv a1.Serial) Z Z (Pc (Iv a1.Code) Z Z Pz))) Z) ?_)))))))))))
 refine We (buildSliceL (cl:=[(Iv a1.Client),(Iv a1.Serial),(Iv a1.Code)]) underlying25 iz67 Z (Pc (.agg #[(Iv a1.Client),(Iv a1.Serial),(Iv a1.Code)]) Z Z Pz) Z) Z ?_
 rintro _ _ _ - ⟨rfl,T,rfl,rfl⟩
 have a6:OwnS QaI a4 (.slice (some ⟨T,0,none⟩) 1 1) [(⟨a1.Client,a1.Serial,a1.Code⟩:Qa4)] [(T, .cells #[(Iv a1.Client),(Iv a1.Serial),(Iv a1.Code)] 67 (0,0))]:=OwnS.rows (css:=[[(Iv a1.Client),(Iv a1.Serial),(Iv a1.Code)]]) (Rows.cons (QlY (x:=(⟨a1.Client,a1.Serial,a1.Code⟩:Qa4))) Rows.nil) Z Z
 obtain ⟨U,h⟩:=QaQ h
 refine Wb (We (append (dd:=QaI) (xs:=([]:List Qa4)++(sub a0.Done y (a0.Done.length:Int))) (ys:=[(⟨a1.Client,a1.Serial,a1.Code⟩:Qa4)]) underlying25 underlying25 in67 Z (appB (by decide) U) (by decide) Z Z L (a6.src 1 Z)) Z ?_)
 rintro u _ _ - ⟨rfl,b0,rfl,J⟩
 refine qu (pt A 3) (Fa QdW k Z) (Wb (We (Es u ((l27 a0 a b c u)) J.cells sz25 Z Z (Ow J) Z Z Z) Z ?_))
 rintro _ _ _ - ⟨rfl,rfl⟩
 refine Ns (qu (a27_ a0 a b c u) (La (cs:=(l27 a0 a b c u)) 0 ag27 sz27 k Z Z) (WL.f3 ?_))
 have f:=f.mono r
 have g:=g.mono r
 have i:=i.mono r
 refine We (Sg (v:=(a27_ a0 a b c u)) (vl:=(l27 a0 a b c u)) (arr':=(l27 a0 a b c u)) Z sz27 B Z (QbG (Oc (RS.one f) (Oc (RS.one g) (Oc (RS.one i) (Oc (Ow J) (Oc Z Oz)))))) Z Z Z) Z ?_
 rintro _ _ _ - ⟨rfl,rfl⟩
 refine qa (Iv 0) (Nt (Cr (Qb (WQ.know (fun _ hs=>J.rs hs) (fun V=> ?_)))))
 refine WQ.freeze (fun w=> ?_)
 refine Qa (Dr (Qa (Dr (Qa (Dr (Qa (Dr ?_)))))))
 have f:=f.mono w
 have g:=g.mono w
 have i:=i.mono w
 exact Rd h [] (fun _ hs=>hs.drop) (QaX Z (RVs.cons (Rc (cs:=(l27 a0 a b c u)) 0 ag27 sz27 B Z Z) (RVs.cons (RV.tmp Z) RVs.nil))) ((j.trans r).trans w) ⟨a,b,c,u,Z,Z,f,g,i,V⟩
 exact Tz
 exact Tz
noncomputable def Qf1 (a0:QaA) (a1:QaK):Option (QaA×Int):=
 ((QfY a1).bind fun a=>(if(decide (a.Code≠(0:Int)))=true then(some (a0,a.Code))else(if(decide (a1.Kind=(2:Int)))=true then((Qf7 a0 a1).bind fun(b,c)=>(some (b,c)))else(((if(decide (a1.Kind=(3:Int)))=true then(some (decide (a1.Kind=(3:Int))))else(if(decide (a1.Kind=(4:Int)))=true then(some (decide (a1.Kind=(4:Int))))else(if(decide (a1.Kind=(5:Int)))=true then(some (decide (a1.Kind=(5:Int))))else(some (decide (a1.Kind=(6:Int))))))):Option Bool).bind fun d=>(if d=true then((Qh5 a0 a1).bind fun(e,f)=>(some (e,f)))else(((if(decide (a1.Kind=(8:Int)))=true then(some (decide (a1.Kind=(8:Int))))else(some (decide (a1.Kind=(9:Int))))):Option Bool).bind fun g=>(if g=true then((QkA a0 a1).bind fun(i,j)=>(some (i,j)))else(if(decide (a1.Kind=(7:Int)))=true then((Qi3 a0 a1).bind fun(k,l)=>(some (k,l)))else(if(decide (a1.Kind=(11:Int)))=true then((QkB a0 a1.Topic).bind fun(m,n)=>(some (m,n)))else(if(decide (a1.Kind=(10:Int)))=true then((Qh7 a0 a1).bind fun(o,p)=>(some (o,p)))else(if(decide (a1.Kind=(12:Int)))=true then((QkC a0 a1).bind fun(q,r)=>(some (q,r)))else(some (a0,(0:Int))))))))))))))
def QqS (a0:QaA) (a1:QaK) (k l m n f g i j:Value):(QaA×Int)→Value→IM→HL→Prop:=
 fun(p_:(QaA×Int)) (v:Value) (M':IM) (H':HL)=>match p_ with |(e,o)=>∃ a b c d,(.tuple #[(.agg #[a,b,c,d,(.int .i64 e.Last)]),(.int .i64 o)])=v∧H'=[]∧RS QaD M' a e.Brokers∧RS QaG M' b e.Topics∧RS QaF M' c e.Configs∧RS QaI M' d e.Done
theorem QmR (a0:QaA) (a1:QaK) (M:IM) (a b c d k l m n:Value) (f:RS QaD M a a0.Brokers) (g:RS QaG M b a0.Topics) (i:RS QaF M c a0.Configs) (j:RS QaI M d a0.Done) (o:RS (Kd.int .i64) M k a1.Ids) (p:RS (Kd.int .i64) M l a1.Isr) (q:RS (Kd.int .i64) M m a1.Add) (r:RS (Kd.int .i64) M n a1.Drop) (res:(QaA×Int)) (h:Qf1 a0 a1=some res):
 Tri prog 66 #[(a27_ a0 a b c d),(QjY a1 k l m n)] M [] (QqS a0 a1 a b c d k l m n res):=by
 unfold Qf1 at h
 refine Te func66 Z Z ?_
 intro F ρ hρ
 refine Sr (We (box (cs:=(l27 a0 a b c d).toArray) (congrArg Value.cells (asE (a27_ a0 a b c d) (hρ 0)))) Z ?_)
 rintro _ _ _ - ⟨rfl,f0,rfl,rfl⟩
 refine We (box (cs:=(l111 a1 k l m n).toArray) (congrArg Value.cells (asE (QjY a1 k l m n) (hρ 1)))) Z ?_
 rintro _ _ _ - ⟨rfl,e0,rfl,rfl⟩
 refine We (Al ze27 Z) Z ?_
 rintro _ _ _ - ⟨rfl,f2,rfl,rfl⟩
 refine qa (Iv 0) (Nt (Cs (Sr (qu (QjY a1 k l m n) (La (cs:=(l111 a1 k l m n)) 1 Qu8 QrK Z Z Z) ?_))))
 obtain ⟨a8,h2,h⟩:=bnd h
 refine We (Ca co91 (QtF a1 _ _ _ _ _ o p q r a8 h2) (QbK Z)) Z ?_
 rintro _ j4 _ t ⟨_,⟨rfl,rfl⟩,rfl⟩
 refine WL.a0 (We (Al Qn1 Z) Z ?_)
 rintro _ _ _ - ⟨rfl,f3,rfl,rfl⟩
 refine We (Sg (v:=(Q32 a8)) (vl:=(l144 a8)) (arr':=(l144 a8)) Z QiQ Z Z (onb Z) Z Z Z) Z ?_
 rintro _ _ _ - ⟨rfl,rfl⟩
 refine Ns (qu (pt f3 2) (Fa Qw9 Z Z) (qu (Iv a8.Code) (Lb 0 pl34 Z Z Z) (qu (Bv (decide (a8.Code≠0))) (neq Z Z) (Nt (Ch h Z (fun h3 h=> ?_) (fun h3 h=> ?_))))))
 refine Cs (WC.draw [0,0,2,1,15] (.pure 0 (.pure 1 (.pure 2 (.alt 3 (.pure 4 .done) .none)))) QdC (by kernel_rfl) (qt (a27_ a0 a b c d) Z (La (cs:=(l27 a0 a b c d)) 3 ag27 sz27 Z Z Z) (qt (pt f3 2) Z (Fa Qw9 Z Z) (qt (Iv a8.Code) Z (Lb 0 pl34 Z Z Z) (WT.f1 ?_)))))
 have f:=f.mono t
 have g:=g.mono t
 have i:=i.mono t
 have j:=j.mono t
 refine Ta Z (Sg (v:=(a27_ a0 a b c d)) (vl:=(l27 a0 a b c d)) (arr':=(l27 a0 a b c d)) Z sz27 Z Z (QbG (Oc (RS.one f) (Oc (RS.one g) (Oc (RS.one i) (Oc (RS.one j) (Oc Z Oz)))))) Z Z Z) Z ?_ ?_
 rintro _ _ _ - ⟨rfl,rfl⟩
 refine⟨(Ss Z (Lb 1 pl34 Z Z Z) Z (Ss Z (Fa Qw9 Z Z) Z (Sl Z))), ?_⟩
 exact qt (Iv a8.Code) Z (Ag Z) (Ti (Tc (Cr (Tr (Qa (Dr (Qa (Dr (Qa (Dr (Rd h [] (fun _ hs=>hs.drop) (QaX Z (RVs.cons (Rc (cs:=(l27 a0 a b c d)) 0 ag27 sz27 Z Z Z) (RVs.cons (RV.tmp Z) RVs.nil))) t ⟨a,b,c,d,Z,Z,f,g,i,j⟩)))))))))))
 exact Tz
 refine Ck (Tc (Cs (Sr (qu (pt e0 0) (Fa Qu9 Z Z) (qu (Iv a1.Kind) (Lb 2 pl3 Z Z Z) (Nt (Bk (Sr (qu (Bv (decide (a1.Kind=2))) (eql Z Z) (qa (Bv (decide (a1.Kind=2))) (Nt ?_)))))))))))
 refine Ch h Z (fun h4 h=> ?_) (fun h4 h=> ?_)
 refine Sr (qu (a27_ a0 a b c d) (La (cs:=(l27 a0 a b c d)) 3 ag27 sz27 Z Z Z) (qu (QjY a1 k l m n) (La (cs:=(l111 a1 k l m n)) 2 Qu8 QrK Z Z Z) ?_))
 obtain ⟨⟨e1,f4⟩,h5,h⟩:=bnd h
 have f:=f.mono t
 have g:=g.mono t
 have i:=i.mono t
 have j:=j.mono t
 have o:=o.mono t
 have p:=p.mono t
 have q:=q.mono t
 have r:=r.mono t
 refine We (Ca co92 (QpO a0 a1 _ _ _ _ _ _ _ _ _ f g i j o p q r (e1,f4) h5) (QaU Z Z)) Z ?_
 rintro _ j6 _ f5 ⟨_,⟨u,w,x,y,rfl,rfl,b2,b3,b4,b5⟩,rfl⟩
 refine WL.a0 (qu (a27_ e1 u w x y) (Xt Z Z) (qu (Iv f4) (Xt Z Z) (WL.f1 (We (Sg (v:=(a27_ e1 u w x y)) (vl:=(l27 e1 u w x y)) (arr':=(l27 e1 u w x y)) Z sz27 Z Z (QbG (Oc (RS.one b2) (Oc (RS.one b3) (Oc (RS.one b4) (Oc (RS.one b5) (Oc Z Oz)))))) Z Z Z) Z ?_))))
 rintro _ _ _ - ⟨rfl,rfl⟩
 exact qa (Iv f4) (Nt (Cr (Br (Tr (Qa (Dr (Qa (Dr (Qa (Dr (Rd h [] (fun _ hs=>hs.drop) (QaX Z (RVs.cons (Rc (cs:=(l27 e1 u w x y)) 0 ag27 sz27 Z Z Z) (RVs.cons (RV.tmp Z) RVs.nil))) (t.trans f5) ⟨u,w,x,y,Z,Z,b2,b3,b4,b5⟩)))))))))))
 obtain ⟨f6,h6,h⟩:=bnd h
 refine Jf (fun(f6:Bool) ρ' M' H'=>j4.le M'∧[(f3, .cells (l144 a8).toArray 144 (0,0))]::[(f2, .cells z27_.toArray 27 (0,0))]::[(e0, .cells (l111 a1 k l m n).toArray 111 (0,0))]::[(f0, .cells (l27 a0 a b c d).toArray 27 (0,0))]::F=H'∧ρ' 2=(pt f0 0)∧ρ' 3=(pt e0 0)∧ρ' 4=(pt f2 0)∧ρ' 16=(Iv a1.Kind)∧ρ' 24=(Bv f6)) f6 ?_ ?_
 have h:=h6
 refine Sr (qu (Bv (decide (a1.Kind=3))) (eql Z Z) (qa (Bv (decide (a1.Kind=3))) (Nt (Ch h Z (fun h7 h=> ?_) (fun h7 h=> ?_)))))
 refine Ck ?_
 obtain rfl:=oi h
 exact Tj ⟨lr,Z,Z,Z,Z,Z,Z⟩
 refine Sr (qu (Bv (decide (a1.Kind=4))) (eql Z Z) (qa (Bv (decide (a1.Kind=4))) (Nt (Ch h Z (fun h8 h=> ?_) (fun h8 h=> ?_)))))
 refine Ck ?_
 obtain rfl:=oi h
 exact Tj ⟨lr,Z,Z,Z,Z,Z,Z⟩
 refine Sr (qu (Bv (decide (a1.Kind=5))) (eql Z Z) (qa (Bv (decide (a1.Kind=5))) (Nt (Ch h Z (fun h9 h=> ?_) (fun h9 h=> ?_)))))
 refine Ck ?_
 obtain rfl:=oi h
 exact Tj ⟨lr,Z,Z,Z,Z,Z,Z⟩
 refine Cg (qu (Bv (decide (a1.Kind=6))) (eql Z Z) (qa (Bv (decide (a1.Kind=6))) (Wz ?_)))
 obtain rfl:=oi h
 exact Tj ⟨lr,Z,Z,Z,Z,Z,Z⟩
 rintro j7 j5 j8 ⟨f7,rfl,b0,b1,a7,a4,e8⟩
 have a9:=t.trans f7
 refine Ch h e8 (fun i0 h=> ?_) (fun i0 h=> ?_)
 refine Sr (qu (a27_ a0 a b c d) (La (cs:=(l27 a0 a b c d)) 3 ag27 sz27 b0 Z Z) (qu (QjY a1 k l m n) (La (cs:=(l111 a1 k l m n)) 2 Qu8 QrK b1 Z Z) ?_))
 obtain ⟨⟨e2,f8⟩,i1,h⟩:=bnd h
 have f:=f.mono a9
 have g:=g.mono a9
 have i:=i.mono a9
 have j:=j.mono a9
 have o:=o.mono a9
 have p:=p.mono a9
 have q:=q.mono a9
 have r:=r.mono a9
 refine We (Ca co93 (Qr1 a0 a1 _ _ _ _ _ _ _ _ _ f g i j o p q r (e2,f8) i1) (QaU Z Z)) Z ?_
 rintro _ j9 _ f9 ⟨_,⟨z,A,B,C,rfl,rfl,b6,b7,b8,b9⟩,rfl⟩
 refine WL.a0 (qu (a27_ e2 z A B C) (Xt Z Z) (qu (Iv f8) (Xt Z Z) (WL.f1 (We (Sg (v:=(a27_ e2 z A B C)) (vl:=(l27 e2 z A B C)) (arr':=(l27 e2 z A B C)) Z sz27 a7 Z (QbG (Oc (RS.one b6) (Oc (RS.one b7) (Oc (RS.one b8) (Oc (RS.one b9) (Oc Z Oz)))))) Z Z Z) Z ?_))))
 rintro _ _ _ - ⟨rfl,rfl⟩
 exact qa (Iv f8) (Nt (Cr (Br (Tr (Qa (Dr (Qa (Dr (Qa (Dr (Rd h [] (fun _ hs=>hs.drop) (QaX Z (RVs.cons (Rc (cs:=(l27 e2 z A B C)) 0 ag27 sz27 a7 Z Z) (RVs.cons (RV.tmp Z) RVs.nil))) (a9.trans f9) ⟨z,A,B,C,Z,Z,b6,b7,b8,b9⟩)))))))))))
 obtain ⟨g0,i2,h⟩:=bnd h
 refine Jf (fun(g0:Bool) ρ' M' H'=>j5.le M'∧[(f3, .cells (l144 a8).toArray 144 (0,0))]::[(f2, .cells z27_.toArray 27 (0,0))]::[(e0, .cells (l111 a1 k l m n).toArray 111 (0,0))]::[(f0, .cells (l27 a0 a b c d).toArray 27 (0,0))]::F=H'∧ρ' 2=(pt f0 0)∧ρ' 3=(pt e0 0)∧ρ' 4=(pt f2 0)∧ρ' 16=(Iv a1.Kind)∧ρ' 34=(Bv g0)) g0 ?_ ?_
 have h:=i2
 refine Sr (qu (Bv (decide (a1.Kind=8))) (eql a4 Z) (qa (Bv (decide (a1.Kind=8))) (Nt (Ch h Z (fun i3 h=> ?_) (fun i3 h=> ?_)))))
 refine Ck ?_
 obtain rfl:=oi h
 exact Tj ⟨lr,Z,b0,b1,a7,a4,Z⟩
 refine Cg (qu (Bv (decide (a1.Kind=9))) (eql a4 Z) (qa (Bv (decide (a1.Kind=9))) (Wz ?_)))
 obtain rfl:=oi h
 exact Tj ⟨lr,Z,b0,b1,a7,a4,Z⟩
 rintro k0 k1 k2 ⟨g1,rfl,D,a5,s,a6,e9⟩
 have e:=a9.trans g1
 refine Ch h e9 (fun i4 h=> ?_) (fun i4 h=> ?_)
 refine Sr (qu (a27_ a0 a b c d) (La (cs:=(l27 a0 a b c d)) 3 ag27 sz27 D Z Z) (qu (QjY a1 k l m n) (La (cs:=(l111 a1 k l m n)) 2 Qu8 QrK a5 Z Z) ?_))
 obtain ⟨⟨e3,g2⟩,i5,h⟩:=bnd h
 have f:=f.mono e
 have g:=g.mono e
 have i:=i.mono e
 have j:=j.mono e
 have o:=o.mono e
 have p:=p.mono e
 have q:=q.mono e
 have r:=r.mono e
 refine We (Ca co94 (QuR a0 a1 _ _ _ _ _ _ _ _ _ f g i j o p q r (e3,g2) i5) (QaU Z Z)) Z ?_
 rintro _ k3 _ g3 ⟨_,⟨E,G,I,J,rfl,rfl,c0,c1,c2,c3⟩,rfl⟩
 refine WL.a0 (qu (a27_ e3 E G I J) (Xt Z Z) (qu (Iv g2) (Xt Z Z) (WL.f1 (We (Sg (v:=(a27_ e3 E G I J)) (vl:=(l27 e3 E G I J)) (arr':=(l27 e3 E G I J)) Z sz27 s Z (QbG (Oc (RS.one c0) (Oc (RS.one c1) (Oc (RS.one c2) (Oc (RS.one c3) (Oc Z Oz)))))) Z Z Z) Z ?_))))
 rintro _ _ _ - ⟨rfl,rfl⟩
 exact qa (Iv g2) (Nt (Cr (Br (Tr (Qa (Dr (Qa (Dr (Qa (Dr (Rd h [] (fun _ hs=>hs.drop) (QaX Z (RVs.cons (Rc (cs:=(l27 e3 E G I J)) 0 ag27 sz27 s Z Z) (RVs.cons (RV.tmp Z) RVs.nil))) (e.trans g3) ⟨E,G,I,J,Z,Z,c0,c1,c2,c3⟩)))))))))))
 refine Sr (qu (Bv (decide (a1.Kind=7))) (eql a6 Z) (qa (Bv (decide (a1.Kind=7))) (Nt (Ch h Z (fun i6 h=> ?_) (fun i6 h=> ?_)))))
 refine Sr (qu (a27_ a0 a b c d) (La (cs:=(l27 a0 a b c d)) 3 ag27 sz27 D Z Z) (qu (QjY a1 k l m n) (La (cs:=(l111 a1 k l m n)) 2 Qu8 QrK a5 Z Z) ?_))
 obtain ⟨⟨e4,g4⟩,i7,h⟩:=bnd h
 have f:=f.mono e
 have g:=g.mono e
 have i:=i.mono e
 have j:=j.mono e
 have o:=o.mono e
 have p:=p.mono e
 have q:=q.mono e
 have r:=r.mono e
 refine We (Ca co95 (QtJ a0 a1 _ _ _ _ _ _ _ _ _ f g i j o p q r (e4,g4) i7) (QaU Z Z)) Z ?_
 rintro _ k4 _ g5 ⟨_,⟨K,L,N,O,rfl,rfl,c4,c5,c6,c7⟩,rfl⟩
 refine WL.a0 (qu (a27_ e4 K L N O) (Xt Z Z) (qu (Iv g4) (Xt Z Z) (WL.f1 (We (Sg (v:=(a27_ e4 K L N O)) (vl:=(l27 e4 K L N O)) (arr':=(l27 e4 K L N O)) Z sz27 s Z (QbG (Oc (RS.one c4) (Oc (RS.one c5) (Oc (RS.one c6) (Oc (RS.one c7) (Oc Z Oz)))))) Z Z Z) Z ?_))))
 rintro _ _ _ - ⟨rfl,rfl⟩
 exact qa (Iv g4) (Nt (Cr (Br (Tr (Qa (Dr (Qa (Dr (Qa (Dr (Rd h [] (fun _ hs=>hs.drop) (QaX Z (RVs.cons (Rc (cs:=(l27 e4 K L N O)) 0 ag27 sz27 s Z Z) (RVs.cons (RV.tmp Z) RVs.nil))) (e.trans g5) ⟨K,L,N,O,Z,Z,c4,c5,c6,c7⟩)))))))))))
 refine Sr (qu (Bv (decide (a1.Kind=11))) (eql a6 Z) (qa (Bv (decide (a1.Kind=11))) (Nt (Ch h Z (fun i8 h=> ?_) (fun i8 h=> ?_)))))
 refine Sr (qu (a27_ a0 a b c d) (La (cs:=(l27 a0 a b c d)) 3 ag27 sz27 D Z Z) (qu (pt e0 3) (Fa QgV a5 Z) (qu (Iv a1.Topic) (Lb 2 pl3 Z Z Z) ?_)))
 obtain ⟨⟨e5,g6⟩,i9,h⟩:=bnd h
 have f:=f.mono e
 have g:=g.mono e
 have i:=i.mono e
 have j:=j.mono e
 refine We (Ca co96 (QuS a0 a1.Topic _ _ _ _ _ f g i j (e5,g6) i9) (QaU Z Z)) Z ?_
 rintro _ k5 _ g7 ⟨_,⟨P,Q,R,S,rfl,rfl,c8,c9,d0,d1⟩,rfl⟩
 refine WL.a0 (qu (a27_ e5 P Q R S) (Xt Z Z) (qu (Iv g6) (Xt Z Z) (WL.f1 (We (Sg (v:=(a27_ e5 P Q R S)) (vl:=(l27 e5 P Q R S)) (arr':=(l27 e5 P Q R S)) Z sz27 s Z (QbG (Oc (RS.one c8) (Oc (RS.one c9) (Oc (RS.one d0) (Oc (RS.one d1) (Oc Z Oz)))))) Z Z Z) Z ?_))))
 rintro _ _ _ - ⟨rfl,rfl⟩
 exact qa (Iv g6) (Nt (Cr (Br (Tr (Qa (Dr (Qa (Dr (Qa (Dr (Rd h [] (fun _ hs=>hs.drop) (QaX Z (RVs.cons (Rc (cs:=(l27 e5 P Q R S)) 0 ag27 sz27 s Z Z) (RVs.cons (RV.tmp Z) RVs.nil))) (e.trans g7) ⟨P,Q,R,S,Z,Z,c8,c9,d0,d1⟩)))))))))))
 refine Sr (qu (Bv (decide (a1.Kind=10))) (eql a6 Z) (qa (Bv (decide (a1.Kind=10))) (Nt (Ch h Z (fun j0 h=> ?_) (fun j0 h=> ?_)))))
 refine Sr (qu (a27_ a0 a b c d) (La (cs:=(l27 a0 a b c d)) 3 ag27 sz27 D Z Z) (qu (QjY a1 k l m n) (La (cs:=(l111 a1 k l m n)) 2 Qu8 QrK a5 Z Z) ?_))
 obtain ⟨⟨e6,g8⟩,j1,h⟩:=bnd h
 have f:=f.mono e
 have g:=g.mono e
 have i:=i.mono e
 have j:=j.mono e
 have o:=o.mono e
 have p:=p.mono e
 have q:=q.mono e
 have r:=r.mono e
 refine We (Ca co97 (Qr7 a0 a1 _ _ _ _ _ _ _ _ _ f g i j o p q r (e6,g8) j1) (QaU Z Z)) Z ?_
 rintro _ k6 _ g9 ⟨_,⟨T,U,V,W,rfl,rfl,d2,d3,d4,d5⟩,rfl⟩
 refine WL.a0 (qu (a27_ e6 T U V W) (Xt Z Z) (qu (Iv g8) (Xt Z Z) (WL.f1 (We (Sg (v:=(a27_ e6 T U V W)) (vl:=(l27 e6 T U V W)) (arr':=(l27 e6 T U V W)) Z sz27 s Z (QbG (Oc (RS.one d2) (Oc (RS.one d3) (Oc (RS.one d4) (Oc (RS.one d5) (Oc Z Oz)))))) Z Z Z) Z ?_))))
 rintro _ _ _ - ⟨rfl,rfl⟩
 exact qa (Iv g8) (Nt (Cr (Br (Tr (Qa (Dr (Qa (Dr (Qa (Dr (Rd h [] (fun _ hs=>hs.drop) (QaX Z (RVs.cons (Rc (cs:=(l27 e6 T U V W)) 0 ag27 sz27 s Z Z) (RVs.cons (RV.tmp Z) RVs.nil))) (e.trans g9) ⟨T,U,V,W,Z,Z,d2,d3,d4,d5⟩)))))))))))
 refine Sr (qu (Bv (decide (a1.Kind=12))) (eql a6 Z) (qa (Bv (decide (a1.Kind=12))) (Nt (Ch h Z (fun j2 h=> ?_) (fun j2 h=> ?_)))))
 refine Sr (qu (a27_ a0 a b c d) (La (cs:=(l27 a0 a b c d)) 3 ag27 sz27 D Z Z) (qu (QjY a1 k l m n) (La (cs:=(l111 a1 k l m n)) 2 Qu8 QrK a5 Z Z) ?_))
 obtain ⟨⟨e7,h0⟩,j3,h⟩:=bnd h
 have f:=f.mono e
 have g:=g.mono e
 have i:=i.mono e
 have j:=j.mono e
 have o:=o.mono e
 have p:=p.mono e
 have q:=q.mono e
 have r:=r.mono e
 refine We (Ca co98 (QuT a0 a1 _ _ _ _ _ _ _ _ _ f g i j o p q r (e7,h0) j3) (QaU Z Z)) Z ?_
 rintro _ k7 _ h1 ⟨_,⟨X,Y,a2,a3,rfl,rfl,d6,d7,d8,d9⟩,rfl⟩
 refine WL.a0 (qu (a27_ e7 X Y a2 a3) (Xt Z Z) (qu (Iv h0) (Xt Z Z) (WL.f1 (We (Sg (v:=(a27_ e7 X Y a2 a3)) (vl:=(l27 e7 X Y a2 a3)) (arr':=(l27 e7 X Y a2 a3)) Z sz27 s Z (QbG (Oc (RS.one d6) (Oc (RS.one d7) (Oc (RS.one d8) (Oc (RS.one d9) (Oc Z Oz)))))) Z Z Z) Z ?_))))
 rintro _ _ _ - ⟨rfl,rfl⟩
 exact qa (Iv h0) (Nt (Cr (Br (Tr (Qa (Dr (Qa (Dr (Qa (Dr (Rd h [] (fun _ hs=>hs.drop) (QaX Z (RVs.cons (Rc (cs:=(l27 e7 X Y a2 a3)) 0 ag27 sz27 s Z Z) (RVs.cons (RV.tmp Z) RVs.nil))) (e.trans h1) ⟨X,Y,a2,a3,Z,Z,d6,d7,d8,d9⟩)))))))))))
 refine Ck (Bn (Tc (Sr (qu (a27_ a0 a b c d) (La (cs:=(l27 a0 a b c d)) 3 ag27 sz27 D Z Z) (WL.f1 ?_)))))
 have f:=f.mono e
 have g:=g.mono e
 have i:=i.mono e
 have j:=j.mono e
 refine We (Sg (v:=(a27_ a0 a b c d)) (vl:=(l27 a0 a b c d)) (arr':=(l27 a0 a b c d)) Z sz27 s Z (QbG (Oc (RS.one f) (Oc (RS.one g) (Oc (RS.one i) (Oc (RS.one j) (Oc Z Oz)))))) Z Z Z) Z ?_
 rintro _ _ _ - ⟨rfl,rfl⟩
 exact qa (Iv 0) (Nt (Cr (Qa (Dr (Qa (Dr (Qa (Dr (Rd h [] (fun _ hs=>hs.drop) (QaX Z (RVs.cons (Rc (cs:=(l27 a0 a b c d)) 0 ag27 sz27 s Z Z) (RVs.cons (RV.tmp Z) RVs.nil))) e ⟨a,b,c,d,Z,Z,f,g,i,j⟩)))))))))
noncomputable def QhG (a0:(List QaK)) (s_:(Int×(List QaE)×(List QaC)×(List QaJ)×(List Qa4)×Int)):Option ((Int×(List QaE)×(List QaC)×(List QaJ)×(List Qa4)×Int)⊕((List QaE)×(List QaC)×(List QaJ)×(List Qa4)×Int)):=
 match s_ with
 |(a,c,d,e,f,g)=>
 (if(decide (a<(a0.length:Int)))=true then(((grd (0≤a∧a<a0.length) ((Qf1 (⟨c,d,e,f,g⟩:QaA) (rd a0 a)).bind fun(b,n)=>(some (b.Brokers,b.Topics,b.Configs,b.Done,b.Last)))):Option ((List QaE)×(List QaC)×(List QaJ)×(List Qa4)×Int)).bind fun(i,j,k,l,m)=>(some (inl (i64.wrap (a+(1:Int)),i,j,k,l,m))))else(some (inr (c,d,e,f,g))))
noncomputable def QiS (a0:(List QaK)):Option QaA:=
 ((((iter (QhG a0) ((0:Int),[],[],[],[],(0:Int))).bind (fun(a,b,c,d,e)=>(some (a,b,c,d,e)))):Option ((List QaE)×(List QaC)×(List QaJ)×(List Qa4)×Int)).bind fun(f,g,i,j,k)=>(some (⟨f,g,i,j,k⟩:QaA)))
def Qr9 (a0:(List QaK)) (f:Value):QaA→Value→IM→HL→Prop:=
 fun(e:QaA) (v:Value) (M':IM) (H':HL)=>∃ a b c d,(.agg #[a,b,c,d,(.int .i64 e.Last)])=v∧H'=[]∧RS QaD M' a e.Brokers∧RS QaG M' b e.Topics∧RS QaF M' c e.Configs∧RS QaI M' d e.Done
theorem QuU (a0:(List QaK)) (M:IM) (v0:Value) (h0:RS QjO M v0 a0) (res:QaA) (h:QiS a0=some res):
 Tri prog 18 #[v0] M [] (Qr9 a0 v0 res):=by
 unfold QiS at h
 refine Te func18 Z Z ?_
 intro F ρ hρ
 refine Sr (We (Al ze27 Z) Z ?_)
 rintro _ _ _ - ⟨rfl,a5,rfl,rfl⟩
 refine Ns (qu (.agg z27_.toArray) (Bl (cl:=z27_) ze27 fp27 Pz Z) (We (Al ze27 Z) Z ?_))
 rintro _ _ _ - ⟨rfl,a6,rfl,rfl⟩
 refine We (Sg (v:=(.agg z27_.toArray)) (vl:=z27_) (arr':=z27_) Z sz27 Z Z (onb Z) Z Z Z) Z ?_
 rintro _ _ _ - ⟨rfl,rfl⟩
 refine Nt ?_
 obtain ⟨e4,e5,h⟩:=bnd h
 refine Jf (fun(p_:((List QaE)×(List QaC)×(List QaJ)×(List Qa4)×Int)) ρ' M' H'=>match p_ with |(e6,e7,e8,e9,K)=>∃ o p q r,M.le M'∧[(a6, .cells #[o,p,q,r,(Iv K)] 27 (0,0))]::[(a5, .cells z27_.toArray 27 (0,0))]::F=H'∧ρ' 2=(pt a5 0)∧ρ' 3=(pt a6 0)∧RS QaD M' o e6∧RS QaG M' p e7∧RS QaF M' q e8∧RS QaI M' r e9) e4 ?_ ?_
 have h:=e5
 refine Sr (qa (Iv 0) (Nt (Bk ?_)))
 obtain ⟨g5,f0,f2⟩:=bnd h
 clear h
 refine WC.loop f0 (fun(p_:(Int×(List QaE)×(List QaC)×(List QaJ)×(List Qa4)×Int)) ρ' M' H'=>match p_ with |(m,a9,b0,b1,b2,I)=>∃ s t u w,M.le M'∧[(a6, .cells #[s,t,u,w,(Iv I)] 27 (0,0))]::[(a5, .cells z27_.toArray 27 (0,0))]::F=H'∧ρ' 0=v0∧ρ' 2=(pt a5 0)∧ρ' 3=(pt a6 0)∧ρ' 4=(Iv m)∧RS QaD M' s a9∧RS QaG M' t b0∧RS QaF M' u b1∧RS QaI M' w b2) ?_ ?_
 exact⟨Zs,Zs,Zs,Zs,lr,Z,(hρ 0),Z,Z,Z,RS.nil _ _,RS.nil _ _,RS.nil _ _,RS.nil _ _⟩
 rintro ⟨m,a9,b0,b1,b2,I⟩ g6 g7 g0 g8 h ⟨s,t,u,w,R,rfl,a,J,b,c,b3,b4,b5,b6⟩
 unfold QhG at h
 refine Cs (Sr (qM (Iv m) c (qM v0 a ?_)))
 have h0:=h0.mono R
 refine qu (Iv (a0.length:Int)) (lenS underlying51 Z h0.len) (qu (Bv (decide (m<(a0.length:Int)))) (lss Z Z) (Nt (Ch h Z (fun f3 h=> ?_) (fun f3 h=> ?_))))
 refine Ck (Tc (Cs (Bk ?_)))
 obtain ⟨f4,f5,h⟩:=bnd h
 refine Jf (fun(p_:((List QaE)×(List QaC)×(List QaJ)×(List Qa4)×Int)) ρ' M' H'=>match p_ with |(d4,d5,d6,d7,L)=>∃ d8 x y z A,g0.le M'∧[(a6, .cells #[s,t,u,w,(Iv I)] 27 (0,0))]::[(a5, .cells z27_.toArray 27 (0,0))]::[(d8, .cells #[x,y,z,A,(Iv L)] 27 (0,0))]::F=H'∧ρ' 0=v0∧ρ' 2=(pt a5 0)∧ρ' 3=(pt a6 0)∧ρ' 4=(Iv m)∧ρ' 5=(pt d8 0)∧RS QaD M' x d4∧RS QaG M' y d5∧RS QaF M' z d6∧RS QaI M' A d7) f4 ?_ ?_
 have h:=f5
 refine WC.draw [0,0,0,6,14,31,63,127,127,0,767,2047] (.pure 0 (.pure 1 (.pure 2 (.pure 3 (.pure 4 (.alt 5 (.pure 6 (.pure 7 (.pure 8 (.alt 9 (.alt 10 (.pure 11 .done) .none) .none)))) (.alt 9 (.alt 5 (.pure 6 (.pure 7 (.pure 8 (.alt 10 (.pure 11 .done) .none)))) .none) .none))))))) QdC (by kernel_rfl) (qt (.agg #[s,t,u,w,(Iv I)]) Z (La (cs:=[s,t,u,w,(Iv I)]) 0 ag27 sz27 b Z Z) (qt v0 Z (Mv a) (qt (Iv m) Z (Mv c) ?_)))
 obtain ⟨G,h⟩:=QaQ h
 obtain ⟨g1,g4,S,d9,hhas54⟩:=h0.at G.1 G.2 (by decide)
 obtain ⟨B,C,D,E,rfl,N,O,P,Q⟩:=QrF d9
 refine qt (.pointer (some g1)) Z (indexAddr (n:=a0.length) underlying51 QrK Z Z G.1 G.2 S) (qt (QjY (rd a0 m) B C D E) Z (loadMA (cs:=(l111 (rd a0 m) B C D E)) Qu8 QrK Z hhas54) ?_)
 have f6:=h
 obtain ⟨⟨a7,b8⟩,f7,h⟩:=bnd h
 refine Ta Z (Ca co66 (QmR (⟨a9,b0,b1,b2,I⟩:QaA) (rd a0 m) _ _ _ _ _ _ _ _ _ b3 b4 b5 b6 N O P Q (a7,b8) f7) (QaU Z Z)) Z ?_ ?_
 rintro _ g9 _ b7 ⟨_,⟨d,e,f,g,rfl,rfl,T,U,V,W⟩,rfl⟩
 refine⟨(Sl Z), ?_⟩
 refine WT.a0 (qt (.tuple #[(a27_ a7 d e f g),(Iv b8)]) Z (Mv Z) (qt (a27_ a7 d e f g) Z (Xt Z Z) (qt (Iv b8) Z (Xt Z Z) (Ta Z (Al ze27 Z) Z ?_ ?_))))
 rintro _ _ _ - ⟨rfl,g2,rfl,rfl⟩
 have hhas54:=hhas54.mono b7
 refine⟨(Ss Z (Xt Z Z) Z (Ss Z (Xt Z Z) Z (Ss Z (Mv Z) Z (Ss Z (loadMA (cs:=(l111 (rd a0 m) B C D E)) Qu8 QrK Z hhas54) Z (Ss Z (indexAddr (n:=a0.length) underlying51 QrK Z Z G.1 G.2 S) Z (Ss Z (Mv c) Z (Ss Z (Mv a) Z (Ss Z (La (cs:=[s,t,u,w,(Iv I)]) 1 ag27 sz27 b Z Z) Z trivial)))))))), ?_⟩
 refine Ta Z (Sg (v:=(a27_ a7 d e f g)) (vl:=(l27 a7 d e f g)) (arr':=(l27 a7 d e f g)) Z sz27 Z Z (QbG (Oc (RS.one T) (Oc (RS.one U) (Oc (RS.one V) (Oc (RS.one W) (Oc Z Oz)))))) Z Z Z) Z ?_ ?_
 rintro _ _ _ - ⟨rfl,rfl⟩
 refine⟨(Ss Z (Xt Z Z) Z (Sl Z)), ?_⟩
 refine qt (Iv b8) Z (Ag Z) (Ti (Qb (Qb ?_)))
 obtain rfl:=oi h
 exact Tj ⟨g2,d,e,f,g,b7,Z,a,J,b,c,Z,T,U,V,W⟩
 exact Tz
 exact Tz
 have h:=f6
 refine Ta Z (Al ze27 Z) Z ?_ ?_
 rintro _ _ _ - ⟨rfl,g3,rfl,rfl⟩
 refine⟨(Ss Z (loadMA (cs:=(l111 (rd a0 m) B C D E)) Qu8 QrK Z hhas54) Z (Ss Z (indexAddr (n:=a0.length) underlying51 QrK Z Z G.1 G.2 S) Z (Ss Z (Mv c) Z (Ss Z (Mv a) Z (Ss Z (La (cs:=[s,t,u,w,(Iv I)]) 1 ag27 sz27 b Z Z) Z trivial))))), ?_⟩
 obtain ⟨⟨a8,b9⟩,f8,h⟩:=bnd h
 refine Ta Z (Ca co66 (QmR (⟨a9,b0,b1,b2,I⟩:QaA) (rd a0 m) _ _ _ _ _ _ _ _ _ b3 b4 b5 b6 N O P Q (a8,b9) f8) (QaU Z Z)) Z ?_ ?_
 rintro _ h1 _ e0 ⟨_,⟨i,j,k,l,rfl,rfl,X,Y,a1,a2⟩,rfl⟩
 refine⟨(Sl Z), ?_⟩
 refine WT.a0 (qt (.tuple #[(a27_ a8 i j k l),(Iv b9)]) Z (Mv Z) (qt (a27_ a8 i j k l) Z (Xt Z Z) (qt (Iv b9) Z (Xt Z Z) (Ta Z (Sg (v:=(a27_ a8 i j k l)) (vl:=(l27 a8 i j k l)) (arr':=(l27 a8 i j k l)) Z sz27 Z Z (QbG (Oc (RS.one X) (Oc (RS.one Y) (Oc (RS.one a1) (Oc (RS.one a2) (Oc Z Oz)))))) Z Z Z) Z ?_ ?_))))
 rintro _ _ _ - ⟨rfl,rfl⟩
 refine⟨(Ss Z (Xt Z Z) Z (Sl Z)), ?_⟩
 refine qt (Iv b9) Z (Ag Z) (Ti (Qb (Qb ?_)))
 obtain rfl:=oi h
 exact Tj ⟨g3,i,j,k,l,e0,Z,a,J,b,c,Z,X,Y,a1,a2⟩
 exact Tz
 exact Tz
 exact Tz
 obtain ⟨d4,d5,d6,d7,L⟩:=f4
 rintro h2 h3 h4 ⟨d8,x,y,z,A,e1,rfl,c0,c1,a3,c2,c3,c5,c6,c7,c8⟩
 refine Cg (qu (.agg #[x,y,z,A,(Iv L)]) (La (cs:=[x,y,z,A,(Iv L)]) 2 ag27 sz27 c3 Z Z) (We (Sg (v:=(.agg #[x,y,z,A,(Iv L)])) (vl:=[x,y,z,A,(Iv L)]) (arr':=[x,y,z,A,(Iv L)]) Z sz27 a3 Z (QbG (Oc (RS.one c5) (Oc (RS.one c6) (Oc (RS.one c7) (Oc (RS.one c8) (Oc Z Oz)))))) Z Z Z) Z ?_))
 rintro _ _ _ - ⟨rfl,rfl⟩
 exact Wz (Bn (Tc (Cg (qM (Iv m) c2 (qu (Iv (i64.wrap (m+1))) (add Z Z) (qa (Iv (i64.wrap (m+1))) (Wz (Qb (Dr (WQ.again (i64.wrap (m+1),d4,d5,d6,d7,L) (oi h).symm ⟨x,y,z,A,(R.trans e1),Z,c0,c1,a3,Z,c5,c6,c7,c8⟩))))))))))
 refine WC.exit (WQ.thenE (WQ.leaveE (a9,b0,b1,b2,I) (oi h).symm (fun e2=> ?_)))
 subst e2
 have h:=f2
 refine WQ.blockH ?_
 obtain rfl:=oi h
 exact Tj ⟨s,t,u,w,R,Z,J,b,b3,b4,b5,b6⟩
 obtain ⟨e6,e7,e8,e9,K⟩:=e4
 rintro h5 h6 h7 ⟨o,p,q,r,e3,rfl,a4,c4,c9,d0,d1,d2⟩
 refine Sr (qu (.agg #[o,p,q,r,(Iv K)]) (La (cs:=[o,p,q,r,(Iv K)]) 0 ag27 sz27 c4 Z Z) (WL.f1 (We (Sg (v:=(.agg #[o,p,q,r,(Iv K)])) (vl:=[o,p,q,r,(Iv K)]) (arr':=[o,p,q,r,(Iv K)]) Z sz27 a4 Z (QbG (Oc (RS.one c9) (Oc (RS.one d0) (Oc (RS.one d1) (Oc (RS.one d2) (Oc Z Oz)))))) Z Z Z) Z ?_)))
 rintro _ _ _ - ⟨rfl,rfl⟩
 exact Nt (Cr (Qa (Dr (Rd h [] (fun _ hs=>hs.drop) (QbH Z (Rc (cs:=[o,p,q,r,(Iv K)]) 0 ag27 sz27 a4 Z Z)) e3 ⟨o,p,q,r,Z,Z,c9,d0,d1,d2⟩))))
noncomputable def QeL (a0:ByteArray) (s_:Int):Option (Int⊕(Unit⊕Unit)):=
 match s_ with
 |a=>
 (if(decide (a<((bytesOf a0).length:Int)))=true then(grd (0≤a∧a<(bytesOf a0).length) (((if(decide ((97:Int)≤(rd (bytesOf a0) a)))=true then(if(decide ((48:Int)≤(rd (bytesOf a0) a)))=true then(some (decide ((rd (bytesOf a0) a)≤(122:Int)),decide ((rd (bytesOf a0) a)≤(57:Int))))else(some (decide ((rd (bytesOf a0) a)≤(122:Int)),false)))else(if(decide ((48:Int)≤(rd (bytesOf a0) a)))=true then(some (false,decide ((rd (bytesOf a0) a)≤(57:Int))))else(some (false,false)))):Option (Bool×Bool)).bind fun(b,c)=>(((if(!b)=true then(if(!c)=true then(if(decide ((rd (bytesOf a0) a)≠(46:Int)))=true then(some (decide ((rd (bytesOf a0) a)≠(45:Int))))else(some false))else(some false))else(some false)):Option Bool).bind fun d=>(if d=true then(some (inr (inr ())))else(some (inl (i64.wrap (a+(1:Int)))))))))else(some (inr (inl ()))))
noncomputable def QeW (a0:ByteArray):Option Bool:=
 (((if(decide (a0=(⟨#[]⟩:ByteArray)))=true then(some true)else(if(decide ((40:Int)<(a0.size:Int)))=true then(some true)else(if(decide (a0=(⟨#[46]⟩:ByteArray)))=true then(some true)else(some (decide (a0=(⟨#[46,46]⟩:ByteArray))))))):Option Bool).bind fun a=>(if a=true then(some false)else((((iter (QeL a0) (0:Int)).bind (Sum.elim (fun _=>(some (inl ()))) (fun _=>(((some false)).bind fun r=>some (inr r))))):Option (Unit⊕Bool)).bind (Sum.elim (fun _=>(some true)) some))))
def QqT (a0:ByteArray):Bool→Value→IM→HL→Prop:=
 fun(a:Bool) (v:Value) (M':IM) (H':HL)=>(.bool a)=v∧H'=[]
theorem QiJ (a0:ByteArray) (M:IM) (res:Bool) (h:QeW a0=some res):
 Tri prog 70 #[(Sv a0)] M [] (QqT a0 res):=by
 unfold QeW at h
 refine Te func70 Z Z ?_
 intro F ρ hρ
 refine Sr (qa (Bv false) (Nt (Cs ?_)))
 obtain ⟨O,V,h⟩:=bnd h
 refine Jf (fun(O:Bool) ρ' M' H'=>M.le M'∧F=H'∧ρ' 0=(Sv a0)∧ρ' 21=(Bv O)) O ?_ ?_
 have h:=V
 refine Cg (qM (Sv a0) (hρ 0) (qu (Bv (decide (a0=(⟨#[]⟩:ByteArray)))) (seql Z Z) (qm (Bv (decide (a0=(⟨#[]⟩:ByteArray)))) ?_)))
 rcases Bi h with⟨i,h⟩ |⟨i,h⟩
 iterate 3 refine Of 9 Z Z i Z ?_
 refine qu (Bv true) (Pt Z i Z) (qm (Bv true) ?_)
 iterate 2 refine Of 14 Z Z Z Z ?_
 refine qu (Bv true) (Pt Z Z Z) (qm (Bv true) ?_)
 iterate 2 refine Of 18 Z Z Z Z ?_
 refine qu (Bv true) (Pt Z Z Z) (Wz ?_)
 obtain rfl:=oi h
 exact Tj ⟨lr,Z,(hρ 0),Z⟩
 refine On 9 Z Z i (qM (Sv a0) (hρ 0) (qo 9 i (Iv (a0.size:Int)) (lenStr underlying9 Z) (qo 9 i (Bv (decide ((40:Int)<(a0.size:Int)))) (gtr Z Z) (qu (Bv (decide ((40:Int)<(a0.size:Int)))) (Pf Z i Z) (qm (Bv (decide ((40:Int)<(a0.size:Int)))) ?_)))))
 rcases Bi h with⟨j,h⟩ |⟨j,h⟩
 iterate 2 refine Of 14 Z Z j Z ?_
 refine qu (Bv true) (Pt Z j Z) (qm (Bv true) ?_)
 iterate 2 refine Of 18 Z Z Z Z ?_
 refine qu (Bv true) (Pt Z Z Z) (Wz ?_)
 obtain rfl:=oi h
 exact Tj ⟨lr,Z,(hρ 0),Z⟩
 refine On 14 Z Z j (qM (Sv a0) (hρ 0) (qo 14 j (Bv (decide (a0=(⟨#[46]⟩:ByteArray)))) (seql Z Z) (qu (Bv (decide (a0=(⟨#[46]⟩:ByteArray)))) (Pf Z j Z) (qm (Bv (decide (a0=(⟨#[46]⟩:ByteArray)))) ?_))))
 rcases Bi h with⟨k,h⟩ |⟨k,h⟩
 iterate 2 refine Of 18 Z Z k Z ?_
 refine qu (Bv true) (Pt Z k Z) (Wz ?_)
 obtain rfl:=oi h
 exact Tj ⟨lr,Z,(hρ 0),Z⟩
 refine On 18 Z Z k (qM (Sv a0) (hρ 0) (qo 18 k (Bv (decide (a0=(⟨#[46,46]⟩:ByteArray)))) (seql Z Z) (qu (Bv (decide (a0=(⟨#[46,46]⟩:ByteArray)))) (Pf Z k Z) (Wz ?_))))
 obtain rfl:=oi h
 exact Tj ⟨lr,Z,(hρ 0),Z⟩
 rintro b3 W b4 ⟨t,rfl,I,y⟩
 refine Ch h y (fun X h=> ?_) (fun X h=> ?_)
 exact Sr (qa (Bv false) (Nt (Cr (Tr (Rf h [] Z (Rs Z Z) t ⟨Z,Z⟩)))))
 refine Ck (Tc ?_)
 obtain ⟨a8,Y,h⟩:=bnd h
 refine WC.joinE (fun(_:Unit) ρ' M' H'=>W.le M'∧F=H') a8 ?_ ?_
 have a1:=h
 have h:=Y
 refine Sr (qM (Sv a0) I (We (s2b underlying9 underlying38 underlying5 Z) Z ?_))
 rintro P _ _ - ⟨rfl,Q,rfl,J⟩
 refine qu (Iv ((bytesOf a0).length:Int)) (lenS underlying38 Z J.len) (qm (Iv 0) (Nt (Bk ?_)))
 obtain ⟨b5,a2,N⟩:=bnd h
 clear h
 refine WC.loop a2 (fun(a:Int) ρ' M' H'=>W.le M'∧Q::F=H'∧ρ' 23=P∧ρ' 24=(Iv ((bytesOf a0).length:Int))∧ρ' 25=(Iv a)) ?_ ?_
 exact⟨lr,Z,Z,Z,Z⟩
 rintro a b6 b7 a9 b8 h ⟨s,rfl,c,d,b⟩
 unfold QeL at h
 refine Sr (qu (Bv (decide (a<((bytesOf a0).length:Int)))) (lss b d) (Nt (Cs (Ch h Z (fun a3 h=> ?_) (fun a3 h=> ?_)))))
 refine Ck (Tc (Cs (Bk (Sr ?_))))
 obtain ⟨v,h⟩:=QaQ h
 have J:=J.mono s
 obtain ⟨b0,b2,R,S,hhas39⟩:=J.at v.1 v.2
 obtain rfl:=S
 refine qu (.pointer (some b0)) (indexAddr (n:=(bytesOf a0).length) underlying38 sz5 c b v.1 v.2 R) (qu (Yv (rd (bytesOf a0) a)) (loadC 0 pl5 Z Z (QqE hhas39)) (qa (Yv (rd (bytesOf a0) a)) (Nt ?_)))
 obtain ⟨a4,a5,h⟩:=bnd h
 refine Jf (fun(p_:(Bool×Bool)) ρ' M' H'=>match p_ with |(z,x)=>a9.le M'∧Q::F=H'∧ρ' 4=(Yv (rd (bytesOf a0) a))∧ρ' 5=(Bv z)∧ρ' 6=(Bv x)∧ρ' 23=P∧ρ' 24=(Iv ((bytesOf a0).length:Int))∧ρ' 25=(Iv a)) a4 ?_ ?_
 have h:=a5
 refine Cg (qm (Yv (rd (bytesOf a0) a)) (qu (Bv (decide ((97:Int)≤(rd (bytesOf a0) a)))) (geq Z Z) (qm (Bv (decide ((97:Int)≤(rd (bytesOf a0) a)))) ?_)))
 rcases Bi h with⟨l,h⟩ |⟨l,h⟩
 refine On 31 Z Z l (qm (Yv (rd (bytesOf a0) a)) (qo 31 l (Bv (decide ((rd (bytesOf a0) a)≤122))) (leq Z Z) (qu (Bv (decide ((rd (bytesOf a0) a)≤122))) (Pt Z l Z) (qm (Yv (rd (bytesOf a0) a)) (qu (Bv (decide ((48:Int)≤(rd (bytesOf a0) a)))) (geq Z Z) (qm (Bv (decide ((48:Int)≤(rd (bytesOf a0) a)))) ?_))))))
 rcases Bi h with⟨m,h⟩ |⟨m,h⟩
 refine On 37 Z Z m (qm (Yv (rd (bytesOf a0) a)) (qo 37 m (Bv (decide ((rd (bytesOf a0) a)≤57))) (leq Z Z) (qu (Bv (decide ((rd (bytesOf a0) a)≤57))) (Pt Z m Z) (qa (Bv (decide ((rd (bytesOf a0) a)≤122))) (qa (Bv (decide ((rd (bytesOf a0) a)≤57))) (Wz ?_))))))
 obtain rfl:=oi h
 exact Tj ⟨lr,Z,Z,Z,Z,c,d,b⟩
 iterate 2 refine Of 37 Z Z m Z ?_
 refine qu (Bv false) (Pf Z m Z) (qa (Bv (decide ((rd (bytesOf a0) a)≤122))) (qa (Bv false) (Wz ?_)))
 obtain rfl:=oi h
 exact Tj ⟨lr,Z,Z,Z,Z,c,d,b⟩
 iterate 2 refine Of 31 Z Z l Z ?_
 refine qu (Bv false) (Pf Z l Z) (qm (Yv (rd (bytesOf a0) a)) (qu (Bv (decide ((48:Int)≤(rd (bytesOf a0) a)))) (geq Z Z) (qm (Bv (decide ((48:Int)≤(rd (bytesOf a0) a)))) ?_)))
 rcases Bi h with⟨o,h⟩ |⟨o,h⟩
 refine On 37 Z Z o (qm (Yv (rd (bytesOf a0) a)) (qo 37 o (Bv (decide ((rd (bytesOf a0) a)≤57))) (leq Z Z) (qu (Bv (decide ((rd (bytesOf a0) a)≤57))) (Pt Z o Z) (qa (Bv false) (qa (Bv (decide ((rd (bytesOf a0) a)≤57))) (Wz ?_))))))
 obtain rfl:=oi h
 exact Tj ⟨lr,Z,Z,Z,Z,c,d,b⟩
 iterate 2 refine Of 37 Z Z o Z ?_
 refine qu (Bv false) (Pf Z o Z) (qa (Bv false) (qa (Bv false) (Wz ?_)))
 obtain rfl:=oi h
 exact Tj ⟨lr,Z,Z,Z,Z,c,d,b⟩
 obtain ⟨z,x⟩:=a4
 rintro b9 b1 c0 ⟨A,rfl,w,K,L,e,f,g⟩
 obtain ⟨T,a6,h⟩:=bnd h
 refine Jf (fun(T:Bool) ρ' M' H'=>b1.le M'∧Q::F=H'∧ρ' 23=P∧ρ' 24=(Iv ((bytesOf a0).length:Int))∧ρ' 25=(Iv a)∧ρ' 54=(Bv T)) T ?_ ?_
 have h:=a6
 refine Cg (qM (Bv z) K (qu (Bv (!z)) (PO.not Z) (qm (Bv (!z)) ?_)))
 rcases Bi h with⟨p,h⟩ |⟨p,h⟩
 refine On 43 Z Z p (qM (Bv x) L (qo 43 p (Bv (!x)) (PO.not Z) (qu (Bv (!x)) (Pt Z p Z) (qm (Bv (!x)) ?_))))
 rcases Bi h with⟨q,h⟩ |⟨q,h⟩
 refine On 47 Z Z q (qM (Yv (rd (bytesOf a0) a)) w (qo 47 q (Bv (decide ((rd (bytesOf a0) a)≠46))) (neq Z Z) (qu (Bv (decide ((rd (bytesOf a0) a)≠46))) (Pt Z q Z) (qm (Bv (decide ((rd (bytesOf a0) a)≠46))) ?_))))
 rcases Bi h with⟨r,h⟩ |⟨r,h⟩
 refine On 51 Z Z r (qM (Yv (rd (bytesOf a0) a)) w (qo 51 r (Bv (decide ((rd (bytesOf a0) a)≠45))) (neq Z Z) (qu (Bv (decide ((rd (bytesOf a0) a)≠45))) (Pt Z r Z) (Wz ?_))))
 obtain rfl:=oi h
 exact Tj ⟨lr,Z,e,f,g,Z⟩
 iterate 2 refine Of 51 Z Z r Z ?_
 refine qu (Bv false) (Pf Z r Z) (Wz ?_)
 obtain rfl:=oi h
 exact Tj ⟨lr,Z,e,f,g,Z⟩
 iterate 2 refine Of 47 Z Z q Z ?_
 refine qu (Bv false) (Pf Z q Z) (qm (Bv false) ?_)
 iterate 2 refine Of 51 Z Z Z Z ?_
 refine qu (Bv false) (Pf Z Z Z) (Wz ?_)
 obtain rfl:=oi h
 exact Tj ⟨lr,Z,e,f,g,Z⟩
 iterate 2 refine Of 43 Z Z p Z ?_
 refine qu (Bv false) (Pf Z p Z) (qm (Bv false) ?_)
 iterate 2 refine Of 47 Z Z Z Z ?_
 refine qu (Bv false) (Pf Z Z Z) (qm (Bv false) ?_)
 iterate 2 refine Of 51 Z Z Z Z ?_
 refine qu (Bv false) (Pf Z Z Z) (Wz ?_)
 obtain rfl:=oi h
 exact Tj ⟨lr,Z,e,f,g,Z⟩
 rintro c1 c2 c3 ⟨B,rfl,C,D,E,G⟩
 refine Ch h G (fun a7 h=> ?_) (fun a7 h=> ?_)
 refine Sr (qa (Bv false) (Nt (Cr (Br (Tr (WQ.leaveR (inr ()) (oi h).symm (fun u=> ?_)))))))
 subst u
 have h:=(QdO N)
 refine Br (Tr ?_)
 have h:=KK.early h a1
 exact Dr (Rf h [] Z (Rs Z Z) (((t.trans s).trans A).trans B) ⟨Z,Z⟩)
 exact Ck (Bn (Tc (Cg (qu (Iv (i64.wrap (a+1))) (add E Z) (qm (Iv (i64.wrap (a+1))) (Wz (WQ.again (i64.wrap (a+1)) (oi h).symm ⟨((s.trans A).trans B),Z,C,D,Z⟩)))))))
 refine WC.exit (WQ.thenE (WQ.leaveE (inl ()) (oi h).symm (fun u=> ?_)))
 subst u
 have h:=QeJ N
 exact WQ.blockH (Dr (WQ.thenFE h ⟨s,Z⟩))
 rintro _ c4 c5 c6 rfl ⟨U,rfl⟩
 have h:=(Sum.elim_inl _ _ _).symm.trans h
 exact Sr (qa (Bv true) (Nt (Cr (Rf h [] Z (Rs Z Z) (t.trans U) ⟨Z,Z⟩))))
noncomputable def QdD (a0:ByteArray) (a1:Int) (a2:Int):Option GErr:=
 (some (GErr.fault a0 a1 (GErr.code a2)))
def QtK (a0:ByteArray) (a1:Int) (a2:Int):GErr→Value→IM→HL→Prop:=
 fun(a:GErr) (v:Value) (M':IM) (H':HL)=>(GV a)=v∧H'=[]
theorem Qc0 (a0:ByteArray) (a1:Int) (a2:Int) (M:IM) (res:GErr) (h:QdD a0 a1 a2=some res):
 Tri prog 27 #[(Sv a0),(Iv a1),(Iv a2)] M [] (QtK a0 a1 a2 res):=by
 unfold QdD at h
 refine Te func27 Z Z ?_
 intro F ρ hρ
 refine Sr (qa (GV GErr.nil) (Ns (qM (Sv a0) (hρ 0) (qM (Iv a1) (hρ 1) (qM (Iv a2) (hρ 2) (qu (GV (GErr.code a2)) (makeInterface cc34 Z) (qu (.agg #[(Sv a0),(Iv a1),(GV (GErr.code a2))]) (Bl (cl:=[(Sv a0),(Iv a1),(GV (GErr.code a2))]) Q4D Q7N (Pc (Sv a0) Z Z (Pc (Iv a1) Z Z (Parts.cons ((congrArg Value.cells (show ev _ _=(GV (GErr.code a2)) from Z)).trans (GErr.val_cells _ _ _ _)) Pz))) Z) (qu (GV (GErr.fault a0 a1 (GErr.code a2))) (makeInterface Q7B Z) (qa (GV (GErr.fault a0 a1 (GErr.code a2))) (Nt (Cr ?_)))))))))))
 exact Rf h [] Z (Rs Z Z) lr ⟨Z,Z⟩
noncomputable def QhX (a0:QaH) (a1:Int):Option Bool:=
 (some (decide (a0.Leader=a1)))
def Qm0 (a0:QaH) (a1:Int) (a b c d:Value) (e:Nat):Bool→Value→IM→HL→Prop:=
 fun(f:Bool) (v:Value) (M':IM) (H':HL)=>(.bool f)=v∧H'=[[(e, .cells #[(.int .i64 a1)] 3 (0,0))]]
theorem QoT (a0:QaH) (a1:Int) (M:IM) (a b c d:Value) (e:Nat) (g:RS (Kd.int .i64) M a a0.Ids) (i:RS (Kd.int .i64) M b a0.Isr) (j:RS (Kd.int .i64) M c a0.Add) (k:RS (Kd.int .i64) M d a0.Drop) (res:Bool) (h:QhX a0 a1=some res):
 Tri prog 108 #[(a58_ a0 a b c d),(pt e 0)] M [[(e, .cells #[(Iv a1)] 3 (0,0))]] (Qm0 a0 a1 a b c d e res):=by
 unfold QhX at h
 refine Te func108 Z Z ?_
 intro F ρ hρ
 refine Sr (We (box (cs:=(l58 a0 a b c d).toArray) (congrArg Value.cells (asE (a58_ a0 a b c d) (hρ 0)))) Z ?_)
 rintro _ _ _ - ⟨rfl,f,rfl,rfl⟩
 exact qa (Bv false) (Ns (qu (pt f 2) (Fa Qk1 Z Z) (qu (Iv a0.Leader) (Lb 0 pl3 Z Z Z) (qu (Iv a1) (Lb 1 pl3 (hρ 1) Z Z) (qu (Bv (decide (a0.Leader=a1))) (eql Z Z) (qa (Bv (decide (a0.Leader=a1))) (Nt (Cr (Dr (Rf h [[(e, .cells #[(Iv a1)] 3 (0,0))]] Z (Rs Z Z) lr ⟨Z,Z⟩))))))))))
noncomputable def QbZ (a0:(List QaH)) (a1k0:Int) (s_:Int):Option (Int⊕(Unit⊕Int)):=
 match s_ with
 |a=>
 (if(decide (a<(a0.length:Int)))=true then(grd (0≤a∧a<a0.length) ((QhX (rd a0 a) a1k0).bind fun b=>(if b=true then(some (inr (inr a)))else(some (inl (i64.wrap (a+(1:Int))))))))else(some (inr (inl ()))))
noncomputable def Qb4 (a0:(List QaH)) (a1k0:Int):Option Int:=
 ((((iter (QbZ a0 a1k0) (0:Int)).bind (Sum.elim (fun _=>(some (inl ()))) (fun(a:Int)=>(((some a)).bind fun r=>some (inr r))))):Option (Unit⊕Int)).bind (Sum.elim (fun _=>(some (-1:Int))) some))
def QgD (a0:(List QaH)) (a1k0:Int) (b:Value) (g1k0:Nat):Int→Value→IM→HL→Prop:=
 fun(a:Int) (v:Value) (M':IM) (H':HL)=>(.int .i64 a)=v∧H'=[[(g1k0, .cells #[(.int .i64 a1k0)] 3 (0,0))]]
theorem Qg4 (a0:(List QaH)) (a1k0:Int) (M:IM) (x:Value) (g1k0:Nat) (E:RS QbF M x a0) (res:Int) (h:Qb4 a0 a1k0=some res):
 Tri prog 140 #[x,(.func (.func 108) #[] #[(pt g1k0 0)])] M [[(g1k0, .cells #[(Iv a1k0)] 3 (0,0))]] (QgD a0 a1k0 x g1k0 res):=by
 unfold Qb4 at h
 refine Te func140 Z Z ?_
 intro F ρ hρ
 refine Sr (qa (Iv 0) (Nt ?_))
 obtain ⟨G,y,h⟩:=bnd h
 refine WC.joinE (fun(_:Unit) ρ' M' H'=>M.le M'∧[(g1k0, .cells #[(Iv a1k0)] 3 (0,0))]::F=H') G ?_ ?_
 have z:=h
 have h:=y
 refine Sr (qM x (hρ 0) (qu (Iv (a0.length:Int)) (lenS underlying53 Z E.len) (qm (Iv 0) (Nt (Bk ?_)))))
 obtain ⟨L,A,t⟩:=bnd h
 clear h
 refine WC.loop A (fun(a:Int) ρ' M' H'=>M.le M'∧[(g1k0, .cells #[(Iv a1k0)] 3 (0,0))]::F=H'∧ρ' 0=x∧ρ' 1=(.func (.func 108) #[] #[(pt g1k0 0)])∧ρ' 7=(Iv (a0.length:Int))∧ρ' 8=(Iv a)) ?_ ?_
 exact⟨lr,Z,(hρ 0),(hρ 1),Z,Z⟩
 rintro a N O P Q h ⟨b,rfl,e,f,g,c⟩
 unfold QbZ at h
 refine Sr (qu (Bv (decide (a<(a0.length:Int)))) (lss c g) (Nt (Cs (Ch h Z (fun B h=> ?_) (fun B h=> ?_)))))
 refine Ck (Tc (Cs (Bk (Sr (qM (Iv a) c (qa (Iv a) (Ns (qM (.func (.func 108) #[] #[(pt g1k0 0)]) f (qM x e (qm (Iv a) ?_))))))))))
 obtain ⟨i,h⟩:=QaQ h
 have E:=E.mono b
 obtain ⟨I,K,u,v,hhas31⟩:=E.at i.1 i.2 (by decide)
 obtain ⟨j,k,l,m,rfl,p,q,r,s⟩:=Qb7 v
 refine qu (.pointer (some I)) (indexAddr (n:=a0.length) underlying53 sz58 Z Z i.1 i.2 u) (qu (a58_ (rd a0 a) j k l m) (loadMA (cs:=(l58 (rd a0 a) j k l m)) ag58 sz58 Z hhas31) ?_)
 obtain ⟨J,C,h⟩:=bnd h
 refine We (callV1 (first:=#[]) (cap:=#[(pt g1k0 0)]) Q9B Z (QoT (rd a0 a) a1k0 _ _ _ _ _ _ p q r s J C) (Qz6 Z Z)) Z ?_
 rintro _ R _ o ⟨_,⟨rfl,rfl⟩,rfl⟩
 refine WL.a1 (Nt (Ch h Z (fun D h=> ?_) (fun D h=> ?_)))
 refine Sr (qm (Iv a) (qa (Iv a) (Nt (Cr (Br (Tr (WQ.leaveR (inr a) (oi h).symm (fun d=> ?_))))))))
 subst d
 have h:=(QdO t)
 refine Br (Tr ?_)
 have h:=KK.early h z
 exact Rf h [[(g1k0, .cells #[(Iv a1k0)] 3 (0,0))]] Z (Rs Z Z) (b.trans o) ⟨Z,Z⟩
 exact Ck (Bn (Tc (Cg (qu (Iv (i64.wrap (a+1))) (add c Z) (qm (Iv (i64.wrap (a+1))) (Wz (WQ.again (i64.wrap (a+1)) (oi h).symm ⟨(b.trans o),Z,e,f,g,Z⟩)))))))
 refine WC.exit (WQ.thenE (WQ.leaveE (inl ()) (oi h).symm (fun d=> ?_)))
 subst d
 have h:=QeJ t
 exact WQ.blockH (WQ.thenFE h ⟨b,Z⟩)
 rintro _ S T U rfl ⟨w,rfl⟩
 have h:=(Sum.elim_inl _ _ _).symm.trans h
 exact Sr (qa (Iv (-1:Int)) (Nt (Cr (Rf h [[(g1k0, .cells #[(Iv a1k0)] 3 (0,0))]] Z (Rs Z Z) w ⟨Z,Z⟩))))
noncomputable def QbL (a0:(List QaH)) (a1k0:Int):Option Bool:=
 ((Qb4 a0 a1k0).bind fun a=>(some (decide ((0:Int)≤a))))
def QfG (a0:(List QaH)) (a1k0:Int) (b:Value) (g1k0:Nat):Bool→Value→IM→HL→Prop:=
 fun(a:Bool) (v:Value) (M':IM) (H':HL)=>(.bool a)=v∧H'=[[(g1k0, .cells #[(.int .i64 a1k0)] 3 (0,0))]]
theorem Qf2 (a0:(List QaH)) (a1k0:Int) (M:IM) (d:Value) (g1k0:Nat) (e:RS QbF M d a0) (res:Bool) (h:QbL a0 a1k0=some res):
 Tri prog 107 #[d,(.func (.func 108) #[] #[(pt g1k0 0)])] M [[(g1k0, .cells #[(Iv a1k0)] 3 (0,0))]] (QfG a0 a1k0 d g1k0 res):=by
 unfold QbL at h
 refine Te func107 Z Z ?_
 intro F ρ hρ
 refine Sr (qa (Bv false) (Ns (qM d (hρ 0) (qM (.func (.func 108) #[] #[(pt g1k0 0)]) (hρ 1) ?_))))
 obtain ⟨a,c,h⟩:=bnd h
 refine We (Cb Q9M (Qg4 a0 a1k0 _ _ _ e a c) (QaU Z Z)) Z ?_
 rintro _ f _ b ⟨_,⟨rfl,rfl⟩,rfl⟩
 exact WL.a1 (qu (Bv (decide ((0:Int)≤a))) (geq Z Z) (qa (Bv (decide ((0:Int)≤a))) (Nt (Cr (Rf h [[(g1k0, .cells #[(Iv a1k0)] 3 (0,0))]] Z (Rs Z Z) b ⟨Z,Z⟩)))))
noncomputable def Qi6 (a0:QaC) (a1:Int):Option Bool:=
 ((QbL a0.Parts a1).bind fun a=>(some a))
def QoU (a0:QaC) (a1:Int) (a:Value) (b:Nat):Bool→Value→IM→HL→Prop:=
 fun(c:Bool) (v:Value) (M':IM) (H':HL)=>(.bool c)=v∧H'=[[(b, .cells #[(.int .i64 a1)] 3 (0,0))]]
theorem QqU (a0:QaC) (a1:Int) (M:IM) (a:Value) (c:Nat) (d:RS QbF M a a0.Parts) (res:Bool) (h:Qi6 a0 a1=some res):
 Tri prog 106 #[(a55_ a0 a),(pt c 0)] M [[(c, .cells #[(Iv a1)] 3 (0,0))]] (QoU a0 a1 a c res):=by
 unfold Qi6 at h
 refine Te func106 Z Z ?_
 intro F ρ hρ
 refine Sr (We (box (cs:=(l55 a0 a).toArray) (congrArg Value.cells (asE (a55_ a0 a) (hρ 0)))) Z ?_)
 rintro _ _ _ - ⟨rfl,g,rfl,rfl⟩
 refine qa (Bv false) (Ns (qu (pt g 2) (Fa QdB Z Z) (qu a (Lb 0 pl53 Z Z Z) (qu (.func (.func 108) #[] #[(pt c 0)]) (makeFunc2 (QmX) (QbK (asE (Value.pointer (some ⟨c,0,none⟩)) (hρ 1)))) ?_))))
 obtain ⟨e,f,h⟩:=bnd h
 refine WL.f1 (We (Cb Q9A (Qf2 a0.Parts a1 _ _ _ d e f) (QaU Z Z)) Z ?_)
 rintro _ i _ b ⟨_,⟨rfl,rfl⟩,rfl⟩
 exact WL.a1 (qa (Bv e) (Nt (Cr (Qa (Dr (Rf h [[(c, .cells #[(Iv a1)] 3 (0,0))]] Z (Rs Z Z) b ⟨Z,Z⟩))))))
noncomputable def Qb2 (a0:(List QaC)) (a1k0:Int) (s_:Int):Option (Int⊕(Unit⊕Int)):=
 match s_ with
 |a=>
 (if(decide (a<(a0.length:Int)))=true then(grd (0≤a∧a<a0.length) ((Qi6 (rd a0 a) a1k0).bind fun b=>(if b=true then(some (inr (inr a)))else(some (inl (i64.wrap (a+(1:Int))))))))else(some (inr (inl ()))))
noncomputable def QcD (a0:(List QaC)) (a1k0:Int):Option Int:=
 ((((iter (Qb2 a0 a1k0) (0:Int)).bind (Sum.elim (fun _=>(some (inl ()))) (fun(a:Int)=>(((some a)).bind fun r=>some (inr r))))):Option (Unit⊕Int)).bind (Sum.elim (fun _=>(some (-1:Int))) some))
def QgU (a0:(List QaC)) (a1k0:Int) (b:Value) (g1k0:Nat):Int→Value→IM→HL→Prop:=
 fun(a:Int) (v:Value) (M':IM) (H':HL)=>(.int .i64 a)=v∧H'=[[(g1k0, .cells #[(.int .i64 a1k0)] 3 (0,0))]]
theorem QhH (a0:(List QaC)) (a1k0:Int) (M:IM) (r:Value) (g1k0:Nat) (y:RS QaG M r a0) (res:Int) (h:QcD a0 a1k0=some res):
 Tri prog 139 #[r,(.func (.func 106) #[] #[(pt g1k0 0)])] M [[(g1k0, .cells #[(Iv a1k0)] 3 (0,0))]] (QgU a0 a1k0 r g1k0 res):=by
 unfold QcD at h
 refine Te func139 Z Z ?_
 intro F ρ hρ
 refine Sr (qa (Iv 0) (Nt ?_))
 obtain ⟨z,s,h⟩:=bnd h
 refine WC.joinE (fun(_:Unit) ρ' M' H'=>M.le M'∧[(g1k0, .cells #[(Iv a1k0)] 3 (0,0))]::F=H') z ?_ ?_
 have t:=h
 have h:=s
 refine Sr (qM r (hρ 0) (qu (Iv (a0.length:Int)) (lenS underlying23 Z y.len) (qm (Iv 0) (Nt (Bk ?_)))))
 obtain ⟨D,u,m⟩:=bnd h
 clear h
 refine WC.loop u (fun(a:Int) ρ' M' H'=>M.le M'∧[(g1k0, .cells #[(Iv a1k0)] 3 (0,0))]::F=H'∧ρ' 0=r∧ρ' 1=(.func (.func 106) #[] #[(pt g1k0 0)])∧ρ' 7=(Iv (a0.length:Int))∧ρ' 8=(Iv a)) ?_ ?_
 exact⟨lr,Z,(hρ 0),(hρ 1),Z,Z⟩
 rintro a E G I J h ⟨b,rfl,e,f,g,c⟩
 unfold Qb2 at h
 refine Sr (qu (Bv (decide (a<(a0.length:Int)))) (lss c g) (Nt (Cs (Ch h Z (fun v h=> ?_) (fun v h=> ?_)))))
 refine Ck (Tc (Cs (Bk (Sr (qM (Iv a) c (qa (Iv a) (Ns (qM (.func (.func 106) #[] #[(pt g1k0 0)]) f (qM r e (qm (Iv a) ?_))))))))))
 obtain ⟨i,h⟩:=QaQ h
 have y:=y.mono b
 obtain ⟨A,C,o,p,hhas31⟩:=y.at i.1 i.2 (by decide)
 obtain ⟨j,rfl,l⟩:=QaN p
 refine qu (.pointer (some A)) (indexAddr (n:=a0.length) underlying23 sz55 Z Z i.1 i.2 o) (qu (a55_ (rd a0 a) j) (loadMA (cs:=(l55 (rd a0 a) j)) ag55 sz55 Z hhas31) ?_)
 obtain ⟨B,w,h⟩:=bnd h
 refine We (callV1 (first:=#[]) (cap:=#[(pt g1k0 0)]) Q89 Z (QqU (rd a0 a) a1k0 _ _ _ l B w) (Qz6 Z Z)) Z ?_
 rintro _ K _ k ⟨_,⟨rfl,rfl⟩,rfl⟩
 refine WL.a1 (Nt (Ch h Z (fun x h=> ?_) (fun x h=> ?_)))
 refine Sr (qm (Iv a) (qa (Iv a) (Nt (Cr (Br (Tr (WQ.leaveR (inr a) (oi h).symm (fun d=> ?_))))))))
 subst d
 have h:=(QdO m)
 refine Br (Tr ?_)
 have h:=KK.early h t
 exact Rf h [[(g1k0, .cells #[(Iv a1k0)] 3 (0,0))]] Z (Rs Z Z) (b.trans k) ⟨Z,Z⟩
 exact Ck (Bn (Tc (Cg (qu (Iv (i64.wrap (a+1))) (add c Z) (qm (Iv (i64.wrap (a+1))) (Wz (WQ.again (i64.wrap (a+1)) (oi h).symm ⟨(b.trans k),Z,e,f,g,Z⟩)))))))
 refine WC.exit (WQ.thenE (WQ.leaveE (inl ()) (oi h).symm (fun d=> ?_)))
 subst d
 have h:=QeJ m
 exact WQ.blockH (WQ.thenFE h ⟨b,Z⟩)
 rintro _ L N O rfl ⟨q,rfl⟩
 have h:=(Sum.elim_inl _ _ _).symm.trans h
 exact Sr (qa (Iv (-1:Int)) (Nt (Cr (Rf h [[(g1k0, .cells #[(Iv a1k0)] 3 (0,0))]] Z (Rs Z Z) q ⟨Z,Z⟩))))
noncomputable def QbN (a0:(List QaC)) (a1k0:Int):Option Bool:=
 ((QcD a0 a1k0).bind fun a=>(some (decide ((0:Int)≤a))))
def QfQ (a0:(List QaC)) (a1k0:Int) (b:Value) (g1k0:Nat):Bool→Value→IM→HL→Prop:=
 fun(a:Bool) (v:Value) (M':IM) (H':HL)=>(.bool a)=v∧H'=[[(g1k0, .cells #[(.int .i64 a1k0)] 3 (0,0))]]
theorem QgE (a0:(List QaC)) (a1k0:Int) (M:IM) (d:Value) (g1k0:Nat) (e:RS QaG M d a0) (res:Bool) (h:QbN a0 a1k0=some res):
 Tri prog 105 #[d,(.func (.func 106) #[] #[(pt g1k0 0)])] M [[(g1k0, .cells #[(Iv a1k0)] 3 (0,0))]] (QfQ a0 a1k0 d g1k0 res):=by
 unfold QbN at h
 refine Te func105 Z Z ?_
 intro F ρ hρ
 refine Sr (qa (Bv false) (Ns (qM d (hρ 0) (qM (.func (.func 106) #[] #[(pt g1k0 0)]) (hρ 1) ?_))))
 obtain ⟨a,c,h⟩:=bnd h
 refine We (Cb Q9L (QhH a0 a1k0 _ _ _ e a c) (QaU Z Z)) Z ?_
 rintro _ f _ b ⟨_,⟨rfl,rfl⟩,rfl⟩
 exact WL.a1 (qu (Bv (decide ((0:Int)≤a))) (geq Z Z) (qa (Bv (decide ((0:Int)≤a))) (Nt (Cr (Rf h [[(g1k0, .cells #[(Iv a1k0)] 3 (0,0))]] Z (Rs Z Z) b ⟨Z,Z⟩)))))
noncomputable def Qi7 (a0:QaA) (a1:Int):Option Bool:=
 ((QbN a0.Topics a1).bind fun a=>(some a))
def QqV (a0:QaA) (a1:Int) (a b c d:Value):Bool→Value→IM→HL→Prop:=
 fun(e:Bool) (v:Value) (M':IM) (H':HL)=>(.bool e)=v∧H'=[]
theorem QtL (a0:QaA) (a1:Int) (M:IM) (b a c d:Value) (l:RS QaD M b a0.Brokers) (f:RS QaG M a a0.Topics) (m:RS QaF M c a0.Configs) (n:RS QaI M d a0.Done) (res:Bool) (h:Qi7 a0 a1=some res):
 Tri prog 71 #[(a27_ a0 b a c d),(Iv a1)] M [] (QqV a0 a1 b a c d res):=by
 unfold Qi7 at h
 refine Te func71 Z Z ?_
 intro F ρ hρ
 refine Sr (We (box (cs:=(l27 a0 b a c d).toArray) (congrArg Value.cells (asE (a27_ a0 b a c d) (hρ 0)))) Z ?_)
 rintro _ _ _ - ⟨rfl,k,rfl,rfl⟩
 refine We (box (cs:=#[(Iv a1)]) (congrArg Value.cells (asE (Iv a1) (hρ 1)))) Z ?_
 rintro _ _ _ - ⟨rfl,g,rfl,rfl⟩
 refine qa (Bv false) (Ns (qu (pt k 1) (Fa QbW Z Z) (qu a (Lb 1 pl23 Z Z Z) (qu (.func (.func 106) #[] #[(pt g 0)]) (makeFunc2 (QmX) (QbK (show ev _ _=(pt g 0) from Z))) ?_))))
 obtain ⟨i,j,h⟩:=bnd h
 refine We (Cb Q88 (QgE a0.Topics a1 _ _ _ f i j) (QaU Z Z)) Z ?_
 rintro _ o _ e ⟨_,⟨rfl,rfl⟩,rfl⟩
 exact WL.a1 (qa (Bv i) (Nt (Cr (Dr (Dr (Rf h [] Z (Rs Z Z) e ⟨Z,Z⟩))))))

end Go.Proofs.YtpcbipcdfccnnaaGreatDoor.G
