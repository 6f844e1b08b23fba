/- Go functions: what they come to, and that they do. Printed by a program of the session (gen). -/
import Derived.Test.YtpcbipcdfccnnaaGreatDoorPF
import Derived.Test.YtpcbipcdfccnnaaGreatDoorP3
import Derived.Test.YtpcbipcdfccnnaaGreatDoorP4
import Derived.Test.YtpcbipcdfccnnaaGreatDoorKShar2
import Derived.Test.YtpcbipcdfccnnaaGreatDoorKConv
import Derived.Test.YtpcbipcdfccnnaaGreatDoorKMap
import Derived.Test.YtpcbipcdfccnnaaGreatDoorKTight2
set_option linter.unusedVariables false
set_option linter.unusedSimpArgs false
set_option maxHeartbeats 8000000
set_option maxRecDepth 100000
namespace Go.Proofs.YtpcbipcdfccnnaaGreatDoor.G
open Go Go.KK
open PO EO IntKind Sum Tryz

noncomputable def QjA (a0:QaA) (a1:Int):Option (QaC×Bool):=
 ((Qk5 a0 a1).bind fun(a,b)=>(if(!b)=true then(some ((⟨(0:Int),(⟨#[]⟩:ByteArray),[]⟩:QaC),false))else(grd (0≤a∧a<a0.Topics.length) (some ((rd a0.Topics a),true)))))
def Qq1 (a0:QaA) (a1:Int) (c d e f:Value):(QaC×Bool)→Value→IM→HL→Prop:=
 fun(p_:(QaC×Bool)) (v:Value) (M':IM) (H':HL)=>match p_ with |(b,g)=>∃ a,(.tuple #[(.agg #[(.int .i64 b.Id),(.string b.Name),a]),(.bool g)])=v∧H'=[]∧RS QbF M' a b.Parts
theorem QtQ (a0:QaA) (a1:Int) (M:IM) (c b d e:Value) (p:RS QaD M c a0.Brokers) (i:RS QaG M b a0.Topics) (q:RS QaF M d a0.Configs) (r:RS QaI M e a0.Done) (res:(QaC×Bool)) (h:QjA a0 a1=some res):
 Tri prog 73 #[(a27_ a0 c b d e),(Iv a1)] M [] (Qq1 a0 a1 c b d e res):=by
 unfold QjA at h
 refine Te func73 Z Z ?_
 intro F ρ hρ
 refine Sr (We (box (cs:=(l27 a0 c b d e).toArray) (congrArg Value.cells (asE (a27_ a0 c b d e) (hρ 0)))) Z ?_)
 rintro _ _ _ - ⟨rfl,u,rfl,rfl⟩
 refine We (Al ze55 Z) Z ?_
 rintro _ _ _ - ⟨rfl,y,rfl,rfl⟩
 refine qa (Bv false) (Ns (qu (a27_ a0 c b d e) (La (cs:=(l27 a0 c b d e)) 1 ag27 sz27 Z Z Z) (qM (Iv a1) (hρ 1) ?_)))
 obtain ⟨⟨f,l⟩,s,h⟩:=bnd h
 refine We (Ca Q9E (QtP a0 a1 _ _ _ _ _ p i q r (f,l) s) (QaU Z Z)) Z ?_
 rintro _ z _ g ⟨_,⟨rfl,rfl⟩,rfl⟩
 refine WL.a0 (qm (.tuple #[(Iv f),(Bv l)]) (qu (Iv f) (Xt Z Z) (qu (Bv l) (Xt Z Z) (qa (Iv f) (qa (Bv l) (Nt (Cs (Sr (qm (Bv l) (qu (Bv (!l)) (PO.not Z) (Nt ?_)))))))))))
 refine Ch h Z (fun t h=> ?_) (fun t h=> ?_)
 refine Sr (qu (.agg #[(Iv 0),(Sv ⟨#[]⟩),Zs]) (Bl (cl:=[(Iv 0),(Sv ⟨#[]⟩),Zs]) ze55 fp55 Pz Z) (We (Sg (v:=(.agg #[(Iv 0),(Sv ⟨#[]⟩),Zs])) (vl:=[(Iv 0),(Sv ⟨#[]⟩),Zs]) (arr':=[(Iv 0),(Sv ⟨#[]⟩),Zs]) Z sz55 Z Z (onb Z) Z Z Z) Z ?_))
 rintro _ _ _ - ⟨rfl,rfl⟩
 exact qa (Bv false) (Nt (Cr (Tr (Qa (Dr (Rd h [] (fun _ hs=>hs.drop) (QaX Z (RVs.cons (Rc (cs:=[(Iv 0),(Sv ⟨#[]⟩),Zs]) 0 ag55 sz55 Z Z Z) (RVs.cons (RV.tmp Z) RVs.nil))) g ⟨Zs,Z,Z,RS.nil _ _⟩))))))
 refine Ck (Tc (Sr (qu (pt u 1) (Fa QbW Z Z) (qu b (Lb 1 pl23 Z Z Z) (qm (Iv f) ?_)))))
 obtain ⟨j,h⟩:=QaQ h
 have i:=i.mono g
 obtain ⟨w,x,m,o,hhas36⟩:=i.at j.1 j.2 (by decide)
 obtain ⟨a,rfl,k⟩:=QaN o
 refine qu (.pointer (some w)) (indexAddr (n:=a0.Topics.length) underlying23 sz55 Z Z j.1 j.2 m) (qu (a55_ (rd a0.Topics f) a) (loadMA (cs:=(l55 (rd a0.Topics f) a)) ag55 sz55 Z hhas36) (We (Sg (v:=(a55_ (rd a0.Topics f) a)) (vl:=(l55 (rd a0.Topics f) a)) (arr':=(l55 (rd a0.Topics f) a)) Z sz55 Z Z (QbG (Oc Z (Oc Z (Oc (RS.one k) Oz)))) Z Z Z) Z ?_))
 rintro _ _ _ - ⟨rfl,rfl⟩
 exact qa (Bv true) (Nt (Cr (Qa (Dr (Rd h [] (fun _ hs=>hs.drop) (QaX Z (RVs.cons (Rc (cs:=(l55 (rd a0.Topics f) a)) 0 ag55 sz55 Z Z Z) (RVs.cons (RV.tmp Z) RVs.nil))) g ⟨a,Z,Z,k⟩)))))
noncomputable def QfI (a0:QaA) (s_:Int):Option (Int⊕(Unit⊕GErr)):=
 match s_ with
 |a=>
 (if(decide (a<(a0.Configs.length:Int)))=true then(((grd (0≤a∧a<a0.Configs.length) ((QjA a0 ((rd a0.Configs a).Topic)).bind fun(j,b)=>(((if(decide (((rd a0.Configs a).Topic)≠(0:Int)))=true then(if(!b)=true then(some true)else((QeW ((rd a0.Configs a).Key)).bind fun c=>(if(!c)=true then(some true)else(some (decide ((256:Int)<(((rd a0.Configs a).Value).size:Int)))))))else((QeW ((rd a0.Configs a).Key)).bind fun d=>(if(!d)=true then(some true)else(some (decide ((256:Int)<(((rd a0.Configs a).Value).size:Int))))))):Option Bool).bind fun e=>(if e=true then((QdD (⟨#[99,111,110,102,105,103]⟩:ByteArray) a (2:Int)).bind fun f=>(((some (inr (inr f)))).bind fun r=>some (inr r)))else(if(decide ((0:Int)<a))=true then(grd (0≤i64.wrap (a - (1:Int))∧i64.wrap (a - (1:Int))<a0.Configs.length) (((if(decide (((rd a0.Configs a).Topic)<((rd a0.Configs (i64.wrap (a - (1:Int)))).Topic)))=true then(some true)else(if(decide (((rd a0.Configs (i64.wrap (a - (1:Int)))).Topic)=((rd a0.Configs a).Topic)))=true then(some (!Op.bytesLess ((rd a0.Configs (i64.wrap (a - (1:Int)))).Key).toList ((rd a0.Configs a).Key).toList))else(some false))):Option Bool).bind fun g=>(if g=true then((QdD (⟨#[99,111,110,102,105,103]⟩:ByteArray) a (10:Int)).bind fun i=>(((some (inr (inr i)))).bind fun r=>some (inr r)))else(some (inl ())))))else(some (inl ()))))))):Option (Unit⊕(Int⊕(Unit⊕GErr)))).bind (Sum.elim (fun _=>(some (inl (i64.wrap (a+(1:Int)))))) some))else(some (inr (inl ()))))
noncomputable def QiC (a0:QaA):Option GErr:=
 ((((iter (QfI a0) (0:Int)).bind (Sum.elim (fun _=>(some (inl ()))) (fun(a:GErr)=>(((some a)).bind fun r=>some (inr r))))):Option (Unit⊕GErr)).bind (Sum.elim (fun _=>(some GErr.nil)) some))
def QpZ (a0:QaA) (a b c d:Value):GErr→Value→IM→HL→Prop:=
 fun(e:GErr) (v:Value) (M':IM) (H':HL)=>(GV e)=v∧H'=[]
theorem QsD (a0:QaA) (M:IM) (g i b j:Value) (N:RS QaD M g a0.Brokers) (O:RS QaG M i a0.Topics) (t:RS QaF M b a0.Configs) (P:RS QaI M j a0.Done) (res:GErr) (h:QiC a0=some res):
 Tri prog 26 #[(a27_ a0 g i b j)] M [] (QpZ a0 g i b j res):=by
 unfold QiC at h
 refine Te func26 Z Z ?_
 intro F ρ hρ
 refine Sr (We (box (cs:=(l27 a0 g i b j).toArray) (congrArg Value.cells (asE (a27_ a0 g i b j) (hρ 0)))) Z ?_)
 rintro _ _ _ - ⟨rfl,A,rfl,rfl⟩
 refine qa (GV GErr.nil) (Nt ?_)
 obtain ⟨e0,c5,h⟩:=bnd h
 refine WC.joinE (fun(_:Unit) ρ' M' H'=>M.le M'∧[(A, .cells (l27 a0 g i b j).toArray 27 (0,0))]::F=H') e0 ?_ ?_
 have b1:=h
 have h:=c5
 refine Sr (qu (pt A 2) (Fa Qc5 Z Z) (qu b (Lb 0 pl24 Z Z Z) (qu (Iv (a0.Configs.length:Int)) (lenS underlying24 Z t.len) (qm (Iv 0) (Nt (Bk ?_))))))
 obtain ⟨e9,c6,Q⟩:=bnd h
 clear h
 refine WC.loop c6 (fun(a:Int) ρ' M' H'=>M.le M'∧[(A, .cells (l27 a0 g i b j).toArray 27 (0,0))]::F=H'∧ρ' 1=(pt A 0)∧ρ' 9=b∧ρ' 10=(Iv (a0.Configs.length:Int))∧ρ' 11=(Iv a)) ?_ ?_
 exact⟨lr,Z,Z,Z,Z,Z⟩
 rintro a f0 f1 e1 f2 h ⟨k,rfl,l,m,e,c⟩
 unfold QfI at h
 refine Sr (qu (Bv (decide (a<(a0.Configs.length:Int)))) (lss c e) (Nt (Cs (Ch h Z (fun c7 h=> ?_) (fun c7 h=> ?_)))))
 refine Ck (Tc ?_)
 obtain ⟨e2,c8,h⟩:=bnd h
 refine WC.joinE (fun(_:Unit) ρ' M' H'=>e1.le M'∧[(A, .cells (l27 a0 g i b j).toArray 27 (0,0))]::F=H'∧ρ' 1=(pt A 0)∧ρ' 9=b∧ρ' 10=(Iv (a0.Configs.length:Int))∧ρ' 11=(Iv a)) e2 ?_ ?_
 have b2:=h
 have h:=c8
 refine Bk (Sr (qM (Iv a) c ?_))
 obtain ⟨K,h⟩:=QaQ h
 have t:=t.mono k
 obtain ⟨e3,e7,b3,b4,hhas33⟩:=t.at K.1 K.2 (by decide)
 obtain rfl:=Qa8 b4
 refine qu (.pointer (some e3)) (indexAddr (n:=a0.Configs.length) underlying24 sz76 m c K.1 K.2 b3) (qu (a76_ (rd a0.Configs a)) (loadMA (cs:=(l76 (rd a0.Configs a))) ag76 sz76 Z hhas33) (We (Al ze76 Z) Z ?_))
 rintro _ _ _ - ⟨rfl,y,rfl,rfl⟩
 refine qa (Iv a) (We (Sg (v:=(a76_ (rd a0.Configs a))) (vl:=(l76 (rd a0.Configs a))) (arr':=(l76 (rd a0.Configs a))) Z sz76 Z Z (onb Z) Z Z Z) Z ?_)
 rintro _ _ _ - ⟨rfl,rfl⟩
 refine Ns (qu (a27_ a0 g i b j) (La (cs:=(l27 a0 g i b j)) 1 ag27 sz27 l Z Z) (qu (pt y 0) (Fa QeF Z Z) (qu (Iv ((rd a0.Configs a).Topic)) (Lb 0 pl3 Z Z Z) ?_)))
 obtain ⟨⟨I,J⟩,c9,h⟩:=bnd h
 have N:=N.mono k
 have O:=O.mono k
 have P:=P.mono k
 refine We (Ca co73 (QtQ a0 ((rd a0.Configs a).Topic) _ _ _ _ _ N O t P (I,J) c9) (QaU Z Z)) Z ?_
 rintro _ e4 _ B ⟨_,⟨f,rfl,rfl,a2⟩,rfl⟩
 refine WL.a0 (qm (.tuple #[(a55_ I f),(Bv J)]) (qu (a55_ I f) (Xt Z Z) (qu (Bv J) (Xt Z Z) (We (Al ze55 Z) Z ?_))))
 rintro _ _ _ - ⟨rfl,d0,rfl,rfl⟩
 refine We (Sg (v:=(a55_ I f)) (vl:=(l55 I f)) (arr':=(l55 I f)) Z sz55 Z Z (QbG (Oc Z (Oc Z (Oc (RS.one a2) Oz)))) Z Z Z) Z ?_
 rintro _ _ _ - ⟨rfl,rfl⟩
 refine qa (Bv J) (Nt (Cs ?_))
 obtain ⟨b5,d1,h⟩:=bnd h
 refine Jf (fun(b5:Bool) ρ' M' H'=>e4.le M'∧[(d0, .cells (l55 I f).toArray 55 (0,0))]::[(y, .cells (l76 (rd a0.Configs a)).toArray 76 (0,0))]::[(A, .cells (l27 a0 g i b j).toArray 27 (0,0))]::F=H'∧ρ' 1=(pt A 0)∧ρ' 3=(Iv a)∧ρ' 4=(pt y 0)∧ρ' 9=b∧ρ' 10=(Iv (a0.Configs.length:Int))∧ρ' 11=(Iv a)∧ρ' 41=(Bv b5)) b5 ?_ ?_
 have h:=d1
 refine Cg (qu (pt y 0) (Fa QeF Z Z) (qu (Iv ((rd a0.Configs a).Topic)) (Lb 1 pl3 Z Z Z) (qu (Bv (decide (((rd a0.Configs a).Topic)≠0))) (neq Z Z) (qm (Bv (decide (((rd a0.Configs a).Topic)≠0))) ?_))))
 rcases Bi h with⟨E,h⟩ |⟨E,h⟩
 refine On 26 Z Z E (qm (Bv J) (qo 26 E (Bv (!J)) (PO.not Z) (qu (Bv (!J)) (Pt Z E Z) (qm (Bv (!J)) ?_))))
 rcases Bi h with⟨u,h⟩ |⟨u,h⟩
 iterate 4 refine Of 30 Z Z u Z ?_
 refine qu (Bv true) (Pt Z u Z) (qm (Bv true) ?_)
 iterate 4 refine Of 36 Z Z Z Z ?_
 refine qu (Bv true) (Pt Z Z Z) (Wz ?_)
 obtain rfl:=oi h
 exact Tj ⟨lr,Z,l,Z,Z,m,e,c,Z⟩
 refine qo 30 u (pt y 1) (Fa QfV Z Z) (qo 30 u (Sv ((rd a0.Configs a).Key)) (Lb 1 pl9 Z Z Z) (On 30 Z Z u ?_))
 obtain ⟨a3,d2,h⟩:=bnd h
 refine We (Ca co70 (QiJ ((rd a0.Configs a).Key) _ a3 d2) (QbK Z)) Z ?_
 rintro _ f3 _ R ⟨_,⟨rfl,rfl⟩,rfl⟩
 refine WL.a0 (qo 30 u (Bv (!a3)) (PO.not Z) (qu (Bv (!a3)) (Pf Z u Z) (qm (Bv (!a3)) ?_)))
 rcases Bi h with⟨w,h⟩ |⟨w,h⟩
 iterate 4 refine Of 36 Z Z w Z ?_
 refine qu (Bv true) (Pt Z w Z) (Wz ?_)
 obtain rfl:=oi h
 exact Tj ⟨R,Z,l,Z,Z,m,e,c,Z⟩
 refine qo 36 w (pt y 2) (Fa QfW Z Z) (qo 36 w (Sv ((rd a0.Configs a).Value)) (Lb 1 pl9 Z Z Z) (qo 36 w (Iv (((rd a0.Configs a).Value).size:Int)) (lenStr underlying9 Z) (qo 36 w (Bv (decide ((256:Int)<(((rd a0.Configs a).Value).size:Int)))) (gtr Z Z) (qu (Bv (decide ((256:Int)<(((rd a0.Configs a).Value).size:Int)))) (Pf Z w Z) (Wz ?_)))))
 obtain rfl:=oi h
 exact Tj ⟨R,Z,l,Z,Z,m,e,c,Z⟩
 iterate 2 refine Of 26 Z Z E Z ?_
 refine qu (Bv false) (Pf Z E Z) (qm (Bv false) (qo 30 Z (pt y 1) (Fa QfV Z Z) (qo 30 Z (Sv ((rd a0.Configs a).Key)) (Lb 1 pl9 Z Z Z) (On 30 Z Z Z ?_))))
 obtain ⟨a4,d3,h⟩:=bnd h
 refine We (Ca co70 (QiJ ((rd a0.Configs a).Key) _ a4 d3) (QbK Z)) Z ?_
 rintro _ f4 _ S ⟨_,⟨rfl,rfl⟩,rfl⟩
 refine WL.a0 (qo 30 Z (Bv (!a4)) (PO.not Z) (qu (Bv (!a4)) (Pf Z Z Z) (qm (Bv (!a4)) ?_)))
 rcases Bi h with⟨x,h⟩ |⟨x,h⟩
 iterate 4 refine Of 36 Z Z x Z ?_
 refine qu (Bv true) (Pt Z x Z) (Wz ?_)
 obtain rfl:=oi h
 exact Tj ⟨S,Z,l,Z,Z,m,e,c,Z⟩
 refine qo 36 x (pt y 2) (Fa QfW Z Z) (qo 36 x (Sv ((rd a0.Configs a).Value)) (Lb 1 pl9 Z Z Z) (qo 36 x (Iv (((rd a0.Configs a).Value).size:Int)) (lenStr underlying9 Z) (qo 36 x (Bv (decide ((256:Int)<(((rd a0.Configs a).Value).size:Int)))) (gtr Z Z) (qu (Bv (decide ((256:Int)<(((rd a0.Configs a).Value).size:Int)))) (Pf Z x Z) (Wz ?_)))))
 obtain rfl:=oi h
 exact Tj ⟨S,Z,l,Z,Z,m,e,c,Z⟩
 rintro f5 e5 f6 ⟨C,rfl,p,o,G,z,q,r,T⟩
 refine Ch h T (fun d4 h=> ?_) (fun d4 h=> ?_)
 refine Sr (qM (Iv a) o ?_)
 obtain ⟨b6,d5,h⟩:=bnd h
 refine We (Ca co27 (Qc0 ⟨#[99,111,110,102,105,103]⟩ a (2:Int) _ b6 d5) (QhR Z Z Z)) Z ?_
 rintro _ f7 _ b7 ⟨_,⟨rfl,rfl⟩,rfl⟩
 refine WL.a0 (qa (GV b6) (Nt (Cr (Tr (Br (Tr ?_))))))
 have h:=KK.early h b2
 refine WQ.leaveR (inr b6) (oi h).symm (fun D=> ?_)
 subst D
 have h:=(QdO Q)
 refine Br (Tr ?_)
 have h:=KK.early h b1
 exact Dr (Dr (Dr (Rf h [] Z (Rs Z Z) (((k.trans B).trans C).trans b7) ⟨Z,Z⟩)))
 refine Ck (Tc (Sr (qM (Iv a) o (qu (Bv (decide ((0:Int)<a))) (gtr Z Z) (Nt (Ch h Z (fun d6 h=> ?_) (fun d6 h=> ?_)))))))
 refine Sr (qu (pt A 2) (Fa Qc5 p Z) (qu b (Lb 2 pl24 Z Z Z) (qM (Iv a) o (qu (Iv (i64.wrap (a - 1))) (PO.sub Z Z) ?_))))
 obtain ⟨L,h⟩:=QaQ h
 have t:=t.mono (B.trans C)
 obtain ⟨e6,e8,b8,b9,hhas72⟩:=t.at L.1 L.2 (by decide)
 obtain rfl:=Qa8 b9
 refine qu (.pointer (some e6)) (indexAddr (n:=a0.Configs.length) underlying24 sz76 Z Z L.1 L.2 b8) (qu (a76_ (rd a0.Configs (i64.wrap (a - 1)))) (loadMA (cs:=(l76 (rd a0.Configs (i64.wrap (a - 1))))) ag76 sz76 Z hhas72) (We (Al ze76 Z) Z ?_))
 rintro _ _ _ - ⟨rfl,a5,rfl,rfl⟩
 refine We (Sg (v:=(a76_ (rd a0.Configs (i64.wrap (a - 1))))) (vl:=(l76 (rd a0.Configs (i64.wrap (a - 1))))) (arr':=(l76 (rd a0.Configs (i64.wrap (a - 1))))) Z sz76 Z Z (onb Z) Z Z Z) Z ?_
 rintro _ _ _ - ⟨rfl,rfl⟩
 refine Nt ?_
 obtain ⟨c0,d7,h⟩:=bnd h
 refine Jf (fun(c0:Bool) ρ' M' H'=>e5.le M'∧[(a5, .cells (l76 (rd a0.Configs (i64.wrap (a - 1)))).toArray 76 (0,0))]::[(d0, .cells (l55 I f).toArray 55 (0,0))]::[(y, .cells (l76 (rd a0.Configs a)).toArray 76 (0,0))]::[(A, .cells (l27 a0 g i b j).toArray 27 (0,0))]::F=H'∧ρ' 1=(pt A 0)∧ρ' 3=(Iv a)∧ρ' 9=b∧ρ' 10=(Iv (a0.Configs.length:Int))∧ρ' 11=(Iv a)∧ρ' 70=(Bv c0)) c0 ?_ ?_
 have h:=d7
 refine Cg (qu (pt a5 0) (Fa QeF Z Z) (qu (Iv ((rd a0.Configs (i64.wrap (a - 1))).Topic)) (Lb 0 pl3 Z Z Z) (qu (pt y 0) (Fa QeF G Z) (qu (Iv ((rd a0.Configs a).Topic)) (Lb 2 pl3 Z Z Z) (qu (Bv (decide (((rd a0.Configs a).Topic)<((rd a0.Configs (i64.wrap (a - 1))).Topic)))) (gtr Z Z) (qm (Bv (decide (((rd a0.Configs a).Topic)<((rd a0.Configs (i64.wrap (a - 1))).Topic)))) ?_))))))
 rcases Bi h with⟨d,h⟩ |⟨d,h⟩
 iterate 6 refine Of 57 Z Z d Z ?_
 refine WL.offU 63 Z Z Z (WL.offU 63 Z Z Z (WL.offU 63 Z Z Z (WL.offU 63 Z Z Z (WL.offU 63 Z Z Z (Of 57 Z Z d Z (qu (Bv true) (Pt Z d Z) (Wz ?_)))))))
 obtain rfl:=oi h
 exact Tj ⟨lr,Z,p,o,z,q,r,Z⟩
 refine qo 57 d (pt a5 0) (Fa QeF Z Z) (qo 57 d (Iv ((rd a0.Configs (i64.wrap (a - 1))).Topic)) (Lb 0 pl3 Z Z Z) (qo 57 d (pt y 0) (Fa QeF G Z) (qo 57 d (Iv ((rd a0.Configs a).Topic)) (Lb 2 pl3 Z Z Z) (qo 57 d (Bv (decide (((rd a0.Configs (i64.wrap (a - 1))).Topic)=((rd a0.Configs a).Topic)))) (eql Z Z) (On 57 Z Z d (qm (Bv (decide (((rd a0.Configs (i64.wrap (a - 1))).Topic)=((rd a0.Configs a).Topic)))) ?_))))))
 rcases Bi h with⟨s,h⟩ |⟨s,h⟩
 refine qo 63 s (pt a5 1) (Fa QfV Z Z) (qo 63 s (Sv ((rd a0.Configs (i64.wrap (a - 1))).Key)) (Lb 0 pl9 Z Z Z) (qo 63 s (pt y 1) (Fa QfV G Z) (qo 63 s (Sv ((rd a0.Configs a).Key)) (Lb 2 pl9 Z Z Z) (qo 63 s (Bv (!Op.bytesLess ((rd a0.Configs (i64.wrap (a - 1))).Key).toList ((rd a0.Configs a).Key).toList)) (sgeq Z Z) (qo 57 d (Bv (!Op.bytesLess ((rd a0.Configs (i64.wrap (a - 1))).Key).toList ((rd a0.Configs a).Key).toList)) (Pt Z s Z) (qu (Bv (!Op.bytesLess ((rd a0.Configs (i64.wrap (a - 1))).Key).toList ((rd a0.Configs a).Key).toList)) (Pf Z d Z) (Wz ?_)))))))
 obtain rfl:=oi h
 exact Tj ⟨lr,Z,p,o,z,q,r,Z⟩
 iterate 5 refine Of 63 Z Z s Z ?_
 refine qo 57 d (Bv false) (Pf Z s Z) (qu (Bv false) (Pf Z d Z) (Wz ?_))
 obtain rfl:=oi h
 exact Tj ⟨lr,Z,p,o,z,q,r,Z⟩
 rintro f8 f9 g0 ⟨U,rfl,a6,a7,a8,V,W,X⟩
 refine Ch h X (fun d8 h=> ?_) (fun d8 h=> ?_)
 refine Sr (qM (Iv a) a7 ?_)
 obtain ⟨c1,d9,h⟩:=bnd h
 refine We (Ca co27 (Qc0 ⟨#[99,111,110,102,105,103]⟩ a (10:Int) _ c1 d9) (QhR Z Z Z)) Z ?_
 rintro _ g1 _ c2 ⟨_,⟨rfl,rfl⟩,rfl⟩
 refine WL.a0 (qa (GV c1) (Nt (Cr (Br (Tr ?_)))))
 have h:=KK.early h b2
 refine WQ.leaveR (inr c1) (oi h).symm (fun D=> ?_)
 subst D
 have h:=(QdO Q)
 refine Br (Tr ?_)
 have h:=KK.early h b1
 exact Dr (Dr (Dr (Dr (Rf h [] Z (Rs Z Z) ((((k.trans B).trans C).trans U).trans c2) ⟨Z,Z⟩))))
 exact Ck (Bn (Dr (Dr (Dr (WQ.thenFE h ⟨((B.trans C).trans U),Z,a6,a8,V,W⟩)))))
 exact Ck (Bn (Dr (Dr (WQ.thenFE h ⟨(B.trans C),Z,p,z,q,r⟩))))
 rintro _ g2 g3 g4 rfl ⟨c3,rfl,a9,b0,Y,a1⟩
 have h:=(Sum.elim_inl _ _ _).symm.trans h
 exact Cg (qu (Iv (i64.wrap (a+1))) (add a1 Z) (qm (Iv (i64.wrap (a+1))) (Wz (WQ.again (i64.wrap (a+1)) (oi h).symm ⟨(k.trans c3),Z,a9,b0,Y,Z⟩))))
 refine WC.exit (WQ.thenE (WQ.leaveE (inl ()) (oi h).symm (fun D=> ?_)))
 subst D
 have h:=QeJ Q
 exact WQ.blockH (WQ.thenFE h ⟨k,Z⟩)
 rintro _ g5 g6 g7 rfl ⟨c4,rfl⟩
 have h:=(Sum.elim_inl _ _ _).symm.trans h
 exact Sr (qa (GV GErr.nil) (Nt (Cr (Dr (Rf h [] Z (Rs Z Z) c4 ⟨Z,Z⟩)))))
noncomputable def QfJ (a0:QaA) (s_:((List ((Int×Int)×Int))×Int)):Option (((List ((Int×Int)×Int))×Int)⊕(Unit⊕GErr)):=
 match s_ with
 |(b,a)=>
 (if(decide (a<(a0.Done.length:Int)))=true then(grd (0≤a∧a<a0.Done.length) (((if(decide (((rd a0.Done a).Client)<(1:Int)))=true then(some true)else(if(decide ((1073741824:Int)<((rd a0.Done a).Client)))=true then(some true)else(if(decide (((rd a0.Done a).Serial)<(1:Int)))=true then(some true)else(if(decide ((1073741824:Int)<((rd a0.Done a).Serial)))=true then(some true)else(if(decide (((rd a0.Done a).Code)<(0:Int)))=true then(some true)else(if(decide ((21:Int)<((rd a0.Done a).Code)))=true then(some true)else(some (decide ((1:Int)<(Qb1 (QeC b ((rd a0.Done a).Client,(rd a0.Done a).Serial) (i64.wrap ((Qb1 b ((rd a0.Done a).Client,(rd a0.Done a).Serial))+(1:Int)))) ((rd a0.Done a).Client,(rd a0.Done a).Serial))))))))))):Option Bool).bind fun c=>(if c=true then((QdD (⟨#[100,111,110,101]⟩:ByteArray) a (2:Int)).bind fun d=>(some (inr (inr d))))else(some (inl (QeC b ((rd a0.Done a).Client,(rd a0.Done a).Serial) (i64.wrap ((Qb1 b ((rd a0.Done a).Client,(rd a0.Done a).Serial))+(1:Int))),i64.wrap (a+(1:Int))))))))else(some (inr (inl ()))))
noncomputable def Qc9 (a0:QaA):Option GErr:=
 ((Qh8 a0).bind fun a=>(if(!a.isNil)=true then(some a)else((Qi8 a0).bind fun b=>(if(!b.isNil)=true then(some b)else((QiC a0).bind fun c=>(if(!c.isNil)=true then(some c)else(if(decide ((64:Int)<(a0.Done.length:Int)))=true then((QdD (⟨#[100,111,110,101]⟩:ByteArray) (a0.Done.length:Int) (6:Int)).bind fun d=>(some d))else((((iter (QfJ a0) (([]:List ((Int×Int)×Int)),(0:Int))).bind (Sum.elim (fun _=>(some (inl ()))) (fun(e:GErr)=>(((some e)).bind fun r=>some (inr r))))):Option (Unit⊕GErr)).bind (Sum.elim (fun _=>(some GErr.nil)) some)))))))))
def QsE (a0:QaA) (a b c d:Value):GErr→Value→IM→HL→Prop:=
 fun(e:GErr) (v:Value) (M':IM) (H':HL)=>(GV e)=v∧H'=[]
theorem QjB (a0:QaA) (M:IM) (i j l c:Value) (r:RS QaD M i a0.Brokers) (s:RS QaG M j a0.Topics) (t:RS QaF M l a0.Configs) (g:RS QaI M c a0.Done) (res:GErr) (h:Qc9 a0=some res):
 Tri prog 9 #[(a27_ a0 i j l c)] M [] (QsE a0 i j l c res):=by
 unfold Qc9 at h
 refine Te func9 Z Z ?_
 intro F ρ hρ
 refine Sr (We (box (cs:=(l27 a0 i j l c).toArray) (congrArg Value.cells (asE (a27_ a0 i j l c) (hρ 0)))) Z ?_)
 rintro _ _ _ - ⟨rfl,I,rfl,rfl⟩
 refine qa (GV GErr.nil) (Nt (Cs (Sr (qu (a27_ a0 i j l c) (La (cs:=(l27 a0 i j l c)) 0 ag27 sz27 Z Z Z) ?_))))
 obtain ⟨J,a8,h⟩:=bnd h
 refine We (Ca co24 (QsA a0 _ _ _ _ _ r s t g J a8) (QbK Z)) Z ?_
 rintro _ d7 _ m ⟨_,⟨rfl,rfl⟩,rfl⟩
 refine WL.a0 (qa (GV J) (Ns (qm (GV J) (qu (Bv (!J.isNil)) (errNotNil underlying32 Z) (Nt (Ch h Z (fun a9 h=> ?_) (fun a9 h=> ?_)))))))
 exact Sr (qm (GV J) (qa (GV J) (Nt (Cr (Tr (Dr (Rf h [] Z (Rs Z Z) m ⟨Z,Z⟩)))))))
 refine Ck (Tc (Cs (Sr (qu (a27_ a0 i j l c) (La (cs:=(l27 a0 i j l c)) 0 ag27 sz27 Z Z Z) ?_))))
 obtain ⟨K,b0,h⟩:=bnd h
 have r:=r.mono m
 have s:=s.mono m
 have t:=t.mono m
 have g:=g.mono m
 refine We (Ca co25 (QtO a0 _ _ _ _ _ r s t g K b0) (QbK Z)) Z ?_
 rintro _ d8 _ o ⟨_,⟨rfl,rfl⟩,rfl⟩
 refine WL.a0 (qa (GV K) (Ns (qm (GV K) (qu (Bv (!K.isNil)) (errNotNil underlying32 Z) (Nt (Ch h Z (fun b1 h=> ?_) (fun b1 h=> ?_)))))))
 exact Sr (qm (GV K) (qa (GV K) (Nt (Cr (Tr (Dr (Rf h [] Z (Rs Z Z) (m.trans o) ⟨Z,Z⟩)))))))
 refine Ck (Tc (Cs (Sr (qu (a27_ a0 i j l c) (La (cs:=(l27 a0 i j l c)) 0 ag27 sz27 Z Z Z) ?_))))
 obtain ⟨L,b2,h⟩:=bnd h
 have r:=r.mono o
 have s:=s.mono o
 have t:=t.mono o
 have g:=g.mono o
 refine We (Ca co26 (QsD a0 _ _ _ _ _ r s t g L b2) (QbK Z)) Z ?_
 rintro _ b3 _ N ⟨_,⟨rfl,rfl⟩,rfl⟩
 have T:=(m.trans o).trans N
 refine WL.a0 (qa (GV L) (Ns (qm (GV L) (qu (Bv (!L.isNil)) (errNotNil underlying32 Z) (Nt (Ch h Z (fun b4 h=> ?_) (fun b4 h=> ?_)))))))
 exact Sr (qm (GV L) (qa (GV L) (Nt (Cr (Tr (Dr (Rf h [] Z (Rs Z Z) T ⟨Z,Z⟩)))))))
 refine Ck (Tc (Cs (Sr (qu (pt I 3) (Fa QdW Z Z) (qu c (Lb 0 pl25 Z Z Z) ?_)))))
 have g:=g.mono N
 refine qu (Iv (a0.Done.length:Int)) (lenS underlying25 Z g.len) (qu (Bv (decide ((64:Int)<(a0.Done.length:Int)))) (gtr Z Z) (Nt (Ch h Z (fun b5 h=> ?_) (fun b5 h=> ?_))))
 refine Sr (qu (pt I 3) (Fa QdW Z Z) (qu c (Lb 0 pl25 Z Z Z) (qu (Iv (a0.Done.length:Int)) (lenS underlying25 Z g.len) ?_)))
 obtain ⟨b6,b7,h⟩:=bnd h
 refine We (Ca co27 (Qc0 ⟨#[100,111,110,101]⟩ (a0.Done.length:Int) (6:Int) _ b6 b7) (QhR Z Z Z)) Z ?_
 rintro _ d9 _ a1 ⟨_,⟨rfl,rfl⟩,rfl⟩
 exact WL.a0 (qa (GV b6) (Nt (Cr (Tr (Dr (Rf h [] Z (Rs Z Z) (T.trans a1) ⟨Z,Z⟩))))))
 refine Ck (Tc (Sr (We (makeMap maV) Z ?_)))
 rintro b8 _ _ - ⟨rfl,c7,rfl,c8⟩
 refine qa b8 (Nt ?_)
 obtain ⟨c9,b9,h⟩:=bnd h
 refine WC.joinE (fun(_:Unit) ρ' M' H'=>b3.le M'∧[(I, .cells (l27 a0 i j l c).toArray 27 (0,0))]::F=H') c9 ?_ ?_
 have c0:=h
 have h:=b9
 refine Sr (qu (pt I 3) (Fa QdW Z Z) (qu c (Lb 1 pl25 Z Z Z) (qu (Iv (a0.Done.length:Int)) (lenS underlying25 Z g.len) (qm (Iv 0) (Nt (Bk (WC.f1 ?_)))))))
 obtain ⟨e0,c1,X⟩:=bnd h
 clear h
 refine WC.loop c1 (fun(p_:((List ((Int×Int)×Int))×Int)) ρ' M' H'=>match p_ with |(q,a)=>∃ u O,b3.le M'∧[(I, .cells (l27 a0 i j l c).toArray 27 (0,0))]::O::F=H'∧ρ' 6=u∧ρ' 35=c∧ρ' 36=(Iv (a0.Done.length:Int))∧ρ' 37=(Iv a)∧OwnMp maV M' u q O) ?_ ?_
 exact⟨b8,c7,lr,Z,Z,Z,Z,Z,c8⟩
 rintro ⟨q,a⟩ e1 e2 d0 e3 h ⟨u,O,B,rfl,f,d,e,b,Y⟩
 unfold QfJ at h
 refine Sr (qu (Bv (decide (a<(a0.Done.length:Int)))) (lss b e) (Nt (Cs (Ch h Z (fun c2 h=> ?_) (fun c2 h=> ?_)))))
 refine Ck (Tc (Cs (Bk (Sr (qM (Iv a) b ?_)))))
 obtain ⟨G,h⟩:=QaQ h
 have g:=g.mono B
 obtain ⟨d1,d6,a2,a3,hhas60⟩:=g.at G.1 G.2 (by decide)
 obtain rfl:=Qb8 a3
 refine qu (.pointer (some d1)) (indexAddr (n:=a0.Done.length) underlying25 sz67 d b G.1 G.2 a2) (qu (a67_ (rd a0.Done a)) (loadMA (cs:=(l67 (rd a0.Done a))) ag67 sz67 Z hhas60) (We (Al ze67 Z) Z ?_))
 rintro _ _ _ - ⟨rfl,C,rfl,rfl⟩
 refine qa (Iv a) (We (Sg (v:=(a67_ (rd a0.Done a))) (vl:=(l67 (rd a0.Done a))) (arr':=(l67 (rd a0.Done a))) Z sz67 Z Z (onb Z) Z Z Z) Z ?_)
 rintro _ _ _ - ⟨rfl,rfl⟩
 refine Ns (qu (pt C 0) (Fa QrI Z Z) (qu (Iv ((rd a0.Done a).Client)) (Lb 0 pl3 Z Z Z) (qu (pt C 1) (Fa QpF Z Z) (qu (Iv ((rd a0.Done a).Serial)) (Lb 0 pl3 Z Z Z) (qu (.agg #[(Iv ((rd a0.Done a).Client)),(Iv ((rd a0.Done a).Serial))]) (buildAL (cl:=[(Iv ((rd a0.Done a).Client)),(Iv ((rd a0.Done a).Serial))]) ze68 underlying68 sz3 (Pc (Iv ((rd a0.Done a).Client)) Z Z (Pc (Iv ((rd a0.Done a).Serial)) Z Z Pz)) Z) (We (Al ze68 Z) Z ?_))))))
 rintro _ _ _ - ⟨rfl,d2,rfl,rfl⟩
 refine We (Sg (v:=(.agg #[(Iv ((rd a0.Done a).Client)),(Iv ((rd a0.Done a).Serial))])) (vl:=[(Iv ((rd a0.Done a).Client)),(Iv ((rd a0.Done a).Serial))]) (arr':=[(Iv ((rd a0.Done a).Client)),(Iv ((rd a0.Done a).Serial))]) Z sz68 Z Z (onb Z) Z Z Z) Z ?_
 rintro _ _ _ - ⟨rfl,rfl⟩
 refine Nt (Cs (WC.draw [0,0,3,7,3,19,63] (.pure 0 (.pure 1 (.pure 2 (.pure 3 (.alt 4 (.pure 5 (.alt 6 .done .none)) .none))))) QdC (by kernel_rfl) (qt u Z (Mv f) (qt (.agg #[(Iv ((rd a0.Done a).Client)),(Iv ((rd a0.Done a).Serial))]) Z (La (cs:=[(Iv ((rd a0.Done a).Client)),(Iv ((rd a0.Done a).Serial))]) 0 ag68 sz68 Z Z Z) (qt (Iv (Qb1 q ((rd a0.Done a).Client,(rd a0.Done a).Serial))) Z (lookup (val:=maV) (k:=((rd a0.Done a).Client,(rd a0.Done a).Serial)) 3 underlying65 (MKey.arr underlying68 underlying3 pl3 sz3) ze3 Z Z Z Y) (qt (Iv (i64.wrap ((Qb1 q ((rd a0.Done a).Client,(rd a0.Done a).Serial))+1))) Z (add Z Z) (WT.f3 (Ta Z (mapEntry (val:=maV) (k:=((rd a0.Done a).Client,(rd a0.Done a).Serial)) underlying65 (MKey.arr underlying68 underlying3 pl3 sz3) ze3 Z Z Y) Z ?_ ?_))))))))
 rintro _ _ _ - ⟨rfl,d3,e4,rfl,rfl,d4,d5⟩
 refine⟨(Ss Z (add Z Z) Z (Ss Z (lookup (val:=maV) (k:=((rd a0.Done a).Client,(rd a0.Done a).Serial)) 0 underlying65 (MKey.arr underlying68 underlying3 pl3 sz3) ze3 Z Z Z d4) Z (Sl Z))), ?_⟩
 refine qt (Iv d3) Z (Xt Z Z) (Ta Z (entryStore (val:=maV) (k:=((rd a0.Done a).Client,(rd a0.Done a).Serial)) Z Z Z d5) Z ?_ ?_)
 rintro _ _ _ - ⟨rfl,c3,rfl,U⟩
 refine⟨(Sl Z), ?_⟩
 refine Ti (Tc ?_)
 obtain ⟨a4,c4,h⟩:=bnd h
 refine Jf (fun(a4:Bool) ρ' M' H'=>d0.le M'∧[(d2, .cells #[(Iv ((rd a0.Done a).Client)),(Iv ((rd a0.Done a).Serial))] 68 (0,0))]::[(C, .cells (l67 (rd a0.Done a)).toArray 67 (0,0))]::[(I, .cells (l27 a0 i j l c).toArray 27 (0,0))]::c3::F=H'∧ρ' 6=u∧ρ' 7=(Iv a)∧ρ' 35=c∧ρ' 36=(Iv (a0.Done.length:Int))∧ρ' 37=(Iv a)∧ρ' 86=(Bv a4)) a4 ?_ ?_
 have h:=c4
 refine Cg (qu (pt C 0) (Fa QrI Z Z) (qu (Iv ((rd a0.Done a).Client)) (Lb 2 pl3 Z Z Z) (qu (Bv (decide (((rd a0.Done a).Client)<1))) (lss Z Z) (qm (Bv (decide (((rd a0.Done a).Client)<1))) ?_))))
 rcases Bi h with⟨w,h⟩ |⟨w,h⟩
 iterate 3 refine Of 56 Z Z w Z ?_
 refine qu (Bv true) (Pt Z w Z) (qm (Bv true) ?_)
 iterate 3 refine Of 61 Z Z Z Z ?_
 refine qu (Bv true) (Pt Z Z Z) (qm (Bv true) ?_)
 iterate 3 refine Of 66 Z Z Z Z ?_
 refine qu (Bv true) (Pt Z Z Z) (qm (Bv true) ?_)
 iterate 3 refine Of 71 Z Z Z Z ?_
 refine qu (Bv true) (Pt Z Z Z) (qm (Bv true) ?_)
 iterate 3 refine Of 76 Z Z Z Z ?_
 refine qu (Bv true) (Pt Z Z Z) (qm (Bv true) ?_)
 iterate 4 refine Of 81 Z Z Z Z ?_
 refine qu (Bv true) (Pt Z Z Z) (Wz (WQ.f3 (WQ.f3 (WQ.f3 ?_))))
 obtain rfl:=oi h
 exact Tj ⟨lr,Z,f,Z,d,e,b,Z⟩
 refine qo 56 w (pt C 0) (Fa QrI Z Z) (qo 56 w (Iv ((rd a0.Done a).Client)) (Lb 2 pl3 Z Z Z) (qo 56 w (Bv (decide ((1073741824:Int)<((rd a0.Done a).Client)))) (gtr Z Z) (qu (Bv (decide ((1073741824:Int)<((rd a0.Done a).Client)))) (Pf Z w Z) (qm (Bv (decide ((1073741824:Int)<((rd a0.Done a).Client)))) ?_))))
 rcases Bi h with⟨x,h⟩ |⟨x,h⟩
 iterate 3 refine Of 61 Z Z x Z ?_
 refine qu (Bv true) (Pt Z x Z) (qm (Bv true) ?_)
 iterate 3 refine Of 66 Z Z Z Z ?_
 refine qu (Bv true) (Pt Z Z Z) (qm (Bv true) ?_)
 iterate 3 refine Of 71 Z Z Z Z ?_
 refine qu (Bv true) (Pt Z Z Z) (qm (Bv true) ?_)
 iterate 3 refine Of 76 Z Z Z Z ?_
 refine qu (Bv true) (Pt Z Z Z) (qm (Bv true) ?_)
 iterate 4 refine Of 81 Z Z Z Z ?_
 refine qu (Bv true) (Pt Z Z Z) (Wz (WQ.f3 (WQ.f3 (WQ.f3 ?_))))
 obtain rfl:=oi h
 exact Tj ⟨lr,Z,f,Z,d,e,b,Z⟩
 refine qo 61 x (pt C 1) (Fa QpF Z Z) (qo 61 x (Iv ((rd a0.Done a).Serial)) (Lb 2 pl3 Z Z Z) (qo 61 x (Bv (decide (((rd a0.Done a).Serial)<1))) (lss Z Z) (qu (Bv (decide (((rd a0.Done a).Serial)<1))) (Pf Z x Z) (qm (Bv (decide (((rd a0.Done a).Serial)<1))) ?_))))
 rcases Bi h with⟨y,h⟩ |⟨y,h⟩
 iterate 3 refine Of 66 Z Z y Z ?_
 refine qu (Bv true) (Pt Z y Z) (qm (Bv true) ?_)
 iterate 3 refine Of 71 Z Z Z Z ?_
 refine qu (Bv true) (Pt Z Z Z) (qm (Bv true) ?_)
 iterate 3 refine Of 76 Z Z Z Z ?_
 refine qu (Bv true) (Pt Z Z Z) (qm (Bv true) ?_)
 iterate 4 refine Of 81 Z Z Z Z ?_
 refine qu (Bv true) (Pt Z Z Z) (Wz (WQ.f3 (WQ.f3 (WQ.f3 ?_))))
 obtain rfl:=oi h
 exact Tj ⟨lr,Z,f,Z,d,e,b,Z⟩
 refine qo 66 y (pt C 1) (Fa QpF Z Z) (qo 66 y (Iv ((rd a0.Done a).Serial)) (Lb 2 pl3 Z Z Z) (qo 66 y (Bv (decide ((1073741824:Int)<((rd a0.Done a).Serial)))) (gtr Z Z) (qu (Bv (decide ((1073741824:Int)<((rd a0.Done a).Serial)))) (Pf Z y Z) (qm (Bv (decide ((1073741824:Int)<((rd a0.Done a).Serial)))) ?_))))
 rcases Bi h with⟨z,h⟩ |⟨z,h⟩
 iterate 3 refine Of 71 Z Z z Z ?_
 refine qu (Bv true) (Pt Z z Z) (qm (Bv true) ?_)
 iterate 3 refine Of 76 Z Z Z Z ?_
 refine qu (Bv true) (Pt Z Z Z) (qm (Bv true) ?_)
 iterate 4 refine Of 81 Z Z Z Z ?_
 refine qu (Bv true) (Pt Z Z Z) (Wz (WQ.f3 (WQ.f3 (WQ.f3 ?_))))
 obtain rfl:=oi h
 exact Tj ⟨lr,Z,f,Z,d,e,b,Z⟩
 refine qo 71 z (pt C 2) (Fa Qs4 Z Z) (qo 71 z (Iv ((rd a0.Done a).Code)) (Lb 2 pl3 Z Z Z) (qo 71 z (Bv (decide (((rd a0.Done a).Code)<0))) (lss Z Z) (qu (Bv (decide (((rd a0.Done a).Code)<0))) (Pf Z z Z) (qm (Bv (decide (((rd a0.Done a).Code)<0))) ?_))))
 rcases Bi h with⟨A,h⟩ |⟨A,h⟩
 iterate 3 refine Of 76 Z Z A Z ?_
 refine qu (Bv true) (Pt Z A Z) (qm (Bv true) ?_)
 iterate 4 refine Of 81 Z Z Z Z ?_
 refine qu (Bv true) (Pt Z Z Z) (Wz (WQ.f3 (WQ.f3 (WQ.f3 ?_))))
 obtain rfl:=oi h
 exact Tj ⟨lr,Z,f,Z,d,e,b,Z⟩
 refine qo 76 A (pt C 2) (Fa Qs4 Z Z) (qo 76 A (Iv ((rd a0.Done a).Code)) (Lb 2 pl3 Z Z Z) (qo 76 A (Bv (decide ((21:Int)<((rd a0.Done a).Code)))) (gtr Z Z) (qu (Bv (decide ((21:Int)<((rd a0.Done a).Code)))) (Pf Z A Z) (qm (Bv (decide ((21:Int)<((rd a0.Done a).Code)))) ?_))))
 rcases Bi h with⟨p,h⟩ |⟨p,h⟩
 iterate 4 refine Of 81 Z Z p Z ?_
 refine qu (Bv true) (Pt Z p Z) (Wz (WQ.f3 (WQ.f3 (WQ.f3 ?_))))
 obtain rfl:=oi h
 exact Tj ⟨lr,Z,f,Z,d,e,b,Z⟩
 refine On 81 Z Z p (qM u f (qo 81 p (.agg #[(Iv ((rd a0.Done a).Client)),(Iv ((rd a0.Done a).Serial))]) (La (cs:=[(Iv ((rd a0.Done a).Client)),(Iv ((rd a0.Done a).Serial))]) 1 ag68 sz68 Z Z Z) (qo 81 p (Iv (Qb1 (QeC q ((rd a0.Done a).Client,(rd a0.Done a).Serial) (i64.wrap ((Qb1 q ((rd a0.Done a).Client,(rd a0.Done a).Serial))+1))) ((rd a0.Done a).Client,(rd a0.Done a).Serial))) (lookup (val:=maV) (k:=((rd a0.Done a).Client,(rd a0.Done a).Serial)) 0 underlying65 (MKey.arr underlying68 underlying3 pl3 sz3) ze3 Z Z Z U) (qo 81 p (Bv (decide ((1:Int)<(Qb1 (QeC q ((rd a0.Done a).Client,(rd a0.Done a).Serial) (i64.wrap ((Qb1 q ((rd a0.Done a).Client,(rd a0.Done a).Serial))+1))) ((rd a0.Done a).Client,(rd a0.Done a).Serial))))) (gtr Z Z) (qu (Bv (decide ((1:Int)<(Qb1 (QeC q ((rd a0.Done a).Client,(rd a0.Done a).Serial) (i64.wrap ((Qb1 q ((rd a0.Done a).Client,(rd a0.Done a).Serial))+1))) ((rd a0.Done a).Client,(rd a0.Done a).Serial))))) (Pf Z p Z) (Wz (WQ.f3 (WQ.f3 (WQ.f3 ?_)))))))))
 obtain rfl:=oi h
 exact Tj ⟨lr,Z,f,Z,d,e,b,Z⟩
 rintro e5 e6 e7 ⟨D,rfl,V,W,P,Q,R,S⟩
 refine Ch h S (fun c5 h=> ?_) (fun c5 h=> ?_)
 refine Sr (qM (Iv a) W ?_)
 obtain ⟨a5,c6,h⟩:=bnd h
 refine We (Ca co27 (Qc0 ⟨#[100,111,110,101]⟩ a (2:Int) _ a5 c6) (QhR Z Z Z)) Z ?_
 rintro _ e8 _ a6 ⟨_,⟨rfl,rfl⟩,rfl⟩
 refine WL.a0 (qa (GV a5) (Nt (Cr (Br (Tr (WQ.leaveR (inr a5) (oi h).symm (fun E=> ?_)))))))
 subst E
 have h:=(QdO X)
 refine Br (Tr ?_)
 have h:=KK.early h c0
 exact Dr (Dr (Dr (Dr (Rf h [] Z (Rs Z Z) (((T.trans B).trans D).trans a6) ⟨Z,Z⟩))))
 refine Ck (Bn (Tc (Cg (qu (Iv (i64.wrap (a+1))) (add R Z) (qm (Iv (i64.wrap (a+1))) (Wz (Dr (Dr (WQ.again (QeC q ((rd a0.Done a).Client,(rd a0.Done a).Serial) (i64.wrap ((Qb1 q ((rd a0.Done a).Client,(rd a0.Done a).Serial))+1)),i64.wrap (a+1)) (oi h).symm ?_)))))))))
 have U:=U.mono D
 exact⟨u,c3,(B.trans D),Z,V,P,Q,Z,U⟩
 exact Tz
 exact Tz
 refine WC.exit (WQ.thenE (WQ.leaveE (inl ()) (oi h).symm (fun E=> ?_)))
 subst E
 have h:=QeJ X
 exact WQ.blockH (Qa (Dr (WQ.thenFE h ⟨B,Z⟩)))
 rintro _ e9 f0 f2 rfl ⟨a7,rfl⟩
 have h:=(Sum.elim_inl _ _ _).symm.trans h
 exact Sr (qa (GV GErr.nil) (Nt (Cr (Dr (Rf h [] Z (Rs Z Z) (T.trans a7) ⟨Z,Z⟩)))))
noncomputable def Ql4 (a0:(List Int)) (a1:Int):Option (List Int):=
 (if(decide ((if(4611686018427387903:Int)<a1 then(4611686018427387903:Int)else a1)<(64:Int)))=true then(grd (a0.length+[u8.wrap (if(4611686018427387903:Int)<a1 then(4611686018427387903:Int)else a1)].length≤274877906944) (some (a0++[u8.wrap (if(4611686018427387903:Int)<a1 then(4611686018427387903:Int)else a1)])))else(if(decide ((if(4611686018427387903:Int)<a1 then(4611686018427387903:Int)else a1)<(16384:Int)))=true then(grd (a0.length+[orI .u8 (64:Int) (u8.wrap (shrI .u64 (if(4611686018427387903:Int)<a1 then(4611686018427387903:Int)else a1) (8:Int))),u8.wrap (if(4611686018427387903:Int)<a1 then(4611686018427387903:Int)else a1)].length≤274877906944) (some (a0++[orI .u8 (64:Int) (u8.wrap (shrI .u64 (if(4611686018427387903:Int)<a1 then(4611686018427387903:Int)else a1) (8:Int))),u8.wrap (if(4611686018427387903:Int)<a1 then(4611686018427387903:Int)else a1)])))else(if(decide ((if(4611686018427387903:Int)<a1 then(4611686018427387903:Int)else a1)<(1073741824:Int)))=true then(grd (a0.length+[orI .u8 (128:Int) (u8.wrap (shrI .u64 (if(4611686018427387903:Int)<a1 then(4611686018427387903:Int)else a1) (24:Int))),u8.wrap (shrI .u64 (if(4611686018427387903:Int)<a1 then(4611686018427387903:Int)else a1) (16:Int)),u8.wrap (shrI .u64 (if(4611686018427387903:Int)<a1 then(4611686018427387903:Int)else a1) (8:Int)),u8.wrap (if(4611686018427387903:Int)<a1 then(4611686018427387903:Int)else a1)].length≤274877906944) (some (a0++[orI .u8 (128:Int) (u8.wrap (shrI .u64 (if(4611686018427387903:Int)<a1 then(4611686018427387903:Int)else a1) (24:Int))),u8.wrap (shrI .u64 (if(4611686018427387903:Int)<a1 then(4611686018427387903:Int)else a1) (16:Int)),u8.wrap (shrI .u64 (if(4611686018427387903:Int)<a1 then(4611686018427387903:Int)else a1) (8:Int)),u8.wrap (if(4611686018427387903:Int)<a1 then(4611686018427387903:Int)else a1)])))else(grd (a0.length+[orI .u8 (192:Int) (u8.wrap (shrI .u64 (if(4611686018427387903:Int)<a1 then(4611686018427387903:Int)else a1) (56:Int))),u8.wrap (shrI .u64 (if(4611686018427387903:Int)<a1 then(4611686018427387903:Int)else a1) (48:Int)),u8.wrap (shrI .u64 (if(4611686018427387903:Int)<a1 then(4611686018427387903:Int)else a1) (40:Int)),u8.wrap (shrI .u64 (if(4611686018427387903:Int)<a1 then(4611686018427387903:Int)else a1) (32:Int)),u8.wrap (shrI .u64 (if(4611686018427387903:Int)<a1 then(4611686018427387903:Int)else a1) (24:Int)),u8.wrap (shrI .u64 (if(4611686018427387903:Int)<a1 then(4611686018427387903:Int)else a1) (16:Int)),u8.wrap (shrI .u64 (if(4611686018427387903:Int)<a1 then(4611686018427387903:Int)else a1) (8:Int)),u8.wrap (if(4611686018427387903:Int)<a1 then(4611686018427387903:Int)else a1)].length≤274877906944) (some (a0++[orI .u8 (192:Int) (u8.wrap (shrI .u64 (if(4611686018427387903:Int)<a1 then(4611686018427387903:Int)else a1) (56:Int))),u8.wrap (shrI .u64 (if(4611686018427387903:Int)<a1 then(4611686018427387903:Int)else a1) (48:Int)),u8.wrap (shrI .u64 (if(4611686018427387903:Int)<a1 then(4611686018427387903:Int)else a1) (40:Int)),u8.wrap (shrI .u64 (if(4611686018427387903:Int)<a1 then(4611686018427387903:Int)else a1) (32:Int)),u8.wrap (shrI .u64 (if(4611686018427387903:Int)<a1 then(4611686018427387903:Int)else a1) (24:Int)),u8.wrap (shrI .u64 (if(4611686018427387903:Int)<a1 then(4611686018427387903:Int)else a1) (16:Int)),u8.wrap (shrI .u64 (if(4611686018427387903:Int)<a1 then(4611686018427387903:Int)else a1) (8:Int)),u8.wrap (if(4611686018427387903:Int)<a1 then(4611686018427387903:Int)else a1)]))))))
def QuV (a0:(List Int)) (a1:Int) (d:Value):(List Int)→Value→IM→HL→Prop:=
 fun(c:(List Int)) (v:Value) (M':IM) (H':HL)=>∃ a b,a=v∧H'=[b]∧OwnS (Kd.int .u8) M' a c b
theorem Qw1 (a0:(List Int)) (a1:Int) (M:IM) (a:Value) (E:QaR) (v:OwnS (Kd.int .u8) M a a0 E) (res:(List Int)) (h:Ql4 a0 a1=some res):
 Tri prog 79 #[a,(Uv a1)] M [E] (QuV a0 a1 a res):=by
 unfold Ql4 at h
 refine Te func79 Z Z ?_
 intro F ρ hρ
 refine Sr (qa Zs (Ns (qM (Uv a1) (hρ 1) (qu (Uv (mn 4611686018427387903 a1)) (PO.min Z Z) (qa (Uv (mn 4611686018427387903 a1)) (Nt (Cs (Bk (Sr (qm (Uv (mn 4611686018427387903 a1)) (qu (Bv (decide ((mn 4611686018427387903 a1)<64))) (lss Z Z) ?_)))))))))))
 refine qa (Bv (decide ((mn 4611686018427387903 a1)<64))) (Nt (Ch h Z (fun b h=> ?_) (fun b h=> ?_)))
 refine Sr (qM a (hρ 0) (qm (Uv (mn 4611686018427387903 a1)) (qu (Yv (u8.wrap (mn 4611686018427387903 a1))) (conv Qn0 underlying5 Z) (We (buildSliceL (cl:=[(Yv (u8.wrap (mn 4611686018427387903 a1)))]) underlying38 iz5 Z (Pc (Yv (u8.wrap (mn 4611686018427387903 a1))) Z Z Pz) Z) Z ?_))))
 rintro _ _ _ - ⟨rfl,c,rfl,rfl⟩
 have w:OwnS (Kd.int .u8) M (.slice (some ⟨c,0,none⟩) 1 1) [u8.wrap (mn 4611686018427387903 a1)] [(c, .cells #[(Yv (u8.wrap (mn 4611686018427387903 a1)))] 5 (0,0))]:=OwnS.rows (css:=[[(Yv (u8.wrap (mn 4611686018427387903 a1)))]]) (Rows.cons Z Rows.nil) Z Z
 obtain ⟨d,h⟩:=QaQ h
 refine WL.f1 (We (append (dd:=(Kd.int .u8)) (xs:=a0) (ys:=[u8.wrap (mn 4611686018427387903 a1)]) underlying38 underlying38 in5 Z (appB (by decide) d) (by decide) Z Z v (w.src 1 Z)) Z ?_)
 rintro e _ _ - ⟨rfl,f,rfl,x⟩
 exact qa e (Nt (Cr (Br (Tr (Qa (Dr (Rf h [f] Z (Rs Z Z) lr ⟨e,f,Z,Z,x⟩)))))))
 refine Sr (qm (Uv (mn 4611686018427387903 a1)) (qu (Bv (decide ((mn 4611686018427387903 a1)<16384))) (lss Z Z) (qa (Bv (decide ((mn 4611686018427387903 a1)<16384))) (Nt (Ch h Z (fun g h=> ?_) (fun g h=> ?_))))))
 refine Sr (qM a (hρ 0) (qm (Uv (mn 4611686018427387903 a1)) (qu (Uv (shrI .u64 (mn 4611686018427387903 a1) (8:Int))) (shr Z Z (by decide)) (qu (Yv (u8.wrap (shrI .u64 (mn 4611686018427387903 a1) (8:Int)))) (conv Qn0 underlying5 Z) (qu (Yv (orI .u8 64 (u8.wrap (shrI .u64 (mn 4611686018427387903 a1) (8:Int))))) (PO.or Z Z) (qm (Uv (mn 4611686018427387903 a1)) (qu (Yv (u8.wrap (mn 4611686018427387903 a1))) (conv Qn0 underlying5 Z) (We (buildSliceL (cl:=[(Yv (orI .u8 64 (u8.wrap (shrI .u64 (mn 4611686018427387903 a1) (8:Int))))),(Yv (u8.wrap (mn 4611686018427387903 a1)))]) underlying38 iz5 Z (Pc (Yv (orI .u8 64 (u8.wrap (shrI .u64 (mn 4611686018427387903 a1) (8:Int))))) Z Z (Pc (Yv (u8.wrap (mn 4611686018427387903 a1))) Z Z Pz)) Z) Z ?_))))))))
 rintro _ _ _ - ⟨rfl,i,rfl,rfl⟩
 have y:OwnS (Kd.int .u8) M (.slice (some ⟨i,0,none⟩) 2 2) [orI .u8 64 (u8.wrap (shrI .u64 (mn 4611686018427387903 a1) (8:Int))),u8.wrap (mn 4611686018427387903 a1)] [(i, .cells #[(Yv (orI .u8 64 (u8.wrap (shrI .u64 (mn 4611686018427387903 a1) (8:Int))))),(Yv (u8.wrap (mn 4611686018427387903 a1)))] 5 (0,0))]:=OwnS.rows (css:=[[(Yv (orI .u8 64 (u8.wrap (shrI .u64 (mn 4611686018427387903 a1) (8:Int)))))],[(Yv (u8.wrap (mn 4611686018427387903 a1)))]]) (Rows.cons Z (Rows.cons Z Rows.nil)) Z Z
 obtain ⟨j,h⟩:=QaQ h
 refine WL.f1 (We (append (dd:=(Kd.int .u8)) (xs:=a0) (ys:=[orI .u8 64 (u8.wrap (shrI .u64 (mn 4611686018427387903 a1) (8:Int))),u8.wrap (mn 4611686018427387903 a1)]) underlying38 underlying38 in5 Z (appB (by decide) j) (by decide) Z Z v (y.src 1 Z)) Z ?_)
 rintro k _ _ - ⟨rfl,l,rfl,z⟩
 exact qa k (Nt (Cr (Br (Tr (Qa (Dr (Rf h [l] Z (Rs Z Z) lr ⟨k,l,Z,Z,z⟩)))))))
 refine Sr (qm (Uv (mn 4611686018427387903 a1)) (qu (Bv (decide ((mn 4611686018427387903 a1)<1073741824))) (lss Z Z) (qa (Bv (decide ((mn 4611686018427387903 a1)<1073741824))) (Nt (Ch h Z (fun m h=> ?_) (fun m h=> ?_))))))
 refine Sr (qM a (hρ 0) (qm (Uv (mn 4611686018427387903 a1)) (qu (Uv (shrI .u64 (mn 4611686018427387903 a1) (24:Int))) (shr Z Z (by decide)) (qu (Yv (u8.wrap (shrI .u64 (mn 4611686018427387903 a1) (24:Int)))) (conv Qn0 underlying5 Z) (qu (Yv (orI .u8 128 (u8.wrap (shrI .u64 (mn 4611686018427387903 a1) (24:Int))))) (PO.or Z Z) (qm (Uv (mn 4611686018427387903 a1)) (qu (Uv (shrI .u64 (mn 4611686018427387903 a1) (16:Int))) (shr Z Z (by decide)) (qu (Yv (u8.wrap (shrI .u64 (mn 4611686018427387903 a1) (16:Int)))) (conv Qn0 underlying5 Z) (qm (Uv (mn 4611686018427387903 a1)) (qu (Uv (shrI .u64 (mn 4611686018427387903 a1) (8:Int))) (shr Z Z (by decide)) (qu (Yv (u8.wrap (shrI .u64 (mn 4611686018427387903 a1) (8:Int)))) (conv Qn0 underlying5 Z) ?_)))))))))))
 refine qm (Uv (mn 4611686018427387903 a1)) (qu (Yv (u8.wrap (mn 4611686018427387903 a1))) (conv Qn0 underlying5 Z) (We (buildSliceL (cl:=[(Yv (orI .u8 128 (u8.wrap (shrI .u64 (mn 4611686018427387903 a1) (24:Int))))),(Yv (u8.wrap (shrI .u64 (mn 4611686018427387903 a1) (16:Int)))),(Yv (u8.wrap (shrI .u64 (mn 4611686018427387903 a1) (8:Int)))),(Yv (u8.wrap (mn 4611686018427387903 a1)))]) underlying38 iz5 Z (Pc (Yv (orI .u8 128 (u8.wrap (shrI .u64 (mn 4611686018427387903 a1) (24:Int))))) Z Z (Pc (Yv (u8.wrap (shrI .u64 (mn 4611686018427387903 a1) (16:Int)))) Z Z (Pc (Yv (u8.wrap (shrI .u64 (mn 4611686018427387903 a1) (8:Int)))) Z Z (Pc (Yv (u8.wrap (mn 4611686018427387903 a1))) Z Z Pz)))) Z) Z ?_))
 rintro _ _ _ - ⟨rfl,n,rfl,rfl⟩
 have A:OwnS (Kd.int .u8) M (.slice (some ⟨n,0,none⟩) 4 4) [orI .u8 128 (u8.wrap (shrI .u64 (mn 4611686018427387903 a1) (24:Int))),u8.wrap (shrI .u64 (mn 4611686018427387903 a1) (16:Int)),u8.wrap (shrI .u64 (mn 4611686018427387903 a1) (8:Int)),u8.wrap (mn 4611686018427387903 a1)] [(n, .cells #[(Yv (orI .u8 128 (u8.wrap (shrI .u64 (mn 4611686018427387903 a1) (24:Int))))),(Yv (u8.wrap (shrI .u64 (mn 4611686018427387903 a1) (16:Int)))),(Yv (u8.wrap (shrI .u64 (mn 4611686018427387903 a1) (8:Int)))),(Yv (u8.wrap (mn 4611686018427387903 a1)))] 5 (0,0))]:=OwnS.rows (css:=[[(Yv (orI .u8 128 (u8.wrap (shrI .u64 (mn 4611686018427387903 a1) (24:Int)))))],[(Yv (u8.wrap (shrI .u64 (mn 4611686018427387903 a1) (16:Int))))],[(Yv (u8.wrap (shrI .u64 (mn 4611686018427387903 a1) (8:Int))))],[(Yv (u8.wrap (mn 4611686018427387903 a1)))]]) (Rows.cons Z (Rows.cons Z (Rows.cons Z (Rows.cons Z Rows.nil)))) Z Z
 obtain ⟨o,h⟩:=QaQ h
 refine WL.f1 (We (append (dd:=(Kd.int .u8)) (xs:=a0) (ys:=[orI .u8 128 (u8.wrap (shrI .u64 (mn 4611686018427387903 a1) (24:Int))),u8.wrap (shrI .u64 (mn 4611686018427387903 a1) (16:Int)),u8.wrap (shrI .u64 (mn 4611686018427387903 a1) (8:Int)),u8.wrap (mn 4611686018427387903 a1)]) underlying38 underlying38 in5 Z (appB (by decide) o) (by decide) Z Z v (A.src 1 Z)) Z ?_)
 rintro p _ _ - ⟨rfl,q,rfl,B⟩
 exact qa p (Nt (Cr (Br (Tr (Qa (Dr (Rf h [q] Z (Rs Z Z) lr ⟨p,q,Z,Z,B⟩)))))))
 refine Ck (Bn (Tc (Sr (qM a (hρ 0) (qm (Uv (mn 4611686018427387903 a1)) (qu (Uv (shrI .u64 (mn 4611686018427387903 a1) (56:Int))) (shr Z Z (by decide)) (qu (Yv (u8.wrap (shrI .u64 (mn 4611686018427387903 a1) (56:Int)))) (conv Qn0 underlying5 Z) (qu (Yv (orI .u8 192 (u8.wrap (shrI .u64 (mn 4611686018427387903 a1) (56:Int))))) (PO.or Z Z) (qm (Uv (mn 4611686018427387903 a1)) (qu (Uv (shrI .u64 (mn 4611686018427387903 a1) (48:Int))) (shr Z Z (by decide)) (qu (Yv (u8.wrap (shrI .u64 (mn 4611686018427387903 a1) (48:Int)))) (conv Qn0 underlying5 Z) ?_)))))))))))
 refine qm (Uv (mn 4611686018427387903 a1)) (qu (Uv (shrI .u64 (mn 4611686018427387903 a1) (40:Int))) (shr Z Z (by decide)) (qu (Yv (u8.wrap (shrI .u64 (mn 4611686018427387903 a1) (40:Int)))) (conv Qn0 underlying5 Z) (qm (Uv (mn 4611686018427387903 a1)) (qu (Uv (shrI .u64 (mn 4611686018427387903 a1) (32:Int))) (shr Z Z (by decide)) (qu (Yv (u8.wrap (shrI .u64 (mn 4611686018427387903 a1) (32:Int)))) (conv Qn0 underlying5 Z) (qm (Uv (mn 4611686018427387903 a1)) (qu (Uv (shrI .u64 (mn 4611686018427387903 a1) (24:Int))) (shr Z Z (by decide)) (qu (Yv (u8.wrap (shrI .u64 (mn 4611686018427387903 a1) (24:Int)))) (conv Qn0 underlying5 Z) (qm (Uv (mn 4611686018427387903 a1)) (qu (Uv (shrI .u64 (mn 4611686018427387903 a1) (16:Int))) (shr Z Z (by decide)) (qu (Yv (u8.wrap (shrI .u64 (mn 4611686018427387903 a1) (16:Int)))) (conv Qn0 underlying5 Z) ?_)))))))))))
 refine qm (Uv (mn 4611686018427387903 a1)) (qu (Uv (shrI .u64 (mn 4611686018427387903 a1) (8:Int))) (shr Z Z (by decide)) (qu (Yv (u8.wrap (shrI .u64 (mn 4611686018427387903 a1) (8:Int)))) (conv Qn0 underlying5 Z) (qm (Uv (mn 4611686018427387903 a1)) (qu (Yv (u8.wrap (mn 4611686018427387903 a1))) (conv Qn0 underlying5 Z) (We (buildSliceL (cl:=[(Yv (orI .u8 192 (u8.wrap (shrI .u64 (mn 4611686018427387903 a1) (56:Int))))),(Yv (u8.wrap (shrI .u64 (mn 4611686018427387903 a1) (48:Int)))),(Yv (u8.wrap (shrI .u64 (mn 4611686018427387903 a1) (40:Int)))),(Yv (u8.wrap (shrI .u64 (mn 4611686018427387903 a1) (32:Int)))),(Yv (u8.wrap (shrI .u64 (mn 4611686018427387903 a1) (24:Int)))),(Yv (u8.wrap (shrI .u64 (mn 4611686018427387903 a1) (16:Int)))),(Yv (u8.wrap (shrI .u64 (mn 4611686018427387903 a1) (8:Int)))),(Yv (u8.wrap (mn 4611686018427387903 a1)))]) underlying38 iz5 Z (Pc (Yv (orI .u8 192 (u8.wrap (shrI .u64 (mn 4611686018427387903 a1) (56:Int))))) Z Z (Pc (Yv (u8.wrap (shrI .u64 (mn 4611686018427387903 a1) (48:Int)))) Z Z (Pc (Yv (u8.wrap (shrI .u64 (mn 4611686018427387903 a1) (40:Int)))) Z Z (Pc (Yv (u8.wrap (shrI .u64 (mn 4611686018427387903 a1) (32:Int)))) Z Z (Pc (Yv (u8.wrap (shrI .u64 (mn 4611686018427387903 a1) (24:Int)))) Z Z (Pc (Yv (u8.wrap (shrI .u64 (mn 4611686018427387903 a1) (16:Int)))) Z Z (Pc (Yv (u8.wrap (shrI .u64 (mn 4611686018427387903 a1) (8:Int)))) Z Z (Pc (Yv (u8.wrap (mn 4611686018427387903 a1))) Z Z Pz)))))))) Z) Z ?_)))))
 rintro _ _ _ - ⟨rfl,r,rfl,rfl⟩
 have C:OwnS (Kd.int .u8) M (.slice (some ⟨r,0,none⟩) 8 8) [orI .u8 192 (u8.wrap (shrI .u64 (mn 4611686018427387903 a1) (56:Int))),u8.wrap (shrI .u64 (mn 4611686018427387903 a1) (48:Int)),u8.wrap (shrI .u64 (mn 4611686018427387903 a1) (40:Int)),u8.wrap (shrI .u64 (mn 4611686018427387903 a1) (32:Int)),u8.wrap (shrI .u64 (mn 4611686018427387903 a1) (24:Int)),u8.wrap (shrI .u64 (mn 4611686018427387903 a1) (16:Int)),u8.wrap (shrI .u64 (mn 4611686018427387903 a1) (8:Int)),u8.wrap (mn 4611686018427387903 a1)] [(r, .cells #[(Yv (orI .u8 192 (u8.wrap (shrI .u64 (mn 4611686018427387903 a1) (56:Int))))),(Yv (u8.wrap (shrI .u64 (mn 4611686018427387903 a1) (48:Int)))),(Yv (u8.wrap (shrI .u64 (mn 4611686018427387903 a1) (40:Int)))),(Yv (u8.wrap (shrI .u64 (mn 4611686018427387903 a1) (32:Int)))),(Yv (u8.wrap (shrI .u64 (mn 4611686018427387903 a1) (24:Int)))),(Yv (u8.wrap (shrI .u64 (mn 4611686018427387903 a1) (16:Int)))),(Yv (u8.wrap (shrI .u64 (mn 4611686018427387903 a1) (8:Int)))),(Yv (u8.wrap (mn 4611686018427387903 a1)))] 5 (0,0))]:=OwnS.rows (css:=[[(Yv (orI .u8 192 (u8.wrap (shrI .u64 (mn 4611686018427387903 a1) (56:Int)))))],[(Yv (u8.wrap (shrI .u64 (mn 4611686018427387903 a1) (48:Int))))],[(Yv (u8.wrap (shrI .u64 (mn 4611686018427387903 a1) (40:Int))))],[(Yv (u8.wrap (shrI .u64 (mn 4611686018427387903 a1) (32:Int))))],[(Yv (u8.wrap (shrI .u64 (mn 4611686018427387903 a1) (24:Int))))],[(Yv (u8.wrap (shrI .u64 (mn 4611686018427387903 a1) (16:Int))))],[(Yv (u8.wrap (shrI .u64 (mn 4611686018427387903 a1) (8:Int))))],[(Yv (u8.wrap (mn 4611686018427387903 a1)))]]) (Rows.cons Z (Rows.cons Z (Rows.cons Z (Rows.cons Z (Rows.cons Z (Rows.cons Z (Rows.cons Z (Rows.cons Z Rows.nil)))))))) Z Z
 obtain ⟨s,h⟩:=QaQ h
 refine WL.f1 (We (append (dd:=(Kd.int .u8)) (xs:=a0) (ys:=[orI .u8 192 (u8.wrap (shrI .u64 (mn 4611686018427387903 a1) (56:Int))),u8.wrap (shrI .u64 (mn 4611686018427387903 a1) (48:Int)),u8.wrap (shrI .u64 (mn 4611686018427387903 a1) (40:Int)),u8.wrap (shrI .u64 (mn 4611686018427387903 a1) (32:Int)),u8.wrap (shrI .u64 (mn 4611686018427387903 a1) (24:Int)),u8.wrap (shrI .u64 (mn 4611686018427387903 a1) (16:Int)),u8.wrap (shrI .u64 (mn 4611686018427387903 a1) (8:Int)),u8.wrap (mn 4611686018427387903 a1)]) underlying38 underlying38 in5 Z (appB (by decide) s) (by decide) Z Z v (C.src 1 Z)) Z ?_)
 rintro t _ _ - ⟨rfl,u,rfl,D⟩
 exact qa t (Nt (Cr (Qa (Dr (Rf h [u] Z (Rs Z Z) lr ⟨t,u,Z,Z,D⟩)))))
noncomputable def QcG (a0:(List Int)) (a1:Int):Option (List Int):=
 ((Ql4 a0 (u64.wrap (if a1<(0:Int)then(0:Int)else a1))).bind fun a=>(some a))
def QuW (a0:(List Int)) (a1:Int) (d:Value):(List Int)→Value→IM→HL→Prop:=
 fun(c:(List Int)) (v:Value) (M':IM) (H':HL)=>∃ a b,a=v∧H'=[b]∧OwnS (Kd.int .u8) M' a c b
theorem Qa6 (a0:(List Int)) (a1:Int) (M:IM) (f:Value) (i:QaR) (j:OwnS (Kd.int .u8) M f a0 i) (res:(List Int)) (h:QcG a0 a1=some res):
 Tri prog 32 #[f,(Iv a1)] M [i] (QuW a0 a1 f res):=by
 unfold QcG at h
 refine Te func32 Z Z ?_
 intro F ρ hρ
 refine Sr (qa Zs (Ns (qM f (hρ 0) (qM (Iv a1) (hρ 1) (qu (Iv (if a1<0 then(0:Int)else a1)) (PO.max Z Z) (qu (Uv (u64.wrap (if a1<0 then(0:Int)else a1))) (conv us3 underlying128 Z) ?_))))))
 obtain ⟨g,d,h⟩:=bnd h
 refine We (Cb co79 (Qw1 a0 (u64.wrap (if a1<0 then(0:Int)else a1)) _ _ _ j g d) (QaU Z Z)) Z ?_
 rintro _ k _ c ⟨_,⟨a,b,rfl,rfl,e⟩,rfl⟩
 exact WL.a1 (qa a (Nt (Cr (Rf h [b] Z (Rs Z Z) c ⟨a,b,Z,Z,e⟩))))
noncomputable def QhK (a0:(List Int)) (a1:(List Int)):Option (List Int):=
 ((QcG a0 (a1.length:Int)).bind fun a=>(grd (a.length+a1.length≤274877906944) (some (a++a1))))
def QtR (a0:(List Int)) (a1:(List Int)) (d e:Value):(List Int)→Value→IM→HL→Prop:=
 fun(c:(List Int)) (v:Value) (M':IM) (H':HL)=>∃ a b,a=v∧H'=[b]∧OwnS (Kd.int .u8) M' a c b
theorem QbC (a0:(List Int)) (a1:(List Int)) (M:IM) (j b:Value) (m:QaR) (p:OwnS (Kd.int .u8) M j a0 m) (k:RS (Kd.int .u8) M b a1) (res:(List Int)) (h:QhK a0 a1=some res):
 Tri prog 33 #[j,b] M [m] (QtR a0 a1 j b res):=by
 unfold QhK at h
 refine Te func33 Z Z ?_
 intro F ρ hρ
 refine Sr (qa Zs (Ns (qM j (hρ 0) (qM b (hρ 1) (qu (Iv (a1.length:Int)) (lenS underlying38 Z k.len) ?_)))))
 obtain ⟨c,d,h⟩:=bnd h
 refine We (Cb co32 (Qa6 a0 (a1.length:Int) _ _ _ p c d) (QaU Z Z)) Z ?_
 rintro _ q _ a ⟨_,⟨n,o,rfl,rfl,e⟩,rfl⟩
 refine WL.a1 (qM b (hρ 1) ?_)
 obtain ⟨f,h⟩:=QaQ h
 have k:=k.mono a
 refine We (append (dd:=(Kd.int .u8)) (xs:=c) (ys:=a1) underlying38 underlying38 in5 Z (appB (by decide) f) (by decide) Z Z e (k.src _)) Z ?_
 rintro g _ _ - ⟨rfl,i,rfl,l⟩
 exact qa g (Nt (Cr (Rf h [i] Z (Rs Z Z) a ⟨g,i,Z,Z,l⟩)))
noncomputable def QjW (a0:(List Int)) (a1:Bool):Option (List Int):=
 (if a1=true then(grd (a0.length+[(1:Int)].length≤274877906944) (some (a0++[(1:Int)])))else(grd (a0.length+[(0:Int)].length≤274877906944) (some (a0++[(0:Int)]))))
def QtS (a0:(List Int)) (a1:Bool) (d:Value):(List Int)→Value→IM→HL→Prop:=
 fun(c:(List Int)) (v:Value) (M':IM) (H':HL)=>∃ a b,a=v∧H'=[b]∧OwnS (Kd.int .u8) M' a c b
theorem QpB (a0:(List Int)) (a1:Bool) (M:IM) (a:Value) (p:QaR) (q:OwnS (Kd.int .u8) M a a0 p) (res:(List Int)) (h:QjW a0 a1=some res):
 Tri prog 34 #[a,(Bv a1)] M [p] (QtS a0 a1 a res):=by
 unfold QjW at h
 refine Te func34 Z Z ?_
 intro F ρ hρ
 refine Sr (qa Zs (Nt (Cs (Sr (qM (Bv a1) (hρ 1) (Nt (Ch h Z (fun b h=> ?_) (fun b h=> ?_))))))))
 refine Sr (qM a (hρ 0) (We (buildSliceL (cl:=[(Yv 1)]) underlying38 iz5 Z (Pc (Yv 1) Z Z Pz) Z) Z ?_))
 rintro _ _ _ - ⟨rfl,c,rfl,rfl⟩
 have l:OwnS (Kd.int .u8) M (.slice (some ⟨c,0,none⟩) 1 1) [(1:Int)] [(c, .cells #[(Yv 1)] 5 (0,0))]:=OwnS.rows (css:=[[(Yv 1)]]) (Rows.cons Z Rows.nil) Z Z
 obtain ⟨d,h⟩:=QaQ h
 refine WL.f1 (We (append (dd:=(Kd.int .u8)) (xs:=a0) (ys:=[(1:Int)]) underlying38 underlying38 in5 Z (appB (by decide) d) (by decide) Z Z q (l.src 1 Z)) Z ?_)
 rintro e _ _ - ⟨rfl,f,rfl,m⟩
 exact qa e (Nt (Cr (Tr (Qa (Dr (Rf h [f] Z (Rs Z Z) lr ⟨e,f,Z,Z,m⟩))))))
 refine Ck (Tc (Sr (qM a (hρ 0) (We (buildSliceL (cl:=[(Yv 0)]) underlying38 iz5 Z (Pc (Yv 0) Z Z Pz) Z) Z ?_))))
 rintro _ _ _ - ⟨rfl,g,rfl,rfl⟩
 have n:OwnS (Kd.int .u8) M (.slice (some ⟨g,0,none⟩) 1 1) [(0:Int)] [(g, .cells #[(Yv 0)] 5 (0,0))]:=OwnS.rows (css:=[[(Yv 0)]]) (Rows.cons Z Rows.nil) Z Z
 obtain ⟨i,h⟩:=QaQ h
 refine WL.f1 (We (append (dd:=(Kd.int .u8)) (xs:=a0) (ys:=[(0:Int)]) underlying38 underlying38 in5 Z (appB (by decide) i) (by decide) Z Z q (n.src 1 Z)) Z ?_)
 rintro j _ _ - ⟨rfl,k,rfl,o⟩
 exact qa j (Nt (Cr (Qa (Dr (Rf h [k] Z (Rs Z Z) lr ⟨j,k,Z,Z,o⟩)))))
noncomputable def QhZ (a1:(List Int)) (s_:((List Int)×Int)):Option (((List Int)×Int)⊕(List Int)):=
 match s_ with
 |(b,a)=>
 (if(decide (a<(a1.length:Int)))=true then(grd (0≤a∧a<a1.length) ((QcG b (rd a1 a)).bind fun c=>(some (inl (c,i64.wrap (a+(1:Int)))))))else(some (inr b)))
noncomputable def QiT (a0:(List Int)) (a1:(List Int)):Option (List Int):=
 ((QcG a0 (a1.length:Int)).bind fun a=>((((iter (QhZ a1) (a,(0:Int))).bind (fun(b:(List Int))=>(some b))):Option (List Int)).bind fun c=>(some c)))
def QuX (a0:(List Int)) (a1:(List Int)) (d e:Value):(List Int)→Value→IM→HL→Prop:=
 fun(c:(List Int)) (v:Value) (M':IM) (H':HL)=>∃ a b,a=v∧H'=[b]∧OwnS (Kd.int .u8) M' a c b
theorem Qk6 (a0:(List Int)) (a1:(List Int)) (M:IM) (R A:Value) (U:QaR) (W:OwnS (Kd.int .u8) M R a0 U) (t:RS (Kd.int .i64) M A a1) (res:(List Int)) (h:QiT a0 a1=some res):
 Tri prog 35 #[R,A] M [U] (QuX a0 a1 R A res):=by
 unfold QiT at h
 refine Te func35 Z Z ?_
 intro F ρ hρ
 refine Sr (qa Zs (Ns (qM R (hρ 0) (qM A (hρ 1) (qu (Iv (a1.length:Int)) (lenS underlying56 Z t.len) ?_)))))
 obtain ⟨S,B,h⟩:=bnd h
 refine We (Cb co32 (Qa6 a0 (a1.length:Int) _ _ _ W S B) (QaU Z Z)) Z ?_
 rintro _ C _ m ⟨_,⟨q,D,rfl,rfl,E⟩,rfl⟩
 refine WL.a1 (qa q (Nt ?_))
 obtain ⟨u,G,h⟩:=bnd h
 refine Jf (fun(u:(List Int)) ρ' M' H'=>∃ c d,C.le M'∧d::F=H'∧ρ' 0=c∧OwnS (Kd.int .u8) M' c u d) u ?_ ?_
 have h:=G
 refine Sr (qM A (hρ 1) ?_)
 have t:=t.mono m
 refine qu (Iv (a1.length:Int)) (lenS underlying56 Z t.len) (qm (Iv 0) (Nt (Bk ?_)))
 obtain ⟨X,I,J⟩:=bnd h
 clear h
 refine WC.loop I (fun(p_:((List Int)×Int)) ρ' M' H'=>match p_ with |(o,b)=>∃ e j,C.le M'∧j::F=H'∧ρ' 0=e∧ρ' 11=A∧ρ' 12=(Iv (a1.length:Int))∧ρ' 13=(Iv b)∧OwnS (Kd.int .u8) M' e o j) ?_ ?_
 exact⟨q,D,lr,Z,Z,Z,Z,Z,E⟩
 rintro ⟨o,b⟩ Y a2 a3 a4 h ⟨e,j,i,rfl,k,f,g,a,r⟩
 unfold QhZ at h
 refine Sr (qu (Bv (decide (b<(a1.length:Int)))) (lss a g) (Nt (Cs (Ch h Z (fun K h=> ?_) (fun K h=> ?_)))))
 refine Ck (Tc (Cs (Bk (Sr ?_))))
 obtain ⟨l,h⟩:=QaQ h
 have t:=t.mono i
 obtain ⟨T,V,v,w,hhas38⟩:=t.at l.1 l.2 (by decide)
 obtain rfl:=w
 refine qu (.pointer (some T)) (indexAddr (n:=a1.length) underlying56 sz3 f a l.1 l.2 v) (qu (Iv (rd a1 b)) (loadM pl3 Z (IM.has0 hhas38)) (qa (Iv (rd a1 b)) (Nt (Cg (qM e k (qm (Iv (rd a1 b)) ?_))))))
 obtain ⟨L,N,h⟩:=bnd h
 refine We (Cb co32 (Qa6 o (rd a1 b) _ _ _ r L N) (QaU Z Z)) Z ?_
 rintro _ a5 _ x ⟨_,⟨s,O,rfl,rfl,P⟩,rfl⟩
 exact WL.a1 (qa s (Wz (Bn (Tc (Cg (qu (Iv (i64.wrap (b+1))) (add a Z) (qm (Iv (i64.wrap (b+1))) (Wz (WQ.again (L,i64.wrap (b+1)) (oi h).symm ⟨s,O,(i.trans x),Z,Z,f,g,Z,P⟩)))))))))
 refine WC.exit (WQ.thenE (WQ.leaveE o (oi h).symm (fun y=> ?_)))
 subst y
 have h:=J
 refine WQ.blockH ?_
 obtain rfl:=oi h
 exact Tj ⟨e,j,i,Z,k,r⟩
 rintro a6 a7 a8 ⟨c,d,z,rfl,p,Q⟩
 exact Sr (qM c p (qa c (Nt (Cr (Rf h [d] Z (Rs Z Z) (m.trans z) ⟨c,d,Z,Z,Q⟩)))))

end Go.Proofs.YtpcbipcdfccnnaaGreatDoor.G
