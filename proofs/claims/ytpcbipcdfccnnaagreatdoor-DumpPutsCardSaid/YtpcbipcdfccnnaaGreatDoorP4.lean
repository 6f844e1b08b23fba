/- Go functions: what they come to, and that they do. Printed by a program of the session (gen). -/
import Derived.Test.YtpcbipcdfccnnaaGreatDoorPF
import Derived.Test.YtpcbipcdfccnnaaGreatDoorP3
import Derived.Test.YtpcbipcdfccnnaaGreatDoorKShar2
import Derived.Test.YtpcbipcdfccnnaaGreatDoorKConv
import Derived.Test.YtpcbipcdfccnnaaGreatDoorKMap
import Derived.Test.YtpcbipcdfccnnaaGreatDoorKTight2
set_option linter.unusedVariables false
set_option linter.unusedSimpArgs false
set_option maxHeartbeats 8000000
set_option maxRecDepth 100000
namespace Go.Proofs.YtpcbipcdfccnnaaGreatDoor.G
open Go Go.KK
open PO EO IntKind Sum Tryz

noncomputable def QfH (a0:QaA) (s_:(Int×Int)):Option ((Int×Int)⊕(Unit⊕GErr)):=
 match s_ with
 |(b,a)=>
 (if(decide (a<(a0.Brokers.length:Int)))=true then(grd (0≤a∧a<a0.Brokers.length) (((if(decide (((rd a0.Brokers a).Id)≤b))=true then(some true)else(if(decide ((64:Int)<((rd a0.Brokers a).Id)))=true then(some true)else(if(decide (((rd a0.Brokers a).Epoch)<(0:Int)))=true then(some true)else(if(decide ((1073741824:Int)<((rd a0.Brokers a).Epoch)))=true then(some true)else((QeW ((rd a0.Brokers a).Rack)).bind fun c=>(some (!c))))))):Option Bool).bind fun d=>(if d=true then((QdD (⟨#[98,114,111,107,101,114]⟩:ByteArray) a (2:Int)).bind fun e=>(some (inr (inr e))))else(((if((rd a0.Brokers a).Fenced)=true then(if((rd a0.Brokers a).Leaving)=true then((Qi7 a0 ((rd a0.Brokers a).Id)).bind fun f=>(some f))else(some false))else(some false)):Option Bool).bind fun g=>(if g=true then((QdD (⟨#[98,114,111,107,101,114]⟩:ByteArray) a (10:Int)).bind fun i=>(some (inr (inr i))))else(some (inl ((rd a0.Brokers a).Id,i64.wrap (a+(1:Int))))))))))else(some (inr (inl ()))))
noncomputable def Qh8 (a0:QaA):Option GErr:=
 ((((iter (QfH a0) ((0:Int),(0:Int))).bind (Sum.elim (fun _=>(some (inl ()))) (fun(a:GErr)=>(((some a)).bind fun r=>some (inr r))))):Option (Unit⊕GErr)).bind (Sum.elim (fun _=>(some GErr.nil)) some))
def QpU (a0:QaA) (a b c d:Value):GErr→Value→IM→HL→Prop:=
 fun(e:GErr) (v:Value) (M':IM) (H':HL)=>(GV e)=v∧H'=[]
theorem QsA (a0:QaA) (M:IM) (b d e f:Value) (t:RS QaD M b a0.Brokers) (G:RS QaG M d a0.Topics) (I:RS QaF M e a0.Configs) (J:RS QaI M f a0.Done) (res:GErr) (h:Qh8 a0=some res):
 Tri prog 24 #[(a27_ a0 b d e f)] M [] (QpU a0 b d e f res):=by
 unfold Qh8 at h
 refine Te func24 Z Z ?_
 intro F ρ hρ
 refine Sr (We (box (cs:=(l27 a0 b d e f).toArray) (congrArg Value.cells (asE (a27_ a0 b d e f) (hρ 0)))) Z ?_)
 rintro _ _ _ - ⟨rfl,D,rfl,rfl⟩
 refine qa (GV GErr.nil) (Ns (qa (Iv 0) (Nt ?_)))
 obtain ⟨c4,b3,h⟩:=bnd h
 refine WC.joinE (fun(_:Unit) ρ' M' H'=>M.le M'∧[(D, .cells (l27 a0 b d e f).toArray 27 (0,0))]::F=H') c4 ?_ ?_
 have Y:=h
 have h:=b3
 refine Sr (qu (pt D 0) (Fa QdN Z Z) (qu b (Lb 0 pl22 Z Z Z) (qu (Iv (a0.Brokers.length:Int)) (lenS underlying22 Z t.len) (qm (Iv 0) (Nt (Bk ?_))))))
 obtain ⟨c9,b4,K⟩:=bnd h
 clear h
 refine WC.loop b4 (fun(p_:(Int×Int)) ρ' M' H'=>match p_ with |(L,a)=>M.le M'∧[(D, .cells (l27 a0 b d e f).toArray 27 (0,0))]::F=H'∧ρ' 1=(pt D 0)∧ρ' 3=(Iv L)∧ρ' 7=b∧ρ' 8=(Iv (a0.Brokers.length:Int))∧ρ' 9=(Iv a)) ?_ ?_
 exact⟨lr,Z,Z,Z,Z,Z,Z⟩
 rintro ⟨L,a⟩ d0 d1 c5 d2 h ⟨g,rfl,m,Q,i,j,c⟩
 unfold QfH at h
 refine Sr (qu (Bv (decide (a<(a0.Brokers.length:Int)))) (lss c j) (Nt (Cs (Ch h Z (fun b5 h=> ?_) (fun b5 h=> ?_)))))
 refine Ck (Tc (Cs (Bk (Sr (qM (Iv a) c ?_)))))
 obtain ⟨E,h⟩:=QaQ h
 have t:=t.mono g
 obtain ⟨c6,c8,a1,a2,hhas33⟩:=t.at E.1 E.2 (by decide)
 obtain rfl:=Qa2 a2
 refine qu (.pointer (some c6)) (indexAddr (n:=a0.Brokers.length) underlying22 sz71 i c E.1 E.2 a1) (qu (a71_ (rd a0.Brokers a)) (loadMA (cs:=(l71 (rd a0.Brokers a))) ag71 sz71 Z hhas33) (We (Al ze71 Z) Z ?_))
 rintro _ _ _ - ⟨rfl,o,rfl,rfl⟩
 refine qa (Iv a) (We (Sg (v:=(a71_ (rd a0.Brokers a))) (vl:=(l71 (rd a0.Brokers a))) (arr':=(l71 (rd a0.Brokers a))) Z sz71 Z Z (onb Z) Z Z Z) Z ?_)
 rintro _ _ _ - ⟨rfl,rfl⟩
 refine Nt (Cs (Bk ?_))
 obtain ⟨a3,b6,h⟩:=bnd h
 refine Jf (fun(a3:Bool) ρ' M' H'=>c5.le M'∧[(o, .cells (l71 (rd a0.Brokers a)).toArray 71 (0,0))]::[(D, .cells (l27 a0 b d e f).toArray 27 (0,0))]::F=H'∧ρ' 1=(pt D 0)∧ρ' 4=(Iv a)∧ρ' 5=(pt o 0)∧ρ' 7=b∧ρ' 8=(Iv (a0.Brokers.length:Int))∧ρ' 9=(Iv a)∧ρ' 14=(Bv a3)) a3 ?_ ?_
 have h:=b6
 refine Cg (qu (pt o 0) (Fa QhQ Z Z) (qu (Iv ((rd a0.Brokers a).Id)) (Lb 0 pl3 Z Z Z) (qM (Iv L) Q (qu (Bv (decide (((rd a0.Brokers a).Id)≤L))) (leq Z Z) (qm (Bv (decide (((rd a0.Brokers a).Id)≤L))) ?_)))))
 rcases Bi h with⟨u,h⟩ |⟨u,h⟩
 iterate 3 refine Of 19 Z Z u Z ?_
 refine qu (Bv true) (Pt Z u Z) (qm (Bv true) ?_)
 iterate 3 refine Of 24 Z Z Z Z ?_
 refine qu (Bv true) (Pt Z Z Z) (qm (Bv true) ?_)
 iterate 3 refine Of 29 Z Z Z Z ?_
 refine qu (Bv true) (Pt Z Z Z) (qm (Bv true) ?_)
 iterate 4 refine Of 34 Z Z Z Z ?_
 refine qu (Bv true) (Pt Z Z Z) (qa (Bv true) (Wz ?_))
 obtain rfl:=oi h
 exact Tj ⟨lr,Z,m,Z,Z,i,j,c,Z⟩
 refine qo 19 u (pt o 0) (Fa QhQ Z Z) (qo 19 u (Iv ((rd a0.Brokers a).Id)) (Lb 0 pl3 Z Z Z) (qo 19 u (Bv (decide ((64:Int)<((rd a0.Brokers a).Id)))) (gtr Z Z) (qu (Bv (decide ((64:Int)<((rd a0.Brokers a).Id)))) (Pf Z u Z) (qm (Bv (decide ((64:Int)<((rd a0.Brokers a).Id)))) ?_))))
 rcases Bi h with⟨w,h⟩ |⟨w,h⟩
 iterate 3 refine Of 24 Z Z w Z ?_
 refine qu (Bv true) (Pt Z w Z) (qm (Bv true) ?_)
 iterate 3 refine Of 29 Z Z Z Z ?_
 refine qu (Bv true) (Pt Z Z Z) (qm (Bv true) ?_)
 iterate 4 refine Of 34 Z Z Z Z ?_
 refine qu (Bv true) (Pt Z Z Z) (qa (Bv true) (Wz ?_))
 obtain rfl:=oi h
 exact Tj ⟨lr,Z,m,Z,Z,i,j,c,Z⟩
 refine qo 24 w (pt o 1) (Fa QmU Z Z) (qo 24 w (Iv ((rd a0.Brokers a).Epoch)) (Lb 0 pl3 Z Z Z) (qo 24 w (Bv (decide (((rd a0.Brokers a).Epoch)<0))) (lss Z Z) (qu (Bv (decide (((rd a0.Brokers a).Epoch)<0))) (Pf Z w Z) (qm (Bv (decide (((rd a0.Brokers a).Epoch)<0))) ?_))))
 rcases Bi h with⟨x,h⟩ |⟨x,h⟩
 iterate 3 refine Of 29 Z Z x Z ?_
 refine qu (Bv true) (Pt Z x Z) (qm (Bv true) ?_)
 iterate 4 refine Of 34 Z Z Z Z ?_
 refine qu (Bv true) (Pt Z Z Z) (qa (Bv true) (Wz ?_))
 obtain rfl:=oi h
 exact Tj ⟨lr,Z,m,Z,Z,i,j,c,Z⟩
 refine qo 29 x (pt o 1) (Fa QmU Z Z) (qo 29 x (Iv ((rd a0.Brokers a).Epoch)) (Lb 0 pl3 Z Z Z) (qo 29 x (Bv (decide ((1073741824:Int)<((rd a0.Brokers a).Epoch)))) (gtr Z Z) (qu (Bv (decide ((1073741824:Int)<((rd a0.Brokers a).Epoch)))) (Pf Z x Z) (qm (Bv (decide ((1073741824:Int)<((rd a0.Brokers a).Epoch)))) ?_))))
 rcases Bi h with⟨p,h⟩ |⟨p,h⟩
 iterate 4 refine Of 34 Z Z p Z ?_
 refine qu (Bv true) (Pt Z p Z) (qa (Bv true) (Wz ?_))
 obtain rfl:=oi h
 exact Tj ⟨lr,Z,m,Z,Z,i,j,c,Z⟩
 refine qo 34 p (pt o 2) (Fa QpG Z Z) (qo 34 p (Sv ((rd a0.Brokers a).Rack)) (Lb 0 pl9 Z Z Z) (On 34 Z Z p ?_))
 obtain ⟨R,b7,h⟩:=bnd h
 refine We (Ca co70 (QiJ ((rd a0.Brokers a).Rack) _ R b7) (QbK Z)) Z ?_
 rintro _ d3 _ a4 ⟨_,⟨rfl,rfl⟩,rfl⟩
 refine WL.a0 (qo 34 p (Bv (!R)) (PO.not Z) (qu (Bv (!R)) (Pf Z p Z) (qa (Bv (!R)) (Wz ?_))))
 obtain rfl:=oi h
 exact Tj ⟨a4,Z,m,Z,Z,i,j,c,Z⟩
 rintro d4 c7 d5 ⟨l,rfl,r,s,k,A,B,C,N⟩
 refine Ch h N (fun b8 h=> ?_) (fun b8 h=> ?_)
 refine Sr (qM (Iv a) s ?_)
 obtain ⟨a5,b9,h⟩:=bnd h
 refine We (Ca co27 (Qc0 ⟨#[98,114,111,107,101,114]⟩ a (2:Int) _ a5 b9) (QhR Z Z Z)) Z ?_
 rintro _ d6 _ a6 ⟨_,⟨rfl,rfl⟩,rfl⟩
 refine WL.a0 (qa (GV a5) (Nt (Cr (Br (Tr (Br (Tr (WQ.leaveR (inr a5) (oi h).symm (fun y=> ?_)))))))))
 subst y
 have h:=(QdO K)
 refine Br (Tr ?_)
 have h:=KK.early h Y
 exact Dr (Dr (Rf h [] Z (Rs Z Z) ((g.trans l).trans a6) ⟨Z,Z⟩))
 obtain ⟨a7,c0,h⟩:=bnd h
 refine Jf (fun(a7:Bool) ρ' M' H'=>c7.le M'∧[(o, .cells (l71 (rd a0.Brokers a)).toArray 71 (0,0))]::[(D, .cells (l27 a0 b d e f).toArray 27 (0,0))]::F=H'∧ρ' 1=(pt D 0)∧ρ' 4=(Iv a)∧ρ' 5=(pt o 0)∧ρ' 7=b∧ρ' 8=(Iv (a0.Brokers.length:Int))∧ρ' 9=(Iv a)∧ρ' 42=(Bv a7)) a7 ?_ ?_
 have h:=c0
 refine Cg (qu (pt o 3) (Fa QnX k Z) (qu (Bv ((rd a0.Brokers a).Fenced)) (Lb 0 pl4 Z Z Z) (qm (Bv ((rd a0.Brokers a).Fenced)) ?_)))
 rcases Bi h with⟨z,h⟩ |⟨z,h⟩
 refine qo 45 z (pt o 4) (Fa Qs5 k Z) (qo 45 z (Bv ((rd a0.Brokers a).Leaving)) (Lb 0 pl4 Z Z Z) (qu (Bv ((rd a0.Brokers a).Leaving)) (Pt Z z Z) (qm (Bv ((rd a0.Brokers a).Leaving)) ?_)))
 rcases Bi h with⟨q,h⟩ |⟨q,h⟩
 refine qo 49 q (a27_ a0 b d e f) (La (cs:=(l27 a0 b d e f)) 1 ag27 sz27 r Z Z) (qo 49 q (pt o 0) (Fa QhQ k Z) (qo 49 q (Iv ((rd a0.Brokers a).Id)) (Lb 0 pl3 Z Z Z) (On 49 Z Z q ?_)))
 obtain ⟨a8,c1,h⟩:=bnd h
 have t:=t.mono l
 have G:=G.mono (g.trans l)
 have I:=I.mono (g.trans l)
 have J:=J.mono (g.trans l)
 refine We (Ca co71 (QtL a0 ((rd a0.Brokers a).Id) _ _ _ _ _ t G I J a8 c1) (QaU Z Z)) Z ?_
 rintro _ d7 _ a9 ⟨_,⟨rfl,rfl⟩,rfl⟩
 refine WL.a0 (qu (Bv a8) (Pt Z q Z) (qa (Bv a8) (Wz ?_)))
 obtain rfl:=oi h
 exact Tj ⟨a9,Z,r,s,k,A,B,C,Z⟩
 iterate 4 refine Of 49 Z Z q Z ?_
 refine qu (Bv false) (Pf Z q Z) (qa (Bv false) (Wz ?_))
 obtain rfl:=oi h
 exact Tj ⟨lr,Z,r,s,k,A,B,C,Z⟩
 iterate 2 refine Of 45 Z Z z Z ?_
 refine qu (Bv false) (Pf Z z Z) (qm (Bv false) ?_)
 iterate 4 refine Of 49 Z Z Z Z ?_
 refine qu (Bv false) (Pf Z Z Z) (qa (Bv false) (Wz ?_))
 obtain rfl:=oi h
 exact Tj ⟨lr,Z,r,s,k,A,B,C,Z⟩
 rintro d8 d9 e0 ⟨O,rfl,S,T,U,V,W,X,P⟩
 refine Ch h P (fun c2 h=> ?_) (fun c2 h=> ?_)
 refine Sr (qM (Iv a) T ?_)
 obtain ⟨b0,c3,h⟩:=bnd h
 refine We (Ca co27 (Qc0 ⟨#[98,114,111,107,101,114]⟩ a (10:Int) _ b0 c3) (QhR Z Z Z)) Z ?_
 rintro _ e1 _ b1 ⟨_,⟨rfl,rfl⟩,rfl⟩
 refine WL.a0 (qa (GV b0) (Nt (Cr (Br (Tr (Br (Tr (WQ.leaveR (inr b0) (oi h).symm (fun y=> ?_)))))))))
 subst y
 have h:=(QdO K)
 refine Br (Tr ?_)
 have h:=KK.early h Y
 exact Dr (Dr (Rf h [] Z (Rs Z Z) (((g.trans l).trans O).trans b1) ⟨Z,Z⟩))
 refine Ck (Bn (Tc (Cg (qu (pt o 0) (Fa QhQ U Z) (qu (Iv ((rd a0.Brokers a).Id)) (Lb 0 pl3 Z Z Z) (qa (Iv ((rd a0.Brokers a).Id)) (Wz (Bn (Tc (Cg (qu (Iv (i64.wrap (a+1))) (add X Z) ?_)))))))))))
 exact qm (Iv (i64.wrap (a+1))) (Wz (Dr (WQ.again ((rd a0.Brokers a).Id,i64.wrap (a+1)) (oi h).symm ⟨((g.trans l).trans O),Z,S,Z,V,W,Z⟩)))
 refine WC.exit (WQ.thenE (WQ.leaveE (inl ()) (oi h).symm (fun y=> ?_)))
 subst y
 have h:=QeJ K
 exact WQ.blockH (WQ.thenFE h ⟨g,Z⟩)
 rintro _ e2 e3 e4 rfl ⟨b2,rfl⟩
 have h:=(Sum.elim_inl _ _ _).symm.trans h
 exact Sr (qa (GV GErr.nil) (Nt (Cr (Dr (Rf h [] Z (Rs Z Z) b2 ⟨Z,Z⟩)))))
noncomputable def QbU (a0:(List Int)) (a1:Int) (s_:Int):Option (Int⊕(Unit⊕Int)):=
 match s_ with
 |a=>
 (if(decide (a<(a0.length:Int)))=true then(grd (0≤a∧a<a0.length) (if(decide (a1=(rd a0 a)))=true then(some (inr (inr a)))else(some (inl (i64.wrap (a+(1:Int)))))))else(some (inr (inl ()))))
noncomputable def QeI (a0:(List Int)) (a1:Int):Option Int:=
 ((((iter (QbU a0 a1) (0:Int)).bind (Sum.elim (fun _=>(some (inl ()))) (fun(a:Int)=>(((some a)).bind fun r=>some (inr r))))):Option (Unit⊕Int)).bind (Sum.elim (fun _=>(some (-1:Int))) some))
def QlD (a0:(List Int)) (a1:Int) (b:Value):Int→Value→IM→HL→Prop:=
 fun(a:Int) (v:Value) (M':IM) (H':HL)=>(.int .i64 a)=v∧H'=[]
theorem QlV (a0:(List Int)) (a1:Int) (M:IM) (o:Value) (u:RS (Kd.int .i64) M o a0) (res:Int) (h:QeI a0 a1=some res):
 Tri prog 148 #[o,(Iv a1)] M [] (QlD a0 a1 o res):=by
 unfold QeI at h
 refine Te func148 Z Z ?_
 intro F ρ hρ
 refine Sr (qa (Iv 0) (Nt ?_))
 obtain ⟨v,p,h⟩:=bnd h
 refine WC.joinE (fun(_:Unit) ρ' M' H'=>M.le M'∧F=H') v ?_ ?_
 have q:=h
 have h:=p
 refine Sr (qM o (hρ 0) (qu (Iv (a0.length:Int)) (lenS underlying56 Z u.len) (qm (Iv 0) (Nt (Bk ?_)))))
 obtain ⟨y,r,j⟩:=bnd h
 clear h
 refine WC.loop r (fun(a:Int) ρ' M' H'=>M.le M'∧F=H'∧ρ' 0=o∧ρ' 1=(Iv a1)∧ρ' 7=(Iv (a0.length:Int))∧ρ' 8=(Iv a)) ?_ ?_
 exact⟨lr,Z,(hρ 0),(hρ 1),Z,Z⟩
 rintro a z A B C h ⟨b,rfl,e,f,g,c⟩
 unfold QbU at h
 refine Sr (qu (Bv (decide (a<(a0.length:Int)))) (lss c g) (Nt (Cs (Ch h Z (fun s h=> ?_) (fun s h=> ?_)))))
 refine Ck (Tc (Cs (Bk (Sr (qM (Iv a) c (qa (Iv a) (Ns (qM (Iv a1) f (qM o e (qm (Iv a) ?_))))))))))
 obtain ⟨i,h⟩:=QaQ h
 have u:=u.mono b
 obtain ⟨w,x,k,l,hhas31⟩:=u.at i.1 i.2 (by decide)
 obtain rfl:=l
 refine qu (.pointer (some w)) (indexAddr (n:=a0.length) underlying56 sz3 Z Z i.1 i.2 k) (qu (Iv (rd a0 a)) (loadM pl3 Z (IM.has0 hhas31)) (qu (Bv (decide (a1=(rd a0 a)))) (eql Z Z) (Nt (Ch h Z (fun t h=> ?_) (fun t h=> ?_)))))
 refine Sr (qm (Iv a) (qa (Iv a) (Nt (Cr (Br (Tr (WQ.leaveR (inr a) (oi h).symm (fun d=> ?_))))))))
 subst d
 have h:=(QdO j)
 refine Br (Tr ?_)
 have h:=KK.early h q
 exact Rf h [] Z (Rs Z Z) b ⟨Z,Z⟩
 exact Ck (Bn (Tc (Cg (qu (Iv (i64.wrap (a+1))) (add c Z) (qm (Iv (i64.wrap (a+1))) (Wz (WQ.again (i64.wrap (a+1)) (oi h).symm ⟨b,Z,e,f,g,Z⟩)))))))
 refine WC.exit (WQ.thenE (WQ.leaveE (inl ()) (oi h).symm (fun d=> ?_)))
 subst d
 have h:=QeJ j
 exact WQ.blockH (WQ.thenFE h ⟨b,Z⟩)
 rintro _ D E G rfl ⟨m,rfl⟩
 have h:=(Sum.elim_inl _ _ _).symm.trans h
 exact Sr (qa (Iv (-1:Int)) (Nt (Cr (Rf h [] Z (Rs Z Z) m ⟨Z,Z⟩))))
noncomputable def QcT (a0:(List Int)) (a1:Int):Option Bool:=
 ((QeI a0 a1).bind fun a=>(some (decide ((0:Int)≤a))))
def QkD (a0:(List Int)) (a1:Int) (b:Value):Bool→Value→IM→HL→Prop:=
 fun(a:Bool) (v:Value) (M':IM) (H':HL)=>(.bool a)=v∧H'=[]
theorem Qk4 (a0:(List Int)) (a1:Int) (M:IM) (d:Value) (e:RS (Kd.int .i64) M d a0) (res:Bool) (h:QcT a0 a1=some res):
 Tri prog 141 #[d,(Iv a1)] M [] (QkD a0 a1 d res):=by
 unfold QcT at h
 refine Te func141 Z Z ?_
 intro F ρ hρ
 refine Sr (qa (Bv false) (Ns (qM d (hρ 0) (qM (Iv a1) (hρ 1) ?_))))
 obtain ⟨a,c,h⟩:=bnd h
 refine We (Ca Q9S (QlV a0 a1 _ _ e a c) (QaU Z Z)) Z ?_
 rintro _ f _ b ⟨_,⟨rfl,rfl⟩,rfl⟩
 exact WL.a0 (qu (Bv (decide ((0:Int)≤a))) (geq Z Z) (qa (Bv (decide ((0:Int)≤a))) (Nt (Cr (Rf h [] Z (Rs Z Z) b ⟨Z,Z⟩)))))
noncomputable def QcV (a0:(List Int)) (s_:Int):Option (Int⊕(Unit⊕Unit)):=
 match s_ with
 |a=>
 (if(decide (a<(a0.length:Int)))=true then(grd (0≤a∧a<a0.length) (((if(decide ((rd a0 a)<(1:Int)))=true then(some true)else(if(decide ((64:Int)<(rd a0 a)))=true then(some true)else(grd (0≤(0:Int)∧(0:Int)≤a∧a≤(a0.length:Int)) ((QcT (sub a0 (0:Int) a) (rd a0 a)).bind fun b=>(some b))))):Option Bool).bind fun c=>(if c=true then(some (inr (inr ())))else(some (inl (i64.wrap (a+(1:Int))))))))else(some (inr (inl ()))))
noncomputable def Qc8 (a0:(List Int)):Option Bool:=
 (if(decide ((7:Int)<(a0.length:Int)))=true then(some false)else((((iter (QcV a0) (0:Int)).bind (Sum.elim (fun _=>(some (inl ()))) (fun _=>(((some false)).bind fun r=>some (inr r))))):Option (Unit⊕Bool)).bind (Sum.elim (fun _=>(some true)) some)))
def QnL (a0:(List Int)) (b:Value):Bool→Value→IM→HL→Prop:=
 fun(a:Bool) (v:Value) (M':IM) (H':HL)=>(.bool a)=v∧H'=[]
theorem QpV (a0:(List Int)) (M:IM) (o:Value) (v:RS (Kd.int .i64) M o a0) (res:Bool) (h:Qc8 a0=some res):
 Tri prog 109 #[o] M [] (QnL a0 o res):=by
 unfold Qc8 at h
 refine Te func109 Z Z ?_
 intro F ρ hρ
 refine Sr (qa (Bv false) (Nt (Cs (Sr (qM o (hρ 0) (qu (Iv (a0.length:Int)) (lenS underlying56 Z v.len) (qu (Bv (decide ((7:Int)<(a0.length:Int)))) (gtr Z Z) (Nt (Ch h Z (fun C h=> ?_) (fun C h=> ?_))))))))))
 exact Sr (qa (Bv false) (Nt (Cr (Tr (Rf h [] Z (Rs Z Z) lr ⟨Z,Z⟩)))))
 refine Ck (Tc ?_)
 obtain ⟨O,D,h⟩:=bnd h
 refine WC.joinE (fun(_:Unit) ρ' M' H'=>M.le M'∧F=H') O ?_ ?_
 have E:=h
 have h:=D
 refine Sr (qM o (hρ 0) (qu (Iv (a0.length:Int)) (lenS underlying56 Z v.len) (qm (Iv 0) (Nt (Bk ?_)))))
 obtain ⟨T,G,w⟩:=bnd h
 clear h
 refine WC.loop G (fun(a:Int) ρ' M' H'=>M.le M'∧F=H'∧ρ' 0=o∧ρ' 8=o∧ρ' 9=(Iv (a0.length:Int))∧ρ' 10=(Iv a)) ?_ ?_
 exact⟨lr,Z,(hρ 0),Z,Z,Z⟩
 rintro a U V P W h ⟨j,rfl,d,e,f,b⟩
 unfold QcV at h
 refine Sr (qu (Bv (decide (a<(a0.length:Int)))) (lss b f) (Nt (Cs (Ch h Z (fun I h=> ?_) (fun I h=> ?_)))))
 refine Ck (Tc (Cs (Bk (Sr (qM (Iv a) b ?_)))))
 obtain ⟨m,h⟩:=QaQ h
 have v:=v.mono j
 obtain ⟨Q,S,x,y,hhas31⟩:=v.at m.1 m.2 (by decide)
 obtain rfl:=y
 refine qu (.pointer (some Q)) (indexAddr (n:=a0.length) underlying56 sz3 e b m.1 m.2 x) (qu (Iv (rd a0 a)) (loadM pl3 Z (IM.has0 hhas31)) (qa (Iv a) (qa (Iv (rd a0 a)) (Nt ?_))))
 obtain ⟨z,J,h⟩:=bnd h
 refine Jf (fun(z:Bool) ρ' M' H'=>P.le M'∧F=H'∧ρ' 0=o∧ρ' 8=o∧ρ' 9=(Iv (a0.length:Int))∧ρ' 10=(Iv a)∧ρ' 27=(Bv z)) z ?_ ?_
 have h:=J
 refine Cg (qm (Iv (rd a0 a)) (qu (Bv (decide ((rd a0 a)<1))) (lss Z Z) (qm (Bv (decide ((rd a0 a)<1))) ?_)))
 rcases Bi h with⟨i,h⟩ |⟨i,h⟩
 iterate 2 refine Of 17 Z Z i Z ?_
 refine qu (Bv true) (Pt Z i Z) (qm (Bv true) ?_)
 iterate 5 refine Of 21 Z Z Z Z ?_
 refine qu (Bv true) (Pt Z Z Z) (Wz ?_)
 obtain rfl:=oi h
 exact Tj ⟨lr,Z,d,e,f,b,Z⟩
 refine On 17 Z Z i (qm (Iv (rd a0 a)) (qo 17 i (Bv (decide ((64:Int)<(rd a0 a)))) (gtr Z Z) (qu (Bv (decide ((64:Int)<(rd a0 a)))) (Pf Z i Z) (qm (Bv (decide ((64:Int)<(rd a0 a)))) ?_))))
 rcases Bi h with⟨c,h⟩ |⟨c,h⟩
 iterate 5 refine Of 21 Z Z c Z ?_
 refine qu (Bv true) (Pt Z c Z) (Wz ?_)
 obtain rfl:=oi h
 exact Tj ⟨lr,Z,d,e,f,b,Z⟩
 refine On 21 Z Z c (qM o d (On 21 Z Z c (qm (Iv a) (On 21 Z Z c ?_))))
 obtain ⟨g,h⟩:=QaQ h
 have R:=v.sub g.1 g.2.1 g.2.2
 refine qu (slV o 1 ((0:Int)).toNat (a).toNat) (slice (n:=a0.length) (l:=((0:Int)).toNat) (h:=(a).toNat) underlying56 sz3 Z v.len v.cap (Q5S Z) ⟨_,_,Z,(Int.le_trans g.1 g.2.1),Z⟩ (Int.toNat_le_toNat g.2.1) (Qg5 g.2.2)) (On 21 Z Z c (qm (Iv (rd a0 a)) (On 21 Z Z c ?_)))
 obtain ⟨K,L,h⟩:=bnd h
 refine We (Ca Q9N (Qk4 (sub a0 (0:Int) a) (rd a0 a) _ _ R K L) (QaU Z Z)) Z ?_
 rintro _ X _ A ⟨_,⟨rfl,rfl⟩,rfl⟩
 refine WL.a0 (qu (Bv K) (Pf Z c Z) (Wz ?_))
 obtain rfl:=oi h
 exact Tj ⟨A,Z,d,e,f,b,Z⟩
 rintro Y a1 a2 ⟨p,rfl,s,t,u,q,r⟩
 refine Ch h r (fun N h=> ?_) (fun N h=> ?_)
 refine Sr (qa (Bv false) (Nt (Cr (Br (Tr (WQ.leaveR (inr ()) (oi h).symm (fun k=> ?_)))))))
 subst k
 have h:=(QdO w)
 refine Br (Tr ?_)
 have h:=KK.early h E
 exact Rf h [] Z (Rs Z Z) (j.trans p) ⟨Z,Z⟩
 exact Ck (Bn (Tc (Cg (qu (Iv (i64.wrap (a+1))) (add q Z) (qm (Iv (i64.wrap (a+1))) (Wz (WQ.again (i64.wrap (a+1)) (oi h).symm ⟨(j.trans p),Z,s,t,u,Z⟩)))))))
 refine WC.exit (WQ.thenE (WQ.leaveE (inl ()) (oi h).symm (fun k=> ?_)))
 subst k
 have h:=QeJ w
 exact WQ.blockH (WQ.thenFE h ⟨j,Z⟩)
 rintro _ a3 a4 a5 rfl ⟨B,rfl⟩
 have h:=(Sum.elim_inl _ _ _).symm.trans h
 exact Sr (qa (Bv true) (Nt (Cr (Rf h [] Z (Rs Z Z) B ⟨Z,Z⟩))))
noncomputable def QkT (a0:QaE):Option Int:=
 (some a0.Id)
def QnM (a0:QaE):Int→Value→IM→HL→Prop:=
 fun(a:Int) (v:Value) (M':IM) (H':HL)=>(.int .i64 a)=v∧H'=[]
theorem QpW (a0:QaE) (M:IM) (res:Int) (h:QkT a0=some res):
 Tri prog 150 #[(a71_ a0)] M [] (QnM a0 res):=by
 unfold QkT at h
 refine Te func150 Z Z ?_
 intro F ρ hρ
 refine Sr (We (box (cs:=(l71 a0).toArray) (congrArg Value.cells (asE (a71_ a0) (hρ 0)))) Z ?_)
 rintro _ _ _ - ⟨rfl,a,rfl,rfl⟩
 exact qa (Iv 0) (Ns (qu (pt a 0) (Fa QhQ Z Z) (qu (Iv a0.Id) (Lb 0 pl3 Z Z Z) (qa (Iv a0.Id) (Nt (Cr (Dr (Rf h [] Z (Rs Z Z) lr ⟨Z,Z⟩))))))))
noncomputable def QbX (a0:QaE) (a1:Int):Option Int:=
 ((QkT a0).bind fun a=>(some (i64.wrap (a - a1))))
def QhI (a0:QaE) (a1:Int) (a:Nat):Int→Value→IM→HL→Prop:=
 fun(b:Int) (v:Value) (M':IM) (H':HL)=>(.int .i64 b)=v∧H'=[[(a, .cells #[(.func (.func 150) #[] #[])] 216 (0,0))]]
theorem QdS (a0:QaE) (a1:Int) (M:IM) (d:Nat) (res:Int) (h:QbX a0 a1=some res):
 Tri prog 154 #[(a71_ a0),(Iv a1),(pt d 0)] M [[(d, .cells #[(.func (.func 150) #[] #[])] 216 (0,0))]] (QhI a0 a1 d res):=by
 unfold QbX at h
 refine Te func154 Z Z ?_
 intro F ρ hρ
 refine Sr (We (box (cs:=(l71 a0).toArray) (congrArg Value.cells (asE (a71_ a0) (hρ 0)))) Z ?_)
 rintro _ _ _ - ⟨rfl,e,rfl,rfl⟩
 refine qa (Iv 0) (Ns (qu (.func (.func 150) #[] #[]) (Lb 1 Q94 (hρ 2) Z Z) (qu (a71_ a0) (La (cs:=(l71 a0)) 0 ag71 sz71 Z Z Z) ?_)))
 obtain ⟨a,c,h⟩:=bnd h
 refine We (callV0 (first:=#[]) (cap:=#[]) Q9U Z (QpW a0 _ a c) (Qz6 Z Z)) Z ?_
 rintro _ f _ b ⟨_,⟨rfl,rfl⟩,rfl⟩
 exact WL.a0 (qM (Iv a1) (hρ 1) (qu (Iv (i64.wrap (a - a1))) (PO.sub Z Z) (qa (Iv (i64.wrap (a - a1))) (Nt (Cr (Dr (Rf h [[(d, .cells #[(.func (.func 150) #[] #[])] 216 (0,0))]] Z (Rs Z Z) b ⟨Z,Z⟩)))))))
noncomputable def QaO (a0:(List QaE)) (a1:Int) (s_:(Int×Int)):Option ((Int×Int)⊕Int):=
 match s_ with
 |(a,b)=>
 (if(decide (a<b))=true then(grd (0≤i64.wrap (shrI .u64 (u64.wrap (i64.wrap (a+b))) (1:Int))∧i64.wrap (shrI .u64 (u64.wrap (i64.wrap (a+b))) (1:Int))<a0.length) ((QbX (rd a0 (i64.wrap (shrI .u64 (u64.wrap (i64.wrap (a+b))) (1:Int)))) a1).bind fun c=>(if(decide (c<(0:Int)))=true then(some (inl (i64.wrap ((i64.wrap (shrI .u64 (u64.wrap (i64.wrap (a+b))) (1:Int)))+(1:Int)),b)))else(some (inl (a,i64.wrap (shrI .u64 (u64.wrap (i64.wrap (a+b))) (1:Int))))))))else(some (inr a)))
noncomputable def QaW (a0:(List QaE)) (a1:Int):Option (Int×Bool):=
 ((((iter (QaO a0 a1) ((0:Int),(a0.length:Int))).bind (fun(b:Int)=>(some b))):Option Int).bind fun a=>(((if(decide (a<(a0.length:Int)))=true then(grd (0≤a∧a<a0.length) ((QbX (rd a0 a) a1).bind fun c=>(some (a,decide (c=(0:Int))))))else(some (a,false))):Option (Int×Bool)).bind fun(d,e)=>(some (d,e))))
def QcM (a0:(List QaE)) (a1:Int) (c:Value) (g2k0:Nat):(Int×Bool)→Value→IM→HL→Prop:=
 fun(p_:(Int×Bool)) (v:Value) (M':IM) (H':HL)=>match p_ with |(a,b)=>(.tuple #[(.int .i64 a),(.bool b)])=v∧H'=[[(g2k0, .cells #[(.func (.func 150) #[] #[])] 216 (0,0))]]
theorem QcR (a0:(List QaE)) (a1:Int) (M:IM) (z:Value) (g2k0:Nat) (A:RS QaD M z a0) (res:(Int×Bool)) (h:QaW a0 a1=some res):
 Tri prog 153 #[z,(Iv a1),(.func (.func 154) #[] #[(pt g2k0 0)])] M [[(g2k0, .cells #[(.func (.func 150) #[] #[])] 216 (0,0))]] (QcM a0 a1 z g2k0 res):=by
 unfold QaW at h
 refine Te func153 Z Z ?_
 intro F ρ hρ
 refine Sr (qa (Iv 0) (qa (Bv false) (Ns (qM z (hρ 0) (qu (Iv (a0.length:Int)) (lenS underlying22 Z A.len) (qa (Iv (a0.length:Int)) (Ns (qm (Iv (a0.length:Int)) (qa (Iv 0) (qa (Iv (a0.length:Int)) (Nt ?_)))))))))))
 obtain ⟨d,K,h⟩:=bnd h
 refine Jf (fun(d:Int) ρ' M' H'=>M.le M'∧[(g2k0, .cells #[(.func (.func 150) #[] #[])] 216 (0,0))]::F=H'∧ρ' 0=z∧ρ' 1=(Iv a1)∧ρ' 2=(.func (.func 154) #[] #[(pt g2k0 0)])∧ρ' 8=(Iv (a0.length:Int))∧ρ' 9=(Iv d)) d ?_ ?_
 have h:=K
 refine Bk ?_
 obtain ⟨a5,L,N⟩:=bnd h
 clear h
 refine WC.loop L (fun(p_:(Int×Int)) ρ' M' H'=>match p_ with |(a,b)=>M.le M'∧[(g2k0, .cells #[(.func (.func 150) #[] #[])] 216 (0,0))]::F=H'∧ρ' 0=z∧ρ' 1=(Iv a1)∧ρ' 2=(.func (.func 154) #[] #[(pt g2k0 0)])∧ρ' 8=(Iv (a0.length:Int))∧ρ' 9=(Iv a)∧ρ' 10=(Iv b)) ?_ ?_
 exact⟨lr,Z,(hρ 0),(hρ 1),(hρ 2),Z,Z,Z⟩
 rintro ⟨a,b⟩ a6 a7 a8 a9 h ⟨k,rfl,e,f,g,l,i,j⟩
 unfold QaO at h
 refine Cs (Sr (qM (Iv a) i (qM (Iv b) j (qu (Bv (decide (a<b))) (lss Z Z) (Nt (Ch h Z (fun O h=> ?_) (fun O h=> ?_)))))))
 refine Ck (Tc (Bk (Sr (qM (Iv a) i (qM (Iv b) j (qu (Iv (i64.wrap (a+b))) (add Z Z) (qu (Uv (u64.wrap (i64.wrap (a+b)))) (conv us3 underlying172 Z) (qu (Uv (shrI .u64 (u64.wrap (i64.wrap (a+b))) (1:Int))) (shr Z Z (by decide)) (qu (Iv (i64.wrap (shrI .u64 (u64.wrap (i64.wrap (a+b))) (1:Int)))) (conv Q7V underlying3 Z) (qa (Iv (i64.wrap (shrI .u64 (u64.wrap (i64.wrap (a+b))) (1:Int)))) (Ns ?_)))))))))))
 refine qM (.func (.func 154) #[] #[(pt g2k0 0)]) g (qM z e (qm (Iv (i64.wrap (shrI .u64 (u64.wrap (i64.wrap (a+b))) (1:Int)))) ?_))
 obtain ⟨o,h⟩:=QaQ h
 have A:=A.mono k
 obtain ⟨X,a3,B,C,hhas33⟩:=A.at o.1 o.2 (by decide)
 obtain rfl:=Qa2 C
 refine qu (.pointer (some X)) (indexAddr (n:=a0.length) underlying22 sz71 Z Z o.1 o.2 B) (qu (a71_ (rd a0 (i64.wrap (shrI .u64 (u64.wrap (i64.wrap (a+b))) (1:Int))))) (loadMA (cs:=(l71 (rd a0 (i64.wrap (shrI .u64 (u64.wrap (i64.wrap (a+b))) (1:Int)))))) ag71 sz71 Z hhas33) (qM (Iv a1) f ?_))
 obtain ⟨P,Q,h⟩:=bnd h
 refine We (callV1 (first:=#[]) (cap:=#[(pt g2k0 0)]) Q7J Z (QdS (rd a0 (i64.wrap (shrI .u64 (u64.wrap (i64.wrap (a+b))) (1:Int)))) a1 _ _ P Q) (Qz7 Z Z Z)) Z ?_
 rintro _ b0 _ q ⟨_,⟨rfl,rfl⟩,rfl⟩
 refine WL.a1 (qu (Bv (decide (P<0))) (lss Z Z) (Nt (Ch h Z (fun R h=> ?_) (fun R h=> ?_))))
 exact Cg (qm (Iv (i64.wrap (shrI .u64 (u64.wrap (i64.wrap (a+b))) (1:Int)))) (qu (Iv (i64.wrap ((i64.wrap (shrI .u64 (u64.wrap (i64.wrap (a+b))) (1:Int)))+1))) (add Z Z) (qa (Iv (i64.wrap ((i64.wrap (shrI .u64 (u64.wrap (i64.wrap (a+b))) (1:Int)))+1))) (Wz (Bn (WQ.again (i64.wrap ((i64.wrap (shrI .u64 (u64.wrap (i64.wrap (a+b))) (1:Int)))+1),b) (oi h).symm ⟨(k.trans q),Z,e,f,g,l,Z,j⟩))))))
 exact Cg (qm (Iv (i64.wrap (shrI .u64 (u64.wrap (i64.wrap (a+b))) (1:Int)))) (qa (Iv (i64.wrap (shrI .u64 (u64.wrap (i64.wrap (a+b))) (1:Int)))) (Wz (Bn (WQ.again (a,i64.wrap (shrI .u64 (u64.wrap (i64.wrap (a+b))) (1:Int))) (oi h).symm ⟨(k.trans q),Z,e,f,g,l,i,Z⟩)))))
 refine WC.exit (WQ.thenE (WQ.leaveE a (oi h).symm (fun D=> ?_)))
 subst D
 have h:=N
 refine WQ.blockH ?_
 obtain rfl:=oi h
 exact Tj ⟨k,Z,e,f,g,l,i⟩
 rintro b1 Y b2 ⟨r,rfl,s,t,u,v,m⟩
 obtain ⟨S,T,h⟩:=bnd h
 refine Jf (fun(p_:(Int×Bool)) ρ' M' H'=>match p_ with |(U,V)=>Y.le M'∧[(g2k0, .cells #[(.func (.func 150) #[] #[])] 216 (0,0))]::F=H'∧ρ' 6=(Iv U)∧ρ' 7=(Bv V)) S ?_ ?_
 have h:=T
 refine Cg (qM (Iv d) m (qM (Iv d) m (qM (Iv (a0.length:Int)) v (qu (Bv (decide (d<(a0.length:Int)))) (lss Z Z) (qm (Bv (decide (d<(a0.length:Int)))) ?_)))))
 rcases Bi h with⟨c,h⟩ |⟨c,h⟩
 refine On 39 Z Z c (qM (.func (.func 154) #[] #[(pt g2k0 0)]) u (On 39 Z Z c (qM z s (On 39 Z Z c (qM (Iv d) m (On 39 Z Z c ?_))))))
 obtain ⟨p,h⟩:=QaQ h
 have A:=A.mono r
 obtain ⟨a2,a4,E,G,hhas50⟩:=A.at p.1 p.2 (by decide)
 obtain rfl:=Qa2 G
 refine qu (.pointer (some a2)) (indexAddr (n:=a0.length) underlying22 sz71 Z Z p.1 p.2 E) (qo 39 c (a71_ (rd a0 d)) (loadMA (cs:=(l71 (rd a0 d))) ag71 sz71 Z hhas50) (On 39 Z Z c (qM (Iv a1) t (On 39 Z Z c ?_))))
 obtain ⟨w,W,h⟩:=bnd h
 refine We (callV1 (first:=#[]) (cap:=#[(pt g2k0 0)]) Q7J Z (QdS (rd a0 d) a1 _ _ w W) (Qz7 Z Z Z)) Z ?_
 rintro _ b3 _ I ⟨_,⟨rfl,rfl⟩,rfl⟩
 refine WL.a1 (qo 39 c (Bv (decide (w=0))) (eql Z Z) (qu (Bv (decide (w=0))) (Pt Z c Z) (qa (Iv d) (qa (Bv (decide (w=0))) (Wz ?_)))))
 obtain rfl:=oi h
 exact Tj ⟨I,Z,Z,Z⟩
 iterate 8 refine Of 39 Z Z c Z ?_
 refine qu (Bv false) (Pf Z c Z) (qa (Iv d) (qa (Bv false) (Wz ?_)))
 obtain rfl:=oi h
 exact Tj ⟨lr,Z,Z,Z⟩
 obtain ⟨U,V⟩:=S
 rintro b4 b5 b6 ⟨J,rfl,x,y⟩
 exact Cr (Rf h [[(g2k0, .cells #[(.func (.func 150) #[] #[])] 216 (0,0))]] Z (QgZ Z x y) (r.trans J) ⟨Z,Z⟩)
noncomputable def QcK (a0:(List QaE)) (a1:Int):Option (Int×Bool):=
 ((QaW a0 a1).bind fun(a,b)=>(some (a,b)))
def Qh1 (a0:(List QaE)) (a1:Int) (c:Value):(Int×Bool)→Value→IM→HL→Prop:=
 fun(p_:(Int×Bool)) (v:Value) (M':IM) (H':HL)=>match p_ with |(a,b)=>(.tuple #[(.int .i64 a),(.bool b)])=v∧H'=[]
theorem QiO (a0:(List QaE)) (a1:Int) (M:IM) (f:Value) (g:RS QaD M f a0) (res:(Int×Bool)) (h:QcK a0 a1=some res):
 Tri prog 149 #[f,(Iv a1),(.func (.func 150) #[] #[])] M [] (Qh1 a0 a1 f res):=by
 unfold QcK at h
 refine Te func149 Z Z ?_
 intro F ρ hρ
 refine Sr (We (box (cs:=#[(.func (.func 150) #[] #[])]) (congrArg Value.cells (asE (.func (.func 150) #[] #[]) (hρ 2)))) Z ?_)
 rintro _ _ _ - ⟨rfl,d,rfl,rfl⟩
 refine qa (Iv 0) (qa (Bv false) (Ns (qM f (hρ 0) (qM (Iv a1) (hρ 1) (qu (.func (.func 154) #[] #[(pt d 0)]) (makeFunc2 (QmX) (QbK (show ev _ _=(pt d 0) from Z))) ?_)))))
 obtain ⟨⟨a,b⟩,e,h⟩:=bnd h
 refine We (Cb Q9W (QcR a0 a1 _ _ _ g (a,b) e) (QhR Z Z Z)) Z ?_
 rintro _ i _ c ⟨_,⟨rfl,rfl⟩,rfl⟩
 exact WL.a1 (qu (Iv a) (Xt Z Z) (qu (Bv b) (Xt Z Z) (qa (Iv a) (qa (Bv b) (Nt (Cr (Dr (Rf h [] Z (QgZ Z Z Z) c ⟨Z,Z⟩))))))))
noncomputable def Qj2 (a0:QaA) (a1:Int):Option (Int×Bool):=
 ((QcK a0.Brokers a1).bind fun(a,b)=>(some (a,b)))
def QpX (a0:QaA) (a1:Int) (a b c d:Value):(Int×Bool)→Value→IM→HL→Prop:=
 fun(p_:(Int×Bool)) (v:Value) (M':IM) (H':HL)=>match p_ with |(e,f)=>(.tuple #[(.int .i64 e),(.bool f)])=v∧H'=[]
theorem QsB (a0:QaA) (a1:Int) (M:IM) (a b c d:Value) (i:RS QaD M a a0.Brokers) (l:RS QaG M b a0.Topics) (m:RS QaF M c a0.Configs) (n:RS QaI M d a0.Done) (res:(Int×Bool)) (h:Qj2 a0 a1=some res):
 Tri prog 142 #[(a27_ a0 a b c d),(Iv a1)] M [] (QpX a0 a1 a b c d res):=by
 unfold Qj2 at h
 refine Te func142 Z Z ?_
 intro F ρ hρ
 refine Sr (We (box (cs:=(l27 a0 a b c d).toArray) (congrArg Value.cells (asE (a27_ a0 a b c d) (hρ 0)))) Z ?_)
 rintro _ _ _ - ⟨rfl,k,rfl,rfl⟩
 refine qa (Iv 0) (qa (Bv false) (Ns (qu (pt k 0) (Fa QdN Z Z) (qu a (Lb 0 pl22 Z Z Z) (qM (Iv a1) (hρ 1) ?_)))))
 obtain ⟨⟨e,f⟩,j,h⟩:=bnd h
 refine We (Ca Q9T (QiO a0.Brokers a1 _ _ i (e,f) j) (QhR Z Z Z)) Z ?_
 rintro _ o _ g ⟨_,⟨rfl,rfl⟩,rfl⟩
 exact WL.a0 (qu (Iv e) (Xt Z Z) (qu (Bv f) (Xt Z Z) (qa (Iv e) (qa (Bv f) (Nt (Cr (Dr (Rf h [] Z (QgZ Z Z Z) g ⟨Z,Z⟩))))))))
noncomputable def QgP (a0:QaA) (a1:Int):Option (QaE×Bool):=
 ((Qj2 a0 a1).bind fun(a,b)=>(if(!b)=true then(some ((⟨(0:Int),(0:Int),(⟨#[]⟩:ByteArray),false,false⟩:QaE),false))else(grd (0≤a∧a<a0.Brokers.length) (some ((rd a0.Brokers a),true)))))
def QpY (a0:QaA) (a1:Int) (b c d e:Value):(QaE×Bool)→Value→IM→HL→Prop:=
 fun(p_:(QaE×Bool)) (v:Value) (M':IM) (H':HL)=>match p_ with |(a,f)=>(.tuple #[(.agg #[(.int .i64 a.Id),(.int .i64 a.Epoch),(.string a.Rack),(.bool a.Fenced),(.bool a.Leaving)]),(.bool f)])=v∧H'=[]
theorem Ql3 (a0:QaA) (a1:Int) (M:IM) (a b c d:Value) (g:RS QaD M a a0.Brokers) (m:RS QaG M b a0.Topics) (o:RS QaF M c a0.Configs) (p:RS QaI M d a0.Done) (res:(QaE×Bool)) (h:QgP a0 a1=some res):
 Tri prog 110 #[(a27_ a0 a b c d),(Iv a1)] M [] (QpY a0 a1 a b c d res):=by
 unfold QgP at h
 refine Te func110 Z Z ?_
 intro F ρ hρ
 refine Sr (We (box (cs:=(l27 a0 a b c d).toArray) (congrArg Value.cells (asE (a27_ a0 a b c d) (hρ 0)))) Z ?_)
 rintro _ _ _ - ⟨rfl,s,rfl,rfl⟩
 refine We (Al ze71 Z) Z ?_
 rintro _ _ _ - ⟨rfl,w,rfl,rfl⟩
 refine qa (Bv false) (Ns (qu (a27_ a0 a b c d) (La (cs:=(l27 a0 a b c d)) 1 ag27 sz27 Z Z Z) (qM (Iv a1) (hρ 1) ?_)))
 obtain ⟨⟨e,j⟩,q,h⟩:=bnd h
 refine We (Ca Q9O (QsB a0 a1 _ _ _ _ _ g m o p (e,j) q) (QaU Z Z)) Z ?_
 rintro _ x _ f ⟨_,⟨rfl,rfl⟩,rfl⟩
 refine WL.a0 (qm (.tuple #[(Iv e),(Bv j)]) (qu (Iv e) (Xt Z Z) (qu (Bv j) (Xt Z Z) (qa (Iv e) (qa (Bv j) (Nt (Cs (Sr (qm (Bv j) (qu (Bv (!j)) (PO.not Z) (Nt ?_)))))))))))
 refine Ch h Z (fun r h=> ?_) (fun r h=> ?_)
 refine Sr (qu (.agg z71_.toArray) (Bl (cl:=z71_) ze71 fp71 Pz Z) (We (Sg (v:=(.agg z71_.toArray)) (vl:=z71_) (arr':=z71_) Z sz71 Z Z (onb Z) Z Z Z) Z ?_))
 rintro _ _ _ - ⟨rfl,rfl⟩
 exact qa (Bv false) (Nt (Cr (Tr (Qa (Dr (Rd h [] (fun _ hs=>hs.drop) (QaX Z (RVs.cons (Rc (cs:=z71_) 0 ag71 sz71 Z Z Z) (RVs.cons (RV.tmp Z) RVs.nil))) f ⟨Z,Z⟩))))))
 refine Ck (Tc (Sr (qu (pt s 0) (Fa QdN Z Z) (qu a (Lb 1 pl22 Z Z Z) (qm (Iv e) ?_)))))
 obtain ⟨i,h⟩:=QaQ h
 have g:=g.mono f
 obtain ⟨t,u,k,l,hhas36⟩:=g.at i.1 i.2 (by decide)
 obtain rfl:=Qa2 l
 refine qu (.pointer (some t)) (indexAddr (n:=a0.Brokers.length) underlying22 sz71 Z Z i.1 i.2 k) (qu (a71_ (rd a0.Brokers e)) (loadMA (cs:=(l71 (rd a0.Brokers e))) ag71 sz71 Z hhas36) (We (Sg (v:=(a71_ (rd a0.Brokers e))) (vl:=(l71 (rd a0.Brokers e))) (arr':=(l71 (rd a0.Brokers e))) Z sz71 Z Z (onb Z) Z Z Z) Z ?_))
 rintro _ _ _ - ⟨rfl,rfl⟩
 exact qa (Bv true) (Nt (Cr (Qa (Dr (Rd h [] (fun _ hs=>hs.drop) (QaX Z (RVs.cons (Rc (cs:=(l71 (rd a0.Brokers e))) 0 ag71 sz71 Z Z Z) (RVs.cons (RV.tmp Z) RVs.nil))) f ⟨Z,Z⟩)))))
noncomputable def QgF (a1:(List Int)) (s_:((List (Int×Int))×Int)):Option (((List (Int×Int))×Int)⊕(List (Int×Int))):=
 match s_ with
 |(b,a)=>
 (if(decide (a<(a1.length:Int)))=true then(grd (0≤a∧a<a1.length) (some (inl (QeC b (rd a1 a) (i64.wrap ((Qb1 b (rd a1 a))+(1:Int))),i64.wrap (a+(1:Int))))))else(some (inr b)))
noncomputable def QgG (a0:(List Int)) (b:(List (Int×Int))) (s_:Int):Option (Int⊕(Unit⊕Unit)):=
 match s_ with
 |a=>
 (if(decide (a<(a0.length:Int)))=true then(grd (0≤a∧a<a0.length) (if(decide ((Qb1 b (rd a0 a))=(0:Int)))=true then(some (inr (inr ())))else(some (inl (i64.wrap (a+(1:Int)))))))else(some (inr (inl ()))))
noncomputable def QdX (a0:(List Int)) (a1:(List Int)):Option Bool:=
 ((((iter (QgF a1) (([]:List (Int×Int)),(0:Int))).bind (fun(a:(List (Int×Int)))=>(some a))):Option (List (Int×Int))).bind fun b=>((((iter (QgG a0 b) (0:Int)).bind (Sum.elim (fun _=>(some (inl ()))) (fun _=>(((some false)).bind fun r=>some (inr r))))):Option (Unit⊕Bool)).bind (Sum.elim (fun _=>(some true)) some)))
def QqW (a0:(List Int)) (a1:(List Int)) (b c:Value):Bool→Value→IM→HL→Prop:=
 fun(a:Bool) (v:Value) (M':IM) (H':HL)=>(.bool a)=v∧H'=[]
theorem QgH (a0:(List Int)) (a1:(List Int)) (M:IM) (G Q:Value) (P:RS (Kd.int .i64) M G a0) (h1:RS (Kd.int .i64) M Q a1) (res:Bool) (h:QdX a0 a1=some res):
 Tri prog 111 #[G,Q] M [] (QqW a0 a1 G Q res):=by
 unfold QdX at h
 refine Te func111 Z Z ?_
 intro F ρ hρ
 refine Sr (qa (Bv false) (Ns (We (makeMap miV) Z ?_)))
 rintro R _ _ - ⟨rfl,a6,rfl,a7⟩
 refine qa R (Nt ?_)
 obtain ⟨z,S,h⟩:=bnd h
 refine Jf (fun(z:(List (Int×Int))) ρ' M' H'=>∃ i t,M.le M'∧t::F=H'∧ρ' 0=G∧ρ' 5=i∧OwnMp miV M' i z t) z ?_ ?_
 have h:=S
 refine Sr (qM Q (hρ 1) (qu (Iv (a1.length:Int)) (lenS underlying56 Z h1.len) (qm (Iv 0) (Nt (Bk ?_)))))
 obtain ⟨b5,T,U⟩:=bnd h
 clear h
 refine WC.loop T (fun(p_:((List (Int×Int))×Int)) ρ' M' H'=>match p_ with |(p,a)=>∃ f u,M.le M'∧u::F=H'∧ρ' 0=G∧ρ' 5=f∧ρ' 11=Q∧ρ' 12=(Iv (a1.length:Int))∧ρ' 13=(Iv a)∧OwnMp miV M' f p u) ?_ ?_
 exact⟨R,a6,lr,Z,(hρ 0),Z,Z,Z,Z,a7⟩
 rintro ⟨p,a⟩ b6 b7 b8 b9 h ⟨f,u,q,rfl,v,g,j,l,c,A⟩
 unfold QgF at h
 refine Sr (qu (Bv (decide (a<(a1.length:Int)))) (lss c l) (Nt (Cs (Ch h Z (fun V h=> ?_) (fun V h=> ?_)))))
 refine Ck (Tc (Cs (Bk (Sr ?_))))
 obtain ⟨w,h⟩:=QaQ h
 have h1:=h1.mono q
 obtain ⟨a8,b3,I,J,hhas36⟩:=h1.at w.1 w.2 (by decide)
 obtain rfl:=J
 refine qu (.pointer (some a8)) (indexAddr (n:=a1.length) underlying56 sz3 j c w.1 w.2 I) (qu (Iv (rd a1 a)) (loadM pl3 Z (IM.has0 hhas36)) (qa (Iv (rd a1 a)) (Nt (Cg (qM f g (qm (Iv (rd a1 a)) (qu (Iv (Qb1 p (rd a1 a))) (lookup (val:=miV) (k:=(rd a1 a)) 0 underlying210 (MKey.int underlying3) ze3 Z Z Z A) (qu (Iv (i64.wrap ((Qb1 p (rd a1 a))+1))) (add Z Z) (We (mapUpdate (val:=miV) (k:=(rd a1 a)) underlying210 (MKey.int underlying3) Z Z Z A) Z ?_)))))))))
 rintro _ _ _ - ⟨rfl,a9,rfl,b0⟩
 exact Wz (Bn (Tc (Cg (qu (Iv (i64.wrap (a+1))) (add c Z) (qm (Iv (i64.wrap (a+1))) (Wz (WQ.again (QeC p (rd a1 a) (i64.wrap ((Qb1 p (rd a1 a))+1)),i64.wrap (a+1)) (oi h).symm ⟨f,a9,q,Z,v,g,j,l,Z,b0⟩)))))))
 refine WC.exit (WQ.thenE (WQ.leaveE p (oi h).symm (fun K=> ?_)))
 subst K
 have h:=U
 refine WQ.blockH ?_
 obtain rfl:=oi h
 exact Tj ⟨f,u,q,Z,v,g,A⟩
 rintro c0 W c1 ⟨i,t,r,rfl,C,D,B⟩
 obtain ⟨b1,X,h⟩:=bnd h
 refine WC.joinE (fun(_:Unit) ρ' M' H'=>W.le M'∧F=H') b1 ?_ ?_
 have Y:=h
 have h:=X
 refine Sr (qM G C ?_)
 have P:=P.mono r
 refine qu (Iv (a0.length:Int)) (lenS underlying56 Z P.len) (qm (Iv 0) (Nt (Bk ?_)))
 obtain ⟨c2,a2,E⟩:=bnd h
 clear h
 refine WC.loop a2 (fun(b:Int) ρ' M' H'=>W.le M'∧t::F=H'∧ρ' 5=i∧ρ' 22=G∧ρ' 23=(Iv (a0.length:Int))∧ρ' 24=(Iv b)) ?_ ?_
 exact⟨lr,Z,D,Z,Z,Z⟩
 rintro b c3 c4 c5 c6 h ⟨d,rfl,x,m,o,e⟩
 unfold QgG at h
 refine Sr (qu (Bv (decide (b<(a0.length:Int)))) (lss e o) (Nt (Cs (Ch h Z (fun a3 h=> ?_) (fun a3 h=> ?_)))))
 refine Ck (Tc (Cs (Bk (Sr ?_))))
 obtain ⟨y,h⟩:=QaQ h
 have P:=P.mono d
 obtain ⟨b2,b4,L,N,hhas49⟩:=P.at y.1 y.2 (by decide)
 obtain rfl:=N
 refine qu (.pointer (some b2)) (indexAddr (n:=a0.length) underlying56 sz3 m e y.1 y.2 L) (qu (Iv (rd a0 b)) (loadM pl3 Z (IM.has0 hhas49)) (qa (Iv (rd a0 b)) (Ns (qM i x (qm (Iv (rd a0 b)) ?_)))))
 have B:=B.mono d
 refine qu (Iv (Qb1 z (rd a0 b))) (lookup (val:=miV) (k:=(rd a0 b)) 0 underlying210 (MKey.int underlying3) ze3 Z Z Z B) (qu (Bv (decide ((Qb1 z (rd a0 b))=0))) (eql Z Z) (Nt (Ch h Z (fun a4 h=> ?_) (fun a4 h=> ?_))))
 refine Sr (qa (Bv false) (Nt (Cr (Br (Tr (WQ.leaveR (inr ()) (oi h).symm (fun s=> ?_)))))))
 subst s
 have h:=(QdO E)
 refine Br (Tr ?_)
 have h:=KK.early h Y
 exact Dr (Rf h [] Z (Rs Z Z) (r.trans d) ⟨Z,Z⟩)
 exact Ck (Bn (Tc (Cg (qu (Iv (i64.wrap (b+1))) (add e Z) (qm (Iv (i64.wrap (b+1))) (Wz (WQ.again (i64.wrap (b+1)) (oi h).symm ⟨d,Z,x,m,o,Z⟩)))))))
 refine WC.exit (WQ.thenE (WQ.leaveE (inl ()) (oi h).symm (fun s=> ?_)))
 subst s
 have h:=QeJ E
 exact WQ.blockH (Dr (WQ.thenFE h ⟨d,Z⟩))
 rintro _ c7 c8 c9 rfl ⟨O,rfl⟩
 have h:=(Sum.elim_inl _ _ _).symm.trans h
 exact Sr (qa (Bv true) (Nt (Cr (Rf h [] Z (Rs Z Z) (r.trans O) ⟨Z,Z⟩))))
noncomputable def QhY (a0:QaA) (a1:Int):Option Bool:=
 ((QgP a0 a1).bind fun(a,b)=>(((if b=true then(some (!a.Fenced))else(some false)):Option Bool).bind fun c=>(some c)))
def QqX (a0:QaA) (a1:Int) (a b c d:Value):Bool→Value→IM→HL→Prop:=
 fun(e:Bool) (v:Value) (M':IM) (H':HL)=>(.bool e)=v∧H'=[]
theorem QtM (a0:QaA) (a1:Int) (M:IM) (a b c d:Value) (m:RS QaD M a a0.Brokers) (n:RS QaG M b a0.Topics) (o:RS QaF M c a0.Configs) (p:RS QaI M d a0.Done) (res:Bool) (h:QhY a0 a1=some res):
 Tri prog 112 #[(a27_ a0 a b c d),(Iv a1)] M [] (QqX a0 a1 a b c d res):=by
 unfold QhY at h
 refine Te func112 Z Z ?_
 intro F ρ hρ
 refine Sr (We (box (cs:=(l27 a0 a b c d).toArray) (congrArg Value.cells (asE (a27_ a0 a b c d) (hρ 0)))) Z ?_)
 rintro _ _ _ - ⟨rfl,t,rfl,rfl⟩
 refine qa (Bv false) (Ns (qu (a27_ a0 a b c d) (La (cs:=(l27 a0 a b c d)) 0 ag27 sz27 Z Z Z) (qM (Iv a1) (hρ 1) ?_)))
 obtain ⟨⟨e,g⟩,q,h⟩:=bnd h
 refine We (Ca Q7E (Ql3 a0 a1 _ _ _ _ _ m n o p (e,g) q) (QaU Z Z)) Z ?_
 rintro _ u _ j ⟨_,⟨rfl,rfl⟩,rfl⟩
 refine WL.a0 (qm (.tuple #[(a71_ e),(Bv g)]) (qu (a71_ e) (Xt Z Z) (qu (Bv g) (Xt Z Z) (We (Al ze71 Z) Z ?_))))
 rintro _ _ _ - ⟨rfl,r,rfl,rfl⟩
 refine We (Sg (v:=(a71_ e)) (vl:=(l71 e)) (arr':=(l71 e)) Z sz71 Z Z (onb Z) Z Z Z) Z ?_
 rintro _ _ _ - ⟨rfl,rfl⟩
 refine qa (Bv g) (Nt ?_)
 obtain ⟨k,s,h⟩:=bnd h
 refine Jf (fun(k:Bool) ρ' M' H'=>u.le M'∧[(r, .cells (l71 e).toArray 71 (0,0))]::[(t, .cells (l27 a0 a b c d).toArray 27 (0,0))]::F=H'∧ρ' 4=(Bv k)) k ?_ ?_
 have h:=s
 refine Cg (qm (Bv g) (qm (Bv g) ?_))
 rcases Bi h with⟨f,h⟩ |⟨f,h⟩
 refine qo 14 f (pt r 3) (Fa QnX Z Z) (qo 14 f (Bv e.Fenced) (Lb 0 pl4 Z Z Z) (qo 14 f (Bv (!e.Fenced)) (PO.not Z) (qu (Bv (!e.Fenced)) (Pt Z f Z) (qa (Bv (!e.Fenced)) (Wz ?_)))))
 obtain rfl:=oi h
 exact Tj ⟨lr,Z,Z⟩
 iterate 3 refine Of 14 Z Z f Z ?_
 refine qu (Bv false) (Pf Z f Z) (qa (Bv false) (Wz ?_))
 obtain rfl:=oi h
 exact Tj ⟨lr,Z,Z⟩
 rintro w x y ⟨l,rfl,i⟩
 exact Cr (Dr (Dr (Rf h [] Z (Rs Z i) (j.trans l) ⟨Z,Z⟩)))
noncomputable def Qh9 (a1:QaH) (s_:Int):Option (Int⊕(Unit⊕Unit)):=
 match s_ with
 |a=>
 (if(decide (a<([a1.Ids,a1.Isr,a1.Add,a1.Drop].length:Int)))=true then(grd (0≤a∧a<[a1.Ids,a1.Isr,a1.Add,a1.Drop].length) ((Qc8 (rd [a1.Ids,a1.Isr,a1.Add,a1.Drop] a)).bind fun b=>(if(!b)=true then(some (inr (inr ())))else(some (inl (i64.wrap (a+(1:Int))))))))else(some (inr (inl ()))))
noncomputable def QiA (a0:QaA) (a1:QaH) (s_:Int):Option (Int⊕(Unit⊕Unit)):=
 match s_ with
 |a=>
 (if(decide (a<(a1.Ids.length:Int)))=true then(grd (0≤a∧a<a1.Ids.length) ((QgP a0 (rd a1.Ids a)).bind fun(c,b)=>(if(!b)=true then(some (inr (inr ())))else(some (inl (i64.wrap (a+(1:Int))))))))else(some (inr (inl ()))))
noncomputable def QiB (a1:QaH) (s_:Int):Option (Int⊕(Unit⊕Unit)):=
 match s_ with
 |a=>
 (if(decide (a<(a1.Add.length:Int)))=true then(grd (0≤a∧a<a1.Add.length) ((QdX [(rd a1.Add a)] a1.Drop).bind fun b=>(if b=true then(some (inr (inr ())))else(some (inl (i64.wrap (a+(1:Int))))))))else(some (inr (inl ()))))
noncomputable def QlE (a0:QaA) (a1:QaH):Option Bool:=
 ((((iter (Qh9 a1) (0:Int)).bind (Sum.elim (fun _=>(some (inl ()))) (fun _=>(((some false)).bind fun r=>some (inr r))))):Option (Unit⊕Bool)).bind (Sum.elim (fun _=>((((iter (QiA a0 a1) (0:Int)).bind (Sum.elim (fun _=>(some (inl ()))) (fun _=>(((some false)).bind fun r=>some (inr r))))):Option (Unit⊕Bool)).bind (Sum.elim (fun _=>(((if(decide ((a1.Ids.length:Int)=(0:Int)))=true then(some true)else(if(decide ((a1.Isr.length:Int)=(0:Int)))=true then(some true)else(if(decide (a1.Epoch<(0:Int)))=true then(some true)else(some (decide ((1073741824:Int)<a1.Epoch)))))):Option Bool).bind fun b=>(if b=true then(some false)else((((QdX a1.Isr a1.Ids).bind fun c=>(if(!c)=true then(some true)else((QdX a1.Add a1.Ids).bind fun d=>(if(!d)=true then(some true)else((QdX a1.Drop a1.Ids).bind fun e=>(some (!e))))))):Option Bool).bind fun f=>(if f=true then(some false)else(((if(decide (a1.Leader≠(0:Int)))=true then((QdX [a1.Leader] a1.Isr).bind fun g=>(if(!g)=true then(some true)else((QhY a0 a1.Leader).bind fun a=>(some (!a)))))else(some false)):Option Bool).bind fun i=>(if i=true then(some false)else((((iter (QiB a1) (0:Int)).bind (Sum.elim (fun _=>(some (inl ()))) (fun _=>(((some false)).bind fun r=>some (inr r))))):Option (Unit⊕Bool)).bind (Sum.elim (fun _=>(some true)) some))))))))) some))) some))
def QtN (a0:QaA) (a1:QaH) (a b c d e f g i:Value):Bool→Value→IM→HL→Prop:=
 fun(j:Bool) (v:Value) (M':IM) (H':HL)=>(.bool j)=v∧H'=[]
theorem QvT (a0:QaA) (a1:QaH) (M:IM) (g i j k a c d e:Value) (Q:RS QaD M g a0.Brokers) (R:RS QaG M i a0.Topics) (S:RS QaF M j a0.Configs) (T:RS QaI M k a0.Done) (f:RS (Kd.int .i64) M a a1.Ids) (s:RS (Kd.int .i64) M c a1.Isr) (t:RS (Kd.int .i64) M d a1.Add) (D:RS (Kd.int .i64) M e a1.Drop) (res:Bool) (h:QlE a0 a1=some res):
 Tri prog 72 #[(a27_ a0 g i j k),(a58_ a1 a c d e)] M [] (QtN a0 a1 g i j k a c d e res):=by
 unfold QlE at h
 refine Te func72 Z Z ?_
 intro F ρ hρ
 refine Sr (We (box (cs:=(l27 a0 g i j k).toArray) (congrArg Value.cells (asE (a27_ a0 g i j k) (hρ 0)))) Z ?_)
 rintro _ _ _ - ⟨rfl,y,rfl,rfl⟩
 refine We (box (cs:=(l58 a1 a c d e).toArray) (congrArg Value.cells (asE (a58_ a1 a c d e) (hρ 1)))) Z ?_
 rintro _ _ _ - ⟨rfl,b,rfl,rfl⟩
 refine qa (Bv false) (Nt ?_)
 obtain ⟨k6,h2,h⟩:=bnd h
 refine WC.joinE (fun(_:Unit) ρ' M' H'=>M.le M'∧[(b, .cells (l58 a1 a c d e).toArray 58 (0,0))]::[(y, .cells (l27 a0 g i j k).toArray 27 (0,0))]::F=H'∧ρ' 2=(pt y 0)∧ρ' 3=(pt b 0)) k6 ?_ ?_
 have h3:=h
 have h:=h2
 refine Sr (qu (pt b 0) (Fa QiE Z Z) (qu a (Lb 0 pl56 Z Z Z) (qu (pt b 1) (Fa QlJ Z Z) (qu c (Lb 0 pl56 Z Z Z) (qu (pt b 4) (Fa QmT Z Z) (qu d (Lb 0 pl56 Z Z Z) (qu (pt b 5) (Fa Ql7 Z Z) (qu e (Lb 0 pl56 Z Z Z) (We (buildSliceL (cl:=[a,c,d,e]) underlying165 iz56 Z (Parts.cons ((congrArg Value.cells (show ev _ _=a from Z)).trans f.cells) (Parts.cons ((congrArg Value.cells (show ev _ _=c from Z)).trans s.cells) (Parts.cons ((congrArg Value.cells (show ev _ _=d from Z)).trans t.cells) (Parts.cons ((congrArg Value.cells (show ev _ _=e from Z)).trans D.cells) Pz)))) Z) Z ?_)))))))))
 rintro _ _ _ - ⟨rfl,d2,rfl,rfl⟩
 have d3:OwnS (Kd.slice (Kd.int .i64)) M (.slice (some ⟨d2,0,none⟩) 4 4) [a1.Ids,a1.Isr,a1.Add,a1.Drop] [(d2, .cells #[a,c,d,e] 56 (0,0))]:=OwnS.rows (css:=[[a],[c],[d],[e]]) (Rows.cons ⟨_,Z,f⟩ (Rows.cons ⟨_,Z,s⟩ (Rows.cons ⟨_,Z,t⟩ (Rows.cons ⟨_,Z,D⟩ Rows.nil)))) Z Z
 refine qu (Iv ([a1.Ids,a1.Isr,a1.Add,a1.Drop].length:Int)) (lenS underlying165 Z d3.len) (qm (Iv 0) (Nt (Bk (WC.f2 (WC.f2 ?_)))))
 obtain ⟨m7,h4,e4⟩:=bnd h
 clear h
 refine WC.loop h4 (fun(a9:Int) ρ' M' H'=>M.le M'∧[(b, .cells (l58 a1 a c d e).toArray 58 (0,0))]::[(y, .cells (l27 a0 g i j k).toArray 27 (0,0))]::[(d2, .cells #[a,c,d,e] 56 (0,0))]::F=H'∧ρ' 2=(pt y 0)∧ρ' 3=(pt b 0)∧ρ' 21=(.slice (some ⟨d2,0,none⟩) 4 4)∧ρ' 22=(Iv ([a1.Ids,a1.Isr,a1.Add,a1.Drop].length:Int))∧ρ' 23=(Iv a9)) ?_ ?_
 exact⟨lr,Z,Z,Z,Z,Z,Z⟩
 rintro a9 m8 m9 n0 n1 h ⟨U,rfl,b3,b4,a3,a4,I⟩
 unfold Qh9 at h
 refine Sr (qu (Bv (decide (a9<([a1.Ids,a1.Isr,a1.Add,a1.Drop].length:Int)))) (lss I a4) (Nt (Cs (Ch h Z (fun h5 h=> ?_) (fun h5 h=> ?_)))))
 refine Ck (Tc (Cs (Bk (Sr ?_))))
 obtain ⟨b5,h⟩:=QaQ h
 have d3:=d3.mono U
 obtain ⟨k7,l7,e8,e9,hhas35⟩:=d3.at b5.1 b5.2
 obtain ⟨c4,rfl,h6⟩:=e9
 refine qu (.pointer (some k7)) (indexAddr (n:=[a1.Ids,a1.Isr,a1.Add,a1.Drop].length) underlying165 sz56 a3 I b5.1 b5.2 e8) (qu c4 (loadC 2 pl56 Z Z (QqE hhas35)) (qa c4 (Ns (qm c4 ?_))))
 obtain ⟨h7,h8,h⟩:=bnd h
 refine We (Ca Q9C (QpV (rd [a1.Ids,a1.Isr,a1.Add,a1.Drop] a9) _ _ h6 h7 h8) (QbK Z)) Z ?_
 rintro _ n2 _ c5 ⟨_,⟨rfl,rfl⟩,rfl⟩
 refine WL.a0 (qu (Bv (!h7)) (PO.not Z) (Nt (Ch h Z (fun h9 h=> ?_) (fun h9 h=> ?_))))
 refine Sr (qa (Bv false) (Nt (Cr (Br (Tr (WQ.leaveR (inr ()) (oi h).symm (fun b0=> ?_)))))))
 subst b0
 have h:=(QdO e4)
 refine Br (Tr ?_)
 have h:=KK.early h h3
 exact Dr (Dr (Dr (Rf h [] Z (Rs Z Z) (U.trans c5) ⟨Z,Z⟩)))
 exact Ck (Bn (Tc (Cg (qu (Iv (i64.wrap (a9+1))) (add I Z) (qm (Iv (i64.wrap (a9+1))) (Wz (WQ.again (i64.wrap (a9+1)) (oi h).symm ⟨(U.trans c5),Z,b3,b4,a3,a4,Z⟩)))))))
 refine WC.exit (WQ.thenE (WQ.leaveE (inl ()) (oi h).symm (fun b0=> ?_)))
 subst b0
 have h:=QeJ e4
 exact WQ.blockH (Qb (Dr (WQ.thenFE h ⟨U,Z,b3,b4⟩)))
 rintro _ n3 i0 n4 rfl ⟨z,rfl,d4,b6⟩
 have h:=(Sum.elim_inl _ _ _).symm.trans h
 obtain ⟨k8,i1,h⟩:=bnd h
 refine WC.joinE (fun(_:Unit) ρ' M' H'=>i0.le M'∧[(b, .cells (l58 a1 a c d e).toArray 58 (0,0))]::[(y, .cells (l27 a0 g i j k).toArray 27 (0,0))]::F=H'∧ρ' 2=(pt y 0)∧ρ' 3=(pt b 0)) k8 ?_ ?_
 have i2:=h
 have h:=i1
 refine Sr (qu (pt b 0) (Fa QiE b6 Z) (qu a (Lb 0 pl56 Z Z Z) ?_))
 have f:=f.mono z
 refine qu (Iv (a1.Ids.length:Int)) (lenS underlying56 Z f.len) (qm (Iv 0) (Nt (Bk ?_)))
 obtain ⟨n5,i3,e5⟩:=bnd h
 clear h
 refine WC.loop i3 (fun(P:Int) ρ' M' H'=>i0.le M'∧[(b, .cells (l58 a1 a c d e).toArray 58 (0,0))]::[(y, .cells (l27 a0 g i j k).toArray 27 (0,0))]::F=H'∧ρ' 2=(pt y 0)∧ρ' 3=(pt b 0)∧ρ' 32=a∧ρ' 33=(Iv (a1.Ids.length:Int))∧ρ' 34=(Iv P)) ?_ ?_
 exact⟨lr,Z,d4,b6,Z,Z,Z⟩
 rintro P n6 n7 n8 n9 h ⟨u,rfl,V,b7,a5,a6,J⟩
 unfold QiA at h
 refine Sr (qu (Bv (decide (P<(a1.Ids.length:Int)))) (lss J a6) (Nt (Cs (Ch h Z (fun i4 h=> ?_) (fun i4 h=> ?_)))))
 refine Ck (Tc (Cs (Bk (Sr ?_))))
 obtain ⟨b8,h⟩:=QaQ h
 have f:=f.mono u
 obtain ⟨k9,l8,f0,f1,hhas52⟩:=f.at b8.1 b8.2 (by decide)
 obtain rfl:=f1
 refine qu (.pointer (some k9)) (indexAddr (n:=a1.Ids.length) underlying56 sz3 a5 J b8.1 b8.2 f0) (qu (Iv (rd a1.Ids P)) (loadM pl3 Z (IM.has0 hhas52)) (qa (Iv (rd a1.Ids P)) (Ns (qu (a27_ a0 g i j k) (La (cs:=(l27 a0 g i j k)) 1 ag27 sz27 V Z Z) (qm (Iv (rd a1.Ids P)) ?_)))))
 obtain ⟨⟨c1,c2⟩,i5,h⟩:=bnd h
 have Q:=Q.mono (z.trans u)
 have R:=R.mono (z.trans u)
 have S:=S.mono (z.trans u)
 have T:=T.mono (z.trans u)
 refine We (Ca Q7E (Ql3 a0 (rd a1.Ids P) _ _ _ _ _ Q R S T (c1,c2) i5) (QaU Z Z)) Z ?_
 rintro _ o0 _ c6 ⟨_,⟨rfl,rfl⟩,rfl⟩
 refine WL.a0 (qm (.tuple #[(a71_ c1),(Bv c2)]) (qu (a71_ c1) (Xt Z Z) (qu (Bv c2) (Xt Z Z) (We (Al ze71 Z) Z ?_))))
 rintro _ _ _ - ⟨rfl,o1,rfl,rfl⟩
 refine We (Sg (v:=(a71_ c1)) (vl:=(l71 c1)) (arr':=(l71 c1)) Z sz71 Z Z (onb Z) Z Z Z) Z ?_
 rintro _ _ _ - ⟨rfl,rfl⟩
 refine qa (Bv c2) (Ns (qm (Bv c2) (qu (Bv (!c2)) (PO.not Z) (Nt (Ch h Z (fun i6 h=> ?_) (fun i6 h=> ?_))))))
 refine Sr (qa (Bv false) (Nt (Cr (Br (Tr (WQ.leaveR (inr ()) (oi h).symm (fun b1=> ?_)))))))
 subst b1
 have h:=(QdO e5)
 refine Br (Tr ?_)
 have h:=KK.early h i2
 exact Dr (Dr (Dr (Rf h [] Z (Rs Z Z) ((z.trans u).trans c6) ⟨Z,Z⟩)))
 exact Ck (Bn (Tc (Cg (qu (Iv (i64.wrap (P+1))) (add J Z) (qm (Iv (i64.wrap (P+1))) (Wz (Dr (WQ.again (i64.wrap (P+1)) (oi h).symm ⟨(u.trans c6),Z,V,b7,a5,a6,Z⟩))))))))
 refine WC.exit (WQ.thenE (WQ.leaveE (inl ()) (oi h).symm (fun b1=> ?_)))
 subst b1
 have h:=QeJ e5
 exact WQ.blockH (WQ.thenFE h ⟨u,Z,V,b7⟩)
 rintro _ o2 l0 o3 rfl ⟨f3,rfl,G,p⟩
 have f4:=z.trans f3
 have h:=(Sum.elim_inl _ _ _).symm.trans h
 refine Cs (Bk ?_)
 obtain ⟨f5,i7,h⟩:=bnd h
 refine Jf (fun(f5:Bool) ρ' M' H'=>l0.le M'∧[(b, .cells (l58 a1 a c d e).toArray 58 (0,0))]::[(y, .cells (l27 a0 g i j k).toArray 27 (0,0))]::F=H'∧ρ' 2=(pt y 0)∧ρ' 3=(pt b 0)∧ρ' 47=(Bv f5)) f5 ?_ ?_
 have h:=i7
 refine Cg (qu (pt b 0) (Fa QiE p Z) (qu a (Lb 0 pl56 Z Z Z) ?_))
 have f:=f.mono f4
 refine qu (Iv (a1.Ids.length:Int)) (lenS underlying56 Z f.len) (qu (Bv (decide ((a1.Ids.length:Int)=(0:Int)))) (eql Z Z) (qm (Bv (decide ((a1.Ids.length:Int)=(0:Int)))) ?_))
 rcases Bi h with⟨E,h⟩ |⟨E,h⟩
 iterate 4 refine Of 52 Z Z E Z ?_
 refine qu (Bv true) (Pt Z E Z) (qm (Bv true) ?_)
 iterate 3 refine Of 58 Z Z Z Z ?_
 refine qu (Bv true) (Pt Z Z Z) (qm (Bv true) ?_)
 iterate 3 refine Of 63 Z Z Z Z ?_
 refine qu (Bv true) (Pt Z Z Z) (qa (Bv true) (Wz ?_))
 obtain rfl:=oi h
 exact Tj ⟨lr,Z,G,p,Z⟩
 refine qo 52 E (pt b 1) (Fa QlJ p Z) (qo 52 E c (Lb 0 pl56 Z Z Z) (On 52 Z Z E ?_))
 have s:=s.mono f4
 refine qu (Iv (a1.Isr.length:Int)) (lenS underlying56 Z s.len) (qo 52 E (Bv (decide ((a1.Isr.length:Int)=(0:Int)))) (eql Z Z) (qu (Bv (decide ((a1.Isr.length:Int)=(0:Int)))) (Pf Z E Z) (qm (Bv (decide ((a1.Isr.length:Int)=(0:Int)))) ?_)))
 rcases Bi h with⟨K,h⟩ |⟨K,h⟩
 iterate 3 refine Of 58 Z Z K Z ?_
 refine qu (Bv true) (Pt Z K Z) (qm (Bv true) ?_)
 iterate 3 refine Of 63 Z Z Z Z ?_
 refine qu (Bv true) (Pt Z Z Z) (qa (Bv true) (Wz ?_))
 obtain rfl:=oi h
 exact Tj ⟨lr,Z,G,p,Z⟩
 refine qo 58 K (pt b 3) (Fa Ql6 p Z) (qo 58 K (Iv a1.Epoch) (Lb 0 pl3 Z Z Z) (qo 58 K (Bv (decide (a1.Epoch<0))) (lss Z Z) (qu (Bv (decide (a1.Epoch<0))) (Pf Z K Z) (qm (Bv (decide (a1.Epoch<0))) ?_))))
 rcases Bi h with⟨L,h⟩ |⟨L,h⟩
 iterate 3 refine Of 63 Z Z L Z ?_
 refine qu (Bv true) (Pt Z L Z) (qa (Bv true) (Wz ?_))
 obtain rfl:=oi h
 exact Tj ⟨lr,Z,G,p,Z⟩
 refine qo 63 L (pt b 3) (Fa Ql6 p Z) (qo 63 L (Iv a1.Epoch) (Lb 0 pl3 Z Z Z) (qo 63 L (Bv (decide ((1073741824:Int)<a1.Epoch))) (gtr Z Z) (qu (Bv (decide ((1073741824:Int)<a1.Epoch))) (Pf Z L Z) (qa (Bv (decide ((1073741824:Int)<a1.Epoch))) (Wz ?_)))))
 obtain rfl:=oi h
 exact Tj ⟨lr,Z,G,p,Z⟩
 rintro o4 l1 o5 ⟨f6,rfl,W,m,c7⟩
 have c3:=f4.trans f6
 refine Ch h c7 (fun i8 h=> ?_) (fun i8 h=> ?_)
 exact Sr (qa (Bv false) (Nt (Cr (Br (Tr (Dr (Dr (Rf h [] Z (Rs Z Z) c3 ⟨Z,Z⟩))))))))
 obtain ⟨f7,i9,h⟩:=bnd h
 refine Jf (fun(f7:Bool) ρ' M' H'=>l1.le M'∧[(b, .cells (l58 a1 a c d e).toArray 58 (0,0))]::[(y, .cells (l27 a0 g i j k).toArray 27 (0,0))]::F=H'∧ρ' 2=(pt y 0)∧ρ' 3=(pt b 0)∧ρ' 68=(Bv f7)) f7 ?_ ?_
 have h:=i9
 refine Cg (qu (pt b 1) (Fa QlJ m Z) (qu c (Lb 0 pl56 Z Z Z) (qu (pt b 0) (Fa QiE m Z) (qu a (Lb 0 pl56 Z Z Z) ?_))))
 obtain ⟨f8,j0,h⟩:=bnd h
 have s:=s.mono c3
 have f:=f.mono c3
 refine We (Ca Q12 (QgH a1.Isr a1.Ids _ _ _ s f f8 j0) (QaU Z Z)) Z ?_
 rintro _ o6 _ C ⟨_,⟨rfl,rfl⟩,rfl⟩
 refine WL.a0 (qu (Bv (!f8)) (PO.not Z) (qm (Bv (!f8)) ?_))
 rcases Bi h with⟨w,h⟩ |⟨w,h⟩
 iterate 6 refine Of 75 Z Z w Z ?_
 refine qu (Bv true) (Pt Z w Z) (qm (Bv true) ?_)
 iterate 6 refine Of 83 Z Z Z Z ?_
 refine qu (Bv true) (Pt Z Z Z) (qa (Bv true) (Wz ?_))
 obtain rfl:=oi h
 exact Tj ⟨C,Z,W,m,Z⟩
 refine qo 75 w (pt b 4) (Fa QmT m Z) (qo 75 w d (Lb 0 pl56 Z Z Z) (qo 75 w (pt b 0) (Fa QiE m Z) (qo 75 w a (Lb 0 pl56 Z Z Z) (On 75 Z Z w ?_))))
 obtain ⟨d5,j1,h⟩:=bnd h
 have t:=t.mono (c3.trans C)
 have f:=f.mono C
 refine We (Ca Q12 (QgH a1.Add a1.Ids _ _ _ t f d5 j1) (QaU Z Z)) Z ?_
 rintro _ o7 _ X ⟨_,⟨rfl,rfl⟩,rfl⟩
 refine WL.a0 (qo 75 w (Bv (!d5)) (PO.not Z) (qu (Bv (!d5)) (Pf Z w Z) (qm (Bv (!d5)) ?_)))
 rcases Bi h with⟨x,h⟩ |⟨x,h⟩
 iterate 6 refine Of 83 Z Z x Z ?_
 refine qu (Bv true) (Pt Z x Z) (qa (Bv true) (Wz ?_))
 obtain rfl:=oi h
 exact Tj ⟨(C.trans X),Z,W,m,Z⟩
 refine qo 83 x (pt b 5) (Fa Ql7 m Z) (qo 83 x e (Lb 0 pl56 Z Z Z) (qo 83 x (pt b 0) (Fa QiE m Z) (qo 83 x a (Lb 0 pl56 Z Z Z) (On 83 Z Z x ?_))))
 obtain ⟨d6,j2,h⟩:=bnd h
 have D:=D.mono ((c3.trans C).trans X)
 have f:=f.mono X
 refine We (Ca Q12 (QgH a1.Drop a1.Ids _ _ _ D f d6 j2) (QaU Z Z)) Z ?_
 rintro _ o8 _ f9 ⟨_,⟨rfl,rfl⟩,rfl⟩
 refine WL.a0 (qo 83 x (Bv (!d6)) (PO.not Z) (qu (Bv (!d6)) (Pf Z x Z) (qa (Bv (!d6)) (Wz ?_))))
 obtain rfl:=oi h
 exact Tj ⟨((C.trans X).trans f9),Z,W,m,Z⟩
 rintro o9 j3 p0 ⟨g0,rfl,d7,q,c8⟩
 have d8:=c3.trans g0
 refine Ch h c8 (fun j4 h=> ?_) (fun j4 h=> ?_)
 exact Sr (qa (Bv false) (Nt (Cr (Br (Tr (Dr (Dr (Rf h [] Z (Rs Z Z) d8 ⟨Z,Z⟩))))))))
 obtain ⟨g1,j5,h⟩:=bnd h
 refine Jf (fun(g1:Bool) ρ' M' H'=>j3.le M'∧[(b, .cells (l58 a1 a c d e).toArray 58 (0,0))]::[(y, .cells (l27 a0 g i j k).toArray 27 (0,0))]::F=H'∧ρ' 3=(pt b 0)∧ρ' 91=(Bv g1)) g1 ?_ ?_
 have h:=j5
 refine Cg (qu (pt b 2) (Fa Qk1 q Z) (qu (Iv a1.Leader) (Lb 0 pl3 Z Z Z) (qu (Bv (decide (a1.Leader≠0))) (neq Z Z) (qm (Bv (decide (a1.Leader≠0))) ?_))))
 rcases Bi h with⟨l,h⟩ |⟨l,h⟩
 refine qo 95 l (pt b 2) (Fa Qk1 q Z) (qo 95 l (Iv a1.Leader) (Lb 0 pl3 Z Z Z) (On 95 Z Z l (We (buildSliceL (cl:=[(Iv a1.Leader)]) underlying56 iz3 Z (Pc (Iv a1.Leader) Z Z Pz) Z) Z ?_)))
 rintro _ _ _ - ⟨rfl,j6,rfl,rfl⟩
 have j7:OwnS (Kd.int .i64) j3 (.slice (some ⟨j6,0,none⟩) 1 1) [a1.Leader] [(j6, .cells #[(Iv a1.Leader)] 3 (0,0))]:=OwnS.rows (css:=[[(Iv a1.Leader)]]) (Rows.cons Z Rows.nil) Z Z
 refine qo 95 l (pt b 1) (Fa QlJ q Z) (qo 95 l c (Lb 1 pl56 Z Z Z) (On 95 Z Z l ?_))
 obtain ⟨g2,j8,h⟩:=bnd h
 have s:=s.mono d8
 refine We (Cb Q12 (Tri.lend j7.excl fun w0_ H0_ hs0_=>(QgH [a1.Leader] a1.Isr _ _ _ (j7.rs hs0_) (s.mono (IM.le_add _ _)) g2 j8)) (QaU Z Z)) Z ?_
 rintro _ _ _ b2 ⟨_,⟨l2,l3,k4,rfl,rfl,⟨rfl,rfl⟩⟩,rfl⟩
 have d9:=d8.trans b2
 refine WL.a1 (qo 95 l (Bv (!g2)) (PO.not Z) (On 95 Z Z l (qm (Bv (!g2)) ?_)))
 rcases Bi h with⟨r,h⟩ |⟨r,h⟩
 iterate 5 refine Of 103 Z Z r Z ?_
 refine qo 95 l (Bv true) (Pt Z r Z) (qu (Bv true) (Pt Z l Z) (qa (Bv true) (Wz (Dr ?_))))
 obtain rfl:=oi h
 exact Tj ⟨b2,Z,q,Z⟩
 refine qo 103 r (a27_ a0 g i j k) (La (cs:=(l27 a0 g i j k)) 2 ag27 sz27 d7 Z Z) (qo 103 r (pt b 2) (Fa Qk1 q Z) (qo 103 r (Iv a1.Leader) (Lb 1 pl3 Z Z Z) (On 103 Z Z r ?_)))
 obtain ⟨a7,g3,h⟩:=bnd h
 have Q:=Q.mono d9
 have R:=R.mono d9
 have S:=S.mono d9
 have T:=T.mono d9
 refine We (Ca Q9D (QtM a0 a1.Leader _ _ _ _ _ Q R S T a7 g3) (QaU Z Z)) Z ?_
 rintro _ l9 _ e0 ⟨_,⟨rfl,rfl⟩,rfl⟩
 refine WL.a0 (qo 103 r (Bv (!a7)) (PO.not Z) (qo 95 l (Bv (!a7)) (Pf Z r Z) (qu (Bv (!a7)) (Pt Z l Z) (qa (Bv (!a7)) (Wz (Dr ?_))))))
 obtain rfl:=oi h
 exact Tj ⟨(b2.trans e0),Z,q,Z⟩
 iterate 8 refine Of 95 Z Z l Z ?_
 refine WL.offU 103 Z Z Z (WL.offU 103 Z Z Z (WL.offU 103 Z Z Z (WL.offU 103 Z Z Z (WL.offU 103 Z Z Z (Of 95 Z Z l Z (qu (Bv false) (Pf Z l Z) (qa (Bv false) (Wz ?_))))))))
 obtain rfl:=oi h
 exact Tj ⟨lr,Z,q,Z⟩
 rintro p1 j9 p2 ⟨g4,rfl,b9,c9⟩
 have d0:=d8.trans g4
 refine Ch h c9 (fun g5 h=> ?_) (fun g5 h=> ?_)
 exact Sr (qa (Bv false) (Nt (Cr (Br (Tr (Dr (Dr (Rf h [] Z (Rs Z Z) d0 ⟨Z,Z⟩))))))))
 refine Ck (Bn (Tc ?_))
 obtain ⟨k0,g6,h⟩:=bnd h
 refine WC.joinE (fun(_:Unit) ρ' M' H'=>j9.le M'∧[(b, .cells (l58 a1 a c d e).toArray 58 (0,0))]::[(y, .cells (l27 a0 g i j k).toArray 27 (0,0))]::F=H') k0 ?_ ?_
 have g7:=h
 have h:=g6
 refine Sr (qu (pt b 4) (Fa QmT b9 Z) (qu d (Lb 0 pl56 Z Z Z) ?_))
 have t:=t.mono d0
 refine qu (Iv (a1.Add.length:Int)) (lenS underlying56 Z t.len) (qm (Iv 0) (Nt (Bk ?_)))
 obtain ⟨m0,g8,d1⟩:=bnd h
 clear h
 refine WC.loop g8 (fun(o:Int) ρ' M' H'=>j9.le M'∧[(b, .cells (l58 a1 a c d e).toArray 58 (0,0))]::[(y, .cells (l27 a0 g i j k).toArray 27 (0,0))]::F=H'∧ρ' 3=(pt b 0)∧ρ' 112=d∧ρ' 113=(Iv (a1.Add.length:Int))∧ρ' 114=(Iv o)) ?_ ?_
 exact⟨lr,Z,b9,Z,Z,Z⟩
 rintro o m1 m2 k1 m3 h ⟨B,rfl,a8,N,O,A⟩
 unfold QiB at h
 refine Sr (qu (Bv (decide (o<(a1.Add.length:Int)))) (lss A O) (Nt (Cs (Ch h Z (fun g9 h=> ?_) (fun g9 h=> ?_)))))
 refine Ck (Tc (Cs (Bk (Sr ?_))))
 obtain ⟨Y,h⟩:=QaQ h
 have t:=t.mono B
 obtain ⟨k2,l4,e1,e2,hhas119⟩:=t.at Y.1 Y.2 (by decide)
 obtain rfl:=e2
 refine qu (.pointer (some k2)) (indexAddr (n:=a1.Add.length) underlying56 sz3 N A Y.1 Y.2 e1) (qu (Iv (rd a1.Add o)) (loadM pl3 Z (IM.has0 hhas119)) (qa (Iv (rd a1.Add o)) (Ns (qm (Iv (rd a1.Add o)) (We (buildSliceL (cl:=[(Iv (rd a1.Add o))]) underlying56 iz3 Z (Pc (Iv (rd a1.Add o)) Z Z Pz) Z) Z ?_)))))
 rintro _ _ _ - ⟨rfl,e6,rfl,rfl⟩
 have e7:OwnS (Kd.int .i64) k1 (.slice (some ⟨e6,0,none⟩) 1 1) [(rd a1.Add o)] [(e6, .cells #[(Iv (rd a1.Add o))] 3 (0,0))]:=OwnS.rows (css:=[[(Iv (rd a1.Add o))]]) (Rows.cons Z Rows.nil) Z Z
 refine qu (pt b 5) (Fa Ql7 a8 Z) (qu e (Lb 1 pl56 Z Z Z) ?_)
 obtain ⟨k3,h0,h⟩:=bnd h
 have D:=D.mono (d0.trans B)
 refine We (Cb Q12 (Tri.lend e7.excl fun w0_ H0_ hs0_=>(QgH [(rd a1.Add o)] a1.Drop _ _ _ (e7.rs hs0_) (D.mono (IM.le_add _ _)) k3 h0)) (QaU Z Z)) Z ?_
 rintro _ _ _ c0 ⟨_,⟨l5,l6,k5,rfl,rfl,⟨rfl,rfl⟩⟩,rfl⟩
 refine WL.a1 (Nt (Ch h Z (fun h1 h=> ?_) (fun h1 h=> ?_)))
 refine Sr (qa (Bv false) (Nt (Cr (Br (Tr (WQ.leaveR (inr ()) (oi h).symm (fun a2=> ?_)))))))
 subst a2
 have h:=(QdO d1)
 refine Br (Tr ?_)
 have h:=KK.early h g7
 exact Dr (Dr (Dr (Rf h [] Z (Rs Z Z) ((d0.trans B).trans c0) ⟨Z,Z⟩)))
 exact Ck (Bn (Tc (Cg (qu (Iv (i64.wrap (o+1))) (add A Z) (qm (Iv (i64.wrap (o+1))) (Wz (Dr (WQ.again (i64.wrap (o+1)) (oi h).symm ⟨(B.trans c0),Z,a8,N,O,Z⟩))))))))
 refine WC.exit (WQ.thenE (WQ.leaveE (inl ()) (oi h).symm (fun a2=> ?_)))
 subst a2
 have h:=QeJ d1
 exact WQ.blockH (WQ.thenFE h ⟨B,Z⟩)
 rintro _ m4 m5 m6 rfl ⟨e3,rfl⟩
 have h:=(Sum.elim_inl _ _ _).symm.trans h
 exact Sr (qa (Bv true) (Nt (Cr (Dr (Dr (Rf h [] Z (Rs Z Z) (d0.trans e3) ⟨Z,Z⟩))))))
noncomputable def QhJ (a0:ByteArray) (a1:Int) (a2:GErr):Option GErr:=
 (if a2.isNil=true then(some GErr.nil)else(some (GErr.fault a0 a1 a2)))
def QsC (a0:ByteArray) (a1:Int) (a2:GErr):GErr→Value→IM→HL→Prop:=
 fun(a:GErr) (v:Value) (M':IM) (H':HL)=>(GV a)=v∧H'=[]
theorem QnN (a0:ByteArray) (a1:Int) (a2:GErr) (M:IM) (res:GErr) (h:QhJ a0 a1 a2=some res):
 Tri prog 55 #[(Sv a0),(Iv a1),(GV a2)] M [] (QsC a0 a1 a2 res):=by
 unfold QhJ at h
 refine Te func55 Z Z ?_
 intro F ρ hρ
 refine Sr (qa (GV GErr.nil) (Nt (Cs (Sr (qM (GV a2) (hρ 2) (qu (Bv a2.isNil) (errNil underlying32 Z) (Nt (Ch h Z (fun a h=> ?_) (fun a h=> ?_)))))))))
 exact Sr (qa (GV GErr.nil) (Nt (Cr (Tr (Rf h [] Z (Rs Z Z) lr ⟨Z,Z⟩)))))
 exact Ck (Tc (Sr (qM (Sv a0) (hρ 0) (qM (Iv a1) (hρ 1) (qM (GV a2) (hρ 2) (qu (.agg #[(Sv a0),(Iv a1),(GV a2)]) (Bl (cl:=[(Sv a0),(Iv a1),(GV a2)]) Q4D Q7N (Pc (Sv a0) Z Z (Pc (Iv a1) Z Z (Parts.cons ((congrArg Value.cells (show ev _ _=(GV a2) from Z)).trans (GErr.val_cells _ _ _ _)) Pz))) Z) (qu (GV (GErr.fault a0 a1 a2)) (makeInterface Q7B Z) (qa (GV (GErr.fault a0 a1 a2)) (Nt (Cr (Rf h [] Z (Rs Z Z) lr ⟨Z,Z⟩)))))))))))
noncomputable def QgI (a0:QaA) (b:Int) (s_:Int):Option (Int⊕(Unit⊕GErr)):=
 match s_ with
 |a=>
 (if(decide (a<(((rd a0.Topics b).Parts).length:Int)))=true then(grd (0≤a∧a<((rd a0.Topics b).Parts).length) ((QlE a0 (rd ((rd a0.Topics b).Parts) a)).bind fun c=>(if(!c)=true then((QdD (⟨#[112,97,114,116]⟩:ByteArray) a (10:Int)).bind fun d=>((QhJ (⟨#[116,111,112,105,99]⟩:ByteArray) b d).bind fun e=>(some (inr (inr e)))))else(some (inl (i64.wrap (a+(1:Int))))))))else(some (inr (inl ()))))
noncomputable def QeM (a0:QaA) (s_:((List (ByteArray×Int))×Int×Int)):Option (((List (ByteArray×Int))×Int×Int)⊕(Unit⊕GErr)):=
 match s_ with
 |(b,c,a)=>
 (if(decide (a<(a0.Topics.length:Int)))=true then(((grd (0≤a∧a<a0.Topics.length) (((if(decide (((rd a0.Topics a).Id)≤c))=true then(some true)else(if(decide (a0.Last<((rd a0.Topics a).Id)))=true then(some true)else((QeW ((rd a0.Topics a).Name)).bind fun d=>(if(!d)=true then(some true)else(if(decide ((1:Int)<(Qb1 (QeC b ((rd a0.Topics a).Name) (i64.wrap ((Qb1 b ((rd a0.Topics a).Name))+(1:Int)))) ((rd a0.Topics a).Name))))=true then(some true)else(some (decide ((256:Int)<(((rd a0.Topics a).Parts).length:Int))))))))):Option Bool).bind fun e=>(if e=true then((QdD (⟨#[116,111,112,105,99]⟩:ByteArray) a (2:Int)).bind fun f=>(((some (inr (inr f)))).bind fun r=>some (inr r)))else((iter (QgI a0 a) (0:Int)).bind (Sum.elim (fun _=>(some (inl (QeC b ((rd a0.Topics a).Name) (i64.wrap ((Qb1 b ((rd a0.Topics a).Name))+(1:Int))),(rd a0.Topics a).Id)))) (fun(g:GErr)=>(((some (inr (inr g)))).bind fun r=>some (inr r)))))))):Option (((List (ByteArray×Int))×Int)⊕(((List (ByteArray×Int))×Int×Int)⊕(Unit⊕GErr)))).bind (Sum.elim (fun(i,j)=>(some (inl (i,j,i64.wrap (a+(1:Int)))))) some))else(some (inr (inl ()))))
noncomputable def Qi8 (a0:QaA):Option GErr:=
 (((if(decide ((256:Int)<(a0.Topics.length:Int)))=true then(some true)else(if(decide (a0.Last<(0:Int)))=true then(some true)else(some (decide ((1073741824:Int)<a0.Last))))):Option Bool).bind fun a=>(if a=true then((QdD (⟨#[116,111,112,105,99]⟩:ByteArray) (a0.Topics.length:Int) (6:Int)).bind fun b=>(some b))else((((iter (QeM a0) (([]:List (ByteArray×Int)),(0:Int),(0:Int))).bind (Sum.elim (fun _=>(some (inl ()))) (fun(c:GErr)=>(((some c)).bind fun r=>some (inr r))))):Option (Unit⊕GErr)).bind (Sum.elim (fun _=>(some GErr.nil)) some))))
def QqY (a0:QaA) (a b c d:Value):GErr→Value→IM→HL→Prop:=
 fun(e:GErr) (v:Value) (M':IM) (H':HL)=>(GV e)=v∧H'=[]
theorem QtO (a0:QaA) (M:IM) (f b g i:Value) (b4:RS QaD M f a0.Brokers) (j:RS QaG M b a0.Topics) (b5:RS QaF M g a0.Configs) (b6:RS QaI M i a0.Done) (res:GErr) (h:Qi8 a0=some res):
 Tri prog 25 #[(a27_ a0 f b g i)] M [] (QqY a0 f b g i res):=by
 unfold Qi8 at h
 refine Te func25 Z Z ?_
 intro F ρ hρ
 refine Sr (We (box (cs:=(l27 a0 f b g i).toArray) (congrArg Value.cells (asE (a27_ a0 f b g i) (hρ 0)))) Z ?_)
 rintro _ _ _ - ⟨rfl,u,rfl,rfl⟩
 refine qa (GV GErr.nil) (Nt (Cs ?_))
 obtain ⟨e2,f9,h⟩:=bnd h
 refine Jf (fun(e2:Bool) ρ' M' H'=>M.le M'∧[(u, .cells (l27 a0 f b g i).toArray 27 (0,0))]::F=H'∧ρ' 1=(pt u 0)∧ρ' 22=(Bv e2)) e2 ?_ ?_
 have h:=f9
 refine Cg (qu (pt u 1) (Fa QbW Z Z) (qu b (Lb 0 pl23 Z Z Z) (qu (Iv (a0.Topics.length:Int)) (lenS underlying23 Z j.len) (qu (Bv (decide ((256:Int)<(a0.Topics.length:Int)))) (gtr Z Z) (qm (Bv (decide ((256:Int)<(a0.Topics.length:Int)))) ?_)))))
 rcases Bi h with⟨G,h⟩ |⟨G,h⟩
 iterate 3 refine Of 13 Z Z G Z ?_
 refine qu (Bv true) (Pt Z G Z) (qm (Bv true) ?_)
 iterate 3 refine Of 18 Z Z Z Z ?_
 refine qu (Bv true) (Pt Z Z Z) (Wz ?_)
 obtain rfl:=oi h
 exact Tj ⟨lr,Z,Z,Z⟩
 refine qo 13 G (pt u 4) (Fa QmS Z Z) (qo 13 G (Iv a0.Last) (Lb 0 pl3 Z Z Z) (qo 13 G (Bv (decide (a0.Last<0))) (lss Z Z) (qu (Bv (decide (a0.Last<0))) (Pf Z G Z) (qm (Bv (decide (a0.Last<0))) ?_))))
 rcases Bi h with⟨I,h⟩ |⟨I,h⟩
 iterate 3 refine Of 18 Z Z I Z ?_
 refine qu (Bv true) (Pt Z I Z) (Wz ?_)
 obtain rfl:=oi h
 exact Tj ⟨lr,Z,Z,Z⟩
 refine qo 18 I (pt u 4) (Fa QmS Z Z) (qo 18 I (Iv a0.Last) (Lb 0 pl3 Z Z Z) (qo 18 I (Bv (decide ((1073741824:Int)<a0.Last))) (gtr Z Z) (qu (Bv (decide ((1073741824:Int)<a0.Last))) (Pf Z I Z) (Wz ?_))))
 obtain rfl:=oi h
 exact Tj ⟨lr,Z,Z,Z⟩
 rintro j3 g0 j4 ⟨J,rfl,P,b7⟩
 refine Ch h b7 (fun g1 h=> ?_) (fun g1 h=> ?_)
 refine Sr (qu (pt u 1) (Fa QbW P Z) (qu b (Lb 0 pl23 Z Z Z) ?_))
 have j:=j.mono J
 refine qu (Iv (a0.Topics.length:Int)) (lenS underlying23 Z j.len) ?_
 obtain ⟨g2,g3,h⟩:=bnd h
 refine We (Ca co27 (Qc0 ⟨#[116,111,112,105,99]⟩ (a0.Topics.length:Int) (6:Int) _ g2 g3) (QhR Z Z Z)) Z ?_
 rintro _ j5 _ e3 ⟨_,⟨rfl,rfl⟩,rfl⟩
 exact WL.a0 (qa (GV g2) (Nt (Cr (Tr (Dr (Rf h [] Z (Rs Z Z) (J.trans e3) ⟨Z,Z⟩))))))
 refine Ck (Tc (Sr (We (makeMap msV) Z ?_)))
 rintro g4 _ _ - ⟨rfl,i4,rfl,i5⟩
 refine qa g4 (Ns (qa (Iv 0) (Nt ?_)))
 obtain ⟨i6,g5,h⟩:=bnd h
 refine WC.joinE (fun(_:Unit) ρ' M' H'=>g0.le M'∧[(u, .cells (l27 a0 f b g i).toArray 27 (0,0))]::F=H') i6 ?_ ?_
 have d8:=h
 have h:=g5
 refine Sr (qu (pt u 1) (Fa QbW P Z) (qu b (Lb 1 pl23 Z Z Z) ?_))
 have j:=j.mono J
 refine qu (Iv (a0.Topics.length:Int)) (lenS underlying23 Z j.len) (qm (Iv 0) (Nt (Bk (WC.f1 ?_))))
 obtain ⟨j6,g6,b8⟩:=bnd h
 clear h
 refine WC.loop g6 (fun(p_:((List (ByteArray×Int))×Int×Int)) ρ' M' H'=>match p_ with |(E,b9,a)=>∃ B c0,g0.le M'∧[(u, .cells (l27 a0 f b g i).toArray 27 (0,0))]::c0::F=H'∧ρ' 1=(pt u 0)∧ρ' 3=B∧ρ' 4=(Iv b9)∧ρ' 29=b∧ρ' 30=(Iv (a0.Topics.length:Int))∧ρ' 31=(Iv a)∧OwnMp msV M' B E c0) ?_ ?_
 exact⟨g4,i4,lr,Z,P,Z,Z,Z,Z,Z,i5⟩
 rintro ⟨E,b9,a⟩ j7 j8 g7 j9 h ⟨B,c0,Q,rfl,w,o,c9,l,m,e,d9⟩
 unfold QeM at h
 refine Sr (qu (Bv (decide (a<(a0.Topics.length:Int)))) (lss e m) (Nt (Cs (Ch h Z (fun g8 h=> ?_) (fun g8 h=> ?_)))))
 refine Ck (Tc ?_)
 obtain ⟨i7,g9,h⟩:=bnd h
 refine WC.joinE (fun(p_:((List (ByteArray×Int))×Int)) ρ' M' H'=>match p_ with |(e4,e5)=>∃ Y a1,g7.le M'∧[(u, .cells (l27 a0 f b g i).toArray 27 (0,0))]::a1::F=H'∧ρ' 1=(pt u 0)∧ρ' 3=Y∧ρ' 4=(Iv e5)∧ρ' 29=b∧ρ' 30=(Iv (a0.Topics.length:Int))∧ρ' 31=(Iv a)∧OwnMp msV M' Y e4 a1) i7 ?_ ?_
 have e0:=h
 have h:=g9
 refine Bk (Sr (qM (Iv a) e ?_))
 obtain ⟨a2,h⟩:=QaQ h
 have j:=j.mono Q
 obtain ⟨i8,j1,e6,e7,hhas50⟩:=j.at a2.1 a2.2 (by decide)
 obtain ⟨c,rfl,d⟩:=QaN e7
 refine qu (.pointer (some i8)) (indexAddr (n:=a0.Topics.length) underlying23 sz55 l e a2.1 a2.2 e6) (qu (a55_ (rd a0.Topics a) c) (loadMA (cs:=(l55 (rd a0.Topics a) c)) ag55 sz55 Z hhas50) (We (Al ze55 Z) Z ?_))
 rintro _ _ _ - ⟨rfl,K,rfl,rfl⟩
 refine qa (Iv a) (We (Sg (v:=(a55_ (rd a0.Topics a) c)) (vl:=(l55 (rd a0.Topics a) c)) (arr':=(l55 (rd a0.Topics a) c)) Z sz55 Z Z (QbG (Oc Z (Oc Z (Oc (RS.one d) Oz)))) Z Z Z) Z ?_)
 rintro _ _ _ - ⟨rfl,rfl⟩
 refine Ns (qM B o (qu (pt K 1) (Fa QlP Z Z) (qu (Sv ((rd a0.Topics a).Name)) (Lb 0 pl9 Z Z Z) (qu (Iv (Qb1 E ((rd a0.Topics a).Name))) (lookup (val:=msV) (k:=((rd a0.Topics a).Name)) 2 underlying122 (MKey.str underlying9) ze3 Z Z Z d9) (qu (Iv (i64.wrap ((Qb1 E ((rd a0.Topics a).Name))+1))) (add Z Z) (Wb (We (mapUpdate (val:=msV) (k:=((rd a0.Topics a).Name)) underlying122 (MKey.str underlying9) Z Z Z d9) Z ?_)))))))
 rintro _ _ _ - ⟨rfl,e8,rfl,b3⟩
 refine Nt (Cs ?_)
 obtain ⟨e9,h0,h⟩:=bnd h
 refine Jf (fun(e9:Bool) ρ' M' H'=>g7.le M'∧[(K, .cells (l55 (rd a0.Topics a) c).toArray 55 (0,0))]::[(u, .cells (l27 a0 f b g i).toArray 27 (0,0))]::e8::F=H'∧ρ' 1=(pt u 0)∧ρ' 3=B∧ρ' 5=(Iv a)∧ρ' 6=(pt K 0)∧ρ' 29=b∧ρ' 30=(Iv (a0.Topics.length:Int))∧ρ' 31=(Iv a)∧ρ' 70=(Bv e9)) e9 ?_ ?_
 have h:=h0
 refine Cg (qu (pt K 0) (Fa Qk0 Z Z) (qu (Iv ((rd a0.Topics a).Id)) (Lb 1 pl3 Z Z Z) (qM (Iv b9) c9 (qu (Bv (decide (((rd a0.Topics a).Id)≤b9))) (leq Z Z) (qm (Bv (decide (((rd a0.Topics a).Id)≤b9))) ?_)))))
 rcases Bi h with⟨x,h⟩ |⟨x,h⟩
 iterate 5 refine Of 45 Z Z x Z ?_
 refine qu (Bv true) (Pt Z x Z) (qm (Bv true) ?_)
 iterate 4 refine Of 52 Z Z Z Z ?_
 refine qu (Bv true) (Pt Z Z Z) (qm (Bv true) ?_)
 iterate 5 refine Of 58 Z Z Z Z ?_
 refine qu (Bv true) (Pt Z Z Z) (qm (Bv true) ?_)
 iterate 4 refine Of 65 Z Z Z Z ?_
 refine qu (Bv true) (Pt Z Z Z) (Wz (Qb (Qb ?_)))
 obtain rfl:=oi h
 exact Tj ⟨lr,Z,w,o,Z,Z,l,m,e,Z⟩
 refine qo 45 x (pt K 0) (Fa Qk0 Z Z) (qo 45 x (Iv ((rd a0.Topics a).Id)) (Lb 1 pl3 Z Z Z) (qo 45 x (pt u 4) (Fa QmS w Z) (qo 45 x (Iv a0.Last) (Lb 2 pl3 Z Z Z) (qo 45 x (Bv (decide (a0.Last<((rd a0.Topics a).Id)))) (gtr Z Z) (qu (Bv (decide (a0.Last<((rd a0.Topics a).Id)))) (Pf Z x Z) (qm (Bv (decide (a0.Last<((rd a0.Topics a).Id)))) ?_))))))
 rcases Bi h with⟨C,h⟩ |⟨C,h⟩
 iterate 4 refine Of 52 Z Z C Z ?_
 refine qu (Bv true) (Pt Z C Z) (qm (Bv true) ?_)
 iterate 5 refine Of 58 Z Z Z Z ?_
 refine qu (Bv true) (Pt Z Z Z) (qm (Bv true) ?_)
 iterate 4 refine Of 65 Z Z Z Z ?_
 refine qu (Bv true) (Pt Z Z Z) (Wz (Qb (Qb ?_)))
 obtain rfl:=oi h
 exact Tj ⟨lr,Z,w,o,Z,Z,l,m,e,Z⟩
 refine qo 52 C (pt K 1) (Fa QlP Z Z) (qo 52 C (Sv ((rd a0.Topics a).Name)) (Lb 1 pl9 Z Z Z) (On 52 Z Z C ?_))
 obtain ⟨d0,h1,h⟩:=bnd h
 refine We (Ca co70 (QiJ ((rd a0.Topics a).Name) _ d0 h1) (QbK Z)) Z ?_
 rintro _ k0 _ L ⟨_,⟨rfl,rfl⟩,rfl⟩
 refine WL.a0 (qo 52 C (Bv (!d0)) (PO.not Z) (qu (Bv (!d0)) (Pf Z C Z) (qm (Bv (!d0)) ?_)))
 rcases Bi h with⟨y,h⟩ |⟨y,h⟩
 iterate 5 refine Of 58 Z Z y Z ?_
 refine qu (Bv true) (Pt Z y Z) (qm (Bv true) ?_)
 iterate 4 refine Of 65 Z Z Z Z ?_
 refine qu (Bv true) (Pt Z Z Z) (Wz (Qb (Qb ?_)))
 obtain rfl:=oi h
 exact Tj ⟨L,Z,w,o,Z,Z,l,m,e,Z⟩
 refine On 58 Z Z y (qM B o (qo 58 y (pt K 1) (Fa QlP Z Z) (qo 58 y (Sv ((rd a0.Topics a).Name)) (Lb 1 pl9 Z Z Z) (On 58 Z Z y ?_))))
 have b3:=b3.mono L
 refine qu (Iv (Qb1 (QeC E ((rd a0.Topics a).Name) (i64.wrap ((Qb1 E ((rd a0.Topics a).Name))+1))) ((rd a0.Topics a).Name))) (lookup (val:=msV) (k:=((rd a0.Topics a).Name)) 0 underlying122 (MKey.str underlying9) ze3 Z Z Z b3) (qo 58 y (Bv (decide ((1:Int)<(Qb1 (QeC E ((rd a0.Topics a).Name) (i64.wrap ((Qb1 E ((rd a0.Topics a).Name))+1))) ((rd a0.Topics a).Name))))) (gtr Z Z) (qu (Bv (decide ((1:Int)<(Qb1 (QeC E ((rd a0.Topics a).Name) (i64.wrap ((Qb1 E ((rd a0.Topics a).Name))+1))) ((rd a0.Topics a).Name))))) (Pf Z y Z) (qm (Bv (decide ((1:Int)<(Qb1 (QeC E ((rd a0.Topics a).Name) (i64.wrap ((Qb1 E ((rd a0.Topics a).Name))+1))) ((rd a0.Topics a).Name))))) ?_)))
 rcases Bi h with⟨D,h⟩ |⟨D,h⟩
 iterate 4 refine Of 65 Z Z D Z ?_
 refine qu (Bv true) (Pt Z D Z) (Wz (Qb (Qb ?_)))
 obtain rfl:=oi h
 exact Tj ⟨L,Z,w,o,Z,Z,l,m,e,Z⟩
 refine qo 65 D (pt K 2) (Fa QdB Z Z) (qo 65 D c (Lb 1 pl53 Z Z Z) (On 65 Z Z D ?_))
 have d:=d.mono L
 refine qu (Iv (((rd a0.Topics a).Parts).length:Int)) (lenS underlying53 Z d.len) (qo 65 D (Bv (decide ((256:Int)<(((rd a0.Topics a).Parts).length:Int)))) (gtr Z Z) (qu (Bv (decide ((256:Int)<(((rd a0.Topics a).Parts).length:Int)))) (Pf Z D Z) (Wz (Qb (Qb ?_)))))
 obtain rfl:=oi h
 exact Tj ⟨L,Z,w,o,Z,Z,l,m,e,Z⟩
 rintro k1 i9 k2 ⟨N,rfl,d1,d2,a3,a4,c1,c2,c3,c4⟩
 have h2:=(J.trans Q).trans N
 refine Ch h c4 (fun h3 h=> ?_) (fun h3 h=> ?_)
 refine Sr (qM (Iv a) a3 ?_)
 obtain ⟨f0,h4,h⟩:=bnd h
 refine We (Ca co27 (Qc0 ⟨#[116,111,112,105,99]⟩ a (2:Int) _ f0 h4) (QhR Z Z Z)) Z ?_
 rintro _ k3 _ f2 ⟨_,⟨rfl,rfl⟩,rfl⟩
 refine WL.a0 (qa (GV f0) (Nt (Cr (Tr (Br (Tr ?_))))))
 have h:=KK.early h e0
 refine WQ.leaveR (inr f0) (oi h).symm (fun O=> ?_)
 subst O
 have h:=(QdO b8)
 refine Br (Tr ?_)
 have h:=KK.early h d8
 exact Dr (Dr (Dr (Rf h [] Z (Rs Z Z) (h2.trans f2) ⟨Z,Z⟩)))
 refine Ck (Tc (Sr (qu (pt K 0) (Fa Qk0 a4 Z) (qu (Iv ((rd a0.Topics a).Id)) (Lb 0 pl3 Z Z Z) (qa (Iv ((rd a0.Topics a).Id)) (Ns (qu (pt K 2) (Fa QdB a4 Z) (qu c (Lb 0 pl53 Z Z Z) ?_))))))))
 have d:=d.mono N
 refine qu (Iv (((rd a0.Topics a).Parts).length:Int)) (lenS underlying53 Z d.len) (qm (Iv 0) (Nt (Bk ?_)))
 obtain ⟨k4,h5,e1⟩:=bnd h
 clear h
 refine WC.loop h5 (fun(t:Int) ρ' M' H'=>i9.le M'∧[(K, .cells (l55 (rd a0.Topics a) c).toArray 55 (0,0))]::[(u, .cells (l27 a0 f b g i).toArray 27 (0,0))]::e8::F=H'∧ρ' 1=(pt u 0)∧ρ' 3=B∧ρ' 4=(Iv ((rd a0.Topics a).Id))∧ρ' 5=(Iv a)∧ρ' 29=b∧ρ' 30=(Iv (a0.Topics.length:Int))∧ρ' 31=(Iv a)∧ρ' 76=c∧ρ' 77=(Iv (((rd a0.Topics a).Parts).length:Int))∧ρ' 78=(Iv t)) ?_ ?_
 exact⟨lr,Z,d1,d2,Z,a3,c1,c2,c3,Z,Z,Z⟩
 rintro t k5 k6 k7 k8 h ⟨A,rfl,R,a5,a6,a7,S,T,U,V,W,z⟩
 have d3:=h2.trans A
 unfold QgI at h
 refine Sr (qu (Bv (decide (t<(((rd a0.Topics a).Parts).length:Int)))) (lss z W) (Nt (Cs (Ch h Z (fun h6 h=> ?_) (fun h6 h=> ?_)))))
 refine Ck (Tc (Cs (Bk (Sr (qM (Iv t) z ?_)))))
 obtain ⟨a8,h⟩:=QaQ h
 have d:=d.mono A
 obtain ⟨j0,j2,f3,f4,hhas81⟩:=d.at a8.1 a8.2 (by decide)
 obtain ⟨p,q,r,s,rfl,a9,b0,b1,b2⟩:=Qb7 f4
 refine qu (.pointer (some j0)) (indexAddr (n:=((rd a0.Topics a).Parts).length) underlying53 sz58 V z a8.1 a8.2 f3) (qu (a58_ (rd ((rd a0.Topics a).Parts) t) p q r s) (loadMA (cs:=(l58 (rd ((rd a0.Topics a).Parts) t) p q r s)) ag58 sz58 Z hhas81) (We (Al ze58 Z) Z ?_))
 rintro _ _ _ - ⟨rfl,k9,rfl,rfl⟩
 refine qa (Iv t) (We (Sg (v:=(a58_ (rd ((rd a0.Topics a).Parts) t) p q r s)) (vl:=(l58 (rd ((rd a0.Topics a).Parts) t) p q r s)) (arr':=(l58 (rd ((rd a0.Topics a).Parts) t) p q r s)) Z sz58 Z Z (QbG (Oc (RS.one a9) (Oc (RS.one b0) (Oc Z (Oc Z (Oc (RS.one b1) (Oc (RS.one b2) Oz))))))) Z Z Z) Z ?_)
 rintro _ _ _ - ⟨rfl,rfl⟩
 refine Ns (qu (a27_ a0 f b g i) (La (cs:=(l27 a0 f b g i)) 2 ag27 sz27 R Z Z) (qu (a58_ (rd ((rd a0.Topics a).Parts) t) p q r s) (La (cs:=(l58 (rd ((rd a0.Topics a).Parts) t) p q r s)) 0 ag58 sz58 Z Z Z) ?_))
 obtain ⟨h7,h8,h⟩:=bnd h
 have b4:=b4.mono d3
 have j:=j.mono (N.trans A)
 have b5:=b5.mono d3
 have b6:=b6.mono d3
 refine We (Ca co72 (QvT a0 (rd ((rd a0.Topics a).Parts) t) _ _ _ _ _ _ _ _ _ b4 j b5 b6 a9 b0 b1 b2 h7 h8) (QaU Z Z)) Z ?_
 rintro _ l0 _ c5 ⟨_,⟨rfl,rfl⟩,rfl⟩
 refine WL.a0 (qu (Bv (!h7)) (PO.not Z) (Nt (Ch h Z (fun h9 h=> ?_) (fun h9 h=> ?_))))
 refine Sr (qM (Iv a) a7 (qm (Iv t) ?_))
 obtain ⟨i0,i1,h⟩:=bnd h
 refine We (Ca co27 (Qc0 ⟨#[112,97,114,116]⟩ t (10:Int) _ i0 i1) (QhR Z Z Z)) Z ?_
 rintro _ l1 _ f5 ⟨_,⟨rfl,rfl⟩,rfl⟩
 refine WL.a0 ?_
 obtain ⟨d4,i2,h⟩:=bnd h
 refine We (Ca co55 (QnN ⟨#[116,111,112,105,99]⟩ a i0 _ d4 i2) (QhR Z Z Z)) Z ?_
 rintro _ l2 _ f6 ⟨_,⟨rfl,rfl⟩,rfl⟩
 refine WL.a0 (qa (GV d4) (Nt (Cr (Br (Tr (WQ.leaveR (inr d4) (oi h).symm (fun X=> ?_)))))))
 subst X
 have h:=(QdO e1)
 refine Br (Br (Tr ?_))
 have h:=KK.early h e0
 refine WQ.leaveR (inr d4) (oi h).symm (fun O=> ?_)
 subst O
 have h:=(QdO b8)
 refine Br (Tr ?_)
 have h:=KK.early h d8
 exact Dr (Dr (Dr (Dr (Rf h [] Z (Rs Z Z) (((d3.trans c5).trans f5).trans f6) ⟨Z,Z⟩))))
 exact Ck (Bn (Tc (Cg (qu (Iv (i64.wrap (t+1))) (add z Z) (qm (Iv (i64.wrap (t+1))) (Wz (Dr (WQ.again (i64.wrap (t+1)) (oi h).symm ⟨(A.trans c5),Z,R,a5,a6,a7,S,T,U,V,W,Z⟩))))))))
 refine WC.exit (WQ.thenE (WQ.leaveE (inl ()) (oi h).symm (fun X=> ?_)))
 subst X
 have h:=QeJ e1
 refine WQ.blockH (Bn (Dr (WQ.thenFE h ?_)))
 have b3:=b3.mono (N.trans A)
 exact⟨B,e8,(N.trans A),Z,R,a5,a6,S,T,U,b3⟩
 rintro ⟨e4,e5⟩ l3 l4 l5 rfl ⟨Y,a1,f7,rfl,d5,d6,d7,c6,c7,c8,i3⟩
 have h:=(Sum.elim_inl _ _ _).symm.trans h
 exact Cg (qu (Iv (i64.wrap (a+1))) (add c8 Z) (qm (Iv (i64.wrap (a+1))) (Wz (WQ.again (e4,e5,i64.wrap (a+1)) (oi h).symm ⟨Y,a1,(Q.trans f7),Z,d5,d6,d7,c6,c7,Z,i3⟩))))
 refine WC.exit (WQ.thenE (WQ.leaveE (inl ()) (oi h).symm (fun O=> ?_)))
 subst O
 have h:=QeJ b8
 exact WQ.blockH (Qa (Dr (WQ.thenFE h ⟨Q,Z⟩)))
 rintro _ l6 l7 l8 rfl ⟨f8,rfl⟩
 have h:=(Sum.elim_inl _ _ _).symm.trans h
 exact Sr (qa (GV GErr.nil) (Nt (Cr (Dr (Rf h [] Z (Rs Z Z) (J.trans f8) ⟨Z,Z⟩)))))
noncomputable def QlF (a0:QaC):Option Int:=
 (some a0.Id)
def QoV (a0:QaC) (a:Value):Int→Value→IM→HL→Prop:=
 fun(b:Int) (v:Value) (M':IM) (H':HL)=>(.int .i64 b)=v∧H'=[]
theorem QqZ (a0:QaC) (M:IM) (a:Value) (c:RS QbF M a a0.Parts) (res:Int) (h:QlF a0=some res):
 Tri prog 144 #[(a55_ a0 a)] M [] (QoV a0 a res):=by
 unfold QlF at h
 refine Te func144 Z Z ?_
 intro F ρ hρ
 refine Sr (We (box (cs:=(l55 a0 a).toArray) (congrArg Value.cells (asE (a55_ a0 a) (hρ 0)))) Z ?_)
 rintro _ _ _ - ⟨rfl,b,rfl,rfl⟩
 exact qa (Iv 0) (Ns (qu (pt b 0) (Fa Qk0 Z Z) (qu (Iv a0.Id) (Lb 0 pl3 Z Z Z) (qa (Iv a0.Id) (Nt (Cr (Dr (Rf h [] Z (Rs Z Z) lr ⟨Z,Z⟩))))))))
noncomputable def Qb3 (a0:QaC) (a1:Int):Option Int:=
 ((QlF a0).bind fun a=>(some (i64.wrap (a - a1))))
def Qh2 (a0:QaC) (a1:Int) (a:Value) (b:Nat):Int→Value→IM→HL→Prop:=
 fun(c:Int) (v:Value) (M':IM) (H':HL)=>(.int .i64 c)=v∧H'=[[(b, .cells #[(.func (.func 144) #[] #[])] 212 (0,0))]]
theorem QeE (a0:QaC) (a1:Int) (M:IM) (a:Value) (f:Nat) (d:RS QbF M a a0.Parts) (res:Int) (h:Qb3 a0 a1=some res):
 Tri prog 152 #[(a55_ a0 a),(Iv a1),(pt f 0)] M [[(f, .cells #[(.func (.func 144) #[] #[])] 212 (0,0))]] (Qh2 a0 a1 a f res):=by
 unfold Qb3 at h
 refine Te func152 Z Z ?_
 intro F ρ hρ
 refine Sr (We (box (cs:=(l55 a0 a).toArray) (congrArg Value.cells (asE (a55_ a0 a) (hρ 0)))) Z ?_)
 rintro _ _ _ - ⟨rfl,g,rfl,rfl⟩
 refine qa (Iv 0) (Ns (qu (.func (.func 144) #[] #[]) (Lb 1 Q93 (hρ 2) Z Z) (qu (a55_ a0 a) (La (cs:=(l55 a0 a)) 0 ag55 sz55 Z Z Z) ?_)))
 obtain ⟨b,e,h⟩:=bnd h
 refine We (callV0 (first:=#[]) (cap:=#[]) Q9Q Z (QqZ a0 _ _ d b e) (Qz6 Z Z)) Z ?_
 rintro _ i _ c ⟨_,⟨rfl,rfl⟩,rfl⟩
 exact WL.a0 (qM (Iv a1) (hρ 1) (qu (Iv (i64.wrap (b - a1))) (PO.sub Z Z) (qa (Iv (i64.wrap (b - a1))) (Nt (Cr (Dr (Rf h [[(f, .cells #[(.func (.func 144) #[] #[])] 212 (0,0))]] Z (Rs Z Z) c ⟨Z,Z⟩)))))))
noncomputable def QaP (a0:(List QaC)) (a1:Int) (s_:(Int×Int)):Option ((Int×Int)⊕Int):=
 match s_ with
 |(a,b)=>
 (if(decide (a<b))=true then(grd (0≤i64.wrap (shrI .u64 (u64.wrap (i64.wrap (a+b))) (1:Int))∧i64.wrap (shrI .u64 (u64.wrap (i64.wrap (a+b))) (1:Int))<a0.length) ((Qb3 (rd a0 (i64.wrap (shrI .u64 (u64.wrap (i64.wrap (a+b))) (1:Int)))) a1).bind fun c=>(if(decide (c<(0:Int)))=true then(some (inl (i64.wrap ((i64.wrap (shrI .u64 (u64.wrap (i64.wrap (a+b))) (1:Int)))+(1:Int)),b)))else(some (inl (a,i64.wrap (shrI .u64 (u64.wrap (i64.wrap (a+b))) (1:Int))))))))else(some (inr a)))
noncomputable def QaZ (a0:(List QaC)) (a1:Int):Option (Int×Bool):=
 ((((iter (QaP a0 a1) ((0:Int),(a0.length:Int))).bind (fun(b:Int)=>(some b))):Option Int).bind fun a=>(((if(decide (a<(a0.length:Int)))=true then(grd (0≤a∧a<a0.length) ((Qb3 (rd a0 a) a1).bind fun c=>(some (a,decide (c=(0:Int))))))else(some (a,false))):Option (Int×Bool)).bind fun(d,e)=>(some (d,e))))
def QcU (a0:(List QaC)) (a1:Int) (c:Value) (g2k0:Nat):(Int×Bool)→Value→IM→HL→Prop:=
 fun(p_:(Int×Bool)) (v:Value) (M':IM) (H':HL)=>match p_ with |(a,b)=>(.tuple #[(.int .i64 a),(.bool b)])=v∧H'=[[(g2k0, .cells #[(.func (.func 144) #[] #[])] 212 (0,0))]]
theorem QcW (a0:(List QaC)) (a1:Int) (M:IM) (D:Value) (g2k0:Nat) (E:RS QaG M D a0) (res:(Int×Bool)) (h:QaZ a0 a1=some res):
 Tri prog 151 #[D,(Iv a1),(.func (.func 152) #[] #[(pt g2k0 0)])] M [[(g2k0, .cells #[(.func (.func 144) #[] #[])] 212 (0,0))]] (QcU a0 a1 D g2k0 res):=by
 unfold QaZ at h
 refine Te func151 Z Z ?_
 intro F ρ hρ
 refine Sr (qa (Iv 0) (qa (Bv false) (Ns (qM D (hρ 0) (qu (Iv (a0.length:Int)) (lenS underlying23 Z E.len) (qa (Iv (a0.length:Int)) (Ns (qm (Iv (a0.length:Int)) (qa (Iv 0) (qa (Iv (a0.length:Int)) (Nt ?_)))))))))))
 obtain ⟨d,P,h⟩:=bnd h
 refine Jf (fun(d:Int) ρ' M' H'=>M.le M'∧[(g2k0, .cells #[(.func (.func 144) #[] #[])] 212 (0,0))]::F=H'∧ρ' 0=D∧ρ' 1=(Iv a1)∧ρ' 2=(.func (.func 152) #[] #[(pt g2k0 0)])∧ρ' 8=(Iv (a0.length:Int))∧ρ' 9=(Iv d)) d ?_ ?_
 have h:=P
 refine Bk ?_
 obtain ⟨a9,Q,R⟩:=bnd h
 clear h
 refine WC.loop Q (fun(p_:(Int×Int)) ρ' M' H'=>match p_ with |(a,b)=>M.le M'∧[(g2k0, .cells #[(.func (.func 144) #[] #[])] 212 (0,0))]::F=H'∧ρ' 0=D∧ρ' 1=(Iv a1)∧ρ' 2=(.func (.func 152) #[] #[(pt g2k0 0)])∧ρ' 8=(Iv (a0.length:Int))∧ρ' 9=(Iv a)∧ρ' 10=(Iv b)) ?_ ?_
 exact⟨lr,Z,(hρ 0),(hρ 1),(hρ 2),Z,Z,Z⟩
 rintro ⟨a,b⟩ b0 b1 b2 b3 h ⟨k,rfl,e,f,g,l,i,j⟩
 unfold QaP at h
 refine Cs (Sr (qM (Iv a) i (qM (Iv b) j (qu (Bv (decide (a<b))) (lss Z Z) (Nt (Ch h Z (fun S h=> ?_) (fun S h=> ?_)))))))
 refine Ck (Tc (Bk (Sr (qM (Iv a) i (qM (Iv b) j (qu (Iv (i64.wrap (a+b))) (add Z Z) (qu (Uv (u64.wrap (i64.wrap (a+b)))) (conv us3 underlying172 Z) (qu (Uv (shrI .u64 (u64.wrap (i64.wrap (a+b))) (1:Int))) (shr Z Z (by decide)) (qu (Iv (i64.wrap (shrI .u64 (u64.wrap (i64.wrap (a+b))) (1:Int)))) (conv Q7V underlying3 Z) (qa (Iv (i64.wrap (shrI .u64 (u64.wrap (i64.wrap (a+b))) (1:Int)))) (Ns ?_)))))))))))
 refine qM (.func (.func 152) #[] #[(pt g2k0 0)]) g (qM D e (qm (Iv (i64.wrap (shrI .u64 (u64.wrap (i64.wrap (a+b))) (1:Int)))) ?_))
 obtain ⟨o,h⟩:=QaQ h
 have E:=E.mono k
 obtain ⟨a4,a7,G,I,hhas33⟩:=E.at o.1 o.2 (by decide)
 obtain ⟨p,rfl,u⟩:=QaN I
 refine qu (.pointer (some a4)) (indexAddr (n:=a0.length) underlying23 sz55 Z Z o.1 o.2 G) (qu (a55_ (rd a0 (i64.wrap (shrI .u64 (u64.wrap (i64.wrap (a+b))) (1:Int)))) p) (loadMA (cs:=(l55 (rd a0 (i64.wrap (shrI .u64 (u64.wrap (i64.wrap (a+b))) (1:Int)))) p)) ag55 sz55 Z hhas33) (qM (Iv a1) f ?_))
 obtain ⟨T,U,h⟩:=bnd h
 refine We (callV1 (first:=#[]) (cap:=#[(pt g2k0 0)]) Q7I Z (QeE (rd a0 (i64.wrap (shrI .u64 (u64.wrap (i64.wrap (a+b))) (1:Int)))) a1 _ _ _ u T U) (Qz7 Z Z Z)) Z ?_
 rintro _ b4 _ s ⟨_,⟨rfl,rfl⟩,rfl⟩
 refine WL.a1 (qu (Bv (decide (T<0))) (lss Z Z) (Nt (Ch h Z (fun V h=> ?_) (fun V h=> ?_))))
 exact Cg (qm (Iv (i64.wrap (shrI .u64 (u64.wrap (i64.wrap (a+b))) (1:Int)))) (qu (Iv (i64.wrap ((i64.wrap (shrI .u64 (u64.wrap (i64.wrap (a+b))) (1:Int)))+1))) (add Z Z) (qa (Iv (i64.wrap ((i64.wrap (shrI .u64 (u64.wrap (i64.wrap (a+b))) (1:Int)))+1))) (Wz (Bn (WQ.again (i64.wrap ((i64.wrap (shrI .u64 (u64.wrap (i64.wrap (a+b))) (1:Int)))+1),b) (oi h).symm ⟨(k.trans s),Z,e,f,g,l,Z,j⟩))))))
 exact Cg (qm (Iv (i64.wrap (shrI .u64 (u64.wrap (i64.wrap (a+b))) (1:Int)))) (qa (Iv (i64.wrap (shrI .u64 (u64.wrap (i64.wrap (a+b))) (1:Int)))) (Wz (Bn (WQ.again (a,i64.wrap (shrI .u64 (u64.wrap (i64.wrap (a+b))) (1:Int))) (oi h).symm ⟨(k.trans s),Z,e,f,g,l,i,Z⟩)))))
 refine WC.exit (WQ.thenE (WQ.leaveE a (oi h).symm (fun J=> ?_)))
 subst J
 have h:=R
 refine WQ.blockH ?_
 obtain rfl:=oi h
 exact Tj ⟨k,Z,e,f,g,l,i⟩
 rintro b5 a5 b6 ⟨t,rfl,v,w,x,y,m⟩
 obtain ⟨W,X,h⟩:=bnd h
 refine Jf (fun(p_:(Int×Bool)) ρ' M' H'=>match p_ with |(Y,a2)=>a5.le M'∧[(g2k0, .cells #[(.func (.func 144) #[] #[])] 212 (0,0))]::F=H'∧ρ' 6=(Iv Y)∧ρ' 7=(Bv a2)) W ?_ ?_
 have h:=X
 refine Cg (qM (Iv d) m (qM (Iv d) m (qM (Iv (a0.length:Int)) y (qu (Bv (decide (d<(a0.length:Int)))) (lss Z Z) (qm (Bv (decide (d<(a0.length:Int)))) ?_)))))
 rcases Bi h with⟨c,h⟩ |⟨c,h⟩
 refine On 39 Z Z c (qM (.func (.func 152) #[] #[(pt g2k0 0)]) x (On 39 Z Z c (qM D v (On 39 Z Z c (qM (Iv d) m (On 39 Z Z c ?_))))))
 obtain ⟨q,h⟩:=QaQ h
 have E:=E.mono t
 obtain ⟨a6,a8,K,L,hhas50⟩:=E.at q.1 q.2 (by decide)
 obtain ⟨r,rfl,z⟩:=QaN L
 refine qu (.pointer (some a6)) (indexAddr (n:=a0.length) underlying23 sz55 Z Z q.1 q.2 K) (qo 39 c (a55_ (rd a0 d) r) (loadMA (cs:=(l55 (rd a0 d) r)) ag55 sz55 Z hhas50) (On 39 Z Z c (qM (Iv a1) w (On 39 Z Z c ?_))))
 obtain ⟨A,a3,h⟩:=bnd h
 refine We (callV1 (first:=#[]) (cap:=#[(pt g2k0 0)]) Q7I Z (QeE (rd a0 d) a1 _ _ _ z A a3) (Qz7 Z Z Z)) Z ?_
 rintro _ b7 _ N ⟨_,⟨rfl,rfl⟩,rfl⟩
 refine WL.a1 (qo 39 c (Bv (decide (A=0))) (eql Z Z) (qu (Bv (decide (A=0))) (Pt Z c Z) (qa (Iv d) (qa (Bv (decide (A=0))) (Wz ?_)))))
 obtain rfl:=oi h
 exact Tj ⟨N,Z,Z,Z⟩
 iterate 8 refine Of 39 Z Z c Z ?_
 refine qu (Bv false) (Pf Z c Z) (qa (Iv d) (qa (Bv false) (Wz ?_)))
 obtain rfl:=oi h
 exact Tj ⟨lr,Z,Z,Z⟩
 obtain ⟨Y,a2⟩:=W
 rintro b8 b9 c0 ⟨O,rfl,B,C⟩
 exact Cr (Rf h [[(g2k0, .cells #[(.func (.func 144) #[] #[])] 212 (0,0))]] Z (QgZ Z B C) (t.trans O) ⟨Z,Z⟩)
noncomputable def QcQ (a0:(List QaC)) (a1:Int):Option (Int×Bool):=
 ((QaZ a0 a1).bind fun(a,b)=>(some (a,b)))
def QiP (a0:(List QaC)) (a1:Int) (c:Value):(Int×Bool)→Value→IM→HL→Prop:=
 fun(p_:(Int×Bool)) (v:Value) (M':IM) (H':HL)=>match p_ with |(a,b)=>(.tuple #[(.int .i64 a),(.bool b)])=v∧H'=[]
theorem Qi9 (a0:(List QaC)) (a1:Int) (M:IM) (f:Value) (g:RS QaG M f a0) (res:(Int×Bool)) (h:QcQ a0 a1=some res):
 Tri prog 143 #[f,(Iv a1),(.func (.func 144) #[] #[])] M [] (QiP a0 a1 f res):=by
 unfold QcQ at h
 refine Te func143 Z Z ?_
 intro F ρ hρ
 refine Sr (We (box (cs:=#[(.func (.func 144) #[] #[])]) (congrArg Value.cells (asE (.func (.func 144) #[] #[]) (hρ 2)))) Z ?_)
 rintro _ _ _ - ⟨rfl,d,rfl,rfl⟩
 refine qa (Iv 0) (qa (Bv false) (Ns (qM f (hρ 0) (qM (Iv a1) (hρ 1) (qu (.func (.func 152) #[] #[(pt d 0)]) (makeFunc2 (QmX) (QbK (show ev _ _=(pt d 0) from Z))) ?_)))))
 obtain ⟨⟨a,b⟩,e,h⟩:=bnd h
 refine We (Cb Q9V (QcW a0 a1 _ _ _ g (a,b) e) (QhR Z Z Z)) Z ?_
 rintro _ i _ c ⟨_,⟨rfl,rfl⟩,rfl⟩
 exact WL.a1 (qu (Iv a) (Xt Z Z) (qu (Bv b) (Xt Z Z) (qa (Iv a) (qa (Bv b) (Nt (Cr (Dr (Rf h [] Z (QgZ Z Z Z) c ⟨Z,Z⟩))))))))
noncomputable def Qk5 (a0:QaA) (a1:Int):Option (Int×Bool):=
 ((QcQ a0.Topics a1).bind fun(a,b)=>(some (a,b)))
def Qq0 (a0:QaA) (a1:Int) (a b c d:Value):(Int×Bool)→Value→IM→HL→Prop:=
 fun(p_:(Int×Bool)) (v:Value) (M':IM) (H':HL)=>match p_ with |(e,f)=>(.tuple #[(.int .i64 e),(.bool f)])=v∧H'=[]
theorem QtP (a0:QaA) (a1:Int) (M:IM) (b a c d:Value) (l:RS QaD M b a0.Brokers) (i:RS QaG M a a0.Topics) (m:RS QaF M c a0.Configs) (n:RS QaI M d a0.Done) (res:(Int×Bool)) (h:Qk5 a0 a1=some res):
 Tri prog 113 #[(a27_ a0 b a c d),(Iv a1)] M [] (Qq0 a0 a1 b a c d res):=by
 unfold Qk5 at h
 refine Te func113 Z Z ?_
 intro F ρ hρ
 refine Sr (We (box (cs:=(l27 a0 b a c d).toArray) (congrArg Value.cells (asE (a27_ a0 b a c d) (hρ 0)))) Z ?_)
 rintro _ _ _ - ⟨rfl,k,rfl,rfl⟩
 refine qa (Iv 0) (qa (Bv false) (Ns (qu (pt k 1) (Fa QbW Z Z) (qu a (Lb 0 pl23 Z Z Z) (qM (Iv a1) (hρ 1) ?_)))))
 obtain ⟨⟨e,f⟩,j,h⟩:=bnd h
 refine We (Ca Q9P (Qi9 a0.Topics a1 _ _ i (e,f) j) (QhR Z Z Z)) Z ?_
 rintro _ o _ g ⟨_,⟨rfl,rfl⟩,rfl⟩
 exact WL.a0 (qu (Iv e) (Xt Z Z) (qu (Bv f) (Xt Z Z) (qa (Iv e) (qa (Bv f) (Nt (Cr (Dr (Rf h [] Z (QgZ Z Z Z) g ⟨Z,Z⟩))))))))

end Go.Proofs.YtpcbipcdfccnnaaGreatDoor.G
