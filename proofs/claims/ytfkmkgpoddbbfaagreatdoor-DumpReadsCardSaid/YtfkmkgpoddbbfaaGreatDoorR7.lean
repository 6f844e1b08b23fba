/- Go functions: what they come to, and that they do. Printed by a program of the session (gen). -/
import Derived.Test.YtfkmkgpoddbbfaaGreatDoorRF
import Derived.Test.YtfkmkgpoddbbfaaGreatDoorR0
import Derived.Test.YtfkmkgpoddbbfaaGreatDoorR3
import Derived.Test.YtfkmkgpoddbbfaaGreatDoorR4
import Derived.Test.YtfkmkgpoddbbfaaGreatDoorR5
import Derived.Test.YtfkmkgpoddbbfaaGreatDoorR6
import Derived.Test.YtfkmkgpoddbbfaaGreatDoorKShar2
import Derived.Test.YtfkmkgpoddbbfaaGreatDoorKConv
import Derived.Test.YtfkmkgpoddbbfaaGreatDoorKMap
import Derived.Test.YtfkmkgpoddbbfaaGreatDoorKTight2
set_option linter.unusedVariables false
set_option linter.unusedSimpArgs false
set_option maxHeartbeats 8000000
set_option maxRecDepth 100000
namespace Go.Proofs.YtfkmkgpoddbbfaaGreatDoor.G
open Go Go.KK
open PO EO IntKind Sum Tryz

noncomputable def QbN (a0:QaC) (g:Int) (m:((List QaJ)×Int×Int×GErr)):Option (((List QaJ)×Int×Int×GErr)⊕((List QaJ)×Int×GErr)):=
 match m with
 |(a,e,c,d)=>
 (((if(decide (e<g))=true then((QdS (⟨a0.b,c,d⟩:QaC)).bind fun i=>(some i.isNil))else(some false)):Option Bool).bind fun j=>(if j=true then((QcH (⟨a0.b,c,d⟩:QaC)).bind fun(f,k,l)=>(grd (a.length+[f].length≤274877906944) (some (inl (a++[f],i64.wrap (e+(1:Int)),k,l)))))else(some (inr (a,c,d)))))
noncomputable def QbH (a0:QaC) (a1:Int):Option ((List QaJ)×Int×GErr):=
 ((Qa5 a0 a1).bind fun(a,b,c)=>((((iter (QbN a0 a) ([],(0:Int),b,c)).bind (fun(d,e,f)=>(some (d,e,f)))):Option ((List QaJ)×Int×GErr)).bind fun(g,i,j)=>(some (g,i,j))))
def QfC (a0:QaC) (a1:Int) (a:Value) (d g2k0 g2k0qk0 g2k1:Nat):((List QaJ)×Int×GErr)→Value→IM→HL→Prop:=
 fun(e:((List QaJ)×Int×GErr)) (v:Value) (f:IM) (g:HL)=>match e with |(i,j,k)=>∃ b c,b=v∧g=[[(d, .cells #[a,(.int .i64 j),(GV k)] 108 (0,0))],[(g2k0qk0, .cells #[(.pointer (some ⟨d,0,none⟩))] 56 (0,0))],[(g2k0, .cells #[(.func (.func 16) #[] #[(.pointer (some ⟨g2k0qk0,0,none⟩))])] 59 (0,0))],[(g2k1, .cells #[(.func (.func 18) #[] #[(.pointer (some ⟨g2k0qk0,0,none⟩))])] 61 (0,0))],c]∧OwnS QaH f b i c
theorem QfT (a0:QaC) (a1:Int) (M:IM) (a:Value) (r g2k0 g2k0qk0 g2k1:Nat) (c:RS (Kd.int .u8) M a a0.b) (U:((List QaJ)×Int×GErr)) (h:QbH a0 a1=some U):
 Tri prog 29 #[(pt r 0),(Iv a1),(.func (.func 30) #[] #[(pt g2k0 0),(pt g2k1 0),(pt g2k0qk0 0)])] M [[(r, .cells #[a,(Iv a0.at_),(GV a0.err)] 108 (0,0))],[(g2k0qk0, .cells #[(pt r 0)] 56 (0,0))],[(g2k0, .cells #[(.func (.func 16) #[] #[(pt g2k0qk0 0)])] 59 (0,0))],[(g2k1, .cells #[(.func (.func 18) #[] #[(pt g2k0qk0 0)])] 61 (0,0))]] (QfC a0 a1 a r g2k0 g2k0qk0 g2k1 U):=by
 unfold QbH at h
 refine Te func29 Z Z ?_
 intro F ρ b7
 refine Sr (qa Zs (Ns (qa Zs (Ns (qM (pt r 0) (b7 0) (qM (Iv a1) (b7 1) ?_))))))
 obtain ⟨⟨s,b8,b9⟩,V,h⟩:=bnd h
 refine We (Cb co17 (QcD a0 a1 _ _ _ c (s,b8,b9) V) (QaS Z Z)) Z ?_
 rintro _ W _ t ⟨_,⟨rfl,rfl⟩,rfl⟩
 refine WL.a1 (qa (Iv s) (Nt ?_))
 obtain ⟨X,Y,h⟩:=bnd h
 refine Jf (fun(p_:((List QaJ)×Int×GErr)) u L H'=>match p_ with |(a3,N,O)=>∃ g p,W.le L∧[(r, .cells #[a,(Iv N),(GV O)] 108 (0,0))]::[(g2k0qk0, .cells #[(pt r 0)] 56 (0,0))]::[(g2k0, .cells #[(.func (.func 16) #[] #[(pt g2k0qk0 0)])] 59 (0,0))]::[(g2k1, .cells #[(.func (.func 18) #[] #[(pt g2k0qk0 0)])] 61 (0,0))]::p::F=H'∧u 7=g∧OwnS QaH L g a3 p) X ?_ ?_
 have h:=Y
 refine Sr (qa (Iv 0) (Nt (Bk (WC.e0 (WC.f4 (WC.f4 (WC.f4 (WC.f4 ?_))))))))
 obtain ⟨c6,a5,a6⟩:=bnd h
 clear h
 refine WC.loop a5 (fun(p_:((List QaJ)×Int×Int×GErr)) u L H'=>match p_ with |(C,f,A,B)=>∃ i q,W.le L∧[(r, .cells #[a,(Iv A),(GV B)] 108 (0,0))]::[(g2k0qk0, .cells #[(pt r 0)] 56 (0,0))]::[(g2k0, .cells #[(.func (.func 16) #[] #[(pt g2k0qk0 0)])] 59 (0,0))]::[(g2k1, .cells #[(.func (.func 18) #[] #[(pt g2k0qk0 0)])] 61 (0,0))]::q::F=H'∧u 0=(pt r 0)∧u 2=(.func (.func 30) #[] #[(pt g2k0 0),(pt g2k1 0),(pt g2k0qk0 0)])∧u 7=i∧u 8=(Iv s)∧u 9=(Iv f)∧OwnS QaH L i C q) ?_ ?_
 exact⟨Zs,[],lr,Z,(b7 0),(b7 2),Z,Z,Z,(OwnS.nil _ _)⟩
 rintro ⟨C,f,A,B⟩ c7 c8 c1 c9 h ⟨i,q,k,rfl,l,v,w,m,n,j⟩
 unfold QbN at h
 refine Cs ?_
 obtain ⟨P,a7,h⟩:=bnd h
 refine Jf (fun(P:Bool) u L H'=>c1.le L∧[(r, .cells #[a,(Iv A),(GV B)] 108 (0,0))]::[(g2k0qk0, .cells #[(pt r 0)] 56 (0,0))]::[(g2k0, .cells #[(.func (.func 16) #[] #[(pt g2k0qk0 0)])] 59 (0,0))]::[(g2k1, .cells #[(.func (.func 18) #[] #[(pt g2k0qk0 0)])] 61 (0,0))]::q::F=H'∧u 0=(pt r 0)∧u 2=(.func (.func 30) #[] #[(pt g2k0 0),(pt g2k1 0),(pt g2k0qk0 0)])∧u 7=i∧u 8=(Iv s)∧u 9=(Iv f)∧u 20=(Bv P)) P ?_ ?_
 have h:=a7
 refine Cg (qM (Iv f) n (qM (Iv s) m (qu (Bv (decide (f<s))) (lss Z Z) (qm (Bv (decide (f<s))) ?_))))
 rcases Bi h with⟨d,h⟩ |⟨d,h⟩
 refine On 16 Z Z d (qM (pt r 0) l (On 16 Z Z d ?_))
 obtain ⟨Q,a8,h⟩:=bnd h
 have c:=c.mono (t.trans k)
 refine We (Cb co58 (Qd8 (⟨a0.b,A,B⟩:QaC) _ _ _ c Q a8) (Qb2 Z)) Z ?_
 rintro _ d0 _ R ⟨_,⟨rfl,rfl⟩,rfl⟩
 refine WL.a1 (qo 16 d (Bv Q.isNil) (errNil underlying31 Z) (qu (Bv Q.isNil) (Pt Z d Z) (Wz ?_)))
 obtain rfl:=oi h
 exact Tj ⟨R,Z,l,v,w,m,n,Z⟩
 iterate 3 refine Of 16 Z Z d Z ?_
 refine qu (Bv false) (Pf Z d Z) (Wz ?_)
 obtain rfl:=oi h
 exact Tj ⟨lr,Z,l,v,w,m,n,Z⟩
 rintro d1 d2 d3 ⟨e,rfl,G,y,z,I,J,D⟩
 refine Ch h D (fun a9 h=> ?_) (fun a9 h=> ?_)
 refine Ck (Tc (Cs (Bk (Cg (qM i z (qM (.func (.func 30) #[] #[(pt g2k0 0),(pt g2k1 0),(pt g2k0qk0 0)]) y ?_))))))
 obtain ⟨⟨o,b0,b1⟩,b2,h⟩:=bnd h
 refine WL.f3 (WL.f3 (WL.f3 (WL.f3 ?_)))
 have c:=c.mono ((t.trans k).trans e)
 refine We (callV4 (first:=#[]) (cap:=#[(pt g2k0 0),(pt g2k1 0),(pt g2k0qk0 0)]) co30 Z (Qj4 (⟨a0.b,A,B⟩:QaC) _ _ _ _ _ _ c (o,b0,b1) b2) (Qe3 Z)) Z ?_
 rintro _ c2 _ E ⟨_,⟨rfl,rfl⟩,rfl⟩
 refine WL.a4 (We (buildSliceL (cl:=(l74 o)) underlying26 iz74 Z (Pc (a74_ o) Z Z Pz) Z) Z ?_)
 rintro _ _ _ - ⟨rfl,b3,rfl,rfl⟩
 have c3:OwnS QaH c2 (.slice (some ⟨b3,0,none⟩) 1 1) [o] [(b3, .cells (l74 o).toArray 74 (0,0))]:=OwnS.rows (css:=[(l74 o)]) (Rows.cons (Qd4 (x:=o)) Rows.nil) Z Z
 obtain ⟨b4,h⟩:=Qa1 h
 refine WL.f5 ?_
 have j:=j.mono (e.trans E)
 refine We (append (dd:=QaH) (xs:=C) (ys:=[o]) underlying26 underlying26 in74 Z (appB (by decide) b4) (by decide) Z Z j (c3.src 1 Z)) Z ?_
 rintro b5 _ _ - ⟨rfl,c4,rfl,c5⟩
 refine qa b5 (Wz (Bn (Tc (Cg (qM (Iv f) J (qu (Iv (i64.wrap (f+1))) (add Z Z) (qa (Iv (i64.wrap (f+1))) (Wz (Qa (Dr (WQ.f4 ?_)))))))))))
 exact WQ.f4 (WQ.f4 (WQ.f4 (WQ.again (C++[o],i64.wrap (f+1),b0,b1) (oi h).symm ⟨b5,c4,((k.trans e).trans E),Z,G,y,Z,I,Z,c5⟩)))
 refine WC.exit (WQ.thenE (WQ.leaveE (C,A,B) (oi h).symm (fun S=> ?_)))
 subst S
 have h:=a6
 refine WQ.blockH ?_
 obtain rfl:=oi h
 refine Tj ?_
 have j:=j.mono e
 exact⟨i,q,(k.trans e),Z,z,j⟩
 obtain ⟨a3,N,O⟩:=X
 rintro d4 d5 d6 ⟨g,p,T,rfl,K,b6⟩
 exact Sr (qM g K (qa g (Nt (Cr (Rf h [[(r, .cells #[a,(Iv N),(GV O)] 108 (0,0))],[(g2k0qk0, .cells #[(pt r 0)] 56 (0,0))],[(g2k0, .cells #[(.func (.func 16) #[] #[(pt g2k0qk0 0)])] 59 (0,0))],[(g2k1, .cells #[(.func (.func 18) #[] #[(pt g2k0qk0 0)])] 61 (0,0))],p] Z (Rs Z Z) (t.trans T) ⟨g,p,Z,Z,b6⟩)))))
noncomputable def QdJ (a0qk0q:QaC):Option (QaT×Int×GErr):=
 ((QcS a0qk0q).bind fun(a,c,d)=>((QcS (⟨a0qk0q.b,c,d⟩:QaC)).bind fun(e,f,g)=>((QcS (⟨a0qk0q.b,f,g⟩:QaC)).bind fun(i,j,k)=>(some ((⟨a,e,i⟩:QaT),j,k)))))
def QlK (a0qk0q:QaC) (v0qk0q_0:Value) (b g0qk0 g0qk0q:Nat):(QaT×Int×GErr)→Value→IM→HL→Prop:=
 fun(c:(QaT×Int×GErr)) (v:Value) (g:IM) (d:HL)=>match c with |(a,e,f)=>(.agg #[(.int .i64 a.Client),(.int .i64 a.Serial),(.int .i64 a.Code)])=v∧d=[[(g0qk0q, .cells #[v0qk0q_0,(.int .i64 e),(GV f)] 108 (0,0))],[(g0qk0, .cells #[(.pointer (some ⟨g0qk0q,0,none⟩))] 56 (0,0))],[(b, .cells #[(.func (.func 16) #[] #[(.pointer (some ⟨g0qk0,0,none⟩))])] 59 (0,0))]]
theorem QmF (a0qk0q:QaC) (M:IM) (v0qk0q_0:Value) (t g0qk0 g0qk0q:Nat) (h0qk0q_0:RS (Kd.int .u8) M v0qk0q_0 a0qk0q.b) (j:(QaT×Int×GErr)) (h:QdJ a0qk0q=some j):
 Tri prog 32 #[(pt t 0)] M [[(g0qk0q, .cells (l108 a0qk0q v0qk0q_0).toArray 108 (0,0))],[(g0qk0, .cells #[(pt g0qk0q 0)] 56 (0,0))],[(t, .cells #[(.func (.func 16) #[] #[(pt g0qk0 0)])] 59 (0,0))]] (QlK a0qk0q v0qk0q_0 t g0qk0 g0qk0q j):=by
 unfold QdJ at h
 refine Te func32 Z Z ?_
 intro F z i
 refine Sr (We (Al ze78 Z) Z ?_)
 rintro _ _ _ - ⟨rfl,u,rfl,rfl⟩
 refine Nt (Cs (WC.draw [0,1,0,7,0,31,63,127] (.pure 0 (.pure 2 (.pure 4 (.alt 1 (.alt 3 (.alt 5 (.pure 6 (.alt 7 .done .none)) .none) .none) .none)))) Qc3 (by kernel_rfl) (qt (.func (.func 16) #[] #[(pt g0qk0 0)]) Z (Lb 3 pl59 (i 0) Z Z) (qt (.func (.func 16) #[] #[(pt g0qk0 0)]) Z (Lb 3 pl59 (i 0) Z Z) (qt (.func (.func 16) #[] #[(pt g0qk0 0)]) Z (Lb 3 pl59 (i 0) Z Z) ?_)))))
 obtain ⟨⟨a,k,l⟩,m,h⟩:=bnd h
 refine WT.f2 (WT.f2 (Ta Z (callV2 (first:=#[]) (cap:=#[(pt g0qk0 0)]) co16 Z (QcW a0qk0q _ _ _ _ h0qk0q_0 (a,k,l) m) (Qe3 Z)) Z ?_ ?_))
 rintro _ w _ e ⟨_,⟨rfl,rfl⟩,rfl⟩
 refine⟨(Ss Z (Lb 3 pl59 (i 0) Z Z) Z (Ss Z (Lb 3 pl59 (i 0) Z Z) Z (Sl Z))), ?_⟩
 refine WT.a2 ?_
 obtain ⟨⟨c,n,o⟩,p,h⟩:=bnd h
 refine WT.f1 (WT.f1 ?_)
 have h0qk0q_0:=h0qk0q_0.mono e
 refine Ta Z (callV2 (first:=#[]) (cap:=#[(pt g0qk0 0)]) co16 Z (QcW (⟨a0qk0q.b,k,l⟩:QaC) _ _ _ _ h0qk0q_0 (c,n,o) p) (Qe3 Z)) Z ?_ ?_
 rintro _ x _ f ⟨_,⟨rfl,rfl⟩,rfl⟩
 refine⟨(Ss Z (Lb 3 pl59 (i 0) Z Z) Z (Sl Z)), ?_⟩
 refine WT.a2 ?_
 obtain ⟨⟨d,q,r⟩,s,h⟩:=bnd h
 refine WT.f1 (WT.f1 ?_)
 have h0qk0q_0:=h0qk0q_0.mono f
 refine Ta Z (callV2 (first:=#[]) (cap:=#[(pt g0qk0 0)]) co16 Z (QcW (⟨a0qk0q.b,n,o⟩:QaC) _ _ _ _ h0qk0q_0 (d,q,r) s) (Qe3 Z)) Z ?_ ?_
 rintro _ y _ g ⟨_,⟨rfl,rfl⟩,rfl⟩
 refine⟨(Sl Z), ?_⟩
 refine WT.a2 (qt (.agg #[(Iv a),(Iv c),(Iv d)]) Z (Bl (cl:=[(Iv a),(Iv c),(Iv d)]) ze78 fp78 (Pc (Iv a) Z Z (Pc (Iv c) Z Z (Pc (Iv d) Z Z Pz))) Z) (WT.f2 (Ta Z (Sg (v:=(.agg #[(Iv a),(Iv c),(Iv d)])) (vl:=[(Iv a),(Iv c),(Iv d)]) (arr':=[(Iv a),(Iv c),(Iv d)]) Z sz78 Z Z (onb Z) Z Z Z) Z ?_ ?_)))
 rintro _ _ _ - ⟨rfl,rfl⟩
 refine⟨(Sl Z), ?_⟩
 exact Ti (Tc (Cr (Rd h [[(g0qk0q, .cells #[v0qk0q_0,(Iv q),(GV r)] 108 (0,0))],[(g0qk0, .cells #[(pt g0qk0q 0)] 56 (0,0))],[(t, .cells #[(.func (.func 16) #[] #[(pt g0qk0 0)])] 59 (0,0))]] (fun _ hs=>hs.drop) (QbA Z (Rc (cs:=[(Iv a),(Iv c),(Iv d)]) 0 ag78 sz78 Z Z Z)) ((e.trans f).trans g) ⟨Z,Z⟩)))
 exact Tz
 exact Tz
 exact Tz
 exact Tz
noncomputable def QcE (a0:QaC) (g:Int) (m:((List QaT)×Int×Int×GErr)):Option (((List QaT)×Int×Int×GErr)⊕((List QaT)×Int×GErr)):=
 match m with
 |(a,e,c,d)=>
 (((if(decide (e<g))=true then((QdS (⟨a0.b,c,d⟩:QaC)).bind fun i=>(some i.isNil))else(some false)):Option Bool).bind fun j=>(if j=true then((QdJ (⟨a0.b,c,d⟩:QaC)).bind fun(f,k,l)=>(grd (a.length+[f].length≤274877906944) (some (inl (a++[f],i64.wrap (e+(1:Int)),k,l)))))else(some (inr (a,c,d)))))
noncomputable def Qb4 (a0:QaC) (a1:Int):Option ((List QaT)×Int×GErr):=
 ((Qa5 a0 a1).bind fun(a,b,c)=>((((iter (QcE a0 a) ([],(0:Int),b,c)).bind (fun(d,e,f)=>(some (d,e,f)))):Option ((List QaT)×Int×GErr)).bind fun(g,i,j)=>(some (g,i,j))))
def QhI (a0:QaC) (a1:Int) (a:Value) (d g2k0 g2k0qk0:Nat):((List QaT)×Int×GErr)→Value→IM→HL→Prop:=
 fun(e:((List QaT)×Int×GErr)) (v:Value) (f:IM) (g:HL)=>match e with |(i,j,k)=>∃ b c,b=v∧g=[[(d, .cells #[a,(.int .i64 j),(GV k)] 108 (0,0))],[(g2k0qk0, .cells #[(.pointer (some ⟨d,0,none⟩))] 56 (0,0))],[(g2k0, .cells #[(.func (.func 16) #[] #[(.pointer (some ⟨g2k0qk0,0,none⟩))])] 59 (0,0))],c]∧OwnS QaL f b i c
theorem Qh3 (a0:QaC) (a1:Int) (M:IM) (a:Value) (r g2k0 g2k0qk0:Nat) (c:RS (Kd.int .u8) M a a0.b) (U:((List QaT)×Int×GErr)) (h:Qb4 a0 a1=some U):
 Tri prog 31 #[(pt r 0),(Iv a1),(.func (.func 32) #[] #[(pt g2k0 0)])] M [[(r, .cells #[a,(Iv a0.at_),(GV a0.err)] 108 (0,0))],[(g2k0qk0, .cells #[(pt r 0)] 56 (0,0))],[(g2k0, .cells #[(.func (.func 16) #[] #[(pt g2k0qk0 0)])] 59 (0,0))]] (QhI a0 a1 a r g2k0 g2k0qk0 U):=by
 unfold Qb4 at h
 refine Te func31 Z Z ?_
 intro F ρ b7
 refine Sr (qa Zs (Ns (qa Zs (Ns (qM (pt r 0) (b7 0) (qM (Iv a1) (b7 1) ?_))))))
 obtain ⟨⟨s,b8,b9⟩,V,h⟩:=bnd h
 refine We (Cb co17 (QcD a0 a1 _ _ _ c (s,b8,b9) V) (QaS Z Z)) Z ?_
 rintro _ W _ t ⟨_,⟨rfl,rfl⟩,rfl⟩
 refine WL.a1 (qa (Iv s) (Nt ?_))
 obtain ⟨X,Y,h⟩:=bnd h
 refine Jf (fun(p_:((List QaT)×Int×GErr)) u L H'=>match p_ with |(a4,N,O)=>∃ g p,W.le L∧[(r, .cells #[a,(Iv N),(GV O)] 108 (0,0))]::[(g2k0qk0, .cells #[(pt r 0)] 56 (0,0))]::[(g2k0, .cells #[(.func (.func 16) #[] #[(pt g2k0qk0 0)])] 59 (0,0))]::p::F=H'∧u 7=g∧OwnS QaL L g a4 p) X ?_ ?_
 have h:=Y
 refine Sr (qa (Iv 0) (Nt (Bk (WC.e0 (WC.f3 (WC.f3 (WC.f3 ?_)))))))
 obtain ⟨c6,a5,a6⟩:=bnd h
 clear h
 refine WC.loop a5 (fun(p_:((List QaT)×Int×Int×GErr)) u L H'=>match p_ with |(C,f,A,B)=>∃ i q,W.le L∧[(r, .cells #[a,(Iv A),(GV B)] 108 (0,0))]::[(g2k0qk0, .cells #[(pt r 0)] 56 (0,0))]::[(g2k0, .cells #[(.func (.func 16) #[] #[(pt g2k0qk0 0)])] 59 (0,0))]::q::F=H'∧u 0=(pt r 0)∧u 2=(.func (.func 32) #[] #[(pt g2k0 0)])∧u 7=i∧u 8=(Iv s)∧u 9=(Iv f)∧OwnS QaL L i C q) ?_ ?_
 exact⟨Zs,[],lr,Z,(b7 0),(b7 2),Z,Z,Z,(OwnS.nil _ _)⟩
 rintro ⟨C,f,A,B⟩ c7 c8 c1 c9 h ⟨i,q,k,rfl,l,v,w,m,n,j⟩
 unfold QcE at h
 refine Cs ?_
 obtain ⟨P,a7,h⟩:=bnd h
 refine Jf (fun(P:Bool) u L H'=>c1.le L∧[(r, .cells #[a,(Iv A),(GV B)] 108 (0,0))]::[(g2k0qk0, .cells #[(pt r 0)] 56 (0,0))]::[(g2k0, .cells #[(.func (.func 16) #[] #[(pt g2k0qk0 0)])] 59 (0,0))]::q::F=H'∧u 0=(pt r 0)∧u 2=(.func (.func 32) #[] #[(pt g2k0 0)])∧u 7=i∧u 8=(Iv s)∧u 9=(Iv f)∧u 20=(Bv P)) P ?_ ?_
 have h:=a7
 refine Cg (qM (Iv f) n (qM (Iv s) m (qu (Bv (decide (f<s))) (lss Z Z) (qm (Bv (decide (f<s))) ?_))))
 rcases Bi h with⟨d,h⟩ |⟨d,h⟩
 refine On 16 Z Z d (qM (pt r 0) l (On 16 Z Z d ?_))
 obtain ⟨Q,a8,h⟩:=bnd h
 have c:=c.mono (t.trans k)
 refine We (Cb co58 (Qd8 (⟨a0.b,A,B⟩:QaC) _ _ _ c Q a8) (Qb2 Z)) Z ?_
 rintro _ d0 _ R ⟨_,⟨rfl,rfl⟩,rfl⟩
 refine WL.a1 (qo 16 d (Bv Q.isNil) (errNil underlying31 Z) (qu (Bv Q.isNil) (Pt Z d Z) (Wz ?_)))
 obtain rfl:=oi h
 exact Tj ⟨R,Z,l,v,w,m,n,Z⟩
 iterate 3 refine Of 16 Z Z d Z ?_
 refine qu (Bv false) (Pf Z d Z) (Wz ?_)
 obtain rfl:=oi h
 exact Tj ⟨lr,Z,l,v,w,m,n,Z⟩
 rintro d1 d2 d3 ⟨e,rfl,G,y,z,I,J,D⟩
 refine Ch h D (fun a9 h=> ?_) (fun a9 h=> ?_)
 refine Ck (Tc (Cs (Bk (Cg (qM i z (qM (.func (.func 32) #[] #[(pt g2k0 0)]) y ?_))))))
 obtain ⟨⟨o,b0,b1⟩,b2,h⟩:=bnd h
 refine Wb (Wb (Wb ?_))
 have c:=c.mono ((t.trans k).trans e)
 refine We (callV3 (first:=#[]) (cap:=#[(pt g2k0 0)]) co32 Z (QmF (⟨a0.b,A,B⟩:QaC) _ _ _ _ _ c (o,b0,b1) b2) (Qe3 Z)) Z ?_
 rintro _ c2 _ E ⟨_,⟨rfl,rfl⟩,rfl⟩
 refine WL.a3 (We (buildSliceL (cl:=(l78 o)) underlying27 iz78 Z (Pc (a78_ o) Z Z Pz) Z) Z ?_)
 rintro _ _ _ - ⟨rfl,b3,rfl,rfl⟩
 have c3:OwnS QaL c2 (.slice (some ⟨b3,0,none⟩) 1 1) [o] [(b3, .cells (l78 o).toArray 78 (0,0))]:=OwnS.rows (css:=[(l78 o)]) (Rows.cons (QjQ (x:=o)) Rows.nil) Z Z
 obtain ⟨b4,h⟩:=Qa1 h
 refine WL.f4 ?_
 have j:=j.mono (e.trans E)
 refine We (append (dd:=QaL) (xs:=C) (ys:=[o]) underlying27 underlying27 in78 Z (appB (by decide) b4) (by decide) Z Z j (c3.src 1 Z)) Z ?_
 rintro b5 _ _ - ⟨rfl,c4,rfl,c5⟩
 refine qa b5 (Wz (Bn (Tc (Cg (qM (Iv f) J (qu (Iv (i64.wrap (f+1))) (add Z Z) (qa (Iv (i64.wrap (f+1))) (Wz (Qa (Dr (WQ.f3 ?_)))))))))))
 exact WQ.f3 (WQ.f3 (WQ.again (C++[o],i64.wrap (f+1),b0,b1) (oi h).symm ⟨b5,c4,((k.trans e).trans E),Z,G,y,Z,I,Z,c5⟩))
 refine WC.exit (WQ.thenE (WQ.leaveE (C,A,B) (oi h).symm (fun S=> ?_)))
 subst S
 have h:=a6
 refine WQ.blockH ?_
 obtain rfl:=oi h
 refine Tj ?_
 have j:=j.mono e
 exact⟨i,q,(k.trans e),Z,z,j⟩
 obtain ⟨a4,N,O⟩:=X
 rintro d4 d5 d6 ⟨g,p,T,rfl,K,b6⟩
 exact Sr (qM g K (qa g (Nt (Cr (Rf h [[(r, .cells #[a,(Iv N),(GV O)] 108 (0,0))],[(g2k0qk0, .cells #[(pt r 0)] 56 (0,0))],[(g2k0, .cells #[(.func (.func 16) #[] #[(pt g2k0qk0 0)])] 59 (0,0))],p] Z (Rs Z Z) (t.trans T) ⟨g,p,Z,Z,b6⟩)))))
noncomputable def QdU (a0:QaC):Option (GErr×GErr):=
 (((if(decide (a0.at_<(a0.b.length:Int)))=true then((QbI a0 (⟨#[101,110,100]⟩:ByteArray) a0.at_ (5:Int)).bind fun c=>(some c))else(some a0.err)):Option GErr).bind fun a=>(some (a,a)))
def Qm8 (a0:QaC) (a:Value) (b:Nat):(GErr×GErr)→Value→IM→HL→Prop:=
 fun(c:(GErr×GErr)) (v:Value) (g:IM) (d:HL)=>match c with |(e,f)=>(GV e)=v∧d=[[(b, .cells #[a,(.int .i64 a0.at_),(GV f)] 108 (0,0))]]
theorem QoY (a0:QaC) (M:IM) (a:Value) (c:Nat) (f:RS (Kd.int .u8) M a a0.b) (k:(GErr×GErr)) (h:QdU a0=some k):
 Tri prog 33 #[(pt c 0)] M [[(c, .cells #[a,(Iv a0.at_),(GV a0.err)] 108 (0,0))]] (Qm8 a0 a c k):=by
 unfold QdU at h
 refine Te func33 Z Z ?_
 intro F w j
 refine Sr (qa (GV GErr.nil) (Nt ?_))
 obtain ⟨d,l,h⟩:=bnd h
 refine Jf (fun(d:GErr) p q r=>M.le q∧[(c, .cells #[a,(Iv a0.at_),(GV d)] 108 (0,0))]::F=r∧p 0=(pt c 0)) d ?_ ?_
 have h:=l
 refine Cs (WC.draw [0,1,3,7,0,16,48,112,240,511] (.pure 0 (.pure 1 (.pure 2 (.pure 3 (.pure 4 (.pure 5 (.pure 6 (.pure 7 (.pure 8 (.pure 9 .done)))))))))) Qc3 (by kernel_rfl) (qt (pt c 0) Z (Mv (j 0)) (qt (pt c 0) Z (Nk Z) (qt (pt c 1) Z (Fa QeB Z Z) (qt (Iv a0.at_) Z (Lb 0 pl3 Z Z Z) (qt (pt c 0) Z (Mv (j 0)) (qt (pt c 0) Z (Nk Z) (qt (pt c 0) Z (Fa Qn6 Z Z) (qt a Z (Lb 0 pl22 Z Z Z) (qt (Iv (a0.b.length:Int)) Z (lenS underlying22 Z f.len) (qt (Bv (decide (a0.at_<(a0.b.length:Int)))) Z (lss Z Z) ?_)))))))))))
 refine Ti (Tc (Ch h Z (fun m h=> ?_) (fun m h=> ?_)))
 refine Cg (qM (pt c 0) (j 0) (qM (pt c 0) (j 0) (qu (pt c 0) (Nk Z) (qu (pt c 1) (Fa QeB Z Z) (qu (Iv a0.at_) (Lb 0 pl3 Z Z Z) ?_)))))
 obtain ⟨o,n,h⟩:=bnd h
 refine We (Cb co56 (QcJ a0 (⟨#[101,110,100]⟩:ByteArray) a0.at_ (5:Int) _ _ _ f o n) (QiO Z Z Z Z)) Z ?_
 rintro _ s _ g ⟨_,⟨rfl,rfl⟩,rfl⟩
 refine WL.a1 (Wz ?_)
 obtain rfl:=oi h
 exact Tj ⟨g,Z,(j 0)⟩
 refine Ck ?_
 obtain rfl:=oi h
 exact Tj ⟨lr,Z,(j 0)⟩
 rintro t u v ⟨i,rfl,e⟩
 exact Sr (qM (pt c 0) e (qu (pt c 0) (Nk Z) (qu (pt c 2) (Fa QmL Z Z) (qu (GV d) (Lb 0 pl31 Z Z Z) (qa (GV d) (Nt (Cr (Rf h [[(c, .cells #[a,(Iv a0.at_),(GV d)] 108 (0,0))]] Z (Rs Z Z) i ⟨Z,Z⟩))))))))
noncomputable def QhJ (a0:(List Int)):Option (QaA×GErr):=
 ((QpV a0).bind fun a=>((QcS a).bind fun(c,k,l)=>((QbG (⟨a.b,k,l⟩:QaC) (64:Int)).bind fun(d,m,n)=>((Qa0 (⟨a.b,m,n⟩:QaC) (256:Int)).bind fun(e,o,p)=>((QbH (⟨a.b,o,p⟩:QaC) (1073741824:Int)).bind fun(f,q,r)=>((Qb4 (⟨a.b,q,r⟩:QaC) (64:Int)).bind fun(g,s,t)=>((QdU (⟨a.b,s,t⟩:QaC)).bind fun(i,v)=>(if(!i.isNil)=true then(some ((⟨[],[],[],[],(0:Int)⟩:QaA),i))else((QeF (⟨d,e,f,g,c⟩:QaA)).bind fun j=>(if(!j.isNil)=true then((QhG (⟨#[105,109,97,103,101]⟩:ByteArray) (a0.length:Int) j).bind fun u=>(some ((⟨[],[],[],[],(0:Int)⟩:QaA),u)))else(some ((⟨d,e,f,g,c⟩:QaA),GErr.nil))))))))))))
def QtU (a0:(List Int)) (o:Value):(QaA×GErr)→Value→IM→HL→Prop:=
 fun(l:(QaA×GErr)) (v:Value) (k:IM) (m:HL)=>match l with |(j,n)=>∃ a b c d e f g i,(.tuple #[(.agg #[a,c,e,g,(.int .i64 j.Last)]),(GV n)])=v∧m=[b,d,f,i]∧OwnS QaG k a j.Brokers b∧OwnS QaI k c j.Topics d∧OwnS QaH k e j.Configs f∧OwnS QaL k g j.Done i
theorem QlL (a0:(List Int)) (M:IM) (N:Value) (h0:RS (Kd.int .u8) M N a0) (O:(QaA×GErr)) (h:QhJ a0=some O):
 Tri prog 5 #[N] M [] (QtU a0 N O):=by
 unfold QhJ at h
 refine Te func5 Z Z ?_
 intro F ρ d6
 refine Sr (We (Al ze29 Z) Z ?_)
 rintro _ _ _ - ⟨rfl,e7,rfl,rfl⟩
 refine qa (GV GErr.nil) (Ns (qM N (d6 0) ?_))
 obtain ⟨s,P,h⟩:=bnd h
 refine We (Ca co15 (QvR a0 _ _ h0 s P) (Qb2 Z)) Z ?_
 rintro _ e8 _ K ⟨_,⟨t,c6,rfl,rfl,a⟩,rfl⟩
 refine WL.a1 (We (Al ze56 Z) Z ?_)
 rintro _ _ _ - ⟨rfl,d,rfl,rfl⟩
 refine We (Es (pt t 0) [(pt t 0)] Z sz56 Z Z Z Z Z Z) Z ?_
 rintro _ _ _ - ⟨rfl,rfl⟩
 refine Ns (qu (.func (.func 16) #[] #[(pt d 0)]) (makeFunc2 (QmW) (Qb2 (show ev _ _=(pt d 0) from Z))) (We (Al ze59 Z) Z ?_))
 rintro _ _ _ - ⟨rfl,n,rfl,rfl⟩
 refine We (Es (.func (.func 16) #[] #[(pt d 0)]) [(.func (.func 16) #[] #[(pt d 0)])] Z sz59 Z Z Z Z Z Z) Z ?_
 rintro _ _ _ - ⟨rfl,rfl⟩
 refine Ns (qu (.func (.func 18) #[] #[(pt d 0)]) (makeFunc2 (QmW) (Qb2 (show ev _ _=(pt d 0) from Z))) (We (Al ze61 Z) Z ?_))
 rintro _ _ _ - ⟨rfl,w,rfl,rfl⟩
 refine We (Es (.func (.func 18) #[] #[(pt d 0)]) [(.func (.func 18) #[] #[(pt d 0)])] Z sz61 Z Z Z Z Z Z) Z ?_
 rintro _ _ _ - ⟨rfl,rfl⟩
 refine Ns (qu (.func (.func 20) #[] #[(pt d 0)]) (makeFunc2 (QmW) (Qb2 (show ev _ _=(pt d 0) from Z))) (We (Al ze63 Z) Z ?_))
 rintro _ _ _ - ⟨rfl,B,rfl,rfl⟩
 refine We (Es (.func (.func 20) #[] #[(pt d 0)]) [(.func (.func 20) #[] #[(pt d 0)])] Z sz63 Z Z Z Z Z Z) Z ?_
 rintro _ _ _ - ⟨rfl,rfl⟩
 refine Ns (qu (.func (.func 16) #[] #[(pt d 0)]) (Lb 2 pl59 Z Z Z) ?_)
 obtain ⟨⟨e,Q,R⟩,S,h⟩:=bnd h
 refine WL.f3 (WL.f4 (We (callV2 (first:=#[]) (cap:=#[(pt d 0)]) co16 Z (QcW s _ _ _ _ a (e,Q,R) S) (Qe3 Z)) Z ?_))
 rintro _ e9 _ z ⟨_,⟨rfl,rfl⟩,rfl⟩
 refine WL.a2 (qu (.agg #[Zs,Zs,Zs,Zs,(Iv e)]) (Bl (cl:=[Zs,Zs,Zs,Zs,(Iv e)]) ze29 fp29 (Pc (Iv e) Z Z Pz) Z) (We (Al ze29 Z) Z ?_))
 rintro _ _ _ - ⟨rfl,C,rfl,rfl⟩
 refine We (Sg (v:=(.agg #[Zs,Zs,Zs,Zs,(Iv e)])) (vl:=[Zs,Zs,Zs,Zs,(Iv e)]) (arr':=[Zs,Zs,Zs,Zs,(Iv e)]) Z sz29 Z Z (onb Z) Z Z Z) Z ?_
 rintro _ _ _ - ⟨rfl,rfl⟩
 refine Ns (qu (pt t 0) (Lb 2 pl56 Z Z Z) (qu (.func (.func 23) #[] #[(pt n 0),(pt w 0),(pt d 0)]) (makeFunc2 (QmW) (QcV (show ev _ _=(pt n 0) from Z) (show ev _ _=(pt w 0) from Z) (show ev _ _=(pt d 0) from Z))) ?_))
 obtain ⟨⟨T,U,V⟩,W,h⟩:=bnd h
 refine WL.f4 (WL.f5 (WL.f4 (WL.f4 ?_)))
 have a:=a.mono z
 refine We (EO.call4 co22 (QfQ (⟨s.b,Q,R⟩:QaC) (64:Int) _ _ _ _ _ _ a (T,U,V) W) (QcV Z Z Z)) Z ?_
 rintro _ f0 _ A ⟨_,⟨c,E,rfl,rfl,j⟩,rfl⟩
 have c7:=(K.trans z).trans A
 refine WL.a5 (qu (pt C 0) (Fa QeU Z Z) (WL.f5 (We (Es c [c,Zs,Zs,Zs,(Iv e)] j.cells sz24 Z Z (Ow j) Z Z Z) Z ?_)))
 rintro _ _ _ - ⟨rfl,rfl⟩
 refine Ns (qu (.func (.func 25) #[] #[(pt B 0),(pt n 0)]) (makeFunc2 (QmW) (QaS (show ev _ _=(pt B 0) from Z) (show ev _ _=(pt n 0) from Z))) (We (Al ze68 Z) Z ?_))
 rintro _ _ _ - ⟨rfl,X,rfl,rfl⟩
 refine We (Es (.func (.func 25) #[] #[(pt B 0),(pt n 0)]) [(.func (.func 25) #[] #[(pt B 0),(pt n 0)])] Z sz68 Z Z Z Z Z Z) Z ?_
 rintro _ _ _ - ⟨rfl,rfl⟩
 refine Ns (qu (pt t 0) (Lb 3 pl56 Z Z Z) (qu (.func (.func 27) #[] #[(pt n 0),(pt w 0),(pt d 0),(pt X 0)]) (makeFunc2 (QmW) (QiO (show ev _ _=(pt n 0) from Z) (show ev _ _=(pt w 0) from Z) (show ev _ _=(pt d 0) from Z) (show ev _ _=(pt X 0) from Z))) ?_))
 obtain ⟨⟨Y,a3,a6⟩,a8,h⟩:=bnd h
 refine WL.f7 (WL.f6 (WL.f6 (WL.f6 (WL.f6 ?_))))
 have a:=a.mono A
 refine We (EO.call6 co26 (QdT (⟨s.b,U,V⟩:QaC) (256:Int) _ _ _ _ _ _ _ _ a (Y,a3,a6) a8) (QcV Z Z Z)) Z ?_
 rintro _ f2 _ u ⟨_,⟨f,G,rfl,rfl,k⟩,rfl⟩
 have c8:=c7.trans u
 refine WL.a7 (qu (pt C 1) (Fa QcB Z Z) (WL.f7 (We (Es f [c,f,Zs,Zs,(Iv e)] k.cells sz25 Z Z (Ow k) Z Z Z) Z ?_)))
 rintro _ _ _ - ⟨rfl,rfl⟩
 refine Ns (qu (pt t 0) (Lb 2 pl56 Z Z Z) (qu (.func (.func 30) #[] #[(pt n 0),(pt w 0),(pt d 0)]) (makeFunc2 (QmW) (QcV (show ev _ _=(pt n 0) from Z) (show ev _ _=(pt w 0) from Z) (show ev _ _=(pt d 0) from Z))) ?_))
 obtain ⟨⟨a9,b0,b1⟩,b2,h⟩:=bnd h
 refine WL.f4 (WL.f4 (WL.f4 (WL.f4 ?_)))
 have a:=a.mono u
 refine We (EO.call4 co29 (QfT (⟨s.b,a3,a6⟩:QaC) (1073741824:Int) _ _ _ _ _ _ a (a9,b0,b1) b2) (QcV Z Z Z)) Z ?_
 rintro _ f8 _ r ⟨_,⟨g,I,rfl,rfl,l⟩,rfl⟩
 have c9:=c8.trans r
 refine WL.a5 (qu (pt C 2) (Fa QdY Z Z) (WL.f5 (We (Es g [c,f,g,Zs,(Iv e)] l.cells sz26 Z Z (Ow l) Z Z Z) Z ?_)))
 rintro _ _ _ - ⟨rfl,rfl⟩
 refine Ns (qu (pt t 0) (Lb 2 pl56 Z Z Z) (qu (.func (.func 32) #[] #[(pt n 0)]) (makeFunc2 (QmW) (Qb2 (show ev _ _=(pt n 0) from Z))) ?_))
 obtain ⟨⟨b3,b4,b5⟩,b6,h⟩:=bnd h
 refine WL.f3 (WL.f3 (WL.f3 ?_))
 have a:=a.mono r
 refine We (EO.call3 co31 (Qh3 (⟨s.b,b0,b1⟩:QaC) (64:Int) _ _ _ _ _ a (b3,b4,b5) b6) (QcV Z Z Z)) Z ?_
 rintro _ g0 _ o ⟨_,⟨i,J,rfl,rfl,m⟩,rfl⟩
 have d0:=c9.trans o
 refine WL.a4 (qu (pt C 3) (Fa QeO Z Z) (WL.f4 (We (Es i [c,f,g,i,(Iv e)] m.cells sz27 Z Z (Ow m) Z Z Z) Z ?_)))
 rintro _ _ _ - ⟨rfl,rfl⟩
 refine Nt (Cs (Sr (qu (pt t 0) (Lb 2 pl56 Z Z Z) ?_)))
 obtain ⟨⟨x,d1⟩,b7,h⟩:=bnd h
 refine WL.f1 ?_
 have a:=a.mono o
 refine We (Cb co33 (QoY (⟨s.b,b4,b5⟩:QaC) _ _ _ a (x,d1) b7) (Qb2 Z)) Z ?_
 rintro _ g1 _ p ⟨_,⟨rfl,rfl⟩,rfl⟩
 have b8:=d0.trans p
 refine WL.a1 (qa (GV x) (Ns (qm (GV x) (qu (Bv (!x.isNil)) (errNotNil underlying31 Z) (Nt (Ch h Z (fun b9 h=> ?_) (fun b9 h=> ?_)))))))
 refine Sr (qu (.agg z29_.toArray) (Bl (cl:=z29_) ze29 fp29 Pz Z) (qm (GV x) (WL.f11 (We (Sg (v:=(.agg z29_.toArray)) (vl:=z29_) (arr':=z29_) Z sz29 Z Z (onb Z) Z Z Z) Z ?_))))
 rintro _ _ _ - ⟨rfl,rfl⟩
 refine qa (GV x) (Nt (Cr (Tr (WQ.e0 (WQ.e0 (WQ.e0 (WQ.e0 (WQ.f5 (Dr (WQ.f5 (Dr ?_)))))))))))
 refine WQ.f5 (Dr (WQ.f5 (Dr (WQ.f5 (Dr (WQ.f5 (Dr (WQ.f5 (Dr (WQ.f5 (Dr ?_)))))))))))
 exact WQ.f5 (Dr (WQ.f5 (Dr (WQ.f5 (Dr (Qa (Qb (WQ.f3 (WQ.f4 (Rd h [[],[],[],[]] (fun _ hs=>hs.drop) (QaP Z (RVs.cons (Rc (cs:=z29_) 0 ag29 sz29 Z Z Z) (RVs.cons (RV.tmp Z) RVs.nil))) b8 ⟨Zs,[],Zs,[],Zs,[],Zs,[],Z,Z,(OwnS.nil _ _),(OwnS.nil _ _),(OwnS.nil _ _),(OwnS.nil _ _)⟩))))))))))
 refine Ck (Tc (Cs (Sr (qu (.agg #[c,f,g,i,(Iv e)]) (La (cs:=[c,f,g,i,(Iv e)]) 1 ag29 sz29 Z Z Z) ?_))))
 obtain ⟨y,c0,h⟩:=bnd h
 refine WL.f4 (WL.f6 (WL.f9 (WL.f10 ?_)))
 have j:=j.mono (((u.trans r).trans o).trans p)
 have k:=k.mono ((r.trans o).trans p)
 have l:=l.mono (o.trans p)
 have m:=m.mono p
 refine We (EO.call4 co14 (Tri.lend j.excl fun g2 g3 c1=>(Tri.lend k.excl fun w1_ H1_ hs1_=>(Tri.lend l.excl fun w2_ H2_ hs2_=>(Tri.lend m.excl fun w3_ H3_ hs3_=>(QiZ (⟨T,Y,a9,b3,e⟩:QaA) _ _ _ _ _ ((((j.rs c1).mono (IM.le_add _ _)).mono (IM.le_add _ _)).mono (IM.le_add _ _)) ((((k.mono (IM.le_add _ _)).rs hs1_).mono (IM.le_add _ _)).mono (IM.le_add _ _)) ((((l.mono (IM.le_add _ _)).mono (IM.le_add _ _)).rs hs2_).mono (IM.le_add _ _)) ((((m.mono (IM.le_add _ _)).mono (IM.le_add _ _)).mono (IM.le_add _ _)).rs hs3_) y c0))))) (Qb2 Z)) Z ?_
 rintro _ _ _ q ⟨_,⟨d7,d8,d2,rfl,rfl,⟨d9,e1,d3,rfl,rfl,⟨e2,e3,d4,rfl,rfl,⟨e4,e5,d5,rfl,rfl,⟨rfl,rfl⟩⟩⟩⟩⟩,rfl⟩
 have L:=b8.trans q
 refine WL.a4 (qa (GV y) (Ns (qm (GV y) (qu (Bv (!y.isNil)) (errNotNil underlying31 Z) (Nt (Ch h Z (fun c2 h=> ?_) (fun c2 h=> ?_)))))))
 refine Sr (qu (.agg z29_.toArray) (Bl (cl:=z29_) ze29 fp29 Pz Z) (qM N (d6 0) ?_))
 have h0:=h0.mono L
 refine qu (Iv (a0.length:Int)) (lenS underlying22 Z h0.len) (qm (GV y) ?_)
 obtain ⟨c3,c4,h⟩:=bnd h
 refine We (Ca co34 (QnY ⟨#[105,109,97,103,101]⟩ (a0.length:Int) y _ c3 c4) (QcV Z Z Z)) Z ?_
 rintro _ e6 _ D ⟨_,⟨rfl,rfl⟩,rfl⟩
 refine WL.a0 (WL.f11 (We (Sg (v:=(.agg z29_.toArray)) (vl:=z29_) (arr':=z29_) Z sz29 Z Z (onb Z) Z Z Z) Z ?_))
 rintro _ _ _ - ⟨rfl,rfl⟩
 refine qa (GV c3) (Nt (Cr (Tr (WQ.e0 (WQ.e0 (WQ.e0 (WQ.e0 (WQ.f5 (Dr (WQ.f5 (Dr ?_)))))))))))
 refine WQ.f5 (Dr (WQ.f5 (Dr (WQ.f5 (Dr (WQ.f5 (Dr (WQ.f5 (Dr (WQ.f5 (Dr ?_)))))))))))
 exact WQ.f5 (Dr (WQ.f5 (Dr (WQ.f5 (Dr (Qa (Qb (WQ.f3 (WQ.f4 (Rd h [[],[],[],[]] (fun _ hs=>hs.drop) (QaP Z (RVs.cons (Rc (cs:=z29_) 0 ag29 sz29 Z Z Z) (RVs.cons (RV.tmp Z) RVs.nil))) (L.trans D) ⟨Zs,[],Zs,[],Zs,[],Zs,[],Z,Z,(OwnS.nil _ _),(OwnS.nil _ _),(OwnS.nil _ _),(OwnS.nil _ _)⟩))))))))))
 refine Ck (Tc (Sr (qu (.agg #[c,f,g,i,(Iv e)]) (La (cs:=[c,f,g,i,(Iv e)]) 5 ag29 sz29 Z Z Z) (WL.f11 ?_))))
 have j:=j.mono q
 have k:=k.mono q
 have l:=l.mono q
 have m:=m.mono q
 refine We (Sg (v:=(.agg #[c,f,g,i,(Iv e)])) (vl:=[c,f,g,i,(Iv e)]) (arr':=[c,f,g,i,(Iv e)]) Z sz29 Z Z (QaX (Oc (Ow j) (Oc (Ow k) (Oc (Ow l) (Oc (Ow m) (Oc Z Oz)))))) Z Z Z) Z ?_
 rintro _ _ _ - ⟨rfl,rfl⟩
 refine qa (GV GErr.nil) (Nt (Cr (WQ.f5 (Dr (WQ.f5 (Dr (WQ.f5 (Dr (WQ.f5 (Dr (WQ.f5 ?_)))))))))))
 exact Dr (WQ.f5 (Dr (WQ.f5 (Dr (Rd h [E,G,I,J] (fun _ hs=>hs.drop) (QaP Z (RVs.cons (Rc (cs:=[c,f,g,i,(Iv e)]) 0 ag29 sz29 Z Z Z) (RVs.cons (RV.tmp Z) RVs.nil))) L ⟨c,E,f,G,g,I,i,J,Z,Z,j,k,l,m⟩)))))
noncomputable def Qg2 (a0:QbP):Option GErr:=
 (some a0.Err)
def QmG (a0:QbP):GErr→Value→IM→HL→Prop:=
 fun(a:GErr) (v:Value) (c:IM) (b:HL)=>(GV a)=v∧b=[]
theorem Qj5 (a0:QbP) (M:IM) (a:GErr) (h:Qg2 a0=some a):
 Tri prog 163 #[(Q5K a0)] M [] (QmG a0 a):=by
 unfold Qg2 at h
 refine Te func163 Z Z ?_
 intro F d c
 refine Sr (We (box (cs:=(l114 a0).toArray) (congrArg Value.cells (asE (Q5K a0) (c 0)))) Z ?_)
 rintro _ _ _ - ⟨rfl,b,rfl,rfl⟩
 exact qa (GV GErr.nil) (Ns (qu (pt b 2) (Fa Q1G Z Z) (qu (GV a0.Err) (Lb 0 pl31 Z Z Z) (qa (GV a0.Err) (Nt (Cr (Dr (Rf h [] Z (Rs Z Z) lr ⟨Z,Z⟩))))))))
noncomputable def QpA (a1:Int) (f:GErr):Option (GErr⊕Bool):=
 match f with
 |b=>
 (match b with | .nil=>(some (inr false)) | .code c=>(if(decide (c=a1))=true then(some (inr true))else(some (inr false))) | .fault d a26 e=>((Qg2 (⟨d,a26,e⟩:QbP)).bind fun a=>(if a.isNil=true then(some (inr false))else(some (inl a)))) | .other g=>(some (inr false)))
noncomputable def QpW (a0:GErr) (a1:Int):Option Bool:=
 ((iter (QpA a1) a0).bind (fun(a:Bool)=>(some a)))
def QtV (a0:GErr) (a1:Int):Bool→Value→IM→HL→Prop:=
 fun(a:Bool) (v:Value) (c:IM) (b:HL)=>(.bool a)=v∧b=[]
theorem QvS (a0:GErr) (a1:Int) (M:IM) (p:Bool) (h:QpW a0 a1=some p):
 Tri prog 80 #[(GV a0),(GV (GErr.code a1)),(Bv true)] M [] (QtV a0 a1 p):=by
 unfold QpW at h
 refine Te func80 Z Z ?_
 intro F E u
 refine Sr (qa (Bv false) (Nt (Bk ?_)))
 obtain ⟨w,q,i⟩:=bnd h
 clear h
 refine WC.loop q (fun(o:GErr) v x y=>M.le x∧F=y∧v 0=(GV o)∧v 1=(GV (GErr.code a1))∧v 2=(Bv true)) ?_ ?_
 exact⟨lr,Z,(u 0),(u 1),(u 2)⟩
 rintro o z A B C h ⟨d,rfl,a,k,l⟩
 unfold QpA at h
 refine Bk (Cs (Sr (qM (Bv true) l (qm (Bv true) (On 15 Z Z Z (qM (GV o) a (On 15 Z Z Z (qM (GV (GErr.code a1)) k (On 15 Z Z Z ?_)))))))))
 rcases o with _ |g |⟨e,a26,f⟩ |j
 refine qu (Bv false) (nilIfaceNe underlying31 (show ev _ _= .nilIface from Z) (show ev _ _=(.iface 34 (Iv a1)) from Z)) (qu (Bv false) (Pt Z Z Z) (Nt (WC.condF (b:=false) Z Z (Ck (Tc (Cs (Sr (qM (GV GErr.nil) a (qu (.tuple #[.nilIface,(Bv false)]) (asserts (show ev _ _= .nilIface from Z) (QlF Q8L underlying179)) (qm (.tuple #[.nilIface,(Bv false)]) (qu .nilIface (Xt Z Z) ?_)))))))))))
 refine qu (Bv false) (Xt Z Z) (qa .nilIface (qa (Bv false) (Ns (qm (Bv false) (qm (Bv false) ?_)))))
 iterate 3 refine Of 26 Z Z Z Z ?_
 refine qu (Bv false) (Pf Z Z Z) (Nt (WC.condF (b:=false) Z Z (Ck (Tc (Sr (qM (GV GErr.nil) a (Nt (Bk (Sr (qu (.tuple #[.nilIface,(Bv false)]) (asserts (show ev _ _= .nilIface from Z) (QlF Q8M underlying182)) (qu (Bv false) (Xt Z Z) ?_)))))))))))
 refine qu .nilIface (Xt Z Z) (Nt (WC.condF (b:=false) Z Z (Sr (qu (.tuple #[.nilIface,(Bv false)]) (asserts (show ev _ _= .nilIface from Z) (QlF Q8N underlying183)) (qu (Bv false) (Xt Z Z) (qu .nilIface (Xt Z Z) (Nt (WC.condF (b:=false) Z Z (Sr (qa (GV GErr.nil) (Ns ?_)))))))))))
 refine qa (Bv false) (Nt (Cr (Br (Br (WQ.leaveR false (oi h).symm (fun c=> ?_))))))
 subst c
 have h:=i
 exact Br (Rf h [] Z (Rs Z Z) d ⟨Z,Z⟩)
 refine qu (Bv (decide (g=a1))) (ifaceInt underlying31 underlying34 cm34 (show ev _ _=(.iface 34 (Iv g)) from Z) (show ev _ _=(.iface 34 (Iv a1)) from Z)) (qu (Bv (decide (g=a1))) (Pt Z Z Z) (Nt (Ch h Z (fun r h=> ?_) (fun r h=> ?_))))
 refine Sr (qa (Bv true) (Nt (Cr (Tr (Br (WQ.leaveR true (oi h).symm (fun c=> ?_)))))))
 subst c
 have h:=i
 exact Br (Rf h [] Z (Rs Z Z) d ⟨Z,Z⟩)
 refine Ck (Tc (Cs (Sr (qM (GV (GErr.code g)) a (qu (.tuple #[.nilIface,(Bv false)]) (asserts (show ev _ _=(.iface 34 (Iv g)) from Z) (Q25 _ _)) (qm (.tuple #[.nilIface,(Bv false)]) (qu .nilIface (Xt Z Z) (qu (Bv false) (Xt Z Z) (qa .nilIface (qa (Bv false) (Ns ?_)))))))))))
 refine qm (Bv false) (qm (Bv false) ?_)
 iterate 3 refine Of 26 Z Z Z Z ?_
 refine qu (Bv false) (Pf Z Z Z) (Nt (WC.condF (b:=false) Z Z (Ck (Tc (Sr (qM (GV (GErr.code g)) a (Nt (Bk (Sr (qu (.tuple #[.nilIface,(Bv false)]) (asserts (show ev _ _=(.iface 34 (Iv g)) from Z) (QzZ _ _)) (qu (Bv false) (Xt Z Z) ?_)))))))))))
 refine qu .nilIface (Xt Z Z) (Nt (WC.condF (b:=false) Z Z (Sr (qu (.tuple #[.nilIface,(Bv false)]) (asserts (show ev _ _=(.iface 34 (Iv g)) from Z) (Qz0 _ _)) (qu (Bv false) (Xt Z Z) (qu .nilIface (Xt Z Z) (Nt (WC.condF (b:=false) Z Z (Sr (qa (GV (GErr.code g)) (Ns ?_)))))))))))
 refine qa (Bv false) (Nt (Cr (Br (Br (WQ.leaveR false (oi h).symm (fun c=> ?_))))))
 subst c
 have h:=i
 exact Br (Rf h [] Z (Rs Z Z) d ⟨Z,Z⟩)
 refine qu (Bv false) (ifaceNe underlying31 (show ev _ _=(.iface 114 (.agg #[.string e, .int .i64 a26,GV f])) from Z) (show ev _ _=(.iface 34 (Iv a1)) from Z) Z) (qu (Bv false) (Pt Z Z Z) (Nt (WC.condF (b:=false) Z Z (Ck (Tc (Cs (Sr (qM (GV (GErr.fault e a26 f)) a (qu (.tuple #[.nilIface,(Bv false)]) (asserts (show ev _ _=(.iface 114 (.agg #[.string e, .int .i64 a26,GV f])) from Z) (Q1J _ _)) (qm (.tuple #[.nilIface,(Bv false)]) (qu .nilIface (Xt Z Z) ?_)))))))))))
 refine qu (Bv false) (Xt Z Z) (qa .nilIface (qa (Bv false) (Ns (qm (Bv false) (qm (Bv false) ?_)))))
 iterate 3 refine Of 26 Z Z Z Z ?_
 refine qu (Bv false) (Pf Z Z Z) (Nt (WC.condF (b:=false) Z Z (Ck (Tc (Sr (qM (GV (GErr.fault e a26 f)) a (Nt (Bk (Sr (qu (.tuple #[(GV (GErr.fault e a26 f)),(Bv true)]) (asserts (show ev _ _=(.iface 114 (.agg #[.string e, .int .i64 a26,GV f])) from Z) (QxV _ _)) (qu (Bv true) (Xt Z Z) ?_)))))))))))
 refine qu (GV (GErr.fault e a26 f)) (Xt Z Z) (Nt (WC.condT (b:=true) Z Z (Sr (qa (GV (GErr.fault e a26 f)) (Ns (qm (GV (GErr.fault e a26 f)) ?_))))))
 obtain ⟨m,s,h⟩:=bnd h
 refine We (invT (show ev _ _=(.iface 114 (.agg #[.string e, .int .i64 a26,GV f])) from Z) (Qs3 _) Q5W inv0 (Qj5 (⟨e,a26,f⟩:QbP) _ m s)) Z ?_
 rintro _ D _ n ⟨_,⟨rfl,rfl⟩,rfl⟩
 refine WL.a0 (qa (GV m) (Ns (qm (GV m) (qu (Bv m.isNil) (errNil underlying31 Z) (Nt (Ch h Z (fun t h=> ?_) (fun t h=> ?_)))))))
 refine Sr (qa (Bv false) (Nt (Cr (Br (Br (WQ.leaveR false (oi h).symm (fun c=> ?_)))))))
 subst c
 have h:=i
 exact Br (Rf h [] Z (Rs Z Z) (d.trans n) ⟨Z,Z⟩)
 exact Ck (Bn (Bn (WQ.again m (oi h).symm ⟨(d.trans n),Z,Z,k,l⟩)))
 refine qu (Bv false) (ifaceNe underlying31 (show ev _ _=(.iface 0 (.pointer (some j))) from Z) (show ev _ _=(.iface 34 (Iv a1)) from Z) Z) (qu (Bv false) (Pt Z Z Z) (Nt (WC.condF (b:=false) Z Z (Ck (Tc (Cs (Sr (qM (GV (GErr.other j)) a (qu (.tuple #[.nilIface,(Bv false)]) (asserts (show ev _ _=(.iface 0 (.pointer (some j))) from Z) (Q4N _ _)) (qm (.tuple #[.nilIface,(Bv false)]) (qu .nilIface (Xt Z Z) ?_)))))))))))
 refine qu (Bv false) (Xt Z Z) (qa .nilIface (qa (Bv false) (Ns (qm (Bv false) (qm (Bv false) ?_)))))
 iterate 3 refine Of 26 Z Z Z Z ?_
 refine qu (Bv false) (Pf Z Z Z) (Nt (WC.condF (b:=false) Z Z (Ck (Tc (Sr (qM (GV (GErr.other j)) a (Nt (Bk (Sr (qu (.tuple #[.nilIface,(Bv false)]) (asserts (show ev _ _=(.iface 0 (.pointer (some j))) from Z) (Qy2 _ _)) (qu (Bv false) (Xt Z Z) ?_)))))))))))
 refine qu .nilIface (Xt Z Z) (Nt (WC.condF (b:=false) Z Z (Sr (qu (.tuple #[.nilIface,(Bv false)]) (asserts (show ev _ _=(.iface 0 (.pointer (some j))) from Z) (Qy3 _ _)) (qu (Bv false) (Xt Z Z) (qu .nilIface (Xt Z Z) (Nt (WC.condF (b:=false) Z Z (Sr (qa (GV (GErr.other j)) (Ns ?_)))))))))))
 refine qa (Bv false) (Nt (Cr (Br (Br (WQ.leaveR false (oi h).symm (fun c=> ?_))))))
 subst c
 have h:=i
 exact Br (Rf h [] Z (Rs Z Z) d ⟨Z,Z⟩)
noncomputable def QpX (a0:GErr) (a1:Int):Option Bool:=
 (if a0.isNil=true then(match a0 with | .nil=>(some false) | .code a=>(some (decide (a=a1))) | .fault c a24 d=>(some false) | .other e=>(some false))else((QpW a0 a1).bind fun b=>(some b)))
def QtW (a0:GErr) (a1:Int):Bool→Value→IM→HL→Prop:=
 fun(a:Bool) (v:Value) (c:IM) (b:HL)=>(.bool a)=v∧b=[]
theorem QvT (a0:GErr) (a1:Int) (M:IM) (g:Bool) (h:QpX a0 a1=some g):
 Tri prog 50 #[(GV a0),(GV (GErr.code a1))] M [] (QtW a0 a1 g):=by
 unfold QpX at h
 refine Te func50 Z Z ?_
 intro F o c
 refine Sr (qa (Bv false) (Nt (Cs (Sr (qM (GV a0) (c 0) (qu (Bv a0.isNil) (errNil underlying31 Z) (qm (Bv a0.isNil) ?_)))))))
 rcases Bi h with⟨a,h⟩ |⟨a,h⟩
 iterate 2 refine Of 8 Z Z a Z ?_
 refine qu (Bv true) (Pt Z a Z) (Nt (WC.condT (b:=true) Z Z (Sr (qM (GV a0) (c 0) (qM (GV (GErr.code a1)) (c 1) ?_)))))
 rcases a0 with _ |d |⟨k,a24,l⟩ |m
 exact qu (Bv false) (nilIfaceNe underlying31 (show ev _ _= .nilIface from Z) (show ev _ _=(.iface 34 (Iv a1)) from Z)) (qa (Bv false) (Nt (Cr (Tr (Rf h [] Z (Rs Z Z) lr ⟨Z,Z⟩)))))
 exact qu (Bv (decide (d=a1))) (ifaceInt underlying31 underlying34 cm34 (show ev _ _=(.iface 34 (Iv d)) from Z) (show ev _ _=(.iface 34 (Iv a1)) from Z)) (qa (Bv (decide (d=a1))) (Nt (Cr (Tr (Rf h [] Z (Rs Z Z) lr ⟨Z,Z⟩)))))
 exact qu (Bv false) (ifaceNe underlying31 (show ev _ _=(.iface 114 (.agg #[.string k, .int .i64 a24,GV l])) from Z) (show ev _ _=(.iface 34 (Iv a1)) from Z) Z) (qa (Bv false) (Nt (Cr (Tr (Rf h [] Z (Rs Z Z) lr ⟨Z,Z⟩)))))
 exact qu (Bv false) (ifaceNe underlying31 (show ev _ _=(.iface 0 (.pointer (some m))) from Z) (show ev _ _=(.iface 34 (Iv a1)) from Z) Z) (qa (Bv false) (Nt (Cr (Tr (Rf h [] Z (Rs Z Z) lr ⟨Z,Z⟩)))))
 refine On 8 Z Z a (qM (GV (GErr.code a1)) (c 1) (qo 8 a (Bv false) (errNil (tc:=34) (tf:=114) (tp:=0) (e:=GErr.code a1) underlying31 Z) (qu (Bv false) (Pf Z a Z) (Nt (WC.condF (b:=false) Z Z (Ck (Tc (Sr (qM (GV (GErr.code a1)) (c 1) (We (extP xt79 (Qb2 (show ev _ _=(.iface 34 (Iv a1)) from Z)) (ty34 _)) Z ?_))))))))))
 rintro _ _ _ - ⟨rfl,rfl,rfl⟩
 refine We (invE (show ev _ _=(.iface 177 (.agg #[.pointer (some ⟨1,34,none⟩)])) from Z) (Qw3 (pt 1 34)) Q8I inv0 Qt1) Z ?_
 rintro _ _ _ - ⟨rfl,rfl,rfl⟩
 refine qa (Bv true) (Ns (qM (GV a0) (c 0) (qM (GV (GErr.code a1)) (c 1) (qm (Bv true) ?_))))
 obtain ⟨i,j,h⟩:=bnd h
 refine We (Ca co80 (QvS a0 a1 _ i j) (QcV Z Z Z)) Z ?_
 rintro _ n _ f ⟨_,⟨rfl,rfl⟩,rfl⟩
 exact WL.a0 (qa (Bv i) (Nt (Cr (Rf h [] Z (Rs Z Z) f ⟨Z,Z⟩))))
noncomputable def QoL (a0:GErr) (a1:Int):Option Bool:=
 ((QpX a0 a1).bind fun a=>(some a))
def Qu3 (a0:GErr) (a1:Int):Bool→Value→IM→HL→Prop:=
 fun(a:Bool) (v:Value) (c:IM) (b:HL)=>(.bool a)=v∧b=[]
theorem Qq5 (a0:GErr) (a1:Int) (M:IM) (b:Bool) (h:QoL a0 a1=some b):
 Tri prog 13 #[(GV a0),(Iv a1)] M [] (Qu3 a0 a1 b):=by
 unfold QoL at h
 refine Te func13 Z Z ?_
 intro F g e
 refine Sr (qa (Bv false) (Ns (qM (GV a0) (e 0) (qM (Iv a1) (e 1) (qu (GV (GErr.code a1)) (makeInterface cc34 Z) ?_)))))
 obtain ⟨c,d,h⟩:=bnd h
 refine We (Ca co50 (QvT a0 a1 _ c d) (QaS Z Z)) Z ?_
 rintro _ f _ a ⟨_,⟨rfl,rfl⟩,rfl⟩
 exact WL.a0 (qa (Bv c) (Nt (Cr (Rf h [] Z (Rs Z Z) a ⟨Z,Z⟩))))
noncomputable def QhY:Option Bool:=
 ((Ql7).bind fun d=>((QnV d).bind fun b=>((QjK b).bind fun(e,f)=>((QhJ e).bind fun(a,g)=>((QhJ []).bind fun(n,i)=>(((if f.isNil=true then(if g.isNil=true then(if(decide ((a.Topics.length:Int)=(1:Int)))=true then(grd (0≤(0:Int)∧(0:Int)<a.Topics.length) (if(decide ((((rd a.Topics (0:Int)).Parts).length:Int)=(1:Int)))=true then(grd (0≤(0:Int)∧(0:Int)<a.Topics.length) (grd (0≤(0:Int)∧(0:Int)<((rd a.Topics (0:Int)).Parts).length) (if(decide (((rd ((rd a.Topics (0:Int)).Parts) (0:Int)).Leader)=(1:Int)))=true then((QoL i (3:Int)).bind fun j=>(if j=true then((QeF (⟨b.Brokers,b.Topics,b.Configs,b.Done,(0:Int)⟩:QaA)).bind fun k=>((QoL k (2:Int)).bind fun l=>(if l=true then((QeF a).bind fun c=>(some c.isNil))else(some false))))else(some false)))else(some false))))else(some false)))else(some false))else(some false))else(some false)):Option Bool).bind fun m=>(some m)))))))
def Qq6:Bool→Value→IM→HL→Prop:=
 fun(a:Bool) (v:Value) (c:IM) (b:HL)=>(.bool a)=v∧b=[]
theorem QkF (M:IM) (d8:Bool) (h:QhY=some d8):
 Tri prog 4 #[] M [] (Qq6 d8):=by
 unfold QhY at h
 refine Te func4 Z Z ?_
 intro F ρ k7
 refine Sr (qa (Bv false) (Ns ?_))
 obtain ⟨d9,e0,h⟩:=bnd h
 refine We (Ca co12 (Qs7 _ d9 e0) (QmW)) Z ?_
 rintro _ j3 _ c4 ⟨_,⟨i6,i7,rfl,rfl,e1⟩,rfl⟩
 refine WL.a1 (WL.know (fun _ hs=>e1.rs hs) (fun e2=> ?_))
 refine WL.freeze (fun c5=> ?_)
 obtain ⟨E,e3,h⟩:=bnd h
 refine We (Ca co11 (QuY d9 _ _ e2 E e3) (Qb2 Z)) Z ?_
 rintro _ j4 _ c6 ⟨_,⟨d,e,f,g,rfl,rfl,t,u,w,x⟩,rfl⟩
 refine WL.a0 (We (Al ze29 Z) Z ?_)
 rintro _ _ _ - ⟨rfl,e4,rfl,rfl⟩
 refine We (Sg (v:=(a29_ E d e f g)) (vl:=(l29 E d e f g)) (arr':=(l29 E d e f g)) Z sz29 Z Z (QaX (Oc (RS.one t) (Oc (RS.one u) (Oc (RS.one w) (Oc (RS.one x) (Oc Z Oz)))))) Z Z Z) Z ?_
 rintro _ _ _ - ⟨rfl,rfl⟩
 refine Ns (qu (a29_ E d e f g) (La (cs:=(l29 E d e f g)) 0 ag29 sz29 Z Z Z) ?_)
 obtain ⟨⟨e5,O⟩,e6,h⟩:=bnd h
 refine We (Ca co9 (Qq1 E _ _ _ _ _ t u w x (e5,O) e6) (Qb2 Z)) Z ?_
 rintro _ j5 _ W ⟨_,⟨Q,i8,rfl,rfl,e7⟩,rfl⟩
 refine WL.a1 (qm (.tuple #[Q,(GV O)]) (qu Q (Xt Z Z) (qu (GV O) (Xt Z Z) (qa Q (qa (GV O) (Ns (qm Q (WL.know (fun _ hs=>e7.rs hs) (fun e8=> ?_)))))))))
 refine WL.freeze (fun X=> ?_)
 obtain ⟨⟨c,N⟩,e9,h⟩:=bnd h
 refine We (Ca co5 (QlL e5 _ _ e8 (c,N) e9) (Qb2 Z)) Z ?_
 rintro _ j6 _ Y ⟨_,⟨i,a3,a,a5,j,a6,k,a7,rfl,rfl,y,b,z,A⟩,rfl⟩
 have h4:=(W.trans X).trans Y
 refine WL.a4 (qm (.tuple #[(a29_ c i a j k),(GV N)]) (qu (a29_ c i a j k) (Xt Z Z) (qu (GV N) (Xt Z Z) (We (Al ze29 Z) Z ?_))))
 rintro _ _ _ - ⟨rfl,a8,rfl,rfl⟩
 refine We (Sg (v:=(a29_ c i a j k)) (vl:=(l29 c i a j k)) (arr':=(l29 c i a j k)) Z sz29 Z Z (QaX (Oc (Ow y) (Oc (Ow b) (Oc (Ow z) (Oc (Ow A) (Oc Z Oz)))))) Z Z Z) Z ?_
 rintro _ _ _ - ⟨rfl,rfl⟩
 refine qa (GV N) (Ns ?_)
 obtain ⟨⟨P,V⟩,f0,h⟩:=bnd h
 refine We (Ca co5 (QlL [] _ _ (RS.nil _ _) (P,V) f0) (Qb2 Z)) Z ?_
 rintro _ h5 _ K ⟨_,⟨o,a9,p,b0,q,b1,r,b2,rfl,rfl,b3,b4,b5,b6⟩,rfl⟩
 have h6:=h4.trans K
 refine WL.a4 (qm (.tuple #[(a29_ P o p q r),(GV V)]) (qu (a29_ P o p q r) (Xt Z Z) (qu (GV V) (Xt Z Z) (We (Al ze29 Z) Z ?_))))
 rintro _ _ _ - ⟨rfl,h7,rfl,rfl⟩
 refine We (Sg (v:=(a29_ P o p q r)) (vl:=(l29 P o p q r)) (arr':=(l29 P o p q r)) Z sz29 Z Z (QaX (Oc (Ow b3) (Oc (Ow b4) (Oc (Ow b5) (Oc (Ow b6) (Oc Z Oz)))))) Z Z Z) Z ?_
 rintro _ _ _ - ⟨rfl,rfl⟩
 refine qa (GV V) (Ns (qu (pt e4 4) (Fa QmS Z Z) (WL.f10 (We (Es (Iv 0) [d,e,f,g,(Iv 0)] Z sz3 Z Z Z Z Z Z) Z ?_))))
 rintro _ _ _ - ⟨rfl,rfl⟩
 refine Nt ?_
 obtain ⟨c7,f1,h⟩:=bnd h
 refine Jf (fun(c7:Bool) j7 M' H'=>h5.le M'∧[(e4, .cells #[d,e,f,g,(Iv 0)] 29 (0,0))]::[(h7, .cells (l29 P o p q r).toArray 29 (0,0))]::[(a8, .cells (l29 c i a j k).toArray 29 (0,0))]::a9::b0::b1::b2::a3::a5::a6::a7::F=H'∧j7 0=(Bv c7)) c7 ?_ ?_
 have h:=f1
 refine Cg (qm (GV O) (qu (Bv O.isNil) (errNil underlying31 Z) (qm (Bv O.isNil) ?_)))
 rcases Bi h with⟨I,h⟩ |⟨I,h⟩
 refine On 27 Z Z I (qm (GV N) (qo 27 I (Bv N.isNil) (errNil underlying31 Z) (qu (Bv N.isNil) (Pt Z I Z) (qm (Bv N.isNil) ?_))))
 rcases Bi h with⟨C,h⟩ |⟨C,h⟩
 refine qo 31 C (pt a8 1) (Fa QcB Z Z) (qo 31 C a (Lb 6 pl25 Z Z Z) (On 31 Z Z C ?_))
 have b:=b.mono K
 refine qu (Iv (c.Topics.length:Int)) (lenS underlying25 Z b.len) (qo 31 C (Bv (decide ((c.Topics.length:Int)=(1:Int)))) (eql Z Z) (qu (Bv (decide ((c.Topics.length:Int)=(1:Int)))) (Pt Z C Z) (qm (Bv (decide ((c.Topics.length:Int)=(1:Int)))) ?_)))
 rcases Bi h with⟨m,h⟩ |⟨m,h⟩
 refine qo 37 m (pt a8 1) (Fa QcB Z Z) (qo 37 m a (Lb 6 pl25 Z Z Z) (On 37 Z Z m ?_))
 obtain ⟨R,h⟩:=Qa1 h
 obtain ⟨f2,i9,c8,c9,hhas69⟩:=b.at R.1 R.2
 obtain ⟨b7,rfl,b8⟩:=QaW c9
 refine qu (.pointer (some f2)) (indexAddr (n:=c.Topics.length) underlying25 sz50 Z Z R.1 R.2 c8) (qo 37 m (.pointer (some (f2.add 2))) (Fa Qd0 Z Z) (qo 37 m b7 (loadC 8 pl48 Z Z (hhas69 2 _ Z)) (qo 37 m (Iv (((rd c.Topics (0:Int)).Parts).length:Int)) (lenS underlying48 Z b8.len) (qo 37 m (Bv (decide ((((rd c.Topics (0:Int)).Parts).length:Int)=(1:Int)))) (eql Z Z) (qu (Bv (decide ((((rd c.Topics (0:Int)).Parts).length:Int)=(1:Int)))) (Pt Z m Z) (qm (Bv (decide ((((rd c.Topics (0:Int)).Parts).length:Int)=(1:Int)))) ?_))))))
 rcases Bi h with⟨l,h⟩ |⟨l,h⟩
 refine qo 46 l (pt a8 1) (Fa QcB Z Z) (qo 46 l a (Lb 6 pl25 Z Z Z) (On 46 Z Z l ?_))
 obtain ⟨S,h⟩:=Qa1 h
 obtain ⟨f4,j0,d0,d1,hhas77⟩:=b.at S.1 S.2
 obtain ⟨b9,rfl,c0⟩:=QaW d1
 refine qu (.pointer (some f4)) (indexAddr (n:=c.Topics.length) underlying25 sz50 Z Z S.1 S.2 d0) (qo 46 l (.pointer (some (f4.add 2))) (Fa Qd0 Z Z) (qo 46 l b9 (loadC 8 pl48 Z Z (hhas77 2 _ Z)) (On 46 Z Z l ?_)))
 obtain ⟨T,h⟩:=Qa1 h
 obtain ⟨f5,j1,d2,d3,hhas84⟩:=c0.at T.1 T.2 (by decide)
 obtain ⟨g2,g3,g4,g5,rfl,g6,g7,g8,g9⟩:=QcY d3
 refine qu (.pointer (some f5)) (indexAddr (n:=((rd c.Topics (0:Int)).Parts).length) underlying48 sz53 Z Z T.1 T.2 d2) (qo 46 l (.pointer (some (f5.add 2))) (Fa QkK Z Z) (qo 46 l (Iv ((rd ((rd c.Topics (0:Int)).Parts) (0:Int)).Leader)) (loadM pl3 Z (hhas84 2 _ Z)) (qo 46 l (Bv (decide (((rd ((rd c.Topics (0:Int)).Parts) (0:Int)).Leader)=1))) (eql Z Z) (qu (Bv (decide (((rd ((rd c.Topics (0:Int)).Parts) (0:Int)).Leader)=1))) (Pt Z l Z) (qm (Bv (decide (((rd ((rd c.Topics (0:Int)).Parts) (0:Int)).Leader)=1))) ?_)))))
 rcases Bi h with⟨J,h⟩ |⟨J,h⟩
 refine On 57 Z Z J (qm (GV V) (On 57 Z Z J ?_))
 obtain ⟨d4,f6,h⟩:=bnd h
 refine We (Ca co13 (Qq5 V (3:Int) _ d4 f6) (QaS Z Z)) Z ?_
 rintro _ k0 _ B ⟨_,⟨rfl,rfl⟩,rfl⟩
 have c1:=h6.trans B
 refine WL.a0 (qu (Bv d4) (Pt Z J Z) (qm (Bv d4) ?_))
 rcases Bi h with⟨G,h⟩ |⟨G,h⟩
 refine qo 61 G (.agg #[d,e,f,g,(Iv 0)]) (La (cs:=[d,e,f,g,(Iv 0)]) 0 ag29 sz29 Z Z Z) (On 61 Z Z G ?_)
 obtain ⟨f7,f8,h⟩:=bnd h
 have t:=t.mono c1
 have u:=u.mono c1
 have w:=w.mono c1
 have x:=x.mono c1
 refine We (Ca co14 (QiZ (⟨E.Brokers,E.Topics,E.Configs,E.Done,(0:Int)⟩:QaA) _ _ _ _ _ t u w x f7 f8) (Qb2 Z)) Z ?_
 rintro _ k1 _ L ⟨_,⟨rfl,rfl⟩,rfl⟩
 refine WL.a0 (On 61 Z Z G ?_)
 obtain ⟨d5,g0,h⟩:=bnd h
 refine We (Ca co13 (Qq5 f7 (2:Int) _ d5 g0) (QaS Z Z)) Z ?_
 rintro _ j2 _ D ⟨_,⟨rfl,rfl⟩,rfl⟩
 have a2:=((K.trans B).trans L).trans D
 refine WL.a0 (qu (Bv d5) (Pt Z G Z) (qm (Bv d5) ?_))
 rcases Bi h with⟨s,h⟩ |⟨s,h⟩
 refine qo 66 s (a29_ c i a j k) (La (cs:=(l29 c i a j k)) 6 ag29 sz29 Z Z Z) (On 66 Z Z s ?_)
 obtain ⟨U,d6,h⟩:=bnd h
 refine WL.f10 (WL.f10 (WL.f10 (WL.f10 ?_)))
 have y:=y.mono a2
 have b:=b.mono ((B.trans L).trans D)
 have z:=z.mono a2
 have A:=A.mono a2
 refine We (EO.call4 co14 (Tri.lend y.excl fun k2 k3 g1=>(Tri.lend b.excl fun w1_ H1_ hs1_=>(Tri.lend z.excl fun w2_ H2_ hs2_=>(Tri.lend A.excl fun w3_ H3_ hs3_=>(QiZ c _ _ _ _ _ ((((y.rs g1).mono (IM.le_add _ _)).mono (IM.le_add _ _)).mono (IM.le_add _ _)) ((((b.mono (IM.le_add _ _)).rs hs1_).mono (IM.le_add _ _)).mono (IM.le_add _ _)) ((((z.mono (IM.le_add _ _)).mono (IM.le_add _ _)).rs hs2_).mono (IM.le_add _ _)) ((((A.mono (IM.le_add _ _)).mono (IM.le_add _ _)).mono (IM.le_add _ _)).rs hs3_) U d6))))) (Qb2 Z)) Z ?_
 rintro _ _ _ c2 ⟨_,⟨h8,h9,h0,rfl,rfl,⟨i0,i1,h1,rfl,rfl,⟨i2,i3,h2,rfl,rfl,⟨i4,i5,h3,rfl,rfl,⟨rfl,rfl⟩⟩⟩⟩⟩,rfl⟩
 refine WL.a4 (qo 66 s (Bv U.isNil) (errNil underlying31 Z) (qu (Bv U.isNil) (Pt Z s Z) (qa (Bv U.isNil) (Wz (WQ.f3 (WQ.f3 (WQ.f3 (WQ.f3 (WQ.f9 (WQ.f9 (WQ.f9 ?_)))))))))))
 refine WQ.f9 (WQ.f10 (WQ.f10 (WQ.f10 ?_)))
 obtain rfl:=oi h
 exact Tj ⟨(((B.trans L).trans D).trans c2),Z,Z⟩
 iterate 3 refine Of 66 Z Z s Z ?_
 refine qu (Bv false) (Pf Z s Z) (qa (Bv false) (Wz (WQ.f10 (WQ.f10 (WQ.f10 (WQ.f10 (WQ.f9 (WQ.f9 (WQ.f9 (WQ.f9 (WQ.f10 ?_)))))))))))
 refine WQ.f10 (WQ.f10 ?_)
 obtain rfl:=oi h
 exact Tj ⟨((B.trans L).trans D),Z,Z⟩
 iterate 3 refine Of 61 Z Z G Z ?_
 refine qu (Bv false) (Pf Z G Z) (qm (Bv false) ?_)
 iterate 3 refine Of 66 Z Z Z Z ?_
 refine qu (Bv false) (Pf Z Z Z) (qa (Bv false) (Wz (WQ.f10 (WQ.f10 (WQ.f10 (WQ.f10 (WQ.f9 (WQ.f9 (WQ.f9 (WQ.f9 (WQ.f10 ?_)))))))))))
 refine WQ.f10 (WQ.f10 ?_)
 obtain rfl:=oi h
 exact Tj ⟨B,Z,Z⟩
 iterate 2 refine Of 57 Z Z J Z ?_
 refine qu (Bv false) (Pf Z J Z) (qm (Bv false) ?_)
 iterate 3 refine Of 61 Z Z Z Z ?_
 refine qu (Bv false) (Pf Z Z Z) (qm (Bv false) ?_)
 iterate 3 refine Of 66 Z Z Z Z ?_
 refine qu (Bv false) (Pf Z Z Z) (qa (Bv false) (Wz (WQ.f10 (WQ.f10 (WQ.f10 (WQ.f10 (WQ.f9 (WQ.f9 (WQ.f9 (WQ.f9 (WQ.f10 ?_)))))))))))
 refine WQ.f10 (WQ.f10 ?_)
 obtain rfl:=oi h
 exact Tj ⟨lr,Z,Z⟩
 iterate 9 refine Of 46 Z Z l Z ?_
 refine qu (Bv false) (Pf Z l Z) (qm (Bv false) ?_)
 iterate 2 refine Of 57 Z Z Z Z ?_
 refine qu (Bv false) (Pf Z Z Z) (qm (Bv false) ?_)
 iterate 3 refine Of 61 Z Z Z Z ?_
 refine qu (Bv false) (Pf Z Z Z) (qm (Bv false) ?_)
 iterate 3 refine Of 66 Z Z Z Z ?_
 refine qu (Bv false) (Pf Z Z Z) (qa (Bv false) (Wz (WQ.f10 (WQ.f10 (WQ.f10 (WQ.f10 (WQ.f9 (WQ.f9 (WQ.f9 (WQ.f9 (WQ.f10 ?_)))))))))))
 refine WQ.f10 (WQ.f10 ?_)
 obtain rfl:=oi h
 exact Tj ⟨lr,Z,Z⟩
 iterate 7 refine Of 37 Z Z m Z ?_
 refine qu (Bv false) (Pf Z m Z) (qm (Bv false) ?_)
 iterate 9 refine Of 46 Z Z Z Z ?_
 refine qu (Bv false) (Pf Z Z Z) (qm (Bv false) ?_)
 iterate 2 refine Of 57 Z Z Z Z ?_
 refine qu (Bv false) (Pf Z Z Z) (qm (Bv false) ?_)
 iterate 3 refine Of 61 Z Z Z Z ?_
 refine qu (Bv false) (Pf Z Z Z) (qm (Bv false) ?_)
 iterate 3 refine Of 66 Z Z Z Z ?_
 refine qu (Bv false) (Pf Z Z Z) (qa (Bv false) (Wz (WQ.f10 (WQ.f10 (WQ.f10 (WQ.f10 (WQ.f9 (WQ.f9 (WQ.f9 (WQ.f9 (WQ.f10 ?_)))))))))))
 refine WQ.f10 (WQ.f10 ?_)
 obtain rfl:=oi h
 exact Tj ⟨lr,Z,Z⟩
 iterate 4 refine Of 31 Z Z C Z ?_
 refine qu (Bv false) (Pf Z C Z) (qm (Bv false) ?_)
 iterate 7 refine Of 37 Z Z Z Z ?_
 refine qu (Bv false) (Pf Z Z Z) (qm (Bv false) ?_)
 iterate 9 refine Of 46 Z Z Z Z ?_
 refine qu (Bv false) (Pf Z Z Z) (qm (Bv false) ?_)
 iterate 2 refine Of 57 Z Z Z Z ?_
 refine qu (Bv false) (Pf Z Z Z) (qm (Bv false) ?_)
 iterate 3 refine Of 61 Z Z Z Z ?_
 refine qu (Bv false) (Pf Z Z Z) (qm (Bv false) ?_)
 iterate 3 refine Of 66 Z Z Z Z ?_
 refine qu (Bv false) (Pf Z Z Z) (qa (Bv false) (Wz (WQ.f10 (WQ.f10 (WQ.f10 (WQ.f10 (WQ.f9 (WQ.f9 (WQ.f9 (WQ.f9 (WQ.f10 ?_)))))))))))
 refine WQ.f10 (WQ.f10 ?_)
 obtain rfl:=oi h
 exact Tj ⟨lr,Z,Z⟩
 iterate 2 refine Of 27 Z Z I Z ?_
 refine qu (Bv false) (Pf Z I Z) (qm (Bv false) ?_)
 iterate 4 refine Of 31 Z Z Z Z ?_
 refine qu (Bv false) (Pf Z Z Z) (qm (Bv false) ?_)
 iterate 7 refine Of 37 Z Z Z Z ?_
 refine qu (Bv false) (Pf Z Z Z) (qm (Bv false) ?_)
 iterate 9 refine Of 46 Z Z Z Z ?_
 refine qu (Bv false) (Pf Z Z Z) (qm (Bv false) ?_)
 iterate 2 refine Of 57 Z Z Z Z ?_
 refine qu (Bv false) (Pf Z Z Z) (qm (Bv false) ?_)
 iterate 3 refine Of 61 Z Z Z Z ?_
 refine qu (Bv false) (Pf Z Z Z) (qm (Bv false) ?_)
 iterate 3 refine Of 66 Z Z Z Z ?_
 refine qu (Bv false) (Pf Z Z Z) (qa (Bv false) (Wz (WQ.f10 (WQ.f10 (WQ.f10 (WQ.f10 (WQ.f9 (WQ.f9 (WQ.f9 (WQ.f9 (WQ.f10 ?_)))))))))))
 refine WQ.f10 (WQ.f10 ?_)
 obtain rfl:=oi h
 exact Tj ⟨lr,Z,Z⟩
 rintro k4 k5 k6 ⟨d7,rfl,c3⟩
 refine Cr (Dr (Dr (Dr (Dr (Dr (Dr (Dr (Dr (Dr (Dr (Dr ?_)))))))))))
 exact Rf h [] Z (Rs Z c3) (((((((c4.trans c5).trans c6).trans W).trans X).trans Y).trans K).trans d7) ⟨Z,Z⟩
noncomputable def QfD (a0:Int):Option Int:=
 (if(decide (a0<(0:Int)))=true then(some (0:Int))else(some (u64.wrap a0)))
def Qq7 (a0:Int):Int→Value→IM→HL→Prop:=
 fun(a:Int) (v:Value) (c:IM) (b:HL)=>(.int .u64 a)=v∧b=[]
theorem QdM (a0:Int) (M:IM) (a:Int) (h:QfD a0=some a):
 Tri prog 87 #[(Iv a0)] M [] (Qq7 a0 a):=by
 unfold QfD at h
 refine Te func87 Z Z ?_
 intro F d c
 refine Sr (qa (Uv 0) (Nt (Cs (Sr (qM (Iv a0) (c 0) (qu (Bv (decide (a0<0))) (lss Z Z) (Nt (Ch h Z (fun b h=> ?_) (fun b h=> ?_)))))))))
 exact Sr (qa (Uv 0) (Nt (Cr (Tr (Rf h [] Z (Rs Z Z) lr ⟨Z,Z⟩)))))
 exact Ck (Tc (Sr (qM (Iv a0) (c 0) (qu (Uv (u64.wrap a0)) (conv us3 underlying109 Z) (qa (Uv (u64.wrap a0)) (Nt (Cr (Rf h [] Z (Rs Z Z) lr ⟨Z,Z⟩))))))))
noncomputable def QdV (a0:QaB) (a1:ByteArray) (a2:Int) (a3:Int):Option QaB:=
 (if(decide (a0.Code≠(0:Int)))=true then(some a0)else(some (⟨a0.At,a3,a1,a2⟩:QaB)))
def QtX (a0:QaB) (a1:ByteArray) (a2:Int) (a3:Int):QaB→Value→IM→HL→Prop:=
 fun(a:QaB) (v:Value) (c:IM) (b:HL)=>(.agg #[(.int .i64 a.At),(.int .i64 a.Code),(.string a.Op),(.int .i64 a.Where)])=v∧b=[]
theorem QeG (a0:QaB) (a1:ByteArray) (a2:Int) (a3:Int) (M:IM) (a:QaB) (h:QdV a0 a1 a2 a3=some a):
 Tri prog 88 #[(a84_ a0),(Sv a1),(Iv a2),(Iv a3)] M [] (QtX a0 a1 a2 a3 a):=by
 unfold QdV at h
 refine Te func88 Z Z ?_
 intro F f d
 refine Sr (We (box (cs:=(l84 a0).toArray) (congrArg Value.cells (asE (a84_ a0) (d 0)))) Z ?_)
 rintro _ _ _ - ⟨rfl,b,rfl,rfl⟩
 refine We (Al ze84 Z) Z ?_
 rintro _ _ _ - ⟨rfl,e,rfl,rfl⟩
 refine Nt (Cs (Sr (qu (pt b 1) (Fa QlB Z Z) (qu (Iv a0.Code) (Lb 1 pl34 Z Z Z) (qu (Bv (decide (a0.Code≠0))) (neq Z Z) (Nt (Ch h Z (fun c h=> ?_) (fun c h=> ?_))))))))
 refine Sr (qu (a84_ a0) (La (cs:=(l84 a0)) 1 ag84 sz84 Z Z Z) (We (Sg (v:=(a84_ a0)) (vl:=(l84 a0)) (arr':=(l84 a0)) Z sz84 Z Z (onb Z) Z Z Z) Z ?_))
 rintro _ _ _ - ⟨rfl,rfl⟩
 exact Nt (Cr (Tr (Qa (Dr (Rd h [] (fun _ hs=>hs.drop) (QbA Z (Rc (cs:=(l84 a0)) 0 ag84 sz84 Z Z Z)) lr ⟨Z,Z⟩)))))
 refine Ck (Tc (Sr (qu (pt b 0) (Fa QfO Z Z) (qu (Iv a0.At) (Lb 1 pl3 Z Z Z) (qM (Iv a3) (d 3) (qM (Sv a1) (d 1) (qM (Iv a2) (d 2) (qu (.agg #[(Iv a0.At),(Iv a3),(Sv a1),(Iv a2)]) (Bl (cl:=[(Iv a0.At),(Iv a3),(Sv a1),(Iv a2)]) ze84 fp84 (Pc (Iv a0.At) Z Z (Pc (Iv a3) Z Z (Pc (Sv a1) Z Z (Pc (Iv a2) Z Z Pz)))) Z) (We (Sg (v:=(.agg #[(Iv a0.At),(Iv a3),(Sv a1),(Iv a2)])) (vl:=[(Iv a0.At),(Iv a3),(Sv a1),(Iv a2)]) (arr':=[(Iv a0.At),(Iv a3),(Sv a1),(Iv a2)]) Z sz84 Z Z (onb Z) Z Z Z) Z ?_)))))))))
 rintro _ _ _ - ⟨rfl,rfl⟩
 exact Nt (Cr (Qa (Dr (Rd h [] (fun _ hs=>hs.drop) (QbA Z (Rc (cs:=[(Iv a0.At),(Iv a3),(Sv a1),(Iv a2)]) 0 ag84 sz84 Z Z Z)) lr ⟨Z,Z⟩))))
noncomputable def QiM (a0:Int):Option Int:=
 (if(decide (a0<(64:Int)))=true then(some (1:Int))else(if(decide (a0<(16384:Int)))=true then(some (2:Int))else(if(decide (a0<(1073741824:Int)))=true then(some (4:Int))else(some (8:Int)))))
def QsE (a0:Int):Int→Value→IM→HL→Prop:=
 fun(a:Int) (v:Value) (c:IM) (b:HL)=>(.int .i64 a)=v∧b=[]
theorem Qu4 (a0:Int) (M:IM) (a:Int) (h:QiM a0=some a):
 Tri prog 123 #[(Uv a0)] M [] (QsE a0 a):=by
 unfold QiM at h
 refine Te func123 Z Z ?_
 intro F f e
 refine Sr (qa (Iv 0) (Nt (Cs (Sr (qM (Uv a0) (e 0) (qu (Bv (decide (a0<64))) (lss Z Z) (Nt (Ch h Z (fun b h=> ?_) (fun b h=> ?_)))))))))
 exact Sr (qa (Iv 1) (Nt (Cr (Tr (Rf h [] Z (Rs Z Z) lr ⟨Z,Z⟩)))))
 refine Ck (Tc (Cs (Sr (qM (Uv a0) (e 0) (qu (Bv (decide (a0<16384))) (lss Z Z) (Nt (Ch h Z (fun c h=> ?_) (fun c h=> ?_))))))))
 exact Sr (qa (Iv 2) (Nt (Cr (Tr (Rf h [] Z (Rs Z Z) lr ⟨Z,Z⟩)))))
 refine Ck (Tc (Cs (Sr (qM (Uv a0) (e 0) (qu (Bv (decide (a0<1073741824))) (lss Z Z) (Nt (Ch h Z (fun d h=> ?_) (fun d h=> ?_))))))))
 exact Sr (qa (Iv 4) (Nt (Cr (Tr (Rf h [] Z (Rs Z Z) lr ⟨Z,Z⟩)))))
 exact Ck (Tc (Sr (qa (Iv 8) (Nt (Cr (Rf h [] Z (Rs Z Z) lr ⟨Z,Z⟩))))))
noncomputable def QlM (c:(Int×Int)):Option ((Int×Int)⊕Int):=
 match c with
 |(a,b)=>
 (if(decide ((0:Int)<b))=true then(some (inl (i64.wrap (a*(2:Int)),u8.wrap (b - (1:Int)))))else(some (inr a)))
noncomputable def QgV (a0:(List Int)) (a1:QaB) (c:Int) (d:(Int×Int)):Option ((Int×Int)⊕Int):=
 match d with
 |(b,a)=>
 (if(decide (a<c))=true then(grd (0≤i64.wrap (a1.At+a)∧i64.wrap (a1.At+a)<a0.length) (some (inl (u64.wrap ((u64.wrap (b*(256:Int)))+(u64.wrap (rd a0 (i64.wrap (a1.At+a))))),i64.wrap (a+(1:Int))))))else(some (inr b)))
noncomputable def QhK (a0:(List Int)) (a1:QaB) (a2:Int):Option (QaB×Int):=
 (if(decide (a1.Code≠(0:Int)))=true then(some (a1,(0:Int)))else(if(decide ((a0.length:Int)≤a1.At))=true then((QdV a1 (⟨#[110,117,109]⟩:ByteArray) a1.At (3:Int)).bind fun c=>(some (c,(0:Int))))else(((grd (0≤a1.At∧a1.At<a0.length) ((iter (QlM) ((1:Int),u8.wrap ((rd a0 a1.At).tdiv (64:Int)))).bind (fun(d:Int)=>(some d)))):Option Int).bind fun a=>(if(decide ((a0.length:Int)<(i64.wrap (a1.At+a))))=true then((QdV a1 (⟨#[110,117,109]⟩:ByteArray) a1.At (3:Int)).bind fun e=>(some (e,(0:Int))))else(grd (0≤a1.At∧a1.At<a0.length) ((((iter (QgV a0 a1 a) (u64.wrap ((rd a0 a1.At).tmod (64:Int)),(1:Int))).bind (fun(f:Int)=>(some f))):Option Int).bind fun b=>((QiM b).bind fun g=>(if(decide (g≠a))=true then((QdV a1 (⟨#[110,117,109]⟩:ByteArray) a1.At (5:Int)).bind fun i=>(some (i,(0:Int))))else(if(decide (a2<b))=true then((QdV a1 (⟨#[110,117,109]⟩:ByteArray) a1.At (6:Int)).bind fun j=>(some (j,(0:Int))))else(some ((⟨i64.wrap (a1.At+a),(0:Int),(⟨#[]⟩:ByteArray),(0:Int)⟩:QaB),b)))))))))))
def QtY (a0:(List Int)) (a1:QaB) (a2:Int) (e:Value):(QaB×Int)→Value→IM→HL→Prop:=
 fun(b:(QaB×Int)) (v:Value) (f:IM) (c:HL)=>match b with |(a,d)=>(.tuple #[(.agg #[(.int .i64 a.At),(.int .i64 a.Code),(.string a.Op),(.int .i64 a.Where)]),(.int .u64 d)])=v∧c=[]
theorem QcX (a0:(List Int)) (a1:QaB) (a2:Int) (M:IM) (R:Value) (X:RS (Kd.int .u8) M R a0) (b8:(QaB×Int)) (h:QhK a0 a1 a2=some b8):
 Tri prog 86 #[R,(a84_ a1),(Uv a2)] M [] (QtY a0 a1 a2 R b8):=by
 unfold QhK at h
 refine Te func86 Z Z ?_
 intro F ρ b9
 refine Sr (We (box (cs:=(l84 a1).toArray) (congrArg Value.cells (asE (a84_ a1) (b9 1)))) Z ?_)
 rintro _ _ _ - ⟨rfl,b,rfl,rfl⟩
 refine We (Al ze84 Z) Z ?_
 rintro _ _ _ - ⟨rfl,r,rfl,rfl⟩
 refine qa (Uv 0) (Nt (Cs (Sr (qu (pt b 1) (Fa QlB Z Z) (qu (Iv a1.Code) (Lb 1 pl34 Z Z Z) (qu (Bv (decide (a1.Code≠0))) (neq Z Z) (Nt (Ch h Z (fun c0 h=> ?_) (fun c0 h=> ?_)))))))))
 refine Sr (qu (a84_ a1) (La (cs:=(l84 a1)) 1 ag84 sz84 Z Z Z) (We (Sg (v:=(a84_ a1)) (vl:=(l84 a1)) (arr':=(l84 a1)) Z sz84 Z Z (onb Z) Z Z Z) Z ?_))
 rintro _ _ _ - ⟨rfl,rfl⟩
 exact qa (Uv 0) (Nt (Cr (Tr (Qa (Dr (Rd h [] (fun _ hs=>hs.drop) (QaP Z (RVs.cons (Rc (cs:=(l84 a1)) 0 ag84 sz84 Z Z Z) (RVs.cons (RV.tmp Z) RVs.nil))) lr ⟨Z,Z⟩))))))
 refine Ck (Tc (Cs (Sr (qu (pt b 0) (Fa QfO Z Z) (qu (Iv a1.At) (Lb 1 pl3 Z Z Z) (qM R (b9 0) (qu (Iv (a0.length:Int)) (lenS underlying22 Z X.len) (qu (Bv (decide ((a0.length:Int)≤a1.At))) (geq Z Z) (Nt (Ch h Z (fun c1 h=> ?_) (fun c1 h=> ?_)))))))))))
 refine Sr (qu (a84_ a1) (La (cs:=(l84 a1)) 1 ag84 sz84 Z Z Z) (qu (pt b 0) (Fa QfO Z Z) (qu (Iv a1.At) (Lb 1 pl3 Z Z Z) ?_)))
 obtain ⟨S,c2,h⟩:=bnd h
 refine We (Ca co88 (QeG a1 (⟨#[110,117,109]⟩:ByteArray) a1.At (3:Int) _ S c2) (QiO Z Z Z Z)) Z ?_
 rintro _ e7 _ a4 ⟨_,⟨rfl,rfl⟩,rfl⟩
 refine WL.a0 (We (Sg (v:=(a84_ S)) (vl:=(l84 S)) (arr':=(l84 S)) Z sz84 Z Z (onb Z) Z Z Z) Z ?_)
 rintro _ _ _ - ⟨rfl,rfl⟩
 exact qa (Uv 0) (Nt (Cr (Tr (Qa (Dr (Rd h [] (fun _ hs=>hs.drop) (QaP Z (RVs.cons (Rc (cs:=(l84 S)) 0 ag84 sz84 Z Z Z) (RVs.cons (RV.tmp Z) RVs.nil))) a4 ⟨Z,Z⟩))))))
 refine Ck (Tc (Sr (qa (Iv 1) (Nt ?_))))
 obtain ⟨a,c3,h⟩:=bnd h
 refine Jf (fun(a:Int) g M' H'=>M.le M'∧[(r, .cells z84_.toArray 84 (0,0))]::[(b, .cells (l84 a1).toArray 84 (0,0))]::F=H'∧g 0=R∧g 2=(Uv a2)∧g 4=(pt b 0)∧g 6=(pt r 0)∧g 8=(Iv a)) a ?_ ?_
 have h:=c3
 refine Sr (qM R (b9 0) (qu (pt b 0) (Fa QfO Z Z) (qu (Iv a1.At) (Lb 1 pl3 Z Z Z) ?_)))
 obtain ⟨A,h⟩:=Qa1 h
 obtain ⟨e0,e4,a7,a8,hhas37⟩:=X.at A.1 A.2 (by decide)
 obtain rfl:=a8
 refine qu (.pointer (some e0)) (indexAddr (n:=a0.length) underlying22 sz5 Z Z A.1 A.2 a7) (qu (Yv (rd a0 a1.At)) (loadM pl5 Z (IM.has0 hhas37)) (qu (Yv (u8.wrap ((rd a0 a1.At).tdiv (64:Int)))) (quo Z Z (by decide)) (qa (Yv (u8.wrap ((rd a0 a1.At).tdiv (64:Int)))) (Nt (Bk ?_)))))
 obtain ⟨e8,c4,c5⟩:=bnd h
 clear h
 refine WC.loop c4 (fun(p_:(Int×Int)) g M' H'=>match p_ with |(w,s)=>M.le M'∧[(r, .cells z84_.toArray 84 (0,0))]::[(b, .cells (l84 a1).toArray 84 (0,0))]::F=H'∧g 0=R∧g 2=(Uv a2)∧g 4=(pt b 0)∧g 6=(pt r 0)∧g 8=(Iv w)∧g 9=(Yv s)) ?_ ?_
 exact⟨lr,Z,(b9 0),(b9 2),Z,Z,Z,Z⟩
 rintro ⟨w,s⟩ e9 f0 f1 f2 h ⟨T,rfl,B,C,D,E,G,I⟩
 unfold QlM at h
 refine Cs (Sr (qM (Yv s) I (qu (Bv (decide ((0:Int)<s))) (gtr Z Z) (Nt (Ch h Z (fun c6 h=> ?_) (fun c6 h=> ?_))))))
 refine Ck (Tc (Cs (Bk (Cg (qM (Iv w) G (qu (Iv (i64.wrap (w*(2:Int)))) (mul Z Z) (qa (Iv (i64.wrap (w*(2:Int)))) (Wz (Bn (Tc (Cg ?_)))))))))))
 exact qM (Yv s) I (qu (Yv (u8.wrap (s - 1))) (PO.sub Z Z) (qa (Yv (u8.wrap (s - 1))) (Wz (WQ.again (i64.wrap (w*(2:Int)),u8.wrap (s - 1)) (oi h).symm ⟨T,Z,B,C,D,E,Z,Z⟩))))
 refine WC.exit (WQ.thenE (WQ.leaveE w (oi h).symm (fun a9=> ?_)))
 subst a9
 have h:=c5
 refine WQ.blockH ?_
 obtain rfl:=oi h
 exact Tj ⟨T,Z,B,C,D,E,G⟩
 rintro f3 c7 f4 ⟨i,rfl,l,Y,e,m,J⟩
 refine Cs (Sr (qu (pt b 0) (Fa QfO e Z) (qu (Iv a1.At) (Lb 1 pl3 Z Z Z) (qM (Iv a) J (qu (Iv (i64.wrap (a1.At+a))) (add Z Z) (qM R l ?_))))))
 have X:=X.mono i
 refine qu (Iv (a0.length:Int)) (lenS underlying22 Z X.len) (qu (Bv (decide ((a0.length:Int)<(i64.wrap (a1.At+a))))) (gtr Z Z) (Nt (Ch h Z (fun c8 h=> ?_) (fun c8 h=> ?_))))
 refine Sr (qu (a84_ a1) (La (cs:=(l84 a1)) 1 ag84 sz84 e Z Z) (qu (pt b 0) (Fa QfO e Z) (qu (Iv a1.At) (Lb 1 pl3 Z Z Z) ?_)))
 obtain ⟨U,c9,h⟩:=bnd h
 refine We (Ca co88 (QeG a1 (⟨#[110,117,109]⟩:ByteArray) a1.At (3:Int) _ U c9) (QiO Z Z Z Z)) Z ?_
 rintro _ f5 _ b0 ⟨_,⟨rfl,rfl⟩,rfl⟩
 refine WL.a0 (We (Sg (v:=(a84_ U)) (vl:=(l84 U)) (arr':=(l84 U)) Z sz84 m Z (onb Z) Z Z Z) Z ?_)
 rintro _ _ _ - ⟨rfl,rfl⟩
 exact qa (Uv 0) (Nt (Cr (Tr (Qa (Dr (Rd h [] (fun _ hs=>hs.drop) (QaP Z (RVs.cons (Rc (cs:=(l84 U)) 0 ag84 sz84 m Z Z) (RVs.cons (RV.tmp Z) RVs.nil))) (i.trans b0) ⟨Z,Z⟩))))))
 refine Ck (Tc (Sr (qM R l (qu (pt b 0) (Fa QfO e Z) (qu (Iv a1.At) (Lb 1 pl3 Z Z Z) ?_)))))
 obtain ⟨K,h⟩:=Qa1 h
 obtain ⟨e2,e5,b1,b2,hhas55⟩:=X.at K.1 K.2 (by decide)
 obtain rfl:=b2
 refine qu (.pointer (some e2)) (indexAddr (n:=a0.length) underlying22 sz5 Z Z K.1 K.2 b1) (qu (Yv (rd a0 a1.At)) (loadM pl5 Z (IM.has0 hhas55)) (qu (Yv ((rd a0 a1.At).tmod (64:Int))) (rem Z Z (by decide)) (qu (Uv (u64.wrap ((rd a0 a1.At).tmod (64:Int)))) (conv us5 underlying109 Z) (qa (Uv (u64.wrap ((rd a0 a1.At).tmod (64:Int)))) (Nt ?_)))))
 obtain ⟨o,d0,h⟩:=bnd h
 refine Jf (fun(o:Int) g M' H'=>c7.le M'∧[(r, .cells z84_.toArray 84 (0,0))]::[(b, .cells (l84 a1).toArray 84 (0,0))]::F=H'∧g 2=(Uv a2)∧g 4=(pt b 0)∧g 6=(pt r 0)∧g 8=(Iv a)∧g 10=(Uv o)) o ?_ ?_
 have h:=d0
 refine Sr (qa (Iv 1) (Nt (Bk ?_)))
 obtain ⟨f6,d1,d2⟩:=bnd h
 clear h
 refine WC.loop d1 (fun(p_:(Int×Int)) g M' H'=>match p_ with |(t,d)=>c7.le M'∧[(r, .cells z84_.toArray 84 (0,0))]::[(b, .cells (l84 a1).toArray 84 (0,0))]::F=H'∧g 0=R∧g 2=(Uv a2)∧g 4=(pt b 0)∧g 6=(pt r 0)∧g 8=(Iv a)∧g 10=(Uv t)∧g 11=(Iv d)) ?_ ?_
 exact⟨lr,Z,l,Y,e,m,J,Z,Z⟩
 rintro ⟨t,d⟩ f7 f8 f9 g0 h ⟨x,rfl,L,N,p,O,q,u,j⟩
 unfold QgV at h
 refine Cs (Sr (qM (Iv d) j (qM (Iv a) q (qu (Bv (decide (d<a))) (lss Z Z) (Nt (Ch h Z (fun d3 h=> ?_) (fun d3 h=> ?_)))))))
 refine Ck (Tc (Cs (Bk (Cg (qM (Uv t) u (qu (Uv (u64.wrap (t*(256:Int)))) (mul Z Z) (qM R L (qu (pt b 0) (Fa QfO p Z) (qu (Iv a1.At) (Lb 1 pl3 Z Z Z) (qM (Iv d) j (qu (Iv (i64.wrap (a1.At+d))) (add Z Z) ?_)))))))))))
 obtain ⟨P,h⟩:=Qa1 h
 have X:=X.mono x
 obtain ⟨e3,e6,b3,b4,hhas69⟩:=X.at P.1 P.2 (by decide)
 obtain rfl:=b4
 refine qu (.pointer (some e3)) (indexAddr (n:=a0.length) underlying22 sz5 Z Z P.1 P.2 b3) (qu (Yv (rd a0 (i64.wrap (a1.At+d)))) (loadM pl5 Z (IM.has0 hhas69)) (qu (Uv (u64.wrap (rd a0 (i64.wrap (a1.At+d))))) (conv us5 underlying109 Z) (qu (Uv (u64.wrap ((u64.wrap (t*(256:Int)))+(u64.wrap (rd a0 (i64.wrap (a1.At+d))))))) (add Z Z) (qa (Uv (u64.wrap ((u64.wrap (t*(256:Int)))+(u64.wrap (rd a0 (i64.wrap (a1.At+d))))))) (Wz (Bn (Tc (Cg (qM (Iv d) j (qu (Iv (i64.wrap (d+1))) (add Z Z) (qa (Iv (i64.wrap (d+1))) ?_)))))))))))
 exact Wz (WQ.again (u64.wrap ((u64.wrap (t*(256:Int)))+(u64.wrap (rd a0 (i64.wrap (a1.At+d))))),i64.wrap (d+1)) (oi h).symm ⟨x,Z,L,N,p,O,q,Z,Z⟩)
 refine WC.exit (WQ.thenE (WQ.leaveE t (oi h).symm (fun b5=> ?_)))
 subst b5
 have h:=d2
 refine WQ.blockH ?_
 obtain rfl:=oi h
 exact Tj ⟨x,Z,N,p,O,q,u⟩
 rintro g1 g2 g3 ⟨y,rfl,a3,f,c,Q,k⟩
 refine Cs (Sr (qM (Uv o) k ?_))
 obtain ⟨d4,d5,h⟩:=bnd h
 refine We (Ca Q7U (Qu4 o _ d4 d5) (Qb2 Z)) Z ?_
 rintro _ g4 _ z ⟨_,⟨rfl,rfl⟩,rfl⟩
 refine WL.a0 (qM (Iv a) Q (qu (Bv (decide (d4≠a))) (neq Z Z) (Nt (Ch h Z (fun d6 h=> ?_) (fun d6 h=> ?_)))))
 refine Sr (qu (a84_ a1) (La (cs:=(l84 a1)) 1 ag84 sz84 f Z Z) (qu (pt b 0) (Fa QfO f Z) (qu (Iv a1.At) (Lb 1 pl3 Z Z Z) ?_)))
 obtain ⟨V,d7,h⟩:=bnd h
 refine We (Ca co88 (QeG a1 (⟨#[110,117,109]⟩:ByteArray) a1.At (5:Int) _ V d7) (QiO Z Z Z Z)) Z ?_
 rintro _ g5 _ b6 ⟨_,⟨rfl,rfl⟩,rfl⟩
 refine WL.a0 (We (Sg (v:=(a84_ V)) (vl:=(l84 V)) (arr':=(l84 V)) Z sz84 c Z (onb Z) Z Z Z) Z ?_)
 rintro _ _ _ - ⟨rfl,rfl⟩
 exact qa (Uv 0) (Nt (Cr (Tr (Qa (Dr (Rd h [] (fun _ hs=>hs.drop) (QaP Z (RVs.cons (Rc (cs:=(l84 V)) 0 ag84 sz84 c Z Z) (RVs.cons (RV.tmp Z) RVs.nil))) (((i.trans y).trans z).trans b6) ⟨Z,Z⟩))))))
 refine Ck (Tc (Cs (Sr (qM (Uv o) k (qM (Uv a2) a3 (qu (Bv (decide (a2<o))) (gtr Z Z) (Nt (Ch h Z (fun d8 h=> ?_) (fun d8 h=> ?_)))))))))
 refine Sr (qu (a84_ a1) (La (cs:=(l84 a1)) 1 ag84 sz84 f Z Z) (qu (pt b 0) (Fa QfO f Z) (qu (Iv a1.At) (Lb 1 pl3 Z Z Z) ?_)))
 obtain ⟨W,d9,h⟩:=bnd h
 refine We (Ca co88 (QeG a1 (⟨#[110,117,109]⟩:ByteArray) a1.At (6:Int) _ W d9) (QiO Z Z Z Z)) Z ?_
 rintro _ g6 _ b7 ⟨_,⟨rfl,rfl⟩,rfl⟩
 refine WL.a0 (We (Sg (v:=(a84_ W)) (vl:=(l84 W)) (arr':=(l84 W)) Z sz84 c Z (onb Z) Z Z Z) Z ?_)
 rintro _ _ _ - ⟨rfl,rfl⟩
 exact qa (Uv 0) (Nt (Cr (Tr (Qa (Dr (Rd h [] (fun _ hs=>hs.drop) (QaP Z (RVs.cons (Rc (cs:=(l84 W)) 0 ag84 sz84 c Z Z) (RVs.cons (RV.tmp Z) RVs.nil))) (((i.trans y).trans z).trans b7) ⟨Z,Z⟩))))))
 refine Ck (Tc (Sr (qu (pt b 0) (Fa QfO f Z) (qu (Iv a1.At) (Lb 1 pl3 Z Z Z) (qM (Iv a) Q (qu (Iv (i64.wrap (a1.At+a))) (add Z Z) (qu (.agg #[(Iv (i64.wrap (a1.At+a))),(Iv 0),(Sv ⟨#[]⟩),(Iv 0)]) (Bl (cl:=[(Iv (i64.wrap (a1.At+a))),(Iv 0),(Sv ⟨#[]⟩),(Iv 0)]) ze84 fp84 (Pc (Iv (i64.wrap (a1.At+a))) Z Z Pz) Z) (qM (Uv o) k (We (Sg (v:=(.agg #[(Iv (i64.wrap (a1.At+a))),(Iv 0),(Sv ⟨#[]⟩),(Iv 0)])) (vl:=[(Iv (i64.wrap (a1.At+a))),(Iv 0),(Sv ⟨#[]⟩),(Iv 0)]) (arr':=[(Iv (i64.wrap (a1.At+a))),(Iv 0),(Sv ⟨#[]⟩),(Iv 0)]) Z sz84 c Z (onb Z) Z Z Z) Z ?_)))))))))
 rintro _ _ _ - ⟨rfl,rfl⟩
 exact qa (Uv o) (Nt (Cr (Qa (Dr (Rd h [] (fun _ hs=>hs.drop) (QaP Z (RVs.cons (Rc (cs:=[(Iv (i64.wrap (a1.At+a))),(Iv 0),(Sv ⟨#[]⟩),(Iv 0)]) 0 ag84 sz84 c Z Z) (RVs.cons (RV.tmp Z) RVs.nil))) ((i.trans y).trans z) ⟨Z,Z⟩)))))
noncomputable def Qj6 (a0:(List Int)) (a1:QaB) (a2:Int):Option (QaB×(List Int)):=
 ((((QfD a2).bind fun c=>((QhK a0 a1 c).bind fun(d,e)=>(some (d,e)))):Option (QaB×Int)).bind fun(a,b)=>(if(decide (a.Code≠(0:Int)))=true then(some (a,[]))else(if(decide ((u64.wrap (i64.wrap ((a0.length:Int)- a.At)))<b))=true then((QdV (⟨a1.At,(0:Int),(⟨#[]⟩:ByteArray),(0:Int)⟩:QaB) (⟨#[116,101,120,116]⟩:ByteArray) a1.At (3:Int)).bind fun f=>(some (f,[])))else(grd (0≤a.At∧a.At≤i64.wrap (a.At+(i64.wrap b))∧i64.wrap (a.At+(i64.wrap b))≤(a0.length:Int)) (some ((⟨i64.wrap (a.At+(i64.wrap b)),(0:Int),(⟨#[]⟩:ByteArray),(0:Int)⟩:QaB),sub a0 a.At (i64.wrap (a.At+(i64.wrap b)))))))))
def QsF (a0:(List Int)) (a1:QaB) (a2:Int) (g:Value):(QaB×(List Int))→Value→IM→HL→Prop:=
 fun(c:(QaB×(List Int))) (v:Value) (d:IM) (e:HL)=>match c with |(b,f)=>∃ a,(.tuple #[(.agg #[(.int .i64 b.At),(.int .i64 b.Code),(.string b.Op),(.int .i64 b.Where)]),a])=v∧e=[]∧RS (Kd.int .u8) d a f
theorem Qu5 (a0:(List Int)) (a1:QaB) (a2:Int) (M:IM) (w:Value) (k:RS (Kd.int .u8) M w a0) (I:(QaB×(List Int))) (h:Qj6 a0 a1 a2=some I):
 Tri prog 89 #[w,(a84_ a1),(Iv a2)] M [] (QsF a0 a1 a2 w I):=by
 unfold Qj6 at h
 refine Te func89 Z Z ?_
 intro F ρ o
 refine Sr (We (box (cs:=(l84 a1).toArray) (congrArg Value.cells (asE (a84_ a1) (o 1)))) Z ?_)
 rintro _ _ _ - ⟨rfl,x,rfl,rfl⟩
 refine We (Al ze84 Z) Z ?_
 rintro _ _ _ - ⟨rfl,J,rfl,rfl⟩
 refine qa Zs (Nt ?_)
 obtain ⟨K,L,h⟩:=bnd h
 refine Jf (fun(p_:(QaB×Int)) N M' H'=>match p_ with |(a,b)=>∃ j,M.le M'∧[(J, .cells z84_.toArray 84 (0,0))]::[(x, .cells (l84 a1).toArray 84 (0,0))]::[(j, .cells (l84 a).toArray 84 (0,0))]::F=H'∧N 0=w∧N 4=(pt x 0)∧N 6=(pt J 0)∧N 8=(pt j 0)∧N 9=(Uv b)) K ?_ ?_
 have h:=L
 refine WC.draw [0,0,0,4,15,31,63,63,0,383,1023] (.pure 0 (.pure 1 (.pure 2 (.alt 3 (.alt 4 (.pure 5 (.pure 6 (.pure 7 (.alt 8 (.alt 9 (.pure 10 .done) .none) .none)))) (.alt 8 (.alt 4 (.pure 5 (.pure 6 (.pure 7 (.alt 9 (.pure 10 .done) .none)))) .none) .none)) (.alt 8 (.alt 3 (.alt 4 (.pure 5 (.pure 6 (.pure 7 (.alt 9 (.pure 10 .done) .none)))) .none) .none) .none))))) Qc3 (by kernel_rfl) (qt w Z (Mv (o 0)) (qt (a84_ a1) Z (La (cs:=(l84 a1)) 1 ag84 sz84 Z Z Z) (qt (Iv a2) Z (Mv (o 2)) ?_)))
 have O:=h
 obtain ⟨B,P,h⟩:=bnd h
 refine Ta Z (Ca co87 (QdM a2 _ B P) (Qb2 Z)) Z ?_ ?_
 rintro _ b0 _ m ⟨_,⟨rfl,rfl⟩,rfl⟩
 refine⟨(Sk 1 Z (Ss Z (La (cs:=(l84 a1)) 1 ag84 sz84 Z Z Z) Z (Ss Z (Mv (o 0)) Z trivial))), ?_⟩
 refine WT.a0 ?_
 have Q:=h
 obtain ⟨⟨q,y⟩,R,h⟩:=bnd h
 have k:=k.mono m
 refine Ta Z (Ca co86 (QcX a0 a1 B _ _ k (q,y) R) (QcV Z Z Z)) Z ?_ ?_
 rintro _ b1 _ C ⟨_,⟨rfl,rfl⟩,rfl⟩
 refine⟨(Sl Z), ?_⟩
 refine WT.a0 (qt (.tuple #[(a84_ q),(Uv y)]) Z (Mv Z) (qt (a84_ q) Z (Xt Z Z) (qt (Uv y) Z (Xt Z Z) (Ta Z (Al ze84 Z) Z ?_ ?_))))
 rintro _ _ _ - ⟨rfl,a3,rfl,rfl⟩
 refine⟨(Ss Z (Xt Z Z) Z (Ss Z (Xt Z Z) Z (Ss Z (Mv Z) Z (Ss Z (Mv (o 2)) Z (Ss Z (La (cs:=(l84 a1)) 2 ag84 sz84 Z Z Z) Z (Ss Z (Mv (o 0)) Z trivial)))))), ?_⟩
 refine Ta Z (Sg (v:=(a84_ q)) (vl:=(l84 q)) (arr':=(l84 q)) Z sz84 Z Z (onb Z) Z Z Z) Z ?_ ?_
 rintro _ _ _ - ⟨rfl,rfl⟩
 refine⟨(Ss Z (Xt Z Z) Z (Sl Z)), ?_⟩
 refine qt (Uv y) Z (Ag Z) (Ti (Qb (Qb ?_)))
 obtain rfl:=oi h
 exact Tj ⟨a3,(m.trans C),Z,(o 0),Z,Z,Z,Z⟩
 exact Tz
 exact Tz
 have h:=Q
 refine Ta Z (Al ze84 Z) Z ?_ ?_
 rintro _ _ _ - ⟨rfl,a4,rfl,rfl⟩
 refine⟨(Ss Z (Mv (o 2)) Z (Ss Z (La (cs:=(l84 a1)) 2 ag84 sz84 Z Z Z) Z (Ss Z (Mv (o 0)) Z trivial))), ?_⟩
 obtain ⟨⟨r,z⟩,S,h⟩:=bnd h
 refine Ta Z (Ca co86 (QcX a0 a1 B _ _ k (r,z) S) (QcV Z Z Z)) Z ?_ ?_
 rintro _ b2 _ D ⟨_,⟨rfl,rfl⟩,rfl⟩
 refine⟨(Sl Z), ?_⟩
 refine WT.a0 (qt (.tuple #[(a84_ r),(Uv z)]) Z (Mv Z) (qt (a84_ r) Z (Xt Z Z) (qt (Uv z) Z (Xt Z Z) (Ta Z (Sg (v:=(a84_ r)) (vl:=(l84 r)) (arr':=(l84 r)) Z sz84 Z Z (onb Z) Z Z Z) Z ?_ ?_))))
 rintro _ _ _ - ⟨rfl,rfl⟩
 refine⟨(Ss Z (Xt Z Z) Z (Sl Z)), ?_⟩
 refine qt (Uv z) Z (Ag Z) (Ti (Qb (Qb ?_)))
 obtain rfl:=oi h
 exact Tj ⟨a4,(m.trans D),Z,(o 0),Z,Z,Z,Z⟩
 exact Tz
 exact Tz
 exact Tz
 have h:=O
 refine Ta Z (Al ze84 Z) Z ?_ ?_
 rintro _ _ _ - ⟨rfl,a5,rfl,rfl⟩
 refine⟨(Ss Z (Mv (o 2)) Z (Ss Z (La (cs:=(l84 a1)) 2 ag84 sz84 Z Z Z) Z (Ss Z (Mv (o 0)) Z trivial))), ?_⟩
 obtain ⟨T,U,h⟩:=bnd h
 refine Ta Z (Ca co87 (QdM a2 _ T U) (Qb2 Z)) Z ?_ ?_
 rintro _ b3 _ t ⟨_,⟨rfl,rfl⟩,rfl⟩
 refine⟨(Sk 1 Z (Ss Z (La (cs:=(l84 a1)) 2 ag84 sz84 Z Z Z) Z (Ss Z (Mv (o 0)) Z trivial))), ?_⟩
 refine WT.a0 ?_
 obtain ⟨⟨s,A⟩,V,h⟩:=bnd h
 have k:=k.mono t
 refine Ta Z (Ca co86 (QcX a0 a1 T _ _ k (s,A) V) (QcV Z Z Z)) Z ?_ ?_
 rintro _ b4 _ E ⟨_,⟨rfl,rfl⟩,rfl⟩
 refine⟨(Sl Z), ?_⟩
 refine WT.a0 (qt (.tuple #[(a84_ s),(Uv A)]) Z (Mv Z) (qt (a84_ s) Z (Xt Z Z) (qt (Uv A) Z (Xt Z Z) (Ta Z (Sg (v:=(a84_ s)) (vl:=(l84 s)) (arr':=(l84 s)) Z sz84 Z Z (onb Z) Z Z Z) Z ?_ ?_))))
 rintro _ _ _ - ⟨rfl,rfl⟩
 refine⟨(Ss Z (Xt Z Z) Z (Sl Z)), ?_⟩
 refine qt (Uv A) Z (Ag Z) (Ti (Qb (Qb ?_)))
 obtain rfl:=oi h
 exact Tj ⟨a5,(t.trans E),Z,(o 0),Z,Z,Z,Z⟩
 exact Tz
 exact Tz
 exact Tz
 exact Tz
 obtain ⟨a,b⟩:=K
 rintro b5 b6 b7 ⟨j,g,rfl,i,p,e,c,f⟩
 refine Cs (Sr (qu (pt j 1) (Fa QlB c Z) (qu (Iv a.Code) (Lb 2 pl34 Z Z Z) (qu (Bv (decide (a.Code≠0))) (neq Z Z) (Nt (Ch h Z (fun W h=> ?_) (fun W h=> ?_)))))))
 refine Sr (qu (a84_ a) (La (cs:=(l84 a)) 2 ag84 sz84 c Z Z) (We (Sg (v:=(a84_ a)) (vl:=(l84 a)) (arr':=(l84 a)) Z sz84 e Z (onb Z) Z Z Z) Z ?_))
 rintro _ _ _ - ⟨rfl,rfl⟩
 exact qa Zs (Nt (Cr (Tr (Qa (Dr (Qa (Dr (Rd h [] (fun _ hs=>hs.drop) (QaP Z (RVs.cons (Rc (cs:=(l84 a)) 0 ag84 sz84 e Z Z) (RVs.cons (RV.tmp Z) RVs.nil))) g ⟨Zs,Z,Z,RS.nil _ _⟩))))))))
 refine Ck (Tc (Cs (Sr (qM w i ?_))))
 have k:=k.mono g
 refine qu (Iv (a0.length:Int)) (lenS underlying22 Z k.len) (qu (pt j 0) (Fa QfO c Z) (qu (Iv a.At) (Lb 2 pl3 Z Z Z) (qu (Iv (i64.wrap ((a0.length:Int)- a.At))) (PO.sub Z Z) (qu (Uv (u64.wrap (i64.wrap ((a0.length:Int)- a.At)))) (conv us3 underlying109 Z) (qM (Uv b) f (qu (Bv (decide ((u64.wrap (i64.wrap ((a0.length:Int)- a.At)))<b))) (lss Z Z) (Nt (Ch h Z (fun X h=> ?_) (fun X h=> ?_)))))))))
 refine Sr (qu (pt x 0) (Fa QfO p Z) (qu (Iv a1.At) (Lb 1 pl3 Z Z Z) (qu (.agg #[(Iv a1.At),(Iv 0),(Sv ⟨#[]⟩),(Iv 0)]) (Bl (cl:=[(Iv a1.At),(Iv 0),(Sv ⟨#[]⟩),(Iv 0)]) ze84 fp84 (Pc (Iv a1.At) Z Z Pz) Z) (qu (pt x 0) (Fa QfO p Z) (qu (Iv a1.At) (Lb 1 pl3 Z Z Z) ?_)))))
 obtain ⟨u,Y,h⟩:=bnd h
 refine We (Ca co88 (QeG (⟨a1.At,(0:Int),(⟨#[]⟩:ByteArray),(0:Int)⟩:QaB) (⟨#[116,101,120,116]⟩:ByteArray) a1.At (3:Int) _ u Y) (QiO Z Z Z Z)) Z ?_
 rintro _ b8 _ G ⟨_,⟨rfl,rfl⟩,rfl⟩
 refine WL.a0 (We (Sg (v:=(a84_ u)) (vl:=(l84 u)) (arr':=(l84 u)) Z sz84 e Z (onb Z) Z Z Z) Z ?_)
 rintro _ _ _ - ⟨rfl,rfl⟩
 exact qa Zs (Nt (Cr (Tr (Qa (Dr (Qa (Dr (Rd h [] (fun _ hs=>hs.drop) (QaP Z (RVs.cons (Rc (cs:=(l84 u)) 0 ag84 sz84 e Z Z) (RVs.cons (RV.tmp Z) RVs.nil))) (g.trans G) ⟨Zs,Z,Z,RS.nil _ _⟩))))))))
 refine Ck (Tc (Cs (WC.draw [0,1,0,4,15,31,0,0,128,0,512,0,2048,7680,16320,63,65535] (.pure 0 (.pure 1 (.pure 2 (.pure 3 (.pure 4 (.pure 5 (.pure 6 (.pure 7 (.pure 8 (.pure 9 (.pure 10 (.pure 11 (.pure 12 (.pure 13 (.pure 14 (.alt 15 (.pure 16 .done) .none)))))))))))))))) Qc3 (by kernel_rfl) (qt (pt j 0) Z (Fa QfO c Z) (qt (Iv a.At) Z (Lb 2 pl3 Z Z Z) (qt (Uv b) Z (Mv f) (qt (Iv (i64.wrap b)) Z (conv QlR underlying3 Z) (qt (Iv (i64.wrap (a.At+(i64.wrap b)))) Z (add Z Z) (qt (.agg #[(Iv (i64.wrap (a.At+(i64.wrap b)))),(Iv 0),(Sv ⟨#[]⟩),(Iv 0)]) Z (Bl (cl:=[(Iv (i64.wrap (a.At+(i64.wrap b)))),(Iv 0),(Sv ⟨#[]⟩),(Iv 0)]) ze84 fp84 (Pc (Iv (i64.wrap (a.At+(i64.wrap b)))) Z Z Pz) Z) (qt w Z (Mv i) (qt (pt j 0) Z (Fa QfO c Z) ?_)))))))))))
 refine qt (Iv a.At) Z (Lb 2 pl3 Z Z Z) (qt (pt j 0) Z (Fa QfO c Z) (qt (Iv a.At) Z (Lb 2 pl3 Z Z Z) (qt (Uv b) Z (Mv f) (qt (Iv (i64.wrap b)) Z (conv QlR underlying3 Z) (qt (Iv (i64.wrap (a.At+(i64.wrap b)))) Z (add Z Z) ?_)))))
 obtain ⟨d,h⟩:=Qa1 h
 have a6:=k.sub d.1 d.2.1 d.2.2
 refine qt (slV w 1 (a.At).toNat (i64.wrap (a.At+(i64.wrap b))).toNat) Z (slice (n:=a0.length) (l:=(a.At).toNat) (h:=(i64.wrap (a.At+(i64.wrap b))).toNat) underlying22 sz5 Z k.len k.cap ⟨_,_,Z,d.1,Z⟩ ⟨_,_,Z,(Int.le_trans d.1 d.2.1),Z⟩ (Int.toNat_le_toNat d.2.1) (Qe4 d.2.2)) (Ta Z (Sg (v:=(.agg #[(Iv (i64.wrap (a.At+(i64.wrap b)))),(Iv 0),(Sv ⟨#[]⟩),(Iv 0)])) (vl:=[(Iv (i64.wrap (a.At+(i64.wrap b)))),(Iv 0),(Sv ⟨#[]⟩),(Iv 0)]) (arr':=[(Iv (i64.wrap (a.At+(i64.wrap b)))),(Iv 0),(Sv ⟨#[]⟩),(Iv 0)]) Z sz84 e Z (onb Z) Z Z Z) Z ?_ ?_)
 rintro _ _ _ - ⟨rfl,rfl⟩
 refine⟨(Ss Z (slice (n:=a0.length) (l:=(a.At).toNat) (h:=(i64.wrap (a.At+(i64.wrap b))).toNat) underlying22 sz5 Z k.len k.cap ⟨_,_,Z,d.1,Z⟩ ⟨_,_,Z,(Int.le_trans d.1 d.2.1),Z⟩ (Int.toNat_le_toNat d.2.1) (Qe4 d.2.2)) Z (Ss Z (add Z Z) Z (Ss Z (conv QlR underlying3 Z) Z (Ss Z (Mv f) Z (Ss Z (Lb 2 pl3 Z Z Z) Z (Ss Z (Fa QfO c Z) Z (Ss Z (Lb 2 pl3 Z Z Z) Z (Ss Z (Fa QfO c Z) Z (Ss Z (Mv i) Z (Sl Z)))))))))), ?_⟩
 exact qt (slV w 1 (a.At).toNat (i64.wrap (a.At+(i64.wrap b))).toNat) Z (Ag Z) (Ti (Tc (Cr (Qa (Dr (Qa (Dr (Rd h [] (fun _ hs=>hs.drop) (QaP Z (RVs.cons (Rc (cs:=[(Iv (i64.wrap (a.At+(i64.wrap b)))),(Iv 0),(Sv ⟨#[]⟩),(Iv 0)]) 0 ag84 sz84 e Z Z) (RVs.cons (RV.tmp Z) RVs.nil))) g ⟨(slV w 1 (a.At).toNat (i64.wrap (a.At+(i64.wrap b))).toNat),Z,Z,a6⟩))))))))
 exact Tz

end Go.Proofs.YtfkmkgpoddbbfaaGreatDoor.G
