/- Go functions: what they come to, and that they do. Printed by a program of the session (gen). -/
import Derived.Test.YtpcbipcdfccnnaaGreatDoorPF
import Derived.Test.YtpcbipcdfccnnaaGreatDoorP4
import Derived.Test.YtpcbipcdfccnnaaGreatDoorP5
import Derived.Test.YtpcbipcdfccnnaaGreatDoorP6
import Derived.Test.YtpcbipcdfccnnaaGreatDoorKShar2
import Derived.Test.YtpcbipcdfccnnaaGreatDoorKConv
import Derived.Test.YtpcbipcdfccnnaaGreatDoorKMap
import Derived.Test.YtpcbipcdfccnnaaGreatDoorKTight2
set_option linter.unusedVariables false
set_option linter.unusedSimpArgs false
set_option maxHeartbeats 8000000
set_option maxRecDepth 100000
namespace Go.Proofs.YtpcbipcdfccnnaaGreatDoor.G
open Go Go.KK
open PO EO IntKind Sum Tryz

noncomputable def QcA (a0qk0q:QaB):Option (QaE×Int×GErr):=
 ((QcH a0qk0q).bind fun(a,c,d)=>((QcH (⟨a0qk0q.b,c,d⟩:QaB)).bind fun(e,f,g)=>((Qf3 (⟨a0qk0q.b,f,g⟩:QaB)).bind fun(i,j,k)=>((Qc4 (⟨a0qk0q.b,j,k⟩:QaB)).bind fun(l,m,n)=>((Qc4 (⟨a0qk0q.b,m,n⟩:QaB)).bind fun(o,p,q)=>(some ((⟨a,e,i,l,o⟩:QaE),p,q)))))))
def QjR (a0qk0q:QaB) (v0qk0q_0:Value) (b g0qk0 g0qk0q c:Nat):(QaE×Int×GErr)→Value→IM→HL→Prop:=
 fun(p_:(QaE×Int×GErr)) (v:Value) (M':IM) (H':HL)=>match p_ with |(a,d,e)=>(.agg #[(.int .i64 a.Id),(.int .i64 a.Epoch),(.string a.Rack),(.bool a.Fenced),(.bool a.Leaving)])=v∧H'=[[(g0qk0q, .cells #[v0qk0q_0,(.int .i64 d),(GV e)] 130 (0,0))],[(g0qk0, .cells #[(.pointer (some ⟨g0qk0q,0,none⟩))] 77 (0,0))],[(b, .cells #[(.func (.func 37) #[] #[(.pointer (some ⟨g0qk0,0,none⟩))])] 80 (0,0))],[(c, .cells #[(.func (.func 39) #[] #[(.pointer (some ⟨g0qk0,0,none⟩))])] 82 (0,0))]]
theorem QkG (a0qk0q:QaB) (M:IM) (v0qk0q_0:Value) (C g0qk0 g0qk0q D:Nat) (h0qk0q_0:RS (Kd.int .u8) M v0qk0q_0 a0qk0q.b) (res:(QaE×Int×GErr)) (h:QcA a0qk0q=some res):
 Tri prog 44 #[(pt C 0),(pt D 0),(pt g0qk0 0)] M [[(g0qk0q, .cells (l130 a0qk0q v0qk0q_0).toArray 130 (0,0))],[(g0qk0, .cells #[(pt g0qk0q 0)] 77 (0,0))],[(C, .cells #[(.func (.func 37) #[] #[(pt g0qk0 0)])] 80 (0,0))],[(D, .cells #[(.func (.func 39) #[] #[(pt g0qk0 0)])] 82 (0,0))]] (QjR a0qk0q v0qk0q_0 C g0qk0 g0qk0q D res):=by
 unfold QcA at h
 refine Te func44 Z Z ?_
 intro F ρ hρ
 refine Sr (We (Al ze71 Z) Z ?_)
 rintro _ _ _ - ⟨rfl,E,rfl,rfl⟩
 refine Nt (Cs (WC.draw [0,1,0,7,0,31,0,127,0,511,1023,2047] (.pure 0 (.pure 2 (.pure 4 (.pure 6 (.pure 8 (.alt 1 (.alt 3 (.alt 5 (.alt 7 (.alt 9 (.pure 10 (.alt 11 .done .none)) .none) .none) .none) .none) .none)))))) QdC (by kernel_rfl) (qt (.func (.func 37) #[] #[(pt g0qk0 0)]) Z (Lb 3 pl80 (hρ 0) Z Z) (qt (.func (.func 37) #[] #[(pt g0qk0 0)]) Z (Lb 3 pl80 (hρ 0) Z Z) (qt (.func (.func 39) #[] #[(pt g0qk0 0)]) Z (Lb 4 pl82 (hρ 1) Z Z) (qt (pt g0qk0q 0) Z (Lb 2 pl77 (hρ 2) Z Z) (qt (pt g0qk0q 0) Z (Lb 2 pl77 (hρ 2) Z Z) ?_)))))))
 obtain ⟨⟨a,m,n⟩,o,h⟩:=bnd h
 refine WT.f2 (WT.f2 (Ta Z (callV2 (first:=#[]) (cap:=#[(pt g0qk0 0)]) co37 Z (QcL a0qk0q _ _ _ _ h0qk0q_0 (a,m,n) o) (QeS Z)) Z ?_ ?_))
 rintro _ G _ g ⟨_,⟨rfl,rfl⟩,rfl⟩
 refine⟨(Ss Z (Lb 1 pl77 (hρ 2) Z Z) Z (Ss Z (Lb 1 pl77 (hρ 2) Z Z) Z (Ss Z (Lb 4 pl82 (hρ 1) Z Z) Z (Ss Z (Lb 3 pl80 (hρ 0) Z Z) Z (Sl Z))))), ?_⟩
 refine WT.a2 ?_
 obtain ⟨⟨c,p,q⟩,r,h⟩:=bnd h
 refine WT.f1 (WT.f1 ?_)
 have h0qk0q_0:=h0qk0q_0.mono g
 refine Ta Z (callV2 (first:=#[]) (cap:=#[(pt g0qk0 0)]) co37 Z (QcL (⟨a0qk0q.b,m,n⟩:QaB) _ _ _ _ h0qk0q_0 (c,p,q) r) (QeS Z)) Z ?_ ?_
 rintro _ I _ i ⟨_,⟨rfl,rfl⟩,rfl⟩
 refine⟨(Ss Z (Lb 1 pl77 (hρ 2) Z Z) Z (Ss Z (Lb 1 pl77 (hρ 2) Z Z) Z (Ss Z (Lb 4 pl82 (hρ 1) Z Z) Z (Sl Z)))), ?_⟩
 refine WT.a2 ?_
 obtain ⟨⟨d,s,t⟩,u,h⟩:=bnd h
 refine WT.f1 (WT.f1 ?_)
 have h0qk0q_0:=h0qk0q_0.mono i
 refine Ta Z (callV2 (first:=#[]) (cap:=#[(pt g0qk0 0)]) co39 Z (QkV (⟨a0qk0q.b,p,q⟩:QaB) _ _ _ _ h0qk0q_0 (d,s,t) u) (QeS Z)) Z ?_ ?_
 rintro _ J _ j ⟨_,⟨rfl,rfl⟩,rfl⟩
 refine⟨(Ss Z (Lb 1 pl77 (hρ 2) Z Z) Z (Ss Z (Lb 1 pl77 (hρ 2) Z Z) Z (Sl Z))), ?_⟩
 refine WT.a2 ?_
 obtain ⟨⟨e,w,x⟩,y,h⟩:=bnd h
 have h0qk0q_0:=h0qk0q_0.mono j
 refine Ta Z (Cb co45 (QkF (⟨a0qk0q.b,s,t⟩:QaB) _ _ _ h0qk0q_0 (e,w,x) y) (QbK Z)) Z ?_ ?_
 rintro _ K _ k ⟨_,⟨rfl,rfl⟩,rfl⟩
 refine⟨(Ss Z (Lb 1 pl77 (hρ 2) Z Z) Z (Sl Z)), ?_⟩
 refine WT.a1 ?_
 obtain ⟨⟨f,z,A⟩,B,h⟩:=bnd h
 have h0qk0q_0:=h0qk0q_0.mono k
 refine Ta Z (Cb co45 (QkF (⟨a0qk0q.b,w,x⟩:QaB) _ _ _ h0qk0q_0 (f,z,A) B) (QbK Z)) Z ?_ ?_
 rintro _ L _ l ⟨_,⟨rfl,rfl⟩,rfl⟩
 refine⟨(Sl Z), ?_⟩
 refine WT.a1 (qt (.agg #[(Iv a),(Iv c),(Sv d),(Bv e),(Bv f)]) Z (Bl (cl:=[(Iv a),(Iv c),(Sv d),(Bv e),(Bv f)]) ze71 fp71 (Pc (Iv a) Z Z (Pc (Iv c) Z Z (Pc (Sv d) Z Z (Pc (Bv e) Z Z (Pc (Bv f) Z Z Pz))))) Z) (WT.f2 (Ta Z (Sg (v:=(.agg #[(Iv a),(Iv c),(Sv d),(Bv e),(Bv f)])) (vl:=[(Iv a),(Iv c),(Sv d),(Bv e),(Bv f)]) (arr':=[(Iv a),(Iv c),(Sv d),(Bv e),(Bv f)]) Z sz71 Z Z (onb Z) Z Z Z) Z ?_ ?_)))
 rintro _ _ _ - ⟨rfl,rfl⟩
 refine⟨(Sl Z), ?_⟩
 exact Ti (Tc (Cr (Rd h [[(g0qk0q, .cells #[v0qk0q_0,(Iv z),(GV A)] 130 (0,0))],[(g0qk0, .cells #[(pt g0qk0q 0)] 77 (0,0))],[(C, .cells #[(.func (.func 37) #[] #[(pt g0qk0 0)])] 80 (0,0))],[(D, .cells #[(.func (.func 39) #[] #[(pt g0qk0 0)])] 82 (0,0))]] (fun _ hs=>hs.drop) (QbH Z (Rc (cs:=[(Iv a),(Iv c),(Sv d),(Bv e),(Bv f)]) 0 ag71 sz71 Z Z Z)) ((((g.trans i).trans j).trans k).trans l) ⟨Z,Z⟩)))
 exact Tz
 exact Tz
 exact Tz
 exact Tz
 exact Tz
 exact Tz
noncomputable def QbO (a0:QaB) (g:Int) (s_:((List QaE)×Int×Int×GErr)):Option (((List QaE)×Int×Int×GErr)⊕((List QaE)×Int×GErr)):=
 match s_ with
 |(a,e,c,d)=>
 (((if(decide (e<g))=true then((QdF (⟨a0.b,c,d⟩:QaB)).bind fun i=>(some i.isNil))else(some false)):Option Bool).bind fun j=>(if j=true then((QcA (⟨a0.b,c,d⟩:QaB)).bind fun(f,k,l)=>(grd (a.length+[f].length≤274877906944) (some (inl (a++[f],i64.wrap (e+(1:Int)),k,l)))))else(some (inr (a,c,d)))))
noncomputable def QbD (a0:QaB) (a1:Int):Option ((List QaE)×Int×GErr):=
 ((QbB a0 a1).bind fun(a,b,c)=>((((iter (QbO a0 a) ([],(0:Int),b,c)).bind (fun(d,e,f)=>(some (d,e,f)))):Option ((List QaE)×Int×GErr)).bind fun(g,i,j)=>(some (g,i,j))))
def QeX (a0:QaB) (a1:Int) (a:Value) (d g2k0 g2k0qk0 g2k1:Nat):((List QaE)×Int×GErr)→Value→IM→HL→Prop:=
 fun(p_:((List QaE)×Int×GErr)) (v:Value) (M':IM) (H':HL)=>match p_ with |(e,f,g)=>∃ b c,b=v∧H'=[[(d, .cells #[a,(.int .i64 f),(GV g)] 130 (0,0))],[(g2k0qk0, .cells #[(.pointer (some ⟨d,0,none⟩))] 77 (0,0))],[(g2k0, .cells #[(.func (.func 37) #[] #[(.pointer (some ⟨g2k0qk0,0,none⟩))])] 80 (0,0))],[(g2k1, .cells #[(.func (.func 39) #[] #[(.pointer (some ⟨g2k0qk0,0,none⟩))])] 82 (0,0))],c]∧OwnS QaD M' b e c
theorem Qe8 (a0:QaB) (a1:Int) (M:IM) (a:Value) (r g2k0 g2k0qk0 g2k1:Nat) (c:RS (Kd.int .u8) M a a0.b) (res:((List QaE)×Int×GErr)) (h:QbD a0 a1=some res):
 Tri prog 43 #[(pt r 0),(Iv a1),(.func (.func 44) #[] #[(pt g2k0 0),(pt g2k1 0),(pt g2k0qk0 0)])] M [[(r, .cells #[a,(Iv a0.at_),(GV a0.err)] 130 (0,0))],[(g2k0qk0, .cells #[(pt r 0)] 77 (0,0))],[(g2k0, .cells #[(.func (.func 37) #[] #[(pt g2k0qk0 0)])] 80 (0,0))],[(g2k1, .cells #[(.func (.func 39) #[] #[(pt g2k0qk0 0)])] 82 (0,0))]] (QeX a0 a1 a r g2k0 g2k0qk0 g2k1 res):=by
 unfold QbD at h
 refine Te func43 Z Z ?_
 intro F ρ hρ
 refine Sr (qa Zs (Ns (qa Zs (Ns (qM (pt r 0) (hρ 0) (qM (Iv a1) (hρ 1) ?_))))))
 obtain ⟨⟨s,b3,b4⟩,S,h⟩:=bnd h
 refine We (Cb co38 (Qb5 a0 a1 _ _ _ c (s,b3,b4) S) (QaU Z Z)) Z ?_
 rintro _ T _ t ⟨_,⟨rfl,rfl⟩,rfl⟩
 refine WL.a1 (qa (Iv s) (Nt ?_))
 obtain ⟨U,V,h⟩:=bnd h
 refine Jf (fun(p_:((List QaE)×Int×GErr)) ρ' M' H'=>match p_ with |(W,K,L)=>∃ g p,T.le M'∧[(r, .cells #[a,(Iv K),(GV L)] 130 (0,0))]::[(g2k0qk0, .cells #[(pt r 0)] 77 (0,0))]::[(g2k0, .cells #[(.func (.func 37) #[] #[(pt g2k0qk0 0)])] 80 (0,0))]::[(g2k1, .cells #[(.func (.func 39) #[] #[(pt g2k0qk0 0)])] 82 (0,0))]::p::F=H'∧ρ' 7=g∧OwnS QaD M' g W p) U ?_ ?_
 have h:=V
 refine Sr (qa (Iv 0) (Nt (Bk (WC.e0 (WC.f4 (WC.f4 (WC.f4 (WC.f4 ?_))))))))
 obtain ⟨c0,X,Y⟩:=bnd h
 clear h
 refine WC.loop X (fun(p_:((List QaE)×Int×Int×GErr)) ρ' M' H'=>match p_ with |(B,f,z,A)=>∃ i q,T.le M'∧[(r, .cells #[a,(Iv z),(GV A)] 130 (0,0))]::[(g2k0qk0, .cells #[(pt r 0)] 77 (0,0))]::[(g2k0, .cells #[(.func (.func 37) #[] #[(pt g2k0qk0 0)])] 80 (0,0))]::[(g2k1, .cells #[(.func (.func 39) #[] #[(pt g2k0qk0 0)])] 82 (0,0))]::q::F=H'∧ρ' 0=(pt r 0)∧ρ' 2=(.func (.func 44) #[] #[(pt g2k0 0),(pt g2k1 0),(pt g2k0qk0 0)])∧ρ' 7=i∧ρ' 8=(Iv s)∧ρ' 9=(Iv f)∧OwnS QaD M' i B q) ?_ ?_
 exact⟨Zs,[],lr,Z,(hρ 0),(hρ 2),Z,Z,Z,(OwnS.nil _ _)⟩
 rintro ⟨B,f,z,A⟩ c1 c2 b5 c3 h ⟨i,q,k,rfl,l,u,v,m,n,j⟩
 unfold QbO at h
 refine Cs ?_
 obtain ⟨N,a2,h⟩:=bnd h
 refine Jf (fun(N:Bool) ρ' M' H'=>b5.le M'∧[(r, .cells #[a,(Iv z),(GV A)] 130 (0,0))]::[(g2k0qk0, .cells #[(pt r 0)] 77 (0,0))]::[(g2k0, .cells #[(.func (.func 37) #[] #[(pt g2k0qk0 0)])] 80 (0,0))]::[(g2k1, .cells #[(.func (.func 39) #[] #[(pt g2k0qk0 0)])] 82 (0,0))]::q::F=H'∧ρ' 0=(pt r 0)∧ρ' 2=(.func (.func 44) #[] #[(pt g2k0 0),(pt g2k1 0),(pt g2k0qk0 0)])∧ρ' 7=i∧ρ' 8=(Iv s)∧ρ' 9=(Iv f)∧ρ' 20=(Bv N)) N ?_ ?_
 have h:=a2
 refine Cg (qM (Iv f) n (qM (Iv s) m (qu (Bv (decide (f<s))) (lss Z Z) (qm (Bv (decide (f<s))) ?_))))
 rcases Bi h with⟨d,h⟩ |⟨d,h⟩
 refine On 16 Z Z d (qM (pt r 0) l (On 16 Z Z d ?_))
 obtain ⟨O,a3,h⟩:=bnd h
 have c:=c.mono (t.trans k)
 refine We (Cb co83 (QdT (⟨a0.b,z,A⟩:QaB) _ _ _ c O a3) (QbK Z)) Z ?_
 rintro _ c4 _ P ⟨_,⟨rfl,rfl⟩,rfl⟩
 refine WL.a1 (qo 16 d (Bv O.isNil) (errNil underlying32 Z) (qu (Bv O.isNil) (Pt Z d Z) (Wz ?_)))
 obtain rfl:=oi h
 exact Tj ⟨P,Z,l,u,v,m,n,Z⟩
 iterate 3 refine Of 16 Z Z d Z ?_
 refine qu (Bv false) (Pf Z d Z) (Wz ?_)
 obtain rfl:=oi h
 exact Tj ⟨lr,Z,l,u,v,m,n,Z⟩
 rintro c5 c6 c7 ⟨e,rfl,E,w,y,G,I,C⟩
 refine Ch h C (fun a5 h=> ?_) (fun a5 h=> ?_)
 refine Ck (Tc (Cs (Bk (Cg (qM i y (qM (.func (.func 44) #[] #[(pt g2k0 0),(pt g2k1 0),(pt g2k0qk0 0)]) w ?_))))))
 obtain ⟨⟨o,a6,a7⟩,a8,h⟩:=bnd h
 refine WL.f3 (WL.f3 (WL.f3 (WL.f3 ?_)))
 have c:=c.mono ((t.trans k).trans e)
 refine We (callV4 (first:=#[]) (cap:=#[(pt g2k0 0),(pt g2k1 0),(pt g2k0qk0 0)]) co44 Z (QkG (⟨a0.b,z,A⟩:QaB) _ _ _ _ _ _ c (o,a6,a7) a8) (QeS Z)) Z ?_
 rintro _ b6 _ D ⟨_,⟨rfl,rfl⟩,rfl⟩
 refine WL.a4 (We (buildSliceL (cl:=(l71 o)) underlying22 iz71 Z (Pc (a71_ o) Z Z Pz) Z) Z ?_)
 rintro _ _ _ - ⟨rfl,a9,rfl,rfl⟩
 have b7:OwnS QaD b6 (.slice (some ⟨a9,0,none⟩) 1 1) [o] [(a9, .cells (l71 o).toArray 71 (0,0))]:=OwnS.rows (css:=[(l71 o)]) (Rows.cons (QeP (x:=o)) Rows.nil) Z Z
 obtain ⟨b0,h⟩:=QaQ h
 refine WL.f5 ?_
 have j:=j.mono (e.trans D)
 refine We (append (dd:=QaD) (xs:=B) (ys:=[o]) underlying22 underlying22 in71 Z (appB (by decide) b0) (by decide) Z Z j (b7.src 1 Z)) Z ?_
 rintro b1 _ _ - ⟨rfl,b8,rfl,b9⟩
 refine qa b1 (Wz (Bn (Tc (Cg (qM (Iv f) I (qu (Iv (i64.wrap (f+1))) (add Z Z) (qa (Iv (i64.wrap (f+1))) (Wz (Qa (Dr (WQ.f4 ?_)))))))))))
 exact WQ.f4 (WQ.f4 (WQ.f4 (WQ.again (B++[o],i64.wrap (f+1),a6,a7) (oi h).symm ⟨b1,b8,((k.trans e).trans D),Z,E,w,Z,G,Z,b9⟩)))
 refine WC.exit (WQ.thenE (WQ.leaveE (B,z,A) (oi h).symm (fun Q=> ?_)))
 subst Q
 have h:=Y
 refine WQ.blockH ?_
 obtain rfl:=oi h
 refine Tj ?_
 have j:=j.mono e
 exact⟨i,q,(k.trans e),Z,y,j⟩
 obtain ⟨W,K,L⟩:=U
 rintro c8 c9 d0 ⟨g,p,R,rfl,J,b2⟩
 exact Sr (qM g J (qa g (Nt (Cr (Rf h [[(r, .cells #[a,(Iv K),(GV L)] 130 (0,0))],[(g2k0qk0, .cells #[(pt r 0)] 77 (0,0))],[(g2k0, .cells #[(.func (.func 37) #[] #[(pt g2k0qk0 0)])] 80 (0,0))],[(g2k1, .cells #[(.func (.func 39) #[] #[(pt g2k0qk0 0)])] 82 (0,0))],p] Z (Rs Z Z) (t.trans R) ⟨g,p,Z,Z,b2⟩)))))
noncomputable def QcO (a0:QaB) (a2:Int) (g:Int) (s_:((List Int)×Int×Int×GErr)):Option (((List Int)×Int×Int×GErr)⊕((List Int)×Int×GErr)):=
 match s_ with
 |(a,d,e,c)=>
 (((if(decide (d<g))=true then(some c.isNil)else(some false)):Option Bool).bind fun i=>(if i=true then((QbB (⟨a0.b,e,c⟩:QaB) a2).bind fun(f,j,k)=>(grd (a.length+[f].length≤274877906944) (some (inl (a++[f],i64.wrap (d+(1:Int)),j,k)))))else(some (inr (a,e,c)))))
noncomputable def Qd8 (a0:QaB) (a1:Int) (a2:Int):Option ((List Int)×Int×GErr):=
 ((QbB a0 a1).bind fun(c,d,e)=>((((iter (QcO a0 a2 c) ([],(0:Int),d,e)).bind (fun(f,g,i)=>(some (f,g,i)))):Option ((List Int)×Int×GErr)).bind fun(j,b,a)=>(if(!a.isNil)=true then(some ([],b,a))else(some (j,b,a)))))
def Qm4 (a0:QaB) (a1:Int) (a2:Int) (a:Value) (d:Nat):((List Int)×Int×GErr)→Value→IM→HL→Prop:=
 fun(p_:((List Int)×Int×GErr)) (v:Value) (M':IM) (H':HL)=>match p_ with |(e,f,g)=>∃ b c,b=v∧H'=[[(d, .cells #[a,(.int .i64 f),(GV g)] 130 (0,0))],c]∧OwnS (Kd.int .i64) M' b e c
theorem QoX (a0:QaB) (a1:Int) (a2:Int) (M:IM) (c:Value) (j:Nat) (v:RS (Kd.int .u8) M c a0.b) (res:((List Int)×Int×GErr)) (h:Qd8 a0 a1 a2=some res):
 Tri prog 42 #[(pt j 0),(Iv a1),(Iv a2)] M [[(j, .cells #[c,(Iv a0.at_),(GV a0.err)] 130 (0,0))]] (Qm4 a0 a1 a2 c j res):=by
 unfold Qd8 at h
 refine Te func42 Z Z ?_
 intro F ρ hρ
 refine Sr (qa Zs (Ns (qM (pt j 0) (hρ 0) (qM (Iv a1) (hρ 1) ?_))))
 obtain ⟨⟨s,b1,b2⟩,Q,h⟩:=bnd h
 refine We (Cb co38 (Qb5 a0 a1 _ _ _ v (s,b1,b2) Q) (QaU Z Z)) Z ?_
 rintro _ R _ t ⟨_,⟨rfl,rfl⟩,rfl⟩
 refine WL.a1 (qa (Iv s) (Ns (qa Zs (Nt ?_))))
 obtain ⟨S,T,h⟩:=bnd h
 refine Jf (fun(p_:((List Int)×Int×GErr)) ρ' M' H'=>match p_ with |(U,I,A)=>∃ f o,R.le M'∧[(j, .cells #[c,(Iv I),(GV A)] 130 (0,0))]::o::F=H'∧ρ' 0=(pt j 0)∧ρ' 8=f∧OwnS (Kd.int .i64) M' f U o) S ?_ ?_
 have h:=T
 refine Sr (qa (Iv 0) (Nt (Bk (WC.e0 (WC.f1 ?_)))))
 obtain ⟨b8,V,W⟩:=bnd h
 clear h
 refine WC.loop V (fun(p_:((List Int)×Int×Int×GErr)) ρ' M' H'=>match p_ with |(B,e,C,p)=>∃ g q,R.le M'∧[(j, .cells #[c,(Iv C),(GV p)] 130 (0,0))]::q::F=H'∧ρ' 0=(pt j 0)∧ρ' 2=(Iv a2)∧ρ' 7=(Iv s)∧ρ' 8=g∧ρ' 9=(Iv e)∧OwnS (Kd.int .i64) M' g B q) ?_ ?_
 exact⟨Zs,[],lr,Z,(hρ 0),(hρ 2),Z,Z,Z,(OwnS.nil _ _)⟩
 rintro ⟨B,e,C,p⟩ b9 c0 b3 c1 h ⟨g,q,u,rfl,k,w,l,x,m,i⟩
 unfold QcO at h
 refine Cs ?_
 obtain ⟨O,X,h⟩:=bnd h
 refine Jf (fun(O:Bool) ρ' M' H'=>b3.le M'∧[(j, .cells #[c,(Iv C),(GV p)] 130 (0,0))]::q::F=H'∧ρ' 0=(pt j 0)∧ρ' 2=(Iv a2)∧ρ' 7=(Iv s)∧ρ' 8=g∧ρ' 9=(Iv e)∧ρ' 22=(Bv O)) O ?_ ?_
 have h:=X
 refine Cg (qM (Iv e) m (qM (Iv s) l (qu (Bv (decide (e<s))) (lss Z Z) (qm (Bv (decide (e<s))) ?_))))
 rcases Bi h with⟨a,h⟩ |⟨a,h⟩
 refine On 16 Z Z a (qM (pt j 0) k (qo 16 a (pt j 0) (Nk Z) (qo 16 a (pt j 2) (Fa QmL Z Z) (qo 16 a (GV p) (Lb 0 pl32 Z Z Z) (qo 16 a (Bv p.isNil) (errNil underlying32 Z) (qu (Bv p.isNil) (Pt Z a Z) (Wz ?_)))))))
 obtain rfl:=oi h
 exact Tj ⟨lr,Z,k,w,l,x,m,Z⟩
 iterate 5 refine Of 16 Z Z a Z ?_
 refine qu (Bv false) (Pf Z a Z) (Wz ?_)
 obtain rfl:=oi h
 exact Tj ⟨lr,Z,k,w,l,x,m,Z⟩
 rintro c2 c3 c4 ⟨d,rfl,n,y,J,z,K,D⟩
 refine Ch h D (fun Y h=> ?_) (fun Y h=> ?_)
 refine Ck (Tc (Cs (Bk (Cg (qM g z (qM (pt j 0) n (qM (Iv a2) y ?_)))))))
 obtain ⟨⟨r,a3,a4⟩,a5,h⟩:=bnd h
 have v:=v.mono ((t.trans u).trans d)
 refine We (Cb co38 (Qb5 (⟨a0.b,C,p⟩:QaB) a2 _ _ _ v (r,a3,a4) a5) (QaU Z Z)) Z ?_
 rintro _ b4 _ E ⟨_,⟨rfl,rfl⟩,rfl⟩
 refine WL.a1 (We (buildSliceL (cl:=[(Iv r)]) underlying56 iz3 Z (Pc (Iv r) Z Z Pz) Z) Z ?_)
 rintro _ _ _ - ⟨rfl,a6,rfl,rfl⟩
 have b5:OwnS (Kd.int .i64) b4 (.slice (some ⟨a6,0,none⟩) 1 1) [r] [(a6, .cells #[(Iv r)] 3 (0,0))]:=OwnS.rows (css:=[[(Iv r)]]) (Rows.cons Z Rows.nil) Z Z
 obtain ⟨a7,h⟩:=QaQ h
 refine Wb ?_
 have i:=i.mono (d.trans E)
 refine We (append (dd:=(Kd.int .i64)) (xs:=B) (ys:=[r]) underlying56 underlying56 in3 Z (appB (by decide) a7) (by decide) Z Z i (b5.src 1 Z)) Z ?_
 rintro a8 _ _ - ⟨rfl,b6,rfl,b7⟩
 refine qa a8 (Wz (Bn (Tc (Cg (qM (Iv e) K (qu (Iv (i64.wrap (e+1))) (add Z Z) (qa (Iv (i64.wrap (e+1))) (Wz (Qa (Dr (Qa ?_)))))))))))
 exact WQ.again (B++[r],i64.wrap (e+1),a3,a4) (oi h).symm ⟨a8,b6,((u.trans d).trans E),Z,n,y,J,Z,Z,b7⟩
 refine WC.exit (WQ.thenE (WQ.leaveE (B,C,p) (oi h).symm (fun P=> ?_)))
 subst P
 have h:=W
 refine WQ.blockH ?_
 obtain rfl:=oi h
 refine Tj ?_
 have i:=i.mono d
 exact⟨g,q,(u.trans d),Z,n,z,i⟩
 obtain ⟨U,I,A⟩:=S
 rintro c5 c6 c7 ⟨f,o,G,rfl,L,N,a9⟩
 refine Cs (Sr (qM (pt j 0) L (qu (pt j 0) (Nk Z) (qu (pt j 2) (Fa QmL Z Z) (qu (GV A) (Lb 0 pl32 Z Z Z) (qu (Bv (!A.isNil)) (errNotNil underlying32 Z) (Nt (Ch h Z (fun b0 h=> ?_) (fun b0 h=> ?_)))))))))
 exact Sr (qa Zs (Nt (Cr (Tr (WQ.e0 (Qb (Dr (Qa (Rf h [[(j, .cells #[c,(Iv I),(GV A)] 130 (0,0))],[]] Z (Rs Z Z) (t.trans G) ⟨Zs,[],Z,Z,(OwnS.nil _ _)⟩)))))))))
 exact Ck (Tc (Sr (qM f N (qa f (Nt (Cr (Rf h [[(j, .cells #[c,(Iv I),(GV A)] 130 (0,0))],o] Z (Rs Z Z) (t.trans G) ⟨f,o,Z,Z,a9⟩)))))))
noncomputable def QeY (a0q:QaB):Option ((List Int)×Int×GErr):=
 ((Qd8 a0q (7:Int) (64:Int)).bind fun(a,b,c)=>(some (a,b,c)))
def Qq5 (a0q:QaB) (v0q_0:Value) (c g0q:Nat):((List Int)×Int×GErr)→Value→IM→HL→Prop:=
 fun(p_:((List Int)×Int×GErr)) (v:Value) (M':IM) (H':HL)=>match p_ with |(d,e,f)=>∃ a b,a=v∧H'=[[(g0q, .cells #[v0q_0,(.int .i64 e),(GV f)] 130 (0,0))],[(c, .cells #[(.pointer (some ⟨g0q,0,none⟩))] 77 (0,0))],b]∧OwnS (Kd.int .i64) M' a d b
theorem QiK (a0q:QaB) (M:IM) (v0q_0:Value) (j g0q:Nat) (h0q_0:RS (Kd.int .u8) M v0q_0 a0q.b) (res:((List Int)×Int×GErr)) (h:QeY a0q=some res):
 Tri prog 41 #[(pt j 0)] M [[(g0q, .cells #[v0q_0,(Iv a0q.at_),(GV a0q.err)] 130 (0,0))],[(j, .cells #[(pt g0q 0)] 77 (0,0))]] (Qq5 a0q v0q_0 j g0q res):=by
 unfold QeY at h
 refine Te func41 Z Z ?_
 intro F ρ hρ
 refine Sr (qa Zs (Ns (qu (pt g0q 0) (Lb 1 pl77 (hρ 0) Z Z) ?_)))
 obtain ⟨⟨k,e,f⟩,g,h⟩:=bnd h
 refine We (Cb co42 (QoX a0q (7:Int) (64:Int) _ _ _ h0q_0 (k,e,f) g) (QhR Z Z Z)) Z ?_
 rintro _ l _ d ⟨_,⟨a,c,rfl,rfl,i⟩,rfl⟩
 exact WL.a2 (qa a (Nt (Cr (Qa (Qb (Qb (Rf h [[(g0q, .cells #[v0q_0,(Iv e),(GV f)] 130 (0,0))],[(j, .cells #[(pt g0q 0)] 77 (0,0))],c] Z (Rs Z Z) d ⟨a,c,Z,Z,i⟩)))))))
noncomputable def QcB (a0qk0q:QaB):Option (QaH×Int×GErr):=
 ((QeY a0qk0q).bind fun(a,c,d)=>((QeY (⟨a0qk0q.b,c,d⟩:QaB)).bind fun(e,f,g)=>((QcH (⟨a0qk0q.b,f,g⟩:QaB)).bind fun(i,j,k)=>((QcH (⟨a0qk0q.b,j,k⟩:QaB)).bind fun(l,m,n)=>((QeY (⟨a0qk0q.b,m,n⟩:QaB)).bind fun(o,p,q)=>((QeY (⟨a0qk0q.b,p,q⟩:QaB)).bind fun(r,s,t)=>(some ((⟨a,e,i,l,o,r⟩:QaH),s,t))))))))
def QjS (a0qk0q:QaB) (v0qk0q_0:Value) (k g0qk0 g0qk0q l:Nat):(QaH×Int×GErr)→Value→IM→HL→Prop:=
 fun(p_:(QaH×Int×GErr)) (v:Value) (M':IM) (H':HL)=>match p_ with |(j,m,n)=>∃ a b c d e f g i,(.agg #[a,c,(.int .i64 j.Leader),(.int .i64 j.Epoch),e,g])=v∧H'=[[(g0qk0q, .cells #[v0qk0q_0,(.int .i64 m),(GV n)] 130 (0,0))],[(g0qk0, .cells #[(.pointer (some ⟨g0qk0q,0,none⟩))] 77 (0,0))],[(k, .cells #[(.func (.func 41) #[] #[(.pointer (some ⟨g0qk0,0,none⟩))])] 84 (0,0))],[(l, .cells #[(.func (.func 37) #[] #[(.pointer (some ⟨g0qk0,0,none⟩))])] 80 (0,0))],b,d,f,i]∧OwnS (Kd.int .i64) M' a j.Ids b∧OwnS (Kd.int .i64) M' c j.Isr d∧OwnS (Kd.int .i64) M' e j.Add f∧OwnS (Kd.int .i64) M' g j.Drop i
theorem QkH (a0qk0q:QaB) (M:IM) (v0qk0q_0:Value) (S g0qk0 g0qk0q T:Nat) (h0qk0q_0:RS (Kd.int .u8) M v0qk0q_0 a0qk0q.b) (res:(QaH×Int×GErr)) (h:QcB a0qk0q=some res):
 Tri prog 46 #[(pt S 0),(pt T 0)] M [[(g0qk0q, .cells (l130 a0qk0q v0qk0q_0).toArray 130 (0,0))],[(g0qk0, .cells #[(pt g0qk0q 0)] 77 (0,0))],[(S, .cells #[(.func (.func 41) #[] #[(pt g0qk0 0)])] 84 (0,0))],[(T, .cells #[(.func (.func 37) #[] #[(pt g0qk0 0)])] 80 (0,0))]] (QjS a0qk0q v0qk0q_0 S g0qk0 g0qk0q T res):=by
 unfold QcB at h
 refine Te func46 Z Z ?_
 intro F ρ hρ
 refine Sr (We (Al ze58 Z) Z ?_)
 rintro _ _ _ - ⟨rfl,Y,rfl,rfl⟩
 refine Nt (Cs (WC.draw [0,1,0,7,0,31,0,127,0,511,0,2047,4095,8191] (.pure 0 (.pure 2 (.pure 4 (.pure 6 (.pure 8 (.pure 10 (.alt 1 (.alt 3 (.alt 5 (.alt 7 (.alt 9 (.alt 11 (.pure 12 (.alt 13 .done .none)) .none) .none) .none) .none) .none) .none))))))) QdC (by kernel_rfl) (qt (.func (.func 41) #[] #[(pt g0qk0 0)]) Z (Lb 3 pl84 (hρ 0) Z Z) (qt (.func (.func 41) #[] #[(pt g0qk0 0)]) Z (Lb 3 pl84 (hρ 0) Z Z) (qt (.func (.func 37) #[] #[(pt g0qk0 0)]) Z (Lb 4 pl80 (hρ 1) Z Z) (qt (.func (.func 37) #[] #[(pt g0qk0 0)]) Z (Lb 4 pl80 (hρ 1) Z Z) (qt (.func (.func 41) #[] #[(pt g0qk0 0)]) Z (Lb 3 pl84 (hρ 0) Z Z) (qt (.func (.func 41) #[] #[(pt g0qk0 0)]) Z (Lb 3 pl84 (hρ 0) Z Z) ?_))))))))
 obtain ⟨⟨U,x,y⟩,z,h⟩:=bnd h
 refine WT.f2 (WT.f2 (Ta Z (callV2 (first:=#[]) (cap:=#[(pt g0qk0 0)]) co41 Z (QiK a0qk0q _ _ _ _ h0qk0q_0 (U,x,y) z) (QeS Z)) Z ?_ ?_))
 rintro _ a0 _ q ⟨_,⟨a,s,rfl,rfl,k⟩,rfl⟩
 refine⟨(Ss Z (Lb 4 pl84 (hρ 0) Z Z) Z (Ss Z (Lb 4 pl84 (hρ 0) Z Z) Z (Ss Z (Lb 5 pl80 (hρ 1) Z Z) Z (Ss Z (Lb 5 pl80 (hρ 1) Z Z) Z (Ss Z (Lb 4 pl84 (hρ 0) Z Z) Z (Sl Z)))))), ?_⟩
 refine WT.a3 ?_
 obtain ⟨⟨V,A,B⟩,C,h⟩:=bnd h
 refine WT.f1 (WT.f1 ?_)
 have h0qk0q_0:=h0qk0q_0.mono q
 refine Ta Z (callV2 (first:=#[]) (cap:=#[(pt g0qk0 0)]) co41 Z (QiK (⟨a0qk0q.b,x,y⟩:QaB) _ _ _ _ h0qk0q_0 (V,A,B) C) (QeS Z)) Z ?_ ?_
 rintro _ a1 _ p ⟨_,⟨c,t,rfl,rfl,l⟩,rfl⟩
 refine⟨(Ss Z (Lb 5 pl84 (hρ 0) Z Z) Z (Ss Z (Lb 5 pl84 (hρ 0) Z Z) Z (Ss Z (Lb 6 pl80 (hρ 1) Z Z) Z (Ss Z (Lb 6 pl80 (hρ 1) Z Z) Z (Sl Z))))), ?_⟩
 refine WT.a3 ?_
 obtain ⟨⟨m,D,E⟩,G,h⟩:=bnd h
 refine WT.f1 (WT.f1 ?_)
 have h0qk0q_0:=h0qk0q_0.mono p
 refine Ta Z (callV2 (first:=#[]) (cap:=#[(pt g0qk0 0)]) co37 Z (QcL (⟨a0qk0q.b,A,B⟩:QaB) _ _ _ _ h0qk0q_0 (m,D,E) G) (QeS Z)) Z ?_ ?_
 rintro _ a4 _ f ⟨_,⟨rfl,rfl⟩,rfl⟩
 refine⟨(Ss Z (Lb 5 pl84 (hρ 0) Z Z) Z (Ss Z (Lb 5 pl84 (hρ 0) Z Z) Z (Ss Z (Lb 6 pl80 (hρ 1) Z Z) Z (Sl Z)))), ?_⟩
 refine WT.a2 ?_
 obtain ⟨⟨n,I,J⟩,K,h⟩:=bnd h
 refine WT.f1 (WT.f1 ?_)
 have h0qk0q_0:=h0qk0q_0.mono f
 refine Ta Z (callV2 (first:=#[]) (cap:=#[(pt g0qk0 0)]) co37 Z (QcL (⟨a0qk0q.b,D,E⟩:QaB) _ _ _ _ h0qk0q_0 (n,I,J) K) (QeS Z)) Z ?_ ?_
 rintro _ a5 _ g ⟨_,⟨rfl,rfl⟩,rfl⟩
 refine⟨(Ss Z (Lb 5 pl84 (hρ 0) Z Z) Z (Ss Z (Lb 5 pl84 (hρ 0) Z Z) Z (Sl Z))), ?_⟩
 refine WT.a2 ?_
 obtain ⟨⟨W,L,N⟩,O,h⟩:=bnd h
 refine WT.f1 (WT.f1 ?_)
 have h0qk0q_0:=h0qk0q_0.mono g
 refine Ta Z (callV2 (first:=#[]) (cap:=#[(pt g0qk0 0)]) co41 Z (QiK (⟨a0qk0q.b,I,J⟩:QaB) _ _ _ _ h0qk0q_0 (W,L,N) O) (QeS Z)) Z ?_ ?_
 rintro _ a6 _ i ⟨_,⟨d,u,rfl,rfl,o⟩,rfl⟩
 refine⟨(Ss Z (Lb 6 pl84 (hρ 0) Z Z) Z (Sl Z)), ?_⟩
 refine WT.a3 ?_
 obtain ⟨⟨X,P,Q⟩,R,h⟩:=bnd h
 refine WT.f1 (WT.f1 ?_)
 have h0qk0q_0:=h0qk0q_0.mono i
 refine Ta Z (callV2 (first:=#[]) (cap:=#[(pt g0qk0 0)]) co41 Z (QiK (⟨a0qk0q.b,L,N⟩:QaB) _ _ _ _ h0qk0q_0 (X,P,Q) R) (QeS Z)) Z ?_ ?_
 rintro _ a7 _ j ⟨_,⟨e,w,rfl,rfl,r⟩,rfl⟩
 refine⟨(Sl Z), ?_⟩
 refine WT.a3 ?_
 have k:=k.mono ((((p.trans f).trans g).trans i).trans j)
 have l:=l.mono (((f.trans g).trans i).trans j)
 have o:=o.mono j
 refine qt (.agg #[a,c,(Iv m),(Iv n),d,e]) Z (Bl (cl:=[a,c,(Iv m),(Iv n),d,e]) ze58 fp58 (Parts.cons ((congrArg Value.cells (show ev _ _=a from Z)).trans k.cells) (Parts.cons ((congrArg Value.cells (show ev _ _=c from Z)).trans l.cells) (Pc (Iv m) Z Z (Pc (Iv n) Z Z (Parts.cons ((congrArg Value.cells (show ev _ _=d from Z)).trans o.cells) (Parts.cons ((congrArg Value.cells (show ev _ _=e from Z)).trans r.cells) Pz)))))) Z) (WT.f6 (Ta Z (Sg (v:=(.agg #[a,c,(Iv m),(Iv n),d,e])) (vl:=[a,c,(Iv m),(Iv n),d,e]) (arr':=[a,c,(Iv m),(Iv n),d,e]) Z sz58 Z Z (QbG (Oc (Ow k) (Oc (Ow l) (Oc Z (Oc Z (Oc (Ow o) (Oc (Ow r) Oz))))))) Z Z Z) Z ?_ ?_))
 rintro _ _ _ - ⟨rfl,rfl⟩
 refine⟨(Sl Z), ?_⟩
 refine Ti (Tc (Cr (WQ.f3 (WQ.f4 (WQ.f5 (WQ.f6 (WQ.f8 (WQ.f8 (WQ.f8 (WQ.f8 (WQ.f8 ?_)))))))))))
 exact Rd h [[(g0qk0q, .cells #[v0qk0q_0,(Iv P),(GV Q)] 130 (0,0))],[(g0qk0, .cells #[(pt g0qk0q 0)] 77 (0,0))],[(S, .cells #[(.func (.func 41) #[] #[(pt g0qk0 0)])] 84 (0,0))],[(T, .cells #[(.func (.func 37) #[] #[(pt g0qk0 0)])] 80 (0,0))],s,t,u,w] (fun _ hs=>hs.drop) (QbH Z (Rc (cs:=[a,c,(Iv m),(Iv n),d,e]) 0 ag58 sz58 Z Z Z)) (((((q.trans p).trans f).trans g).trans i).trans j) ⟨a,s,c,t,d,u,e,w,Z,Z,k,l,o,r⟩
 exact Tz
 exact Tz
 exact Tz
 exact Tz
 exact Tz
 exact Tz
 exact Tz
noncomputable def QbS (a0:QaB) (g:Int) (s_:((List QaH)×Int×Int×GErr)):Option (((List QaH)×Int×Int×GErr)⊕((List QaH)×Int×GErr)):=
 match s_ with
 |(a,e,c,d)=>
 (((if(decide (e<g))=true then((QdF (⟨a0.b,c,d⟩:QaB)).bind fun i=>(some i.isNil))else(some false)):Option Bool).bind fun j=>(if j=true then((QcB (⟨a0.b,c,d⟩:QaB)).bind fun(f,k,l)=>(grd (a.length+[f].length≤274877906944) (some (inl (a++[f],i64.wrap (e+(1:Int)),k,l)))))else(some (inr (a,c,d)))))
noncomputable def QbI (a0:QaB) (a1:Int):Option ((List QaH)×Int×GErr):=
 ((QbB a0 a1).bind fun(a,b,c)=>((((iter (QbS a0 a) ([],(0:Int),b,c)).bind (fun(d,e,f)=>(some (d,e,f)))):Option ((List QaH)×Int×GErr)).bind fun(g,i,j)=>(some (g,i,j))))
def Qe9 (a0:QaB) (a1:Int) (a:Value) (d g2k0 g2k0qk0 g2k1:Nat):((List QaH)×Int×GErr)→Value→IM→HL→Prop:=
 fun(p_:((List QaH)×Int×GErr)) (v:Value) (M':IM) (H':HL)=>match p_ with |(e,f,g)=>∃ b c,b=v∧H'=[[(d, .cells #[a,(.int .i64 f),(GV g)] 130 (0,0))],[(g2k0qk0, .cells #[(.pointer (some ⟨d,0,none⟩))] 77 (0,0))],[(g2k0, .cells #[(.func (.func 41) #[] #[(.pointer (some ⟨g2k0qk0,0,none⟩))])] 84 (0,0))],[(g2k1, .cells #[(.func (.func 37) #[] #[(.pointer (some ⟨g2k0qk0,0,none⟩))])] 80 (0,0))],c]∧OwnS QbF M' b e c
theorem QfR (a0:QaB) (a1:Int) (M:IM) (f:Value) (D g2k0 g2k0qk0 g2k1:Nat) (g:RS (Kd.int .u8) M f a0.b) (res:((List QaH)×Int×GErr)) (h:QbI a0 a1=some res):
 Tri prog 49 #[(pt D 0),(Iv a1),(.func (.func 46) #[] #[(pt g2k0 0),(pt g2k1 0)])] M [[(D, .cells #[f,(Iv a0.at_),(GV a0.err)] 130 (0,0))],[(g2k0qk0, .cells #[(pt D 0)] 77 (0,0))],[(g2k0, .cells #[(.func (.func 41) #[] #[(pt g2k0qk0 0)])] 84 (0,0))],[(g2k1, .cells #[(.func (.func 37) #[] #[(pt g2k0qk0 0)])] 80 (0,0))]] (Qe9 a0 a1 f D g2k0 g2k0qk0 g2k1 res):=by
 unfold QbI at h
 refine Te func49 Z Z ?_
 intro F ρ hρ
 refine Sr (qa Zs (Ns (qa Zs (Ns (qM (pt D 0) (hρ 0) (qM (Iv a1) (hρ 1) ?_))))))
 obtain ⟨⟨E,d3,d4⟩,b5,h⟩:=bnd h
 refine We (Cb co38 (Qb5 a0 a1 _ _ _ g (E,d3,d4) b5) (QaU Z Z)) Z ?_
 rintro _ b6 _ G ⟨_,⟨rfl,rfl⟩,rfl⟩
 refine WL.a1 (qa (Iv E) (Nt ?_))
 obtain ⟨b7,b8,h⟩:=bnd h
 refine Jf (fun(p_:((List QaH)×Int×GErr)) ρ' M' H'=>match p_ with |(b9,a7,a9)=>∃ p B,b6.le M'∧[(D, .cells #[f,(Iv a7),(GV a9)] 130 (0,0))]::[(g2k0qk0, .cells #[(pt D 0)] 77 (0,0))]::[(g2k0, .cells #[(.func (.func 41) #[] #[(pt g2k0qk0 0)])] 84 (0,0))]::[(g2k1, .cells #[(.func (.func 37) #[] #[(pt g2k0qk0 0)])] 80 (0,0))]::B::F=H'∧ρ' 7=p∧OwnS QbF M' p b9 B) b7 ?_ ?_
 have h:=b8
 refine Sr (qa (Iv 0) (Nt (Bk (WC.e0 (WC.f4 (WC.f4 (WC.f4 (WC.f4 ?_))))))))
 obtain ⟨e1,c0,c1⟩:=bnd h
 clear h
 refine WC.loop c0 (fun(p_:((List QaH)×Int×Int×GErr)) ρ' M' H'=>match p_ with |(P,o,N,O)=>∃ q C,b6.le M'∧[(D, .cells #[f,(Iv N),(GV O)] 130 (0,0))]::[(g2k0qk0, .cells #[(pt D 0)] 77 (0,0))]::[(g2k0, .cells #[(.func (.func 41) #[] #[(pt g2k0qk0 0)])] 84 (0,0))]::[(g2k1, .cells #[(.func (.func 37) #[] #[(pt g2k0qk0 0)])] 80 (0,0))]::C::F=H'∧ρ' 0=(pt D 0)∧ρ' 2=(.func (.func 46) #[] #[(pt g2k0 0),(pt g2k1 0)])∧ρ' 7=q∧ρ' 8=(Iv E)∧ρ' 9=(Iv o)∧OwnS QbF M' q P C) ?_ ?_
 exact⟨Zs,[],lr,Z,(hρ 0),(hρ 2),Z,Z,Z,(OwnS.nil _ _)⟩
 rintro ⟨P,o,N,O⟩ e2 e3 d5 e4 h ⟨q,C,s,rfl,t,I,J,u,v,r⟩
 unfold QbS at h
 refine Cs ?_
 obtain ⟨b0,c2,h⟩:=bnd h
 refine Jf (fun(b0:Bool) ρ' M' H'=>d5.le M'∧[(D, .cells #[f,(Iv N),(GV O)] 130 (0,0))]::[(g2k0qk0, .cells #[(pt D 0)] 77 (0,0))]::[(g2k0, .cells #[(.func (.func 41) #[] #[(pt g2k0qk0 0)])] 84 (0,0))]::[(g2k1, .cells #[(.func (.func 37) #[] #[(pt g2k0qk0 0)])] 80 (0,0))]::C::F=H'∧ρ' 0=(pt D 0)∧ρ' 2=(.func (.func 46) #[] #[(pt g2k0 0),(pt g2k1 0)])∧ρ' 7=q∧ρ' 8=(Iv E)∧ρ' 9=(Iv o)∧ρ' 20=(Bv b0)) b0 ?_ ?_
 have h:=c2
 refine Cg (qM (Iv o) v (qM (Iv E) u (qu (Bv (decide (o<E))) (lss Z Z) (qm (Bv (decide (o<E))) ?_))))
 rcases Bi h with⟨i,h⟩ |⟨i,h⟩
 refine On 16 Z Z i (qM (pt D 0) t (On 16 Z Z i ?_))
 obtain ⟨b1,c3,h⟩:=bnd h
 have g:=g.mono (G.trans s)
 refine We (Cb co83 (QdT (⟨a0.b,N,O⟩:QaB) _ _ _ g b1 c3) (QbK Z)) Z ?_
 rintro _ e5 _ b2 ⟨_,⟨rfl,rfl⟩,rfl⟩
 refine WL.a1 (qo 16 i (Bv b1.isNil) (errNil underlying32 Z) (qu (Bv b1.isNil) (Pt Z i Z) (Wz ?_)))
 obtain rfl:=oi h
 exact Tj ⟨b2,Z,t,I,J,u,v,Z⟩
 iterate 3 refine Of 16 Z Z i Z ?_
 refine qu (Bv false) (Pf Z i Z) (Wz ?_)
 obtain rfl:=oi h
 exact Tj ⟨lr,Z,t,I,J,u,v,Z⟩
 rintro e6 e7 e8 ⟨j,rfl,V,K,L,W,X,Q⟩
 refine Ch h Q (fun c4 h=> ?_) (fun c4 h=> ?_)
 refine Ck (Tc (Cs (Bk (Cg (qM q L (qM (.func (.func 46) #[] #[(pt g2k0 0),(pt g2k1 0)]) K ?_))))))
 obtain ⟨⟨w,c5,c6⟩,c7,h⟩:=bnd h
 refine WL.f3 (WL.f3 (WL.f3 (WL.f3 ?_)))
 have g:=g.mono ((G.trans s).trans j)
 refine We (callV4 (first:=#[]) (cap:=#[(pt g2k0 0),(pt g2k1 0)]) co46 Z (QkH (⟨a0.b,N,O⟩:QaB) _ _ _ _ _ _ g (w,c5,c6) c7) (QeS Z)) Z ?_
 rintro _ d6 _ R ⟨_,⟨a,Y,c,a2,d,a3,e,a4,rfl,rfl,a5,y,z,A⟩,rfl⟩
 refine WL.a8 (WL.f4 (WL.know (fun _ hs=>a5.rs hs) (fun S=> ?_)))
 refine WL.freeze (fun k=> ?_)
 refine WL.f4 ?_
 have y:=y.mono k
 refine WL.know (fun _ hs=>y.rs hs) (fun T=> ?_)
 refine WL.freeze (fun l=> ?_)
 refine WL.f4 ?_
 have z:=z.mono (k.trans l)
 refine WL.know (fun _ hs=>z.rs hs) (fun U=> ?_)
 refine WL.freeze (fun m=> ?_)
 refine WL.f4 ?_
 have A:=A.mono ((k.trans l).trans m)
 refine WL.know (fun _ hs=>A.rs hs) (fun c8=> ?_)
 refine WL.freeze (fun n=> ?_)
 refine We (buildSliceL (cl:=(l58 w a c d e)) underlying53 iz58 Z (Pc (a58_ w a c d e) Z Z Pz) Z) Z ?_
 rintro _ _ _ - ⟨rfl,c9,rfl,rfl⟩
 have S:=S.mono ((l.trans m).trans n)
 have T:=T.mono (m.trans n)
 have U:=U.mono n
 have d7:OwnS QbF ((((d6.add Y).add a2).add a3).add a4) (.slice (some ⟨c9,0,none⟩) 1 1) [w] [(c9, .cells (l58 w a c d e).toArray 58 (0,0))]:=OwnS.rows (css:=[(l58 w a c d e)]) (Rows.cons (QpD (x:=w) S T U c8) Rows.nil) Z Z
 obtain ⟨d0,h⟩:=QaQ h
 refine WL.f5 ?_
 have r:=r.mono (((((j.trans R).trans k).trans l).trans m).trans n)
 refine We (append (dd:=QbF) (xs:=P) (ys:=[w]) underlying53 underlying53 in58 Z (appB (by decide) d0) (by decide) Z Z r (d7.src 1 Z)) Z ?_
 rintro d1 _ _ - ⟨rfl,d8,rfl,d9⟩
 refine qa d1 (Wz (Bn (Tc (Cg (qM (Iv o) X (qu (Iv (i64.wrap (o+1))) (add Z Z) (qa (Iv (i64.wrap (o+1))) (Wz (Qa (Dr (WQ.f4 ?_)))))))))))
 exact WQ.f4 (WQ.f4 (WQ.f4 (WQ.again (P++[w],i64.wrap (o+1),c5,c6) (oi h).symm ⟨d1,d8,((((((s.trans j).trans R).trans k).trans l).trans m).trans n),Z,V,K,Z,W,Z,d9⟩)))
 refine WC.exit (WQ.thenE (WQ.leaveE (P,N,O) (oi h).symm (fun b3=> ?_)))
 subst b3
 have h:=c1
 refine WQ.blockH ?_
 obtain rfl:=oi h
 refine Tj ?_
 have r:=r.mono j
 exact⟨q,C,(s.trans j),Z,L,r⟩
 obtain ⟨b9,a7,a9⟩:=b7
 rintro e9 f0 f1 ⟨p,B,b4,rfl,a6,d2⟩
 exact Sr (qM p a6 (qa p (Nt (Cr (Rf h [[(D, .cells #[f,(Iv a7),(GV a9)] 130 (0,0))],[(g2k0qk0, .cells #[(pt D 0)] 77 (0,0))],[(g2k0, .cells #[(.func (.func 41) #[] #[(pt g2k0qk0 0)])] 84 (0,0))],[(g2k1, .cells #[(.func (.func 37) #[] #[(pt g2k0qk0 0)])] 80 (0,0))],B] Z (Rs Z Z) (G.trans b4) ⟨p,B,Z,Z,d2⟩)))))
noncomputable def Qa9 (a0qk0q:QaB):Option (QaC×Int×GErr):=
 ((QcH a0qk0q).bind fun(a,c,d)=>((Qf3 (⟨a0qk0q.b,c,d⟩:QaB)).bind fun(e,f,g)=>((QbI (⟨a0qk0q.b,f,g⟩:QaB) (256:Int)).bind fun(i,j,k)=>(some ((⟨a,e,i⟩:QaC),j,k)))))
def QfA (a0qk0q:QaB) (v0qk0q_0:Value) (d g0qk0 g0qk0q e f g3qk0:Nat):(QaC×Int×GErr)→Value→IM→HL→Prop:=
 fun(p_:(QaC×Int×GErr)) (v:Value) (M':IM) (H':HL)=>match p_ with |(c,g,i)=>∃ a b,(.agg #[(.int .i64 c.Id),(.string c.Name),a])=v∧H'=[[(g0qk0q, .cells #[v0qk0q_0,(.int .i64 g),(GV i)] 130 (0,0))],[(g0qk0, .cells #[(.pointer (some ⟨g0qk0q,0,none⟩))] 77 (0,0))],[(d, .cells #[(.func (.func 37) #[] #[(.pointer (some ⟨g0qk0,0,none⟩))])] 80 (0,0))],[(e, .cells #[(.func (.func 39) #[] #[(.pointer (some ⟨g0qk0,0,none⟩))])] 82 (0,0))],[(g3qk0, .cells #[(.func (.func 41) #[] #[(.pointer (some ⟨g0qk0,0,none⟩))])] 84 (0,0))],[(f, .cells #[(.func (.func 46) #[] #[(.pointer (some ⟨g3qk0,0,none⟩)),(.pointer (some ⟨d,0,none⟩))])] 87 (0,0))],b]∧OwnS QbF M' a c.Parts b
theorem QfS (a0qk0q:QaB) (M:IM) (v0qk0q_0:Value) (j g0qk0 g0qk0q u w g3qk0:Nat) (h0qk0q_0:RS (Kd.int .u8) M v0qk0q_0 a0qk0q.b) (res:(QaC×Int×GErr)) (h:Qa9 a0qk0q=some res):
 Tri prog 48 #[(pt j 0),(pt u 0),(pt g0qk0 0),(pt w 0)] M [[(g0qk0q, .cells (l130 a0qk0q v0qk0q_0).toArray 130 (0,0))],[(g0qk0, .cells #[(pt g0qk0q 0)] 77 (0,0))],[(j, .cells #[(.func (.func 37) #[] #[(pt g0qk0 0)])] 80 (0,0))],[(u, .cells #[(.func (.func 39) #[] #[(pt g0qk0 0)])] 82 (0,0))],[(g3qk0, .cells #[(.func (.func 41) #[] #[(pt g0qk0 0)])] 84 (0,0))],[(w, .cells #[(.func (.func 46) #[] #[(pt g3qk0 0),(pt j 0)])] 87 (0,0))]] (QfA a0qk0q v0qk0q_0 j g0qk0 g0qk0q u w g3qk0 res):=by
 unfold Qa9 at h
 refine Te func48 Z Z ?_
 intro F ρ hρ
 refine Sr (We (Al ze55 Z) Z ?_)
 rintro _ _ _ - ⟨rfl,y,rfl,rfl⟩
 refine Nt (Cs (WC.draw [0,1,0,7,0,0,63,127,255] (.pure 0 (.pure 2 (.pure 4 (.pure 5 (.alt 1 (.alt 3 (.alt 6 (.pure 7 (.alt 8 .done .none)) .none) .none) .none))))) QdC (by kernel_rfl) (qt (.func (.func 37) #[] #[(pt g0qk0 0)]) Z (Lb 3 pl80 (hρ 0) Z Z) (qt (.func (.func 39) #[] #[(pt g0qk0 0)]) Z (Lb 4 pl82 (hρ 1) Z Z) (qt (pt g0qk0q 0) Z (Lb 2 pl77 (hρ 2) Z Z) (qt (.func (.func 46) #[] #[(pt g3qk0 0),(pt j 0)]) Z (Lb 6 pl87 (hρ 3) Z Z) ?_))))))
 obtain ⟨⟨c,l,m⟩,n,h⟩:=bnd h
 refine WT.f2 (WT.f2 (Ta Z (callV2 (first:=#[]) (cap:=#[(pt g0qk0 0)]) co37 Z (QcL a0qk0q _ _ _ _ h0qk0q_0 (c,l,m) n) (QeS Z)) Z ?_ ?_))
 rintro _ z _ e ⟨_,⟨rfl,rfl⟩,rfl⟩
 refine⟨(Ss Z (Lb 6 pl87 (hρ 3) Z Z) Z (Ss Z (Lb 1 pl77 (hρ 2) Z Z) Z (Ss Z (Lb 4 pl82 (hρ 1) Z Z) Z (Sl Z)))), ?_⟩
 refine WT.a2 ?_
 obtain ⟨⟨d,o,p⟩,q,h⟩:=bnd h
 refine WT.f1 (WT.f1 ?_)
 have h0qk0q_0:=h0qk0q_0.mono e
 refine Ta Z (callV2 (first:=#[]) (cap:=#[(pt g0qk0 0)]) co39 Z (QkV (⟨a0qk0q.b,l,m⟩:QaB) _ _ _ _ h0qk0q_0 (d,o,p) q) (QeS Z)) Z ?_ ?_
 rintro _ A _ f ⟨_,⟨rfl,rfl⟩,rfl⟩
 refine⟨(Ss Z (Lb 6 pl87 (hρ 3) Z Z) Z (Ss Z (Lb 1 pl77 (hρ 2) Z Z) Z (Sl Z))), ?_⟩
 refine WT.a2 ?_
 obtain ⟨⟨x,r,s⟩,t,h⟩:=bnd h
 refine WT.f3 (WT.f5 (WT.f3 (WT.f3 ?_)))
 have h0qk0q_0:=h0qk0q_0.mono f
 refine Ta Z (EO.call4 co49 (QfR (⟨a0qk0q.b,o,p⟩:QaB) (256:Int) _ _ _ _ _ _ h0qk0q_0 (x,r,s) t) (QhR Z Z Z)) Z ?_ ?_
 rintro _ B _ k ⟨_,⟨a,i,rfl,rfl,g⟩,rfl⟩
 refine⟨(Sl Z), ?_⟩
 refine WT.a5 (qt (.agg #[(Iv c),(Sv d),a]) Z (Bl (cl:=[(Iv c),(Sv d),a]) ze55 fp55 (Pc (Iv c) Z Z (Pc (Sv d) Z Z (Parts.cons ((congrArg Value.cells (show ev _ _=a from Z)).trans g.cells) Pz))) Z) (WT.f5 (Ta Z (Sg (v:=(.agg #[(Iv c),(Sv d),a])) (vl:=[(Iv c),(Sv d),a]) (arr':=[(Iv c),(Sv d),a]) Z sz55 Z Z (QbG (Oc Z (Oc Z (Oc (Ow g) Oz)))) Z Z Z) Z ?_ ?_)))
 rintro _ _ _ - ⟨rfl,rfl⟩
 refine⟨(Sl Z), ?_⟩
 exact Ti (Tc (Cr (WQ.f5 (WQ.f7 (WQ.f5 (WQ.f7 (WQ.f7 (WQ.f7 (WQ.f7 (WQ.f7 (Rd h [[(g0qk0q, .cells #[v0qk0q_0,(Iv r),(GV s)] 130 (0,0))],[(g0qk0, .cells #[(pt g0qk0q 0)] 77 (0,0))],[(j, .cells #[(.func (.func 37) #[] #[(pt g0qk0 0)])] 80 (0,0))],[(u, .cells #[(.func (.func 39) #[] #[(pt g0qk0 0)])] 82 (0,0))],[(g3qk0, .cells #[(.func (.func 41) #[] #[(pt g0qk0 0)])] 84 (0,0))],[(w, .cells #[(.func (.func 46) #[] #[(pt g3qk0 0),(pt j 0)])] 87 (0,0))],i] (fun _ hs=>hs.drop) (QbH Z (Rc (cs:=[(Iv c),(Sv d),a]) 0 ag55 sz55 Z Z Z)) ((e.trans f).trans k) ⟨a,i,Z,Z,g⟩)))))))))))
 exact Tz
 exact Tz
 exact Tz
 exact Tz
noncomputable def Qa7 (a0:QaB) (g:Int) (s_:((List QaC)×Int×Int×GErr)):Option (((List QaC)×Int×Int×GErr)⊕((List QaC)×Int×GErr)):=
 match s_ with
 |(a,e,c,d)=>
 (((if(decide (e<g))=true then((QdF (⟨a0.b,c,d⟩:QaB)).bind fun i=>(some i.isNil))else(some false)):Option Bool).bind fun j=>(if j=true then((Qa9 (⟨a0.b,c,d⟩:QaB)).bind fun(f,k,l)=>(grd (a.length+[f].length≤274877906944) (some (inl (a++[f],i64.wrap (e+(1:Int)),k,l)))))else(some (inr (a,c,d)))))
noncomputable def QaY (a0:QaB) (a1:Int):Option ((List QaC)×Int×GErr):=
 ((QbB a0 a1).bind fun(a,b,c)=>((((iter (Qa7 a0 a) ([],(0:Int),b,c)).bind (fun(d,e,f)=>(some (d,e,f)))):Option ((List QaC)×Int×GErr)).bind fun(g,i,j)=>(some (g,i,j))))
def QdA (a0:QaB) (a1:Int) (a:Value) (d g2k0 g2k0qk0 g2k1 g2k3 g2k3qk0:Nat):((List QaC)×Int×GErr)→Value→IM→HL→Prop:=
 fun(p_:((List QaC)×Int×GErr)) (v:Value) (M':IM) (H':HL)=>match p_ with |(e,f,g)=>∃ b c,b=v∧H'=[[(d, .cells #[a,(.int .i64 f),(GV g)] 130 (0,0))],[(g2k0qk0, .cells #[(.pointer (some ⟨d,0,none⟩))] 77 (0,0))],[(g2k0, .cells #[(.func (.func 37) #[] #[(.pointer (some ⟨g2k0qk0,0,none⟩))])] 80 (0,0))],[(g2k1, .cells #[(.func (.func 39) #[] #[(.pointer (some ⟨g2k0qk0,0,none⟩))])] 82 (0,0))],[(g2k3qk0, .cells #[(.func (.func 41) #[] #[(.pointer (some ⟨g2k0qk0,0,none⟩))])] 84 (0,0))],[(g2k3, .cells #[(.func (.func 46) #[] #[(.pointer (some ⟨g2k3qk0,0,none⟩)),(.pointer (some ⟨g2k0,0,none⟩))])] 87 (0,0))],c]∧OwnS QaG M' b e c
theorem QdG (a0:QaB) (a1:Int) (M:IM) (c:Value) (s g2k0 g2k0qk0 g2k1 g2k3 g2k3qk0:Nat) (d:RS (Kd.int .u8) M c a0.b) (res:((List QaC)×Int×GErr)) (h:QaY a0 a1=some res):
 Tri prog 47 #[(pt s 0),(Iv a1),(.func (.func 48) #[] #[(pt g2k0 0),(pt g2k1 0),(pt g2k0qk0 0),(pt g2k3 0)])] M [[(s, .cells #[c,(Iv a0.at_),(GV a0.err)] 130 (0,0))],[(g2k0qk0, .cells #[(pt s 0)] 77 (0,0))],[(g2k0, .cells #[(.func (.func 37) #[] #[(pt g2k0qk0 0)])] 80 (0,0))],[(g2k1, .cells #[(.func (.func 39) #[] #[(pt g2k0qk0 0)])] 82 (0,0))],[(g2k3qk0, .cells #[(.func (.func 41) #[] #[(pt g2k0qk0 0)])] 84 (0,0))],[(g2k3, .cells #[(.func (.func 46) #[] #[(pt g2k3qk0 0),(pt g2k0 0)])] 87 (0,0))]] (QdA a0 a1 c s g2k0 g2k0qk0 g2k1 g2k3 g2k3qk0 res):=by
 unfold QaY at h
 refine Te func47 Z Z ?_
 intro F ρ hρ
 refine Sr (qa Zs (Ns (qa Zs (Ns (qM (pt s 0) (hρ 0) (qM (Iv a1) (hρ 1) ?_))))))
 obtain ⟨⟨t,b8,b9⟩,W,h⟩:=bnd h
 refine We (Cb co38 (Qb5 a0 a1 _ _ _ d (t,b8,b9) W) (QaU Z Z)) Z ?_
 rintro _ X _ u ⟨_,⟨rfl,rfl⟩,rfl⟩
 refine WL.a1 (qa (Iv t) (Nt ?_))
 obtain ⟨Y,a2,h⟩:=bnd h
 refine Jf (fun(p_:((List QaC)×Int×GErr)) ρ' M' H'=>match p_ with |(a3,P,Q)=>∃ i q,X.le M'∧[(s, .cells #[c,(Iv P),(GV Q)] 130 (0,0))]::[(g2k0qk0, .cells #[(pt s 0)] 77 (0,0))]::[(g2k0, .cells #[(.func (.func 37) #[] #[(pt g2k0qk0 0)])] 80 (0,0))]::[(g2k1, .cells #[(.func (.func 39) #[] #[(pt g2k0qk0 0)])] 82 (0,0))]::[(g2k3qk0, .cells #[(.func (.func 41) #[] #[(pt g2k0qk0 0)])] 84 (0,0))]::[(g2k3, .cells #[(.func (.func 46) #[] #[(pt g2k3qk0 0),(pt g2k0 0)])] 87 (0,0))]::q::F=H'∧ρ' 7=i∧OwnS QaG M' i a3 q) Y ?_ ?_
 have h:=a2
 refine Sr (qa (Iv 0) (Nt (Bk (WC.e0 (WC.f6 (WC.f6 (WC.f6 (WC.f6 (WC.f6 (WC.f6 ?_))))))))))
 obtain ⟨c5,a4,a5⟩:=bnd h
 clear h
 refine WC.loop a4 (fun(p_:((List QaC)×Int×Int×GErr)) ρ' M' H'=>match p_ with |(C,g,A,B)=>∃ j r,X.le M'∧[(s, .cells #[c,(Iv A),(GV B)] 130 (0,0))]::[(g2k0qk0, .cells #[(pt s 0)] 77 (0,0))]::[(g2k0, .cells #[(.func (.func 37) #[] #[(pt g2k0qk0 0)])] 80 (0,0))]::[(g2k1, .cells #[(.func (.func 39) #[] #[(pt g2k0qk0 0)])] 82 (0,0))]::[(g2k3qk0, .cells #[(.func (.func 41) #[] #[(pt g2k0qk0 0)])] 84 (0,0))]::[(g2k3, .cells #[(.func (.func 46) #[] #[(pt g2k3qk0 0),(pt g2k0 0)])] 87 (0,0))]::r::F=H'∧ρ' 0=(pt s 0)∧ρ' 2=(.func (.func 48) #[] #[(pt g2k0 0),(pt g2k1 0),(pt g2k0qk0 0),(pt g2k3 0)])∧ρ' 7=j∧ρ' 8=(Iv t)∧ρ' 9=(Iv g)∧OwnS QaG M' j C r) ?_ ?_
 exact⟨Zs,[],lr,Z,(hρ 0),(hρ 2),Z,Z,Z,(OwnS.nil _ _)⟩
 rintro ⟨C,g,A,B⟩ c6 c7 c0 c8 h ⟨j,r,l,rfl,m,v,w,n,o,k⟩
 unfold Qa7 at h
 refine Cs ?_
 obtain ⟨R,a6,h⟩:=bnd h
 refine Jf (fun(R:Bool) ρ' M' H'=>c0.le M'∧[(s, .cells #[c,(Iv A),(GV B)] 130 (0,0))]::[(g2k0qk0, .cells #[(pt s 0)] 77 (0,0))]::[(g2k0, .cells #[(.func (.func 37) #[] #[(pt g2k0qk0 0)])] 80 (0,0))]::[(g2k1, .cells #[(.func (.func 39) #[] #[(pt g2k0qk0 0)])] 82 (0,0))]::[(g2k3qk0, .cells #[(.func (.func 41) #[] #[(pt g2k0qk0 0)])] 84 (0,0))]::[(g2k3, .cells #[(.func (.func 46) #[] #[(pt g2k3qk0 0),(pt g2k0 0)])] 87 (0,0))]::r::F=H'∧ρ' 0=(pt s 0)∧ρ' 2=(.func (.func 48) #[] #[(pt g2k0 0),(pt g2k1 0),(pt g2k0qk0 0),(pt g2k3 0)])∧ρ' 7=j∧ρ' 8=(Iv t)∧ρ' 9=(Iv g)∧ρ' 20=(Bv R)) R ?_ ?_
 have h:=a6
 refine Cg (qM (Iv g) o (qM (Iv t) n (qu (Bv (decide (g<t))) (lss Z Z) (qm (Bv (decide (g<t))) ?_))))
 rcases Bi h with⟨e,h⟩ |⟨e,h⟩
 refine On 16 Z Z e (qM (pt s 0) m (On 16 Z Z e ?_))
 obtain ⟨S,a8,h⟩:=bnd h
 have d:=d.mono (u.trans l)
 refine We (Cb co83 (QdT (⟨a0.b,A,B⟩:QaB) _ _ _ d S a8) (QbK Z)) Z ?_
 rintro _ c9 _ T ⟨_,⟨rfl,rfl⟩,rfl⟩
 refine WL.a1 (qo 16 e (Bv S.isNil) (errNil underlying32 Z) (qu (Bv S.isNil) (Pt Z e Z) (Wz ?_)))
 obtain rfl:=oi h
 exact Tj ⟨T,Z,m,v,w,n,o,Z⟩
 iterate 3 refine Of 16 Z Z e Z ?_
 refine qu (Bv false) (Pf Z e Z) (Wz ?_)
 obtain rfl:=oi h
 exact Tj ⟨lr,Z,m,v,w,n,o,Z⟩
 rintro d0 d1 d2 ⟨f,rfl,I,y,z,J,K,D⟩
 refine Ch h D (fun a9 h=> ?_) (fun a9 h=> ?_)
 refine Ck (Tc (Cs (Bk (Cg (qM j z (qM (.func (.func 48) #[] #[(pt g2k0 0),(pt g2k1 0),(pt g2k0qk0 0),(pt g2k3 0)]) y ?_))))))
 obtain ⟨⟨p,b0,b1⟩,b2,h⟩:=bnd h
 refine WL.f5 (WL.f5 (WL.f5 (WL.f5 (WL.f5 (WL.f5 ?_)))))
 have d:=d.mono ((u.trans l).trans f)
 refine We (callV6 (first:=#[]) (cap:=#[(pt g2k0 0),(pt g2k1 0),(pt g2k0qk0 0),(pt g2k3 0)]) co48 Z (QfS (⟨a0.b,A,B⟩:QaB) _ _ _ _ _ _ _ _ d (p,b0,b1) b2) (QeS Z)) Z ?_
 rintro _ c1 _ E ⟨_,⟨a,L,rfl,rfl,N⟩,rfl⟩
 refine WL.a7 (WL.f6 (WL.know (fun _ hs=>N.rs hs) (fun b3=> ?_)))
 refine WL.freeze (fun G=> ?_)
 refine We (buildSliceL (cl:=(l55 p a)) underlying23 iz55 Z (Pc (a55_ p a) Z Z Pz) Z) Z ?_
 rintro _ _ _ - ⟨rfl,b4,rfl,rfl⟩
 have c2:OwnS QaG (c1.add L) (.slice (some ⟨b4,0,none⟩) 1 1) [p] [(b4, .cells (l55 p a).toArray 55 (0,0))]:=OwnS.rows (css:=[(l55 p a)]) (Rows.cons (QjN (x:=p) b3) Rows.nil) Z Z
 obtain ⟨b5,h⟩:=QaQ h
 refine WL.f7 ?_
 have k:=k.mono ((f.trans E).trans G)
 refine We (append (dd:=QaG) (xs:=C) (ys:=[p]) underlying23 underlying23 in55 Z (appB (by decide) b5) (by decide) Z Z k (c2.src 1 Z)) Z ?_
 rintro b6 _ _ - ⟨rfl,c3,rfl,c4⟩
 refine qa b6 (Wz (Bn (Tc (Cg (qM (Iv g) K (qu (Iv (i64.wrap (g+1))) (add Z Z) (qa (Iv (i64.wrap (g+1))) (Wz (Qa (Dr (WQ.f6 ?_)))))))))))
 exact WQ.f6 (WQ.f6 (WQ.f6 (WQ.f6 (WQ.f6 (WQ.again (C++[p],i64.wrap (g+1),b0,b1) (oi h).symm ⟨b6,c3,(((l.trans f).trans E).trans G),Z,I,y,Z,J,Z,c4⟩)))))
 refine WC.exit (WQ.thenE (WQ.leaveE (C,A,B) (oi h).symm (fun U=> ?_)))
 subst U
 have h:=a5
 refine WQ.blockH ?_
 obtain rfl:=oi h
 refine Tj ?_
 have k:=k.mono f
 exact⟨j,r,(l.trans f),Z,z,k⟩
 obtain ⟨a3,P,Q⟩:=Y
 rintro d3 d4 d5 ⟨i,q,V,rfl,O,b7⟩
 exact Sr (qM i O (qa i (Nt (Cr (Rf h [[(s, .cells #[c,(Iv P),(GV Q)] 130 (0,0))],[(g2k0qk0, .cells #[(pt s 0)] 77 (0,0))],[(g2k0, .cells #[(.func (.func 37) #[] #[(pt g2k0qk0 0)])] 80 (0,0))],[(g2k1, .cells #[(.func (.func 39) #[] #[(pt g2k0qk0 0)])] 82 (0,0))],[(g2k3qk0, .cells #[(.func (.func 41) #[] #[(pt g2k0qk0 0)])] 84 (0,0))],[(g2k3, .cells #[(.func (.func 46) #[] #[(pt g2k3qk0 0),(pt g2k0 0)])] 87 (0,0))],q] Z (Rs Z Z) (u.trans V) ⟨i,q,Z,Z,b7⟩)))))
noncomputable def QcC (a0qk0q:QaB):Option (QaJ×Int×GErr):=
 ((QcH a0qk0q).bind fun(a,c,d)=>((Qf3 (⟨a0qk0q.b,c,d⟩:QaB)).bind fun(e,f,g)=>((Qc3 (⟨a0qk0q.b,f,g⟩:QaB) (256:Int)).bind fun(i,j,k)=>(some ((⟨a,e,strOfNums i⟩:QaJ),j,k)))))
def QjT (a0qk0q:QaB) (v0qk0q_0:Value) (b g0qk0 g0qk0q c:Nat):(QaJ×Int×GErr)→Value→IM→HL→Prop:=
 fun(p_:(QaJ×Int×GErr)) (v:Value) (M':IM) (H':HL)=>match p_ with |(a,d,e)=>(.agg #[(.int .i64 a.Topic),(.string a.Key),(.string a.Value)])=v∧H'=[[(g0qk0q, .cells #[v0qk0q_0,(.int .i64 d),(GV e)] 130 (0,0))],[(g0qk0, .cells #[(.pointer (some ⟨g0qk0q,0,none⟩))] 77 (0,0))],[(b, .cells #[(.func (.func 37) #[] #[(.pointer (some ⟨g0qk0,0,none⟩))])] 80 (0,0))],[(c, .cells #[(.func (.func 39) #[] #[(.pointer (some ⟨g0qk0,0,none⟩))])] 82 (0,0))]]
theorem QkI (a0qk0q:QaB) (M:IM) (v0qk0q_0:Value) (s g0qk0 g0qk0q t:Nat) (h0qk0q_0:RS (Kd.int .u8) M v0qk0q_0 a0qk0q.b) (res:(QaJ×Int×GErr)) (h:QcC a0qk0q=some res):
 Tri prog 51 #[(pt s 0),(pt t 0),(pt g0qk0 0)] M [[(g0qk0q, .cells (l130 a0qk0q v0qk0q_0).toArray 130 (0,0))],[(g0qk0, .cells #[(pt g0qk0q 0)] 77 (0,0))],[(s, .cells #[(.func (.func 37) #[] #[(pt g0qk0 0)])] 80 (0,0))],[(t, .cells #[(.func (.func 39) #[] #[(pt g0qk0 0)])] 82 (0,0))]] (QjT a0qk0q v0qk0q_0 s g0qk0 g0qk0q t res):=by
 unfold QcC at h
 refine Te func51 Z Z ?_
 intro F ρ hρ
 refine Sr (We (Al ze76 Z) Z ?_)
 rintro _ _ _ - ⟨rfl,x,rfl,rfl⟩
 refine Nt (Cs (WC.draw [0,1,0,7,0,31,63,127,255] (.pure 0 (.pure 2 (.pure 4 (.alt 1 (.alt 3 (.alt 5 (.pure 6 (.pure 7 (.alt 8 .done .none))) .none) .none) .none)))) QdC (by kernel_rfl) (qt (.func (.func 37) #[] #[(pt g0qk0 0)]) Z (Lb 3 pl80 (hρ 0) Z Z) (qt (.func (.func 39) #[] #[(pt g0qk0 0)]) Z (Lb 4 pl82 (hρ 1) Z Z) (qt (pt g0qk0q 0) Z (Lb 2 pl77 (hρ 2) Z Z) ?_)))))
 obtain ⟨⟨c,i,j⟩,k,h⟩:=bnd h
 refine WT.f2 (WT.f2 (Ta Z (callV2 (first:=#[]) (cap:=#[(pt g0qk0 0)]) co37 Z (QcL a0qk0q _ _ _ _ h0qk0q_0 (c,i,j) k) (QeS Z)) Z ?_ ?_))
 rintro _ y _ e ⟨_,⟨rfl,rfl⟩,rfl⟩
 refine⟨(Ss Z (Lb 1 pl77 (hρ 2) Z Z) Z (Ss Z (Lb 4 pl82 (hρ 1) Z Z) Z (Sl Z))), ?_⟩
 refine WT.a2 ?_
 obtain ⟨⟨d,l,m⟩,n,h⟩:=bnd h
 refine WT.f1 (WT.f1 ?_)
 have h0qk0q_0:=h0qk0q_0.mono e
 refine Ta Z (callV2 (first:=#[]) (cap:=#[(pt g0qk0 0)]) co39 Z (QkV (⟨a0qk0q.b,i,j⟩:QaB) _ _ _ _ h0qk0q_0 (d,l,m) n) (QeS Z)) Z ?_ ?_
 rintro _ z _ f ⟨_,⟨rfl,rfl⟩,rfl⟩
 refine⟨(Ss Z (Lb 1 pl77 (hρ 2) Z Z) Z (Sl Z)), ?_⟩
 refine WT.a2 ?_
 obtain ⟨⟨a,o,p⟩,q,h⟩:=bnd h
 have h0qk0q_0:=h0qk0q_0.mono f
 refine Ta Z (Cb co40 (QkE (⟨a0qk0q.b,l,m⟩:QaB) (256:Int) _ _ _ h0qk0q_0 (a,o,p) q) (QaU Z Z)) Z ?_ ?_
 rintro _ A _ g ⟨_,⟨u,w,rfl,rfl,r⟩,rfl⟩
 refine⟨(Sl Z), ?_⟩
 refine WT.a2 (qt (Sv (strOfNums a)) Z (b2s (ys:=a) underlying38 underlying5 underlying9 Z (r.src 1 Z)) (qt (.agg #[(Iv c),(Sv d),(Sv (strOfNums a))]) Z (Bl (cl:=[(Iv c),(Sv d),(Sv (strOfNums a))]) ze76 fp76 (Pc (Iv c) Z Z (Pc (Sv d) Z Z (Pc (Sv (strOfNums a)) Z Z Pz))) Z) (WT.f3 (Ta Z (Sg (v:=(.agg #[(Iv c),(Sv d),(Sv (strOfNums a))])) (vl:=[(Iv c),(Sv d),(Sv (strOfNums a))]) (arr':=[(Iv c),(Sv d),(Sv (strOfNums a))]) Z sz76 Z Z (onb Z) Z Z Z) Z ?_ ?_))))
 rintro _ _ _ - ⟨rfl,rfl⟩
 refine⟨(Sl Z), ?_⟩
 exact Ti (Tc (Cr (Qb (Dr (Rd h [[(g0qk0q, .cells #[v0qk0q_0,(Iv o),(GV p)] 130 (0,0))],[(g0qk0, .cells #[(pt g0qk0q 0)] 77 (0,0))],[(s, .cells #[(.func (.func 37) #[] #[(pt g0qk0 0)])] 80 (0,0))],[(t, .cells #[(.func (.func 39) #[] #[(pt g0qk0 0)])] 82 (0,0))]] (fun _ hs=>hs.drop) (QbH Z (Rc (cs:=[(Iv c),(Sv d),(Sv (strOfNums a))]) 0 ag76 sz76 Z Z Z)) ((e.trans f).trans g) ⟨Z,Z⟩)))))
 exact Tz
 exact Tz
 exact Tz
 exact Tz
noncomputable def QbP (a0:QaB) (g:Int) (s_:((List QaJ)×Int×Int×GErr)):Option (((List QaJ)×Int×Int×GErr)⊕((List QaJ)×Int×GErr)):=
 match s_ with
 |(a,e,c,d)=>
 (((if(decide (e<g))=true then((QdF (⟨a0.b,c,d⟩:QaB)).bind fun i=>(some i.isNil))else(some false)):Option Bool).bind fun j=>(if j=true then((QcC (⟨a0.b,c,d⟩:QaB)).bind fun(f,k,l)=>(grd (a.length+[f].length≤274877906944) (some (inl (a++[f],i64.wrap (e+(1:Int)),k,l)))))else(some (inr (a,c,d)))))
noncomputable def QbE (a0:QaB) (a1:Int):Option ((List QaJ)×Int×GErr):=
 ((QbB a0 a1).bind fun(a,b,c)=>((((iter (QbP a0 a) ([],(0:Int),b,c)).bind (fun(d,e,f)=>(some (d,e,f)))):Option ((List QaJ)×Int×GErr)).bind fun(g,i,j)=>(some (g,i,j))))
def QeZ (a0:QaB) (a1:Int) (a:Value) (d g2k0 g2k0qk0 g2k1:Nat):((List QaJ)×Int×GErr)→Value→IM→HL→Prop:=
 fun(p_:((List QaJ)×Int×GErr)) (v:Value) (M':IM) (H':HL)=>match p_ with |(e,f,g)=>∃ b c,b=v∧H'=[[(d, .cells #[a,(.int .i64 f),(GV g)] 130 (0,0))],[(g2k0qk0, .cells #[(.pointer (some ⟨d,0,none⟩))] 77 (0,0))],[(g2k0, .cells #[(.func (.func 37) #[] #[(.pointer (some ⟨g2k0qk0,0,none⟩))])] 80 (0,0))],[(g2k1, .cells #[(.func (.func 39) #[] #[(.pointer (some ⟨g2k0qk0,0,none⟩))])] 82 (0,0))],c]∧OwnS QaF M' b e c
theorem QfB (a0:QaB) (a1:Int) (M:IM) (a:Value) (r g2k0 g2k0qk0 g2k1:Nat) (c:RS (Kd.int .u8) M a a0.b) (res:((List QaJ)×Int×GErr)) (h:QbE a0 a1=some res):
 Tri prog 50 #[(pt r 0),(Iv a1),(.func (.func 51) #[] #[(pt g2k0 0),(pt g2k1 0),(pt g2k0qk0 0)])] M [[(r, .cells #[a,(Iv a0.at_),(GV a0.err)] 130 (0,0))],[(g2k0qk0, .cells #[(pt r 0)] 77 (0,0))],[(g2k0, .cells #[(.func (.func 37) #[] #[(pt g2k0qk0 0)])] 80 (0,0))],[(g2k1, .cells #[(.func (.func 39) #[] #[(pt g2k0qk0 0)])] 82 (0,0))]] (QeZ a0 a1 a r g2k0 g2k0qk0 g2k1 res):=by
 unfold QbE at h
 refine Te func50 Z Z ?_
 intro F ρ hρ
 refine Sr (qa Zs (Ns (qa Zs (Ns (qM (pt r 0) (hρ 0) (qM (Iv a1) (hρ 1) ?_))))))
 obtain ⟨⟨s,b3,b4⟩,S,h⟩:=bnd h
 refine We (Cb co38 (Qb5 a0 a1 _ _ _ c (s,b3,b4) S) (QaU Z Z)) Z ?_
 rintro _ T _ t ⟨_,⟨rfl,rfl⟩,rfl⟩
 refine WL.a1 (qa (Iv s) (Nt ?_))
 obtain ⟨U,V,h⟩:=bnd h
 refine Jf (fun(p_:((List QaJ)×Int×GErr)) ρ' M' H'=>match p_ with |(W,K,L)=>∃ g p,T.le M'∧[(r, .cells #[a,(Iv K),(GV L)] 130 (0,0))]::[(g2k0qk0, .cells #[(pt r 0)] 77 (0,0))]::[(g2k0, .cells #[(.func (.func 37) #[] #[(pt g2k0qk0 0)])] 80 (0,0))]::[(g2k1, .cells #[(.func (.func 39) #[] #[(pt g2k0qk0 0)])] 82 (0,0))]::p::F=H'∧ρ' 7=g∧OwnS QaF M' g W p) U ?_ ?_
 have h:=V
 refine Sr (qa (Iv 0) (Nt (Bk (WC.e0 (WC.f4 (WC.f4 (WC.f4 (WC.f4 ?_))))))))
 obtain ⟨c0,X,Y⟩:=bnd h
 clear h
 refine WC.loop X (fun(p_:((List QaJ)×Int×Int×GErr)) ρ' M' H'=>match p_ with |(B,f,z,A)=>∃ i q,T.le M'∧[(r, .cells #[a,(Iv z),(GV A)] 130 (0,0))]::[(g2k0qk0, .cells #[(pt r 0)] 77 (0,0))]::[(g2k0, .cells #[(.func (.func 37) #[] #[(pt g2k0qk0 0)])] 80 (0,0))]::[(g2k1, .cells #[(.func (.func 39) #[] #[(pt g2k0qk0 0)])] 82 (0,0))]::q::F=H'∧ρ' 0=(pt r 0)∧ρ' 2=(.func (.func 51) #[] #[(pt g2k0 0),(pt g2k1 0),(pt g2k0qk0 0)])∧ρ' 7=i∧ρ' 8=(Iv s)∧ρ' 9=(Iv f)∧OwnS QaF M' i B q) ?_ ?_
 exact⟨Zs,[],lr,Z,(hρ 0),(hρ 2),Z,Z,Z,(OwnS.nil _ _)⟩
 rintro ⟨B,f,z,A⟩ c1 c2 b5 c3 h ⟨i,q,k,rfl,l,u,v,m,n,j⟩
 unfold QbP at h
 refine Cs ?_
 obtain ⟨N,a2,h⟩:=bnd h
 refine Jf (fun(N:Bool) ρ' M' H'=>b5.le M'∧[(r, .cells #[a,(Iv z),(GV A)] 130 (0,0))]::[(g2k0qk0, .cells #[(pt r 0)] 77 (0,0))]::[(g2k0, .cells #[(.func (.func 37) #[] #[(pt g2k0qk0 0)])] 80 (0,0))]::[(g2k1, .cells #[(.func (.func 39) #[] #[(pt g2k0qk0 0)])] 82 (0,0))]::q::F=H'∧ρ' 0=(pt r 0)∧ρ' 2=(.func (.func 51) #[] #[(pt g2k0 0),(pt g2k1 0),(pt g2k0qk0 0)])∧ρ' 7=i∧ρ' 8=(Iv s)∧ρ' 9=(Iv f)∧ρ' 20=(Bv N)) N ?_ ?_
 have h:=a2
 refine Cg (qM (Iv f) n (qM (Iv s) m (qu (Bv (decide (f<s))) (lss Z Z) (qm (Bv (decide (f<s))) ?_))))
 rcases Bi h with⟨d,h⟩ |⟨d,h⟩
 refine On 16 Z Z d (qM (pt r 0) l (On 16 Z Z d ?_))
 obtain ⟨O,a3,h⟩:=bnd h
 have c:=c.mono (t.trans k)
 refine We (Cb co83 (QdT (⟨a0.b,z,A⟩:QaB) _ _ _ c O a3) (QbK Z)) Z ?_
 rintro _ c4 _ P ⟨_,⟨rfl,rfl⟩,rfl⟩
 refine WL.a1 (qo 16 d (Bv O.isNil) (errNil underlying32 Z) (qu (Bv O.isNil) (Pt Z d Z) (Wz ?_)))
 obtain rfl:=oi h
 exact Tj ⟨P,Z,l,u,v,m,n,Z⟩
 iterate 3 refine Of 16 Z Z d Z ?_
 refine qu (Bv false) (Pf Z d Z) (Wz ?_)
 obtain rfl:=oi h
 exact Tj ⟨lr,Z,l,u,v,m,n,Z⟩
 rintro c5 c6 c7 ⟨e,rfl,E,w,y,G,I,C⟩
 refine Ch h C (fun a5 h=> ?_) (fun a5 h=> ?_)
 refine Ck (Tc (Cs (Bk (Cg (qM i y (qM (.func (.func 51) #[] #[(pt g2k0 0),(pt g2k1 0),(pt g2k0qk0 0)]) w ?_))))))
 obtain ⟨⟨o,a6,a7⟩,a8,h⟩:=bnd h
 refine WL.f3 (WL.f3 (WL.f3 (WL.f3 ?_)))
 have c:=c.mono ((t.trans k).trans e)
 refine We (callV4 (first:=#[]) (cap:=#[(pt g2k0 0),(pt g2k1 0),(pt g2k0qk0 0)]) co51 Z (QkI (⟨a0.b,z,A⟩:QaB) _ _ _ _ _ _ c (o,a6,a7) a8) (QeS Z)) Z ?_
 rintro _ b6 _ D ⟨_,⟨rfl,rfl⟩,rfl⟩
 refine WL.a4 (We (buildSliceL (cl:=(l76 o)) underlying24 iz76 Z (Pc (a76_ o) Z Z Pz) Z) Z ?_)
 rintro _ _ _ - ⟨rfl,a9,rfl,rfl⟩
 have b7:OwnS QaF b6 (.slice (some ⟨a9,0,none⟩) 1 1) [o] [(a9, .cells (l76 o).toArray 76 (0,0))]:=OwnS.rows (css:=[(l76 o)]) (Rows.cons (QeQ (x:=o)) Rows.nil) Z Z
 obtain ⟨b0,h⟩:=QaQ h
 refine WL.f5 ?_
 have j:=j.mono (e.trans D)
 refine We (append (dd:=QaF) (xs:=B) (ys:=[o]) underlying24 underlying24 in76 Z (appB (by decide) b0) (by decide) Z Z j (b7.src 1 Z)) Z ?_
 rintro b1 _ _ - ⟨rfl,b8,rfl,b9⟩
 refine qa b1 (Wz (Bn (Tc (Cg (qM (Iv f) I (qu (Iv (i64.wrap (f+1))) (add Z Z) (qa (Iv (i64.wrap (f+1))) (Wz (Qa (Dr (WQ.f4 ?_)))))))))))
 exact WQ.f4 (WQ.f4 (WQ.f4 (WQ.again (B++[o],i64.wrap (f+1),a6,a7) (oi h).symm ⟨b1,b8,((k.trans e).trans D),Z,E,w,Z,G,Z,b9⟩)))
 refine WC.exit (WQ.thenE (WQ.leaveE (B,z,A) (oi h).symm (fun Q=> ?_)))
 subst Q
 have h:=Y
 refine WQ.blockH ?_
 obtain rfl:=oi h
 refine Tj ?_
 have j:=j.mono e
 exact⟨i,q,(k.trans e),Z,y,j⟩
 obtain ⟨W,K,L⟩:=U
 rintro c8 c9 d0 ⟨g,p,R,rfl,J,b2⟩
 exact Sr (qM g J (qa g (Nt (Cr (Rf h [[(r, .cells #[a,(Iv K),(GV L)] 130 (0,0))],[(g2k0qk0, .cells #[(pt r 0)] 77 (0,0))],[(g2k0, .cells #[(.func (.func 37) #[] #[(pt g2k0qk0 0)])] 80 (0,0))],[(g2k1, .cells #[(.func (.func 39) #[] #[(pt g2k0qk0 0)])] 82 (0,0))],p] Z (Rs Z Z) (t.trans R) ⟨g,p,Z,Z,b2⟩)))))
noncomputable def Qc7 (a0qk0q:QaB):Option (Qa4×Int×GErr):=
 ((QcH a0qk0q).bind fun(a,c,d)=>((QcH (⟨a0qk0q.b,c,d⟩:QaB)).bind fun(e,f,g)=>((QcH (⟨a0qk0q.b,f,g⟩:QaB)).bind fun(i,j,k)=>(some ((⟨a,e,i⟩:Qa4),j,k)))))
def QlW (a0qk0q:QaB) (v0qk0q_0:Value) (b g0qk0 g0qk0q:Nat):(Qa4×Int×GErr)→Value→IM→HL→Prop:=
 fun(p_:(Qa4×Int×GErr)) (v:Value) (M':IM) (H':HL)=>match p_ with |(a,c,d)=>(.agg #[(.int .i64 a.Client),(.int .i64 a.Serial),(.int .i64 a.Code)])=v∧H'=[[(g0qk0q, .cells #[v0qk0q_0,(.int .i64 c),(GV d)] 130 (0,0))],[(g0qk0, .cells #[(.pointer (some ⟨g0qk0q,0,none⟩))] 77 (0,0))],[(b, .cells #[(.func (.func 37) #[] #[(.pointer (some ⟨g0qk0,0,none⟩))])] 80 (0,0))]]
theorem QmF (a0qk0q:QaB) (M:IM) (v0qk0q_0:Value) (r g0qk0 g0qk0q:Nat) (h0qk0q_0:RS (Kd.int .u8) M v0qk0q_0 a0qk0q.b) (res:(Qa4×Int×GErr)) (h:Qc7 a0qk0q=some res):
 Tri prog 53 #[(pt r 0)] M [[(g0qk0q, .cells (l130 a0qk0q v0qk0q_0).toArray 130 (0,0))],[(g0qk0, .cells #[(pt g0qk0q 0)] 77 (0,0))],[(r, .cells #[(.func (.func 37) #[] #[(pt g0qk0 0)])] 80 (0,0))]] (QlW a0qk0q v0qk0q_0 r g0qk0 g0qk0q res):=by
 unfold Qc7 at h
 refine Te func53 Z Z ?_
 intro F ρ hρ
 refine Sr (We (Al ze67 Z) Z ?_)
 rintro _ _ _ - ⟨rfl,s,rfl,rfl⟩
 refine Nt (Cs (WC.draw [0,1,0,7,0,31,63,127] (.pure 0 (.pure 2 (.pure 4 (.alt 1 (.alt 3 (.alt 5 (.pure 6 (.alt 7 .done .none)) .none) .none) .none)))) QdC (by kernel_rfl) (qt (.func (.func 37) #[] #[(pt g0qk0 0)]) Z (Lb 3 pl80 (hρ 0) Z Z) (qt (.func (.func 37) #[] #[(pt g0qk0 0)]) Z (Lb 3 pl80 (hρ 0) Z Z) (qt (.func (.func 37) #[] #[(pt g0qk0 0)]) Z (Lb 3 pl80 (hρ 0) Z Z) ?_)))))
 obtain ⟨⟨a,i,j⟩,k,h⟩:=bnd h
 refine WT.f2 (WT.f2 (Ta Z (callV2 (first:=#[]) (cap:=#[(pt g0qk0 0)]) co37 Z (QcL a0qk0q _ _ _ _ h0qk0q_0 (a,i,j) k) (QeS Z)) Z ?_ ?_))
 rintro _ t _ e ⟨_,⟨rfl,rfl⟩,rfl⟩
 refine⟨(Ss Z (Lb 3 pl80 (hρ 0) Z Z) Z (Ss Z (Lb 3 pl80 (hρ 0) Z Z) Z (Sl Z))), ?_⟩
 refine WT.a2 ?_
 obtain ⟨⟨c,l,m⟩,n,h⟩:=bnd h
 refine WT.f1 (WT.f1 ?_)
 have h0qk0q_0:=h0qk0q_0.mono e
 refine Ta Z (callV2 (first:=#[]) (cap:=#[(pt g0qk0 0)]) co37 Z (QcL (⟨a0qk0q.b,i,j⟩:QaB) _ _ _ _ h0qk0q_0 (c,l,m) n) (QeS Z)) Z ?_ ?_
 rintro _ u _ f ⟨_,⟨rfl,rfl⟩,rfl⟩
 refine⟨(Ss Z (Lb 3 pl80 (hρ 0) Z Z) Z (Sl Z)), ?_⟩
 refine WT.a2 ?_
 obtain ⟨⟨d,o,p⟩,q,h⟩:=bnd h
 refine WT.f1 (WT.f1 ?_)
 have h0qk0q_0:=h0qk0q_0.mono f
 refine Ta Z (callV2 (first:=#[]) (cap:=#[(pt g0qk0 0)]) co37 Z (QcL (⟨a0qk0q.b,l,m⟩:QaB) _ _ _ _ h0qk0q_0 (d,o,p) q) (QeS Z)) Z ?_ ?_
 rintro _ w _ g ⟨_,⟨rfl,rfl⟩,rfl⟩
 refine⟨(Sl Z), ?_⟩
 refine WT.a2 (qt (.agg #[(Iv a),(Iv c),(Iv d)]) Z (Bl (cl:=[(Iv a),(Iv c),(Iv d)]) ze67 fp67 (Pc (Iv a) Z Z (Pc (Iv c) Z Z (Pc (Iv d) Z Z Pz))) Z) (WT.f2 (Ta Z (Sg (v:=(.agg #[(Iv a),(Iv c),(Iv d)])) (vl:=[(Iv a),(Iv c),(Iv d)]) (arr':=[(Iv a),(Iv c),(Iv d)]) Z sz67 Z Z (onb Z) Z Z Z) Z ?_ ?_)))
 rintro _ _ _ - ⟨rfl,rfl⟩
 refine⟨(Sl Z), ?_⟩
 exact Ti (Tc (Cr (Rd h [[(g0qk0q, .cells #[v0qk0q_0,(Iv o),(GV p)] 130 (0,0))],[(g0qk0, .cells #[(pt g0qk0q 0)] 77 (0,0))],[(r, .cells #[(.func (.func 37) #[] #[(pt g0qk0 0)])] 80 (0,0))]] (fun _ hs=>hs.drop) (QbH Z (Rc (cs:=[(Iv a),(Iv c),(Iv d)]) 0 ag67 sz67 Z Z Z)) ((e.trans f).trans g) ⟨Z,Z⟩)))
 exact Tz
 exact Tz
 exact Tz
 exact Tz
noncomputable def Qb6 (a0:QaB) (g:Int) (s_:((List Qa4)×Int×Int×GErr)):Option (((List Qa4)×Int×Int×GErr)⊕((List Qa4)×Int×GErr)):=
 match s_ with
 |(a,e,c,d)=>
 (((if(decide (e<g))=true then((QdF (⟨a0.b,c,d⟩:QaB)).bind fun i=>(some i.isNil))else(some false)):Option Bool).bind fun j=>(if j=true then((Qc7 (⟨a0.b,c,d⟩:QaB)).bind fun(f,k,l)=>(grd (a.length+[f].length≤274877906944) (some (inl (a++[f],i64.wrap (e+(1:Int)),k,l)))))else(some (inr (a,c,d)))))
noncomputable def QbY (a0:QaB) (a1:Int):Option ((List Qa4)×Int×GErr):=
 ((QbB a0 a1).bind fun(a,b,c)=>((((iter (Qb6 a0 a) ([],(0:Int),b,c)).bind (fun(d,e,f)=>(some (d,e,f)))):Option ((List Qa4)×Int×GErr)).bind fun(g,i,j)=>(some (g,i,j))))
def QhL (a0:QaB) (a1:Int) (a:Value) (d g2k0 g2k0qk0:Nat):((List Qa4)×Int×GErr)→Value→IM→HL→Prop:=
 fun(p_:((List Qa4)×Int×GErr)) (v:Value) (M':IM) (H':HL)=>match p_ with |(e,f,g)=>∃ b c,b=v∧H'=[[(d, .cells #[a,(.int .i64 f),(GV g)] 130 (0,0))],[(g2k0qk0, .cells #[(.pointer (some ⟨d,0,none⟩))] 77 (0,0))],[(g2k0, .cells #[(.func (.func 37) #[] #[(.pointer (some ⟨g2k0qk0,0,none⟩))])] 80 (0,0))],c]∧OwnS QaI M' b e c
theorem Qh3 (a0:QaB) (a1:Int) (M:IM) (a:Value) (r g2k0 g2k0qk0:Nat) (c:RS (Kd.int .u8) M a a0.b) (res:((List Qa4)×Int×GErr)) (h:QbY a0 a1=some res):
 Tri prog 52 #[(pt r 0),(Iv a1),(.func (.func 53) #[] #[(pt g2k0 0)])] M [[(r, .cells #[a,(Iv a0.at_),(GV a0.err)] 130 (0,0))],[(g2k0qk0, .cells #[(pt r 0)] 77 (0,0))],[(g2k0, .cells #[(.func (.func 37) #[] #[(pt g2k0qk0 0)])] 80 (0,0))]] (QhL a0 a1 a r g2k0 g2k0qk0 res):=by
 unfold QbY at h
 refine Te func52 Z Z ?_
 intro F ρ hρ
 refine Sr (qa Zs (Ns (qa Zs (Ns (qM (pt r 0) (hρ 0) (qM (Iv a1) (hρ 1) ?_))))))
 obtain ⟨⟨s,b3,b4⟩,S,h⟩:=bnd h
 refine We (Cb co38 (Qb5 a0 a1 _ _ _ c (s,b3,b4) S) (QaU Z Z)) Z ?_
 rintro _ T _ t ⟨_,⟨rfl,rfl⟩,rfl⟩
 refine WL.a1 (qa (Iv s) (Nt ?_))
 obtain ⟨U,V,h⟩:=bnd h
 refine Jf (fun(p_:((List Qa4)×Int×GErr)) ρ' M' H'=>match p_ with |(W,K,L)=>∃ g p,T.le M'∧[(r, .cells #[a,(Iv K),(GV L)] 130 (0,0))]::[(g2k0qk0, .cells #[(pt r 0)] 77 (0,0))]::[(g2k0, .cells #[(.func (.func 37) #[] #[(pt g2k0qk0 0)])] 80 (0,0))]::p::F=H'∧ρ' 7=g∧OwnS QaI M' g W p) U ?_ ?_
 have h:=V
 refine Sr (qa (Iv 0) (Nt (Bk (WC.e0 (WC.f3 (WC.f3 (WC.f3 ?_)))))))
 obtain ⟨c0,X,Y⟩:=bnd h
 clear h
 refine WC.loop X (fun(p_:((List Qa4)×Int×Int×GErr)) ρ' M' H'=>match p_ with |(B,f,z,A)=>∃ i q,T.le M'∧[(r, .cells #[a,(Iv z),(GV A)] 130 (0,0))]::[(g2k0qk0, .cells #[(pt r 0)] 77 (0,0))]::[(g2k0, .cells #[(.func (.func 37) #[] #[(pt g2k0qk0 0)])] 80 (0,0))]::q::F=H'∧ρ' 0=(pt r 0)∧ρ' 2=(.func (.func 53) #[] #[(pt g2k0 0)])∧ρ' 7=i∧ρ' 8=(Iv s)∧ρ' 9=(Iv f)∧OwnS QaI M' i B q) ?_ ?_
 exact⟨Zs,[],lr,Z,(hρ 0),(hρ 2),Z,Z,Z,(OwnS.nil _ _)⟩
 rintro ⟨B,f,z,A⟩ c1 c2 b5 c3 h ⟨i,q,k,rfl,l,u,v,m,n,j⟩
 unfold Qb6 at h
 refine Cs ?_
 obtain ⟨N,a2,h⟩:=bnd h
 refine Jf (fun(N:Bool) ρ' M' H'=>b5.le M'∧[(r, .cells #[a,(Iv z),(GV A)] 130 (0,0))]::[(g2k0qk0, .cells #[(pt r 0)] 77 (0,0))]::[(g2k0, .cells #[(.func (.func 37) #[] #[(pt g2k0qk0 0)])] 80 (0,0))]::q::F=H'∧ρ' 0=(pt r 0)∧ρ' 2=(.func (.func 53) #[] #[(pt g2k0 0)])∧ρ' 7=i∧ρ' 8=(Iv s)∧ρ' 9=(Iv f)∧ρ' 20=(Bv N)) N ?_ ?_
 have h:=a2
 refine Cg (qM (Iv f) n (qM (Iv s) m (qu (Bv (decide (f<s))) (lss Z Z) (qm (Bv (decide (f<s))) ?_))))
 rcases Bi h with⟨d,h⟩ |⟨d,h⟩
 refine On 16 Z Z d (qM (pt r 0) l (On 16 Z Z d ?_))
 obtain ⟨O,a4,h⟩:=bnd h
 have c:=c.mono (t.trans k)
 refine We (Cb co83 (QdT (⟨a0.b,z,A⟩:QaB) _ _ _ c O a4) (QbK Z)) Z ?_
 rintro _ c4 _ P ⟨_,⟨rfl,rfl⟩,rfl⟩
 refine WL.a1 (qo 16 d (Bv O.isNil) (errNil underlying32 Z) (qu (Bv O.isNil) (Pt Z d Z) (Wz ?_)))
 obtain rfl:=oi h
 exact Tj ⟨P,Z,l,u,v,m,n,Z⟩
 iterate 3 refine Of 16 Z Z d Z ?_
 refine qu (Bv false) (Pf Z d Z) (Wz ?_)
 obtain rfl:=oi h
 exact Tj ⟨lr,Z,l,u,v,m,n,Z⟩
 rintro c5 c6 c7 ⟨e,rfl,E,w,y,G,I,C⟩
 refine Ch h C (fun a5 h=> ?_) (fun a5 h=> ?_)
 refine Ck (Tc (Cs (Bk (Cg (qM i y (qM (.func (.func 53) #[] #[(pt g2k0 0)]) w ?_))))))
 obtain ⟨⟨o,a6,a7⟩,a8,h⟩:=bnd h
 refine Wb (Wb (Wb ?_))
 have c:=c.mono ((t.trans k).trans e)
 refine We (callV3 (first:=#[]) (cap:=#[(pt g2k0 0)]) co53 Z (QmF (⟨a0.b,z,A⟩:QaB) _ _ _ _ _ c (o,a6,a7) a8) (QeS Z)) Z ?_
 rintro _ b6 _ D ⟨_,⟨rfl,rfl⟩,rfl⟩
 refine WL.a3 (We (buildSliceL (cl:=(l67 o)) underlying25 iz67 Z (Pc (a67_ o) Z Z Pz) Z) Z ?_)
 rintro _ _ _ - ⟨rfl,a9,rfl,rfl⟩
 have b7:OwnS QaI b6 (.slice (some ⟨a9,0,none⟩) 1 1) [o] [(a9, .cells (l67 o).toArray 67 (0,0))]:=OwnS.rows (css:=[(l67 o)]) (Rows.cons (QlY (x:=o)) Rows.nil) Z Z
 obtain ⟨b0,h⟩:=QaQ h
 refine WL.f4 ?_
 have j:=j.mono (e.trans D)
 refine We (append (dd:=QaI) (xs:=B) (ys:=[o]) underlying25 underlying25 in67 Z (appB (by decide) b0) (by decide) Z Z j (b7.src 1 Z)) Z ?_
 rintro b1 _ _ - ⟨rfl,b8,rfl,b9⟩
 refine qa b1 (Wz (Bn (Tc (Cg (qM (Iv f) I (qu (Iv (i64.wrap (f+1))) (add Z Z) (qa (Iv (i64.wrap (f+1))) (Wz (Qa (Dr (WQ.f3 ?_)))))))))))
 exact WQ.f3 (WQ.f3 (WQ.again (B++[o],i64.wrap (f+1),a6,a7) (oi h).symm ⟨b1,b8,((k.trans e).trans D),Z,E,w,Z,G,Z,b9⟩))
 refine WC.exit (WQ.thenE (WQ.leaveE (B,z,A) (oi h).symm (fun Q=> ?_)))
 subst Q
 have h:=Y
 refine WQ.blockH ?_
 obtain rfl:=oi h
 refine Tj ?_
 have j:=j.mono e
 exact⟨i,q,(k.trans e),Z,y,j⟩
 obtain ⟨W,K,L⟩:=U
 rintro c8 c9 d0 ⟨g,p,R,rfl,J,b2⟩
 exact Sr (qM g J (qa g (Nt (Cr (Rf h [[(r, .cells #[a,(Iv K),(GV L)] 130 (0,0))],[(g2k0qk0, .cells #[(pt r 0)] 77 (0,0))],[(g2k0, .cells #[(.func (.func 37) #[] #[(pt g2k0qk0 0)])] 80 (0,0))],p] Z (Rs Z Z) (t.trans R) ⟨g,p,Z,Z,b2⟩)))))
noncomputable def QdH (a0:QaB):Option (GErr×GErr):=
 (((if(decide (a0.at_<(a0.b.length:Int)))=true then((QbJ a0 (⟨#[101,110,100]⟩:ByteArray) a0.at_ (5:Int)).bind fun c=>(some c))else(some a0.err)):Option GErr).bind fun a=>(some (a,a)))
def Qm5 (a0:QaB) (a:Value) (b:Nat):(GErr×GErr)→Value→IM→HL→Prop:=
 fun(p_:(GErr×GErr)) (v:Value) (M':IM) (H':HL)=>match p_ with |(c,d)=>(GV c)=v∧H'=[[(b, .cells #[a,(.int .i64 a0.at_),(GV d)] 130 (0,0))]]
theorem QoY (a0:QaB) (M:IM) (a:Value) (c:Nat) (f:RS (Kd.int .u8) M a a0.b) (res:(GErr×GErr)) (h:QdH a0=some res):
 Tri prog 54 #[(pt c 0)] M [[(c, .cells #[a,(Iv a0.at_),(GV a0.err)] 130 (0,0))]] (Qm5 a0 a c res):=by
 unfold QdH at h
 refine Te func54 Z Z ?_
 intro F ρ hρ
 refine Sr (qa (GV GErr.nil) (Nt ?_))
 obtain ⟨d,j,h⟩:=bnd h
 refine Jf (fun(d:GErr) ρ' M' H'=>M.le M'∧[(c, .cells #[a,(Iv a0.at_),(GV d)] 130 (0,0))]::F=H'∧ρ' 0=(pt c 0)) d ?_ ?_
 have h:=j
 refine Cs (WC.draw [0,1,3,7,0,16,48,112,240,511] (.pure 0 (.pure 1 (.pure 2 (.pure 3 (.pure 4 (.pure 5 (.pure 6 (.pure 7 (.pure 8 (.pure 9 .done)))))))))) QdC (by kernel_rfl) (qt (pt c 0) Z (Mv (hρ 0)) (qt (pt c 0) Z (Nk Z) (qt (pt c 1) Z (Fa QdY Z Z) (qt (Iv a0.at_) Z (Lb 0 pl3 Z Z Z) (qt (pt c 0) Z (Mv (hρ 0)) (qt (pt c 0) Z (Nk Z) (qt (pt c 0) Z (Fa QnW Z Z) (qt a Z (Lb 0 pl38 Z Z Z) (qt (Iv (a0.b.length:Int)) Z (lenS underlying38 Z f.len) (qt (Bv (decide (a0.at_<(a0.b.length:Int)))) Z (lss Z Z) ?_)))))))))))
 refine Ti (Tc (Ch h Z (fun k h=> ?_) (fun k h=> ?_)))
 refine Cg (qM (pt c 0) (hρ 0) (qM (pt c 0) (hρ 0) (qu (pt c 0) (Nk Z) (qu (pt c 1) (Fa QdY Z Z) (qu (Iv a0.at_) (Lb 0 pl3 Z Z Z) ?_)))))
 obtain ⟨m,l,h⟩:=bnd h
 refine We (Cb co81 (QcE a0 (⟨#[101,110,100]⟩:ByteArray) a0.at_ (5:Int) _ _ _ f m l) (QlT Z Z Z Z)) Z ?_
 rintro _ n _ g ⟨_,⟨rfl,rfl⟩,rfl⟩
 refine WL.a1 (Wz ?_)
 obtain rfl:=oi h
 exact Tj ⟨g,Z,(hρ 0)⟩
 refine Ck ?_
 obtain rfl:=oi h
 exact Tj ⟨lr,Z,(hρ 0)⟩
 rintro o p q ⟨i,rfl,e⟩
 exact Sr (qM (pt c 0) e (qu (pt c 0) (Nk Z) (qu (pt c 2) (Fa QmL Z Z) (qu (GV d) (Lb 0 pl32 Z Z Z) (qa (GV d) (Nt (Cr (Rf h [[(c, .cells #[a,(Iv a0.at_),(GV d)] 130 (0,0))]] Z (Rs Z Z) i ⟨Z,Z⟩))))))))
noncomputable def Qe5 (a0:(List Int)):Option (QaA×GErr):=
 ((QlG a0).bind fun a=>((QcH a).bind fun(c,k,l)=>((QbD (⟨a.b,k,l⟩:QaB) (64:Int)).bind fun(d,m,n)=>((QaY (⟨a.b,m,n⟩:QaB) (256:Int)).bind fun(e,o,p)=>((QbE (⟨a.b,o,p⟩:QaB) (1073741824:Int)).bind fun(f,q,r)=>((QbY (⟨a.b,q,r⟩:QaB) (64:Int)).bind fun(g,s,t)=>((QdH (⟨a.b,s,t⟩:QaB)).bind fun(i,v)=>(if(!i.isNil)=true then(some ((⟨[],[],[],[],(0:Int)⟩:QaA),i))else((Qc9 (⟨d,e,f,g,c⟩:QaA)).bind fun j=>(if(!j.isNil)=true then((QhJ (⟨#[105,109,97,103,101]⟩:ByteArray) (a0.length:Int) j).bind fun u=>(some ((⟨[],[],[],[],(0:Int)⟩:QaA),u)))else(some ((⟨d,e,f,g,c⟩:QaA),GErr.nil))))))))))))
def QtU (a0:(List Int)) (l:Value):(QaA×GErr)→Value→IM→HL→Prop:=
 fun(p_:(QaA×GErr)) (v:Value) (M':IM) (H':HL)=>match p_ with |(j,k)=>∃ a b c d e f g i,(.tuple #[(.agg #[a,c,e,g,(.int .i64 j.Last)]),(GV k)])=v∧H'=[b,d,f,i]∧OwnS QaD M' a j.Brokers b∧OwnS QaG M' c j.Topics d∧OwnS QaF M' e j.Configs f∧OwnS QaI M' g j.Done i
theorem QlX (a0:(List Int)) (M:IM) (N:Value) (h0:RS (Kd.int .u8) M N a0) (res:(QaA×GErr)) (h:Qe5 a0=some res):
 Tri prog 12 #[N] M [] (QtU a0 N res):=by
 unfold Qe5 at h
 refine Te func12 Z Z ?_
 intro F ρ hρ
 refine Sr (We (Al ze27 Z) Z ?_)
 rintro _ _ _ - ⟨rfl,e4,rfl,rfl⟩
 refine qa (GV GErr.nil) (Ns (qM N (hρ 0) ?_))
 obtain ⟨s,O,h⟩:=bnd h
 refine We (Ca co36 (QvU a0 _ _ h0 s O) (QbK Z)) Z ?_
 rintro _ e5 _ K ⟨_,⟨t,c4,rfl,rfl,a⟩,rfl⟩
 refine WL.a1 (We (Al ze77 Z) Z ?_)
 rintro _ _ _ - ⟨rfl,d,rfl,rfl⟩
 refine We (Es (pt t 0) [(pt t 0)] Z sz77 Z Z Z Z Z Z) Z ?_
 rintro _ _ _ - ⟨rfl,rfl⟩
 refine Ns (qu (.func (.func 37) #[] #[(pt d 0)]) (makeFunc2 (QmX) (QbK (show ev _ _=(pt d 0) from Z))) (We (Al ze80 Z) Z ?_))
 rintro _ _ _ - ⟨rfl,n,rfl,rfl⟩
 refine We (Es (.func (.func 37) #[] #[(pt d 0)]) [(.func (.func 37) #[] #[(pt d 0)])] Z sz80 Z Z Z Z Z Z) Z ?_
 rintro _ _ _ - ⟨rfl,rfl⟩
 refine Ns (qu (.func (.func 39) #[] #[(pt d 0)]) (makeFunc2 (QmX) (QbK (show ev _ _=(pt d 0) from Z))) (We (Al ze82 Z) Z ?_))
 rintro _ _ _ - ⟨rfl,w,rfl,rfl⟩
 refine We (Es (.func (.func 39) #[] #[(pt d 0)]) [(.func (.func 39) #[] #[(pt d 0)])] Z sz82 Z Z Z Z Z Z) Z ?_
 rintro _ _ _ - ⟨rfl,rfl⟩
 refine Ns (qu (.func (.func 41) #[] #[(pt d 0)]) (makeFunc2 (QmX) (QbK (show ev _ _=(pt d 0) from Z))) (We (Al ze84 Z) Z ?_))
 rintro _ _ _ - ⟨rfl,B,rfl,rfl⟩
 refine We (Es (.func (.func 41) #[] #[(pt d 0)]) [(.func (.func 41) #[] #[(pt d 0)])] Z sz84 Z Z Z Z Z Z) Z ?_
 rintro _ _ _ - ⟨rfl,rfl⟩
 refine Ns (qu (.func (.func 37) #[] #[(pt d 0)]) (Lb 2 pl80 Z Z Z) ?_)
 obtain ⟨⟨e,P,Q⟩,R,h⟩:=bnd h
 refine WL.f3 (WL.f4 (We (callV2 (first:=#[]) (cap:=#[(pt d 0)]) co37 Z (QcL s _ _ _ _ a (e,P,Q) R) (QeS Z)) Z ?_))
 rintro _ e6 _ z ⟨_,⟨rfl,rfl⟩,rfl⟩
 refine WL.a2 (qu (.agg #[Zs,Zs,Zs,Zs,(Iv e)]) (Bl (cl:=[Zs,Zs,Zs,Zs,(Iv e)]) ze27 fp27 (Pc (Iv e) Z Z Pz) Z) (We (Al ze27 Z) Z ?_))
 rintro _ _ _ - ⟨rfl,C,rfl,rfl⟩
 refine We (Sg (v:=(.agg #[Zs,Zs,Zs,Zs,(Iv e)])) (vl:=[Zs,Zs,Zs,Zs,(Iv e)]) (arr':=[Zs,Zs,Zs,Zs,(Iv e)]) Z sz27 Z Z (onb Z) Z Z Z) Z ?_
 rintro _ _ _ - ⟨rfl,rfl⟩
 refine Ns (qu (pt t 0) (Lb 2 pl77 Z Z Z) (qu (.func (.func 44) #[] #[(pt n 0),(pt w 0),(pt d 0)]) (makeFunc2 (QmX) (QhR (show ev _ _=(pt n 0) from Z) (show ev _ _=(pt w 0) from Z) (show ev _ _=(pt d 0) from Z))) ?_))
 obtain ⟨⟨S,T,U⟩,V,h⟩:=bnd h
 refine WL.f4 (WL.f5 (WL.f4 (WL.f4 ?_)))
 have a:=a.mono z
 refine We (EO.call4 co43 (Qe8 (⟨s.b,P,Q⟩:QaB) (64:Int) _ _ _ _ _ _ a (S,T,U) V) (QhR Z Z Z)) Z ?_
 rintro _ e7 _ A ⟨_,⟨c,E,rfl,rfl,j⟩,rfl⟩
 have c5:=(K.trans z).trans A
 refine WL.a5 (qu (pt C 0) (Fa QdN Z Z) (WL.f5 (We (Es c [c,Zs,Zs,Zs,(Iv e)] j.cells sz22 Z Z (Ow j) Z Z Z) Z ?_)))
 rintro _ _ _ - ⟨rfl,rfl⟩
 refine Ns (qu (.func (.func 46) #[] #[(pt B 0),(pt n 0)]) (makeFunc2 (QmX) (QaU (show ev _ _=(pt B 0) from Z) (show ev _ _=(pt n 0) from Z))) (We (Al ze87 Z) Z ?_))
 rintro _ _ _ - ⟨rfl,W,rfl,rfl⟩
 refine We (Es (.func (.func 46) #[] #[(pt B 0),(pt n 0)]) [(.func (.func 46) #[] #[(pt B 0),(pt n 0)])] Z sz87 Z Z Z Z Z Z) Z ?_
 rintro _ _ _ - ⟨rfl,rfl⟩
 refine Ns (qu (pt t 0) (Lb 3 pl77 Z Z Z) (qu (.func (.func 48) #[] #[(pt n 0),(pt w 0),(pt d 0),(pt W 0)]) (makeFunc2 (QmX) (QlT (show ev _ _=(pt n 0) from Z) (show ev _ _=(pt w 0) from Z) (show ev _ _=(pt d 0) from Z) (show ev _ _=(pt W 0) from Z))) ?_))
 obtain ⟨⟨X,Y,a3⟩,a6,h⟩:=bnd h
 refine WL.f7 (WL.f6 (WL.f6 (WL.f6 (WL.f6 ?_))))
 have a:=a.mono A
 refine We (EO.call6 co47 (QdG (⟨s.b,T,U⟩:QaB) (256:Int) _ _ _ _ _ _ _ _ a (X,Y,a3) a6) (QhR Z Z Z)) Z ?_
 rintro _ e8 _ u ⟨_,⟨f,G,rfl,rfl,k⟩,rfl⟩
 have c6:=c5.trans u
 refine WL.a7 (qu (pt C 1) (Fa QbW Z Z) (WL.f7 (We (Es f [c,f,Zs,Zs,(Iv e)] k.cells sz23 Z Z (Ow k) Z Z Z) Z ?_)))
 rintro _ _ _ - ⟨rfl,rfl⟩
 refine Ns (qu (pt t 0) (Lb 2 pl77 Z Z Z) (qu (.func (.func 51) #[] #[(pt n 0),(pt w 0),(pt d 0)]) (makeFunc2 (QmX) (QhR (show ev _ _=(pt n 0) from Z) (show ev _ _=(pt w 0) from Z) (show ev _ _=(pt d 0) from Z))) ?_))
 obtain ⟨⟨a8,a9,b0⟩,b1,h⟩:=bnd h
 refine WL.f4 (WL.f4 (WL.f4 (WL.f4 ?_)))
 have a:=a.mono u
 refine We (EO.call4 co50 (QfB (⟨s.b,Y,a3⟩:QaB) (1073741824:Int) _ _ _ _ _ _ a (a8,a9,b0) b1) (QhR Z Z Z)) Z ?_
 rintro _ e9 _ r ⟨_,⟨g,I,rfl,rfl,l⟩,rfl⟩
 have c7:=c6.trans r
 refine WL.a5 (qu (pt C 2) (Fa Qc5 Z Z) (WL.f5 (We (Es g [c,f,g,Zs,(Iv e)] l.cells sz24 Z Z (Ow l) Z Z Z) Z ?_)))
 rintro _ _ _ - ⟨rfl,rfl⟩
 refine Ns (qu (pt t 0) (Lb 2 pl77 Z Z Z) (qu (.func (.func 53) #[] #[(pt n 0)]) (makeFunc2 (QmX) (QbK (show ev _ _=(pt n 0) from Z))) ?_))
 obtain ⟨⟨b2,b3,b4⟩,b5,h⟩:=bnd h
 refine WL.f3 (WL.f3 (WL.f3 ?_))
 have a:=a.mono r
 refine We (EO.call3 co52 (Qh3 (⟨s.b,a9,b0⟩:QaB) (64:Int) _ _ _ _ _ a (b2,b3,b4) b5) (QhR Z Z Z)) Z ?_
 rintro _ f0 _ o ⟨_,⟨i,J,rfl,rfl,m⟩,rfl⟩
 have c8:=c7.trans o
 refine WL.a4 (qu (pt C 3) (Fa QdW Z Z) (WL.f4 (We (Es i [c,f,g,i,(Iv e)] m.cells sz25 Z Z (Ow m) Z Z Z) Z ?_)))
 rintro _ _ _ - ⟨rfl,rfl⟩
 refine Nt (Cs (Sr (qu (pt t 0) (Lb 2 pl77 Z Z Z) ?_)))
 obtain ⟨⟨x,c9⟩,b6,h⟩:=bnd h
 refine WL.f1 ?_
 have a:=a.mono o
 refine We (Cb co54 (QoY (⟨s.b,b3,b4⟩:QaB) _ _ _ a (x,c9) b6) (QbK Z)) Z ?_
 rintro _ f2 _ p ⟨_,⟨rfl,rfl⟩,rfl⟩
 have b7:=c8.trans p
 refine WL.a1 (qa (GV x) (Ns (qm (GV x) (qu (Bv (!x.isNil)) (errNotNil underlying32 Z) (Nt (Ch h Z (fun b8 h=> ?_) (fun b8 h=> ?_)))))))
 refine Sr (qu (.agg z27_.toArray) (Bl (cl:=z27_) ze27 fp27 Pz Z) (qm (GV x) (WL.f11 (We (Sg (v:=(.agg z27_.toArray)) (vl:=z27_) (arr':=z27_) Z sz27 Z Z (onb Z) Z Z Z) Z ?_))))
 rintro _ _ _ - ⟨rfl,rfl⟩
 refine qa (GV x) (Nt (Cr (Tr (WQ.e0 (WQ.e0 (WQ.e0 (WQ.e0 (WQ.f5 (Dr (WQ.f5 (Dr ?_)))))))))))
 refine WQ.f5 (Dr (WQ.f5 (Dr (WQ.f5 (Dr (WQ.f5 (Dr (WQ.f5 (Dr (WQ.f5 (Dr ?_)))))))))))
 exact WQ.f5 (Dr (WQ.f5 (Dr (WQ.f5 (Dr (Qa (Qb (WQ.f3 (WQ.f4 (Rd h [[],[],[],[]] (fun _ hs=>hs.drop) (QaX Z (RVs.cons (Rc (cs:=z27_) 0 ag27 sz27 Z Z Z) (RVs.cons (RV.tmp Z) RVs.nil))) b7 ⟨Zs,[],Zs,[],Zs,[],Zs,[],Z,Z,(OwnS.nil _ _),(OwnS.nil _ _),(OwnS.nil _ _),(OwnS.nil _ _)⟩))))))))))
 refine Ck (Tc (Cs (Sr (qu (.agg #[c,f,g,i,(Iv e)]) (La (cs:=[c,f,g,i,(Iv e)]) 1 ag27 sz27 Z Z Z) ?_))))
 obtain ⟨y,b9,h⟩:=bnd h
 refine WL.f4 (WL.f6 (WL.f9 (WL.f10 ?_)))
 have j:=j.mono (((u.trans r).trans o).trans p)
 have k:=k.mono ((r.trans o).trans p)
 have l:=l.mono (o.trans p)
 have m:=m.mono p
 refine We (EO.call4 co9 (Tri.lend j.excl fun w0_ H0_ hs0_=>(Tri.lend k.excl fun w1_ H1_ hs1_=>(Tri.lend l.excl fun w2_ H2_ hs2_=>(Tri.lend m.excl fun w3_ H3_ hs3_=>(QjB (⟨S,X,a8,b2,e⟩:QaA) _ _ _ _ _ ((((j.rs hs0_).mono (IM.le_add _ _)).mono (IM.le_add _ _)).mono (IM.le_add _ _)) ((((k.mono (IM.le_add _ _)).rs hs1_).mono (IM.le_add _ _)).mono (IM.le_add _ _)) ((((l.mono (IM.le_add _ _)).mono (IM.le_add _ _)).rs hs2_).mono (IM.le_add _ _)) ((((m.mono (IM.le_add _ _)).mono (IM.le_add _ _)).mono (IM.le_add _ _)).rs hs3_) y b9))))) (QbK Z)) Z ?_
 rintro _ _ _ q ⟨_,⟨d4,d5,d0,rfl,rfl,⟨d6,d7,d1,rfl,rfl,⟨d8,d9,d2,rfl,rfl,⟨e1,e2,d3,rfl,rfl,⟨rfl,rfl⟩⟩⟩⟩⟩,rfl⟩
 have L:=b7.trans q
 refine WL.a4 (qa (GV y) (Ns (qm (GV y) (qu (Bv (!y.isNil)) (errNotNil underlying32 Z) (Nt (Ch h Z (fun c0 h=> ?_) (fun c0 h=> ?_)))))))
 refine Sr (qu (.agg z27_.toArray) (Bl (cl:=z27_) ze27 fp27 Pz Z) (qM N (hρ 0) ?_))
 have h0:=h0.mono L
 refine qu (Iv (a0.length:Int)) (lenS underlying38 Z h0.len) (qm (GV y) ?_)
 obtain ⟨c1,c2,h⟩:=bnd h
 refine We (Ca co55 (QnN ⟨#[105,109,97,103,101]⟩ (a0.length:Int) y _ c1 c2) (QhR Z Z Z)) Z ?_
 rintro _ e3 _ D ⟨_,⟨rfl,rfl⟩,rfl⟩
 refine WL.a0 (WL.f11 (We (Sg (v:=(.agg z27_.toArray)) (vl:=z27_) (arr':=z27_) Z sz27 Z Z (onb Z) Z Z Z) Z ?_))
 rintro _ _ _ - ⟨rfl,rfl⟩
 refine qa (GV c1) (Nt (Cr (Tr (WQ.e0 (WQ.e0 (WQ.e0 (WQ.e0 (WQ.f5 (Dr (WQ.f5 (Dr ?_)))))))))))
 refine WQ.f5 (Dr (WQ.f5 (Dr (WQ.f5 (Dr (WQ.f5 (Dr (WQ.f5 (Dr (WQ.f5 (Dr ?_)))))))))))
 exact WQ.f5 (Dr (WQ.f5 (Dr (WQ.f5 (Dr (Qa (Qb (WQ.f3 (WQ.f4 (Rd h [[],[],[],[]] (fun _ hs=>hs.drop) (QaX Z (RVs.cons (Rc (cs:=z27_) 0 ag27 sz27 Z Z Z) (RVs.cons (RV.tmp Z) RVs.nil))) (L.trans D) ⟨Zs,[],Zs,[],Zs,[],Zs,[],Z,Z,(OwnS.nil _ _),(OwnS.nil _ _),(OwnS.nil _ _),(OwnS.nil _ _)⟩))))))))))
 refine Ck (Tc (Sr (qu (.agg #[c,f,g,i,(Iv e)]) (La (cs:=[c,f,g,i,(Iv e)]) 5 ag27 sz27 Z Z Z) (WL.f11 ?_))))
 have j:=j.mono q
 have k:=k.mono q
 have l:=l.mono q
 have m:=m.mono q
 refine We (Sg (v:=(.agg #[c,f,g,i,(Iv e)])) (vl:=[c,f,g,i,(Iv e)]) (arr':=[c,f,g,i,(Iv e)]) Z sz27 Z Z (QbG (Oc (Ow j) (Oc (Ow k) (Oc (Ow l) (Oc (Ow m) (Oc Z Oz)))))) Z Z Z) Z ?_
 rintro _ _ _ - ⟨rfl,rfl⟩
 refine qa (GV GErr.nil) (Nt (Cr (WQ.f5 (Dr (WQ.f5 (Dr (WQ.f5 (Dr (WQ.f5 (Dr (WQ.f5 ?_)))))))))))
 exact Dr (WQ.f5 (Dr (WQ.f5 (Dr (Rd h [E,G,I,J] (fun _ hs=>hs.drop) (QaX Z (RVs.cons (Rc (cs:=[c,f,g,i,(Iv e)]) 0 ag27 sz27 Z Z Z) (RVs.cons (RV.tmp Z) RVs.nil))) L ⟨c,E,f,G,g,I,i,J,Z,Z,j,k,l,m⟩)))))
noncomputable def Qg2 (a0:QbR):Option GErr:=
 (some a0.Err)
def QmG (a0:QbR):GErr→Value→IM→HL→Prop:=
 fun(a:GErr) (v:Value) (M':IM) (H':HL)=>(GV a)=v∧H'=[]
theorem QkJ (a0:QbR) (M:IM) (res:GErr) (h:Qg2 a0=some res):
 Tri prog 175 #[(Q7A a0)] M [] (QmG a0 res):=by
 unfold Qg2 at h
 refine Te func175 Z Z ?_
 intro F ρ hρ
 refine Sr (We (box (cs:=(l114 a0).toArray) (congrArg Value.cells (asE (Q7A a0) (hρ 0)))) Z ?_)
 rintro _ _ _ - ⟨rfl,a,rfl,rfl⟩
 exact qa (GV GErr.nil) (Ns (qu (pt a 2) (Fa Q15 Z Z) (qu (GV a0.Err) (Lb 0 pl32 Z Z Z) (qa (GV a0.Err) (Nt (Cr (Dr (Rf h [] Z (Rs Z Z) lr ⟨Z,Z⟩))))))))
noncomputable def Qe6 (a1:Int) (s_:GErr):Option (GErr⊕Bool):=
 match s_ with
 |b=>
 (match b with | .nil=>(some (inr false)) | .code c=>(if(decide (c=a1))=true then(some (inr true))else(some (inr false))) | .fault d a26 e=>((Qg2 (⟨d,a26,e⟩:QbR)).bind fun a=>(if a.isNil=true then(some (inr false))else(some (inl a)))) | .other f=>(some (inr false)))
noncomputable def QmH (a0:GErr) (a1:Int):Option Bool:=
 ((iter (Qe6 a1) a0).bind (fun(a:Bool)=>(some a)))
def QtV (a0:GErr) (a1:Int):Bool→Value→IM→HL→Prop:=
 fun(a:Bool) (v:Value) (M':IM) (H':HL)=>(.bool a)=v∧H'=[]
theorem QvV (a0:GErr) (a1:Int) (M:IM) (res:Bool) (h:QmH a0 a1=some res):
 Tri prog 100 #[(GV a0),(GV (GErr.code a1)),(Bv true)] M [] (QtV a0 a1 res):=by
 unfold QmH at h
 refine Te func100 Z Z ?_
 intro F ρ hρ
 refine Sr (qa (Bv false) (Nt (Bk ?_)))
 obtain ⟨t,p,i⟩:=bnd h
 clear h
 refine WC.loop p (fun(o:GErr) ρ' M' H'=>M.le M'∧F=H'∧ρ' 0=(GV o)∧ρ' 1=(GV (GErr.code a1))∧ρ' 2=(Bv true)) ?_ ?_
 exact⟨lr,Z,(hρ 0),(hρ 1),(hρ 2)⟩
 rintro o u v w x h ⟨d,rfl,a,k,l⟩
 unfold Qe6 at h
 refine Bk (Cs (Sr (qM (Bv true) l (qm (Bv true) (On 15 Z Z Z (qM (GV o) a (On 15 Z Z Z (qM (GV (GErr.code a1)) k (On 15 Z Z Z ?_)))))))))
 rcases o with _ |g |⟨e,a26,f⟩ |j
 refine qu (Bv false) (nilIfaceNe underlying32 (show ev _ _= .nilIface from Z) (show ev _ _=(.iface 34 (Iv a1)) from Z)) (qu (Bv false) (Pt Z Z Z) (Nt (WC.condF (b:=false) Z Z (Ck (Tc (Cs (Sr (qM (GV GErr.nil) a (qu (.tuple #[.nilIface,(Bv false)]) (asserts (show ev _ _= .nilIface from Z) (QlU JaB underlying195)) (qm (.tuple #[.nilIface,(Bv false)]) (qu .nilIface (Xt Z Z) ?_)))))))))))
 refine qu (Bv false) (Xt Z Z) (qa .nilIface (qa (Bv false) (Ns (qm (Bv false) (qm (Bv false) ?_)))))
 iterate 3 refine Of 26 Z Z Z Z ?_
 refine qu (Bv false) (Pf Z Z Z) (Nt (WC.condF (b:=false) Z Z (Ck (Tc (Sr (qM (GV GErr.nil) a (Nt (Bk (Sr (qu (.tuple #[.nilIface,(Bv false)]) (asserts (show ev _ _= .nilIface from Z) (QlU JaC underlying198)) (qu (Bv false) (Xt Z Z) ?_)))))))))))
 refine qu .nilIface (Xt Z Z) (Nt (WC.condF (b:=false) Z Z (Sr (qu (.tuple #[.nilIface,(Bv false)]) (asserts (show ev _ _= .nilIface from Z) (QlU JaD underlying199)) (qu (Bv false) (Xt Z Z) (qu .nilIface (Xt Z Z) (Nt (WC.condF (b:=false) Z Z (Sr (qa (GV GErr.nil) (Ns ?_)))))))))))
 refine qa (Bv false) (Nt (Cr (Br (Br (WQ.leaveR false (oi h).symm (fun c=> ?_))))))
 subst c
 have h:=i
 exact Br (Rf h [] Z (Rs Z Z) d ⟨Z,Z⟩)
 refine qu (Bv (decide (g=a1))) (ifaceInt underlying32 underlying34 cm34 (show ev _ _=(.iface 34 (Iv g)) from Z) (show ev _ _=(.iface 34 (Iv a1)) from Z)) (qu (Bv (decide (g=a1))) (Pt Z Z Z) (Nt (Ch h Z (fun q h=> ?_) (fun q h=> ?_))))
 refine Sr (qa (Bv true) (Nt (Cr (Tr (Br (WQ.leaveR true (oi h).symm (fun c=> ?_)))))))
 subst c
 have h:=i
 exact Br (Rf h [] Z (Rs Z Z) d ⟨Z,Z⟩)
 refine Ck (Tc (Cs (Sr (qM (GV (GErr.code g)) a (qu (.tuple #[.nilIface,(Bv false)]) (asserts (show ev _ _=(.iface 34 (Iv g)) from Z) (Q36 _ _)) (qm (.tuple #[.nilIface,(Bv false)]) (qu .nilIface (Xt Z Z) (qu (Bv false) (Xt Z Z) (qa .nilIface (qa (Bv false) (Ns ?_)))))))))))
 refine qm (Bv false) (qm (Bv false) ?_)
 iterate 3 refine Of 26 Z Z Z Z ?_
 refine qu (Bv false) (Pf Z Z Z) (Nt (WC.condF (b:=false) Z Z (Ck (Tc (Sr (qM (GV (GErr.code g)) a (Nt (Bk (Sr (qu (.tuple #[.nilIface,(Bv false)]) (asserts (show ev _ _=(.iface 34 (Iv g)) from Z) (Q0D _ _)) (qu (Bv false) (Xt Z Z) ?_)))))))))))
 refine qu .nilIface (Xt Z Z) (Nt (WC.condF (b:=false) Z Z (Sr (qu (.tuple #[.nilIface,(Bv false)]) (asserts (show ev _ _=(.iface 34 (Iv g)) from Z) (Q0E _ _)) (qu (Bv false) (Xt Z Z) (qu .nilIface (Xt Z Z) (Nt (WC.condF (b:=false) Z Z (Sr (qa (GV (GErr.code g)) (Ns ?_)))))))))))
 refine qa (Bv false) (Nt (Cr (Br (Br (WQ.leaveR false (oi h).symm (fun c=> ?_))))))
 subst c
 have h:=i
 exact Br (Rf h [] Z (Rs Z Z) d ⟨Z,Z⟩)
 refine qu (Bv false) (ifaceNe underlying32 (show ev _ _=(.iface 114 (.agg #[.string e, .int .i64 a26,GV f])) from Z) (show ev _ _=(.iface 34 (Iv a1)) from Z) Z) (qu (Bv false) (Pt Z Z Z) (Nt (WC.condF (b:=false) Z Z (Ck (Tc (Cs (Sr (qM (GV (GErr.fault e a26 f)) a (qu (.tuple #[.nilIface,(Bv false)]) (asserts (show ev _ _=(.iface 114 (.agg #[.string e, .int .i64 a26,GV f])) from Z) (Q17 _ _)) (qm (.tuple #[.nilIface,(Bv false)]) (qu .nilIface (Xt Z Z) ?_)))))))))))
 refine qu (Bv false) (Xt Z Z) (qa .nilIface (qa (Bv false) (Ns (qm (Bv false) (qm (Bv false) ?_)))))
 iterate 3 refine Of 26 Z Z Z Z ?_
 refine qu (Bv false) (Pf Z Z Z) (Nt (WC.condF (b:=false) Z Z (Ck (Tc (Sr (qM (GV (GErr.fault e a26 f)) a (Nt (Bk (Sr (qu (.tuple #[(GV (GErr.fault e a26 f)),(Bv true)]) (asserts (show ev _ _=(.iface 114 (.agg #[.string e, .int .i64 a26,GV f])) from Z) (QyB _ _)) (qu (Bv true) (Xt Z Z) ?_)))))))))))
 refine qu (GV (GErr.fault e a26 f)) (Xt Z Z) (Nt (WC.condT (b:=true) Z Z (Sr (qa (GV (GErr.fault e a26 f)) (Ns (qm (GV (GErr.fault e a26 f)) ?_))))))
 obtain ⟨m,r,h⟩:=bnd h
 refine We (invT (show ev _ _=(.iface 114 (.agg #[.string e, .int .i64 a26,GV f])) from Z) (Qs6 _) Q7K inv0 (QkJ (⟨e,a26,f⟩:QbR) _ m r)) Z ?_
 rintro _ y _ n ⟨_,⟨rfl,rfl⟩,rfl⟩
 refine WL.a0 (qa (GV m) (Ns (qm (GV m) (qu (Bv m.isNil) (errNil underlying32 Z) (Nt (Ch h Z (fun s h=> ?_) (fun s h=> ?_)))))))
 refine Sr (qa (Bv false) (Nt (Cr (Br (Br (WQ.leaveR false (oi h).symm (fun c=> ?_)))))))
 subst c
 have h:=i
 exact Br (Rf h [] Z (Rs Z Z) (d.trans n) ⟨Z,Z⟩)
 exact Ck (Bn (Bn (WQ.again m (oi h).symm ⟨(d.trans n),Z,Z,k,l⟩)))
 refine qu (Bv false) (ifaceNe underlying32 (show ev _ _=(.iface 0 (.pointer (some j))) from Z) (show ev _ _=(.iface 34 (Iv a1)) from Z) Z) (qu (Bv false) (Pt Z Z Z) (Nt (WC.condF (b:=false) Z Z (Ck (Tc (Cs (Sr (qM (GV (GErr.other j)) a (qu (.tuple #[.nilIface,(Bv false)]) (asserts (show ev _ _=(.iface 0 (.pointer (some j))) from Z) (Q6F _ _)) (qm (.tuple #[.nilIface,(Bv false)]) (qu .nilIface (Xt Z Z) ?_)))))))))))
 refine qu (Bv false) (Xt Z Z) (qa .nilIface (qa (Bv false) (Ns (qm (Bv false) (qm (Bv false) ?_)))))
 iterate 3 refine Of 26 Z Z Z Z ?_
 refine qu (Bv false) (Pf Z Z Z) (Nt (WC.condF (b:=false) Z Z (Ck (Tc (Sr (qM (GV (GErr.other j)) a (Nt (Bk (Sr (qu (.tuple #[.nilIface,(Bv false)]) (asserts (show ev _ _=(.iface 0 (.pointer (some j))) from Z) (QzF _ _)) (qu (Bv false) (Xt Z Z) ?_)))))))))))
 refine qu .nilIface (Xt Z Z) (Nt (WC.condF (b:=false) Z Z (Sr (qu (.tuple #[.nilIface,(Bv false)]) (asserts (show ev _ _=(.iface 0 (.pointer (some j))) from Z) (QzG _ _)) (qu (Bv false) (Xt Z Z) (qu .nilIface (Xt Z Z) (Nt (WC.condF (b:=false) Z Z (Sr (qa (GV (GErr.other j)) (Ns ?_)))))))))))
 refine qa (Bv false) (Nt (Cr (Br (Br (WQ.leaveR false (oi h).symm (fun c=> ?_))))))
 subst c
 have h:=i
 exact Br (Rf h [] Z (Rs Z Z) d ⟨Z,Z⟩)
noncomputable def QmI (a0:GErr) (a1:Int):Option Bool:=
 (if a0.isNil=true then(match a0 with | .nil=>(some false) | .code a=>(some (decide (a=a1))) | .fault c a24 d=>(some false) | .other e=>(some false))else((QmH a0 a1).bind fun b=>(some b)))
def QtW (a0:GErr) (a1:Int):Bool→Value→IM→HL→Prop:=
 fun(a:Bool) (v:Value) (M':IM) (H':HL)=>(.bool a)=v∧H'=[]
theorem QvW (a0:GErr) (a1:Int) (M:IM) (res:Bool) (h:QmI a0 a1=some res):
 Tri prog 67 #[(GV a0),(GV (GErr.code a1))] M [] (QtW a0 a1 res):=by
 unfold QmI at h
 refine Te func67 Z Z ?_
 intro F ρ hρ
 refine Sr (qa (Bv false) (Nt (Cs (Sr (qM (GV a0) (hρ 0) (qu (Bv a0.isNil) (errNil underlying32 Z) (qm (Bv a0.isNil) ?_)))))))
 rcases Bi h with⟨a,h⟩ |⟨a,h⟩
 iterate 2 refine Of 8 Z Z a Z ?_
 refine qu (Bv true) (Pt Z a Z) (Nt (WC.condT (b:=true) Z Z (Sr (qM (GV a0) (hρ 0) (qM (GV (GErr.code a1)) (hρ 1) ?_)))))
 rcases a0 with _ |c |⟨i,a24,j⟩ |k
 exact qu (Bv false) (nilIfaceNe underlying32 (show ev _ _= .nilIface from Z) (show ev _ _=(.iface 34 (Iv a1)) from Z)) (qa (Bv false) (Nt (Cr (Tr (Rf h [] Z (Rs Z Z) lr ⟨Z,Z⟩)))))
 exact qu (Bv (decide (c=a1))) (ifaceInt underlying32 underlying34 cm34 (show ev _ _=(.iface 34 (Iv c)) from Z) (show ev _ _=(.iface 34 (Iv a1)) from Z)) (qa (Bv (decide (c=a1))) (Nt (Cr (Tr (Rf h [] Z (Rs Z Z) lr ⟨Z,Z⟩)))))
 exact qu (Bv false) (ifaceNe underlying32 (show ev _ _=(.iface 114 (.agg #[.string i, .int .i64 a24,GV j])) from Z) (show ev _ _=(.iface 34 (Iv a1)) from Z) Z) (qa (Bv false) (Nt (Cr (Tr (Rf h [] Z (Rs Z Z) lr ⟨Z,Z⟩)))))
 exact qu (Bv false) (ifaceNe underlying32 (show ev _ _=(.iface 0 (.pointer (some k))) from Z) (show ev _ _=(.iface 34 (Iv a1)) from Z) Z) (qa (Bv false) (Nt (Cr (Tr (Rf h [] Z (Rs Z Z) lr ⟨Z,Z⟩)))))
 refine On 8 Z Z a (qM (GV (GErr.code a1)) (hρ 1) (qo 8 a (Bv false) (errNil (tc:=34) (tf:=114) (tp:=0) (e:=GErr.code a1) underlying32 Z) (qu (Bv false) (Pf Z a Z) (Nt (WC.condF (b:=false) Z Z (Ck (Tc (Sr (qM (GV (GErr.code a1)) (hρ 1) (We (extP xt99 (QbK (show ev _ _=(.iface 34 (Iv a1)) from Z)) (ty34 _)) Z ?_))))))))))
 rintro _ _ _ - ⟨rfl,rfl,rfl⟩
 refine We (invE (show ev _ _=(.iface 193 (.agg #[.pointer (some ⟨1,34,none⟩)])) from Z) (QxA (pt 1 34)) Q98 inv0 Qt5) Z ?_
 rintro _ _ _ - ⟨rfl,rfl,rfl⟩
 refine qa (Bv true) (Ns (qM (GV a0) (hρ 0) (qM (GV (GErr.code a1)) (hρ 1) (qm (Bv true) ?_))))
 obtain ⟨f,g,h⟩:=bnd h
 refine We (Ca Q87 (QvV a0 a1 _ f g) (QhR Z Z Z)) Z ?_
 rintro _ l _ d ⟨_,⟨rfl,rfl⟩,rfl⟩
 exact WL.a0 (qa (Bv f) (Nt (Cr (Rf h [] Z (Rs Z Z) d ⟨Z,Z⟩))))
noncomputable def QiV (a0:GErr) (a1:Int):Option Bool:=
 ((QmI a0 a1).bind fun a=>(some a))
def QuZ (a0:GErr) (a1:Int):Bool→Value→IM→HL→Prop:=
 fun(a:Bool) (v:Value) (M':IM) (H':HL)=>(.bool a)=v∧H'=[]
theorem Qq6 (a0:GErr) (a1:Int) (M:IM) (res:Bool) (h:QiV a0 a1=some res):
 Tri prog 20 #[(GV a0),(Iv a1)] M [] (QuZ a0 a1 res):=by
 unfold QiV at h
 refine Te func20 Z Z ?_
 intro F ρ hρ
 refine Sr (qa (Bv false) (Ns (qM (GV a0) (hρ 0) (qM (Iv a1) (hρ 1) (qu (GV (GErr.code a1)) (makeInterface cc34 Z) ?_)))))
 obtain ⟨b,c,h⟩:=bnd h
 refine We (Ca co67 (QvW a0 a1 _ b c) (QaU Z Z)) Z ?_
 rintro _ d _ a ⟨_,⟨rfl,rfl⟩,rfl⟩
 exact WL.a0 (qa (Bv b) (Nt (Cr (Rf h [] Z (Rs Z Z) a ⟨Z,Z⟩))))

end Go.Proofs.YtpcbipcdfccnnaaGreatDoor.G
