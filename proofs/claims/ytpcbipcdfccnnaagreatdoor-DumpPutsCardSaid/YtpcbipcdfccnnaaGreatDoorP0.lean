/- Go functions: what they come to, and that they do. Printed by a program of the session (gen). -/
import Derived.Test.YtpcbipcdfccnnaaGreatDoorPF
import Derived.Test.YtpcbipcdfccnnaaGreatDoorKShar2
import Derived.Test.YtpcbipcdfccnnaaGreatDoorKConv
import Derived.Test.YtpcbipcdfccnnaaGreatDoorKMap
import Derived.Test.YtpcbipcdfccnnaaGreatDoorKTight2
set_option linter.unusedVariables false
set_option linter.unusedSimpArgs false
set_option maxHeartbeats 8000000
set_option maxRecDepth 100000
namespace Go.Proofs.YtpcbipcdfccnnaaGreatDoor.G
open Go Go.KK
open PO EO IntKind Sum Tryz

noncomputable def Qd2 (a0:QaA) (a1:Int) (s_:(Int×Int)):Option ((Int×Int)⊕Int):=
 match s_ with
 |(b,a)=>
 (((if(decide (a<(a0.Brokers.length:Int)))=true then(some (decide (b≤a1)))else(some false)):Option Bool).bind fun c=>(if c=true then(grd (0≤a∧a<a0.Brokers.length) (some (inl (i64.wrap (b+(i64.wrap ((((rd a0.Brokers a).Rack).size:Int).tdiv (40:Int)))),i64.wrap (a+(1:Int))))))else(some (inr b))))
noncomputable def Qd3 (a0:QaA) (a1:Int) (a:Int) (s_:(Int×Int)):Option ((Int×Int)⊕Int):=
 match s_ with
 |(c,b)=>
 (((grd (0≤a∧a<a0.Topics.length) (if(decide (b<(((rd a0.Topics a).Parts).length:Int)))=true then(some (decide (c≤a1)))else(some false))):Option Bool).bind fun d=>(if d=true then(grd (0≤a∧a<a0.Topics.length) (grd (0≤b∧b<((rd a0.Topics a).Parts).length) (some (inl (i64.wrap ((i64.wrap ((i64.wrap ((i64.wrap ((i64.wrap (c+(1:Int)))+(((rd ((rd a0.Topics a).Parts) b).Ids).length:Int)))+(((rd ((rd a0.Topics a).Parts) b).Isr).length:Int)))+(((rd ((rd a0.Topics a).Parts) b).Add).length:Int)))+(((rd ((rd a0.Topics a).Parts) b).Drop).length:Int)),i64.wrap (b+(1:Int)))))))else(some (inr c))))
noncomputable def Qd4 (a0:QaA) (a1:Int) (s_:(Int×Int)):Option ((Int×Int)⊕Int):=
 match s_ with
 |(b,a)=>
 (((if(decide (a<(a0.Topics.length:Int)))=true then(some (decide (b≤a1)))else(some false)):Option Bool).bind fun c=>(if c=true then(((grd (0≤a∧a<a0.Topics.length) ((iter (Qd3 a0 a1 a) (i64.wrap ((i64.wrap (b+(1:Int)))+(i64.wrap ((((rd a0.Topics a).Name).size:Int).tdiv (40:Int)))),(0:Int))).bind (fun(d:Int)=>(some d)))):Option Int).bind fun e=>(some (inl (e,i64.wrap (a+(1:Int))))))else(some (inr b))))
noncomputable def Qd5 (a0:QaA) (a1:Int) (s_:(Int×Int)):Option ((Int×Int)⊕Int):=
 match s_ with
 |(b,a)=>
 (((if(decide (a<(a0.Configs.length:Int)))=true then(some (decide (b≤a1)))else(some false)):Option Bool).bind fun c=>(if c=true then(grd (0≤a∧a<a0.Configs.length) (grd (0≤a∧a<a0.Configs.length) (some (inl (i64.wrap ((i64.wrap ((i64.wrap (b+(1:Int)))+(i64.wrap ((((rd a0.Configs a).Key).size:Int).tdiv (40:Int)))))+(i64.wrap ((((rd a0.Configs a).Value).size:Int).tdiv (40:Int)))),i64.wrap (a+(1:Int)))))))else(some (inr b))))
noncomputable def QjZ (a0:QaA) (a1:Int):Option Int:=
 ((((iter (Qd2 a0 a1) (i64.wrap ((a0.Brokers.length:Int)+(a0.Done.length:Int)),(0:Int))).bind (fun(a:Int)=>(some a))):Option Int).bind fun b=>((((iter (Qd4 a0 a1) (b,(0:Int))).bind (fun(c:Int)=>(some c))):Option Int).bind fun d=>((((iter (Qd5 a0 a1) (d,(0:Int))).bind (fun(e:Int)=>(some e))):Option Int).bind fun f=>(some f))))
def QpM (a0:QaA) (a1:Int) (a b c d:Value):Int→Value→IM→HL→Prop:=
 fun(e:Int) (v:Value) (M':IM) (H':HL)=>(.int .i64 e)=v∧H'=[]
theorem QrX (a0:QaA) (a1:Int) (M:IM) (e d f g:Value) (s:RS QaD M e a0.Brokers) (j:RS QaG M d a0.Topics) (t:RS QaF M f a0.Configs) (i5:RS QaI M g a0.Done) (res:Int) (h:QjZ a0 a1=some res):
 Tri prog 17 #[(a27_ a0 e d f g),(Iv a1)] M [] (QpM a0 a1 e d f g res):=by
 unfold QjZ at h
 refine Te func17 Z Z ?_
 intro F ρ hρ
 refine Sr (We (box (cs:=(l27 a0 e d f g).toArray) (congrArg Value.cells (asE (a27_ a0 e d f g) (hρ 0)))) Z ?_)
 rintro _ _ _ - ⟨rfl,c,rfl,rfl⟩
 refine qa (Iv 0) (Ns (qu (pt c 0) (Fa QdN Z Z) (qu e (Lb 0 pl22 Z Z Z) (qu (Iv (a0.Brokers.length:Int)) (lenS underlying22 Z s.len) (qu (pt c 3) (Fa QdW Z Z) (qu g (Lb 0 pl25 Z Z Z) (qu (Iv (a0.Done.length:Int)) (lenS underlying25 Z i5.len) (qu (Iv (i64.wrap ((a0.Brokers.length:Int)+(a0.Done.length:Int)))) (add Z Z) (qa (Iv (i64.wrap ((a0.Brokers.length:Int)+(a0.Done.length:Int)))) (Nt ?_))))))))))
 obtain ⟨g3,i6,h⟩:=bnd h
 refine Jf (fun(g3:Int) ρ' M' H'=>M.le M'∧[(c, .cells (l27 a0 e d f g).toArray 27 (0,0))]::F=H'∧ρ' 1=(Iv a1)∧ρ' 2=(pt c 0)∧ρ' 5=(Iv g3)) g3 ?_ ?_
 have h:=i6
 refine Sr (qa (Iv 0) (Nt (Bk ?_)))
 obtain ⟨m8,i7,i8⟩:=bnd h
 clear h
 refine WC.loop i7 (fun(p_:(Int×Int)) ρ' M' H'=>match p_ with |(u,k)=>M.le M'∧[(c, .cells (l27 a0 e d f g).toArray 27 (0,0))]::F=H'∧ρ' 1=(Iv a1)∧ρ' 2=(pt c 0)∧ρ' 5=(Iv u)∧ρ' 6=(Iv k)) ?_ ?_
 exact⟨lr,Z,(hρ 1),Z,Z,Z⟩
 rintro ⟨u,k⟩ m9 n0 l6 n1 h ⟨E,rfl,G,I,J,K⟩
 unfold Qd2 at h
 refine Cs ?_
 obtain ⟨g4,i9,h⟩:=bnd h
 refine Jf (fun(g4:Bool) ρ' M' H'=>l6.le M'∧[(c, .cells (l27 a0 e d f g).toArray 27 (0,0))]::F=H'∧ρ' 1=(Iv a1)∧ρ' 2=(pt c 0)∧ρ' 5=(Iv u)∧ρ' 6=(Iv k)∧ρ' 27=(Bv g4)) g4 ?_ ?_
 have h:=i9
 refine Cg (qM (Iv k) K (qu (pt c 0) (Fa QdN I Z) (qu e (Lb 0 pl22 Z Z Z) ?_)))
 have s:=s.mono E
 refine qu (Iv (a0.Brokers.length:Int)) (lenS underlying22 Z s.len) (qu (Bv (decide (k<(a0.Brokers.length:Int)))) (lss Z Z) (qm (Bv (decide (k<(a0.Brokers.length:Int)))) ?_))
 rcases Bi h with⟨w,h⟩ |⟨w,h⟩
 refine On 23 Z Z w (qM (Iv u) J (On 23 Z Z w (qM (Iv a1) G (qo 23 w (Bv (decide (u≤a1))) (leq Z Z) (qu (Bv (decide (u≤a1))) (Pt Z w Z) (Wz ?_))))))
 obtain rfl:=oi h
 exact Tj ⟨lr,Z,G,I,J,K,Z⟩
 iterate 3 refine Of 23 Z Z w Z ?_
 refine qu (Bv false) (Pf Z w Z) (Wz ?_)
 obtain rfl:=oi h
 exact Tj ⟨lr,Z,G,I,J,K,Z⟩
 rintro n2 n3 n4 ⟨b0,rfl,b5,L,b6,b7,d6⟩
 refine Ch h d6 (fun j0 h=> ?_) (fun j0 h=> ?_)
 refine Ck (Tc (Cs (Bk (Cg (qM (Iv u) b6 (qu (pt c 0) (Fa QdN L Z) (qu e (Lb 0 pl22 Z Z Z) (qM (Iv k) b7 ?_))))))))
 obtain ⟨b8,h⟩:=QaQ h
 have s:=s.mono (E.trans b0)
 obtain ⟨j1,m3,g5,g6,hhas37⟩:=s.at b8.1 b8.2 (by decide)
 obtain rfl:=Qa2 g6
 refine qu (.pointer (some j1)) (indexAddr (n:=a0.Brokers.length) underlying22 sz71 Z Z b8.1 b8.2 g5) (qu (.pointer (some (j1.add 2))) (Fa QpG Z Z) (qu (Sv ((rd a0.Brokers k).Rack)) (loadM pl9 Z (hhas37 2 _ Z)) (qu (Iv (((rd a0.Brokers k).Rack).size:Int)) (lenStr underlying9 Z) (qu (Iv (i64.wrap ((((rd a0.Brokers k).Rack).size:Int).tdiv (40:Int)))) (quo Z Z (by decide)) (qu (Iv (i64.wrap (u+(i64.wrap ((((rd a0.Brokers k).Rack).size:Int).tdiv (40:Int)))))) (add Z Z) (qa (Iv (i64.wrap (u+(i64.wrap ((((rd a0.Brokers k).Rack).size:Int).tdiv (40:Int)))))) (Wz (Bn (Tc (Cg (qM (Iv k) b7 ?_)))))))))))
 exact qu (Iv (i64.wrap (k+1))) (add Z Z) (qa (Iv (i64.wrap (k+1))) (Wz (WQ.again (i64.wrap (u+(i64.wrap ((((rd a0.Brokers k).Rack).size:Int).tdiv (40:Int)))),i64.wrap (k+1)) (oi h).symm ⟨(E.trans b0),Z,b5,L,Z,Z⟩)))
 refine WC.exit (WQ.thenE (WQ.leaveE u (oi h).symm (fun g7=> ?_)))
 subst g7
 have h:=i8
 refine WQ.blockH ?_
 obtain rfl:=oi h
 exact Tj ⟨(E.trans b0),Z,b5,L,b6⟩
 rintro n5 j2 n6 ⟨x,rfl,e0,e1,e2⟩
 obtain ⟨g8,j3,h⟩:=bnd h
 refine Jf (fun(g8:Int) ρ' M' H'=>j2.le M'∧[(c, .cells (l27 a0 e d f g).toArray 27 (0,0))]::F=H'∧ρ' 1=(Iv a1)∧ρ' 2=(pt c 0)∧ρ' 5=(Iv g8)) g8 ?_ ?_
 have h:=j3
 refine Sr (qa (Iv 0) (Nt (Bk ?_)))
 obtain ⟨n7,j4,j5⟩:=bnd h
 clear h
 refine WC.loop j4 (fun(p_:(Int×Int)) ρ' M' H'=>match p_ with |(y,a)=>j2.le M'∧[(c, .cells (l27 a0 e d f g).toArray 27 (0,0))]::F=H'∧ρ' 1=(Iv a1)∧ρ' 2=(pt c 0)∧ρ' 5=(Iv y)∧ρ' 7=(Iv a)) ?_ ?_
 exact⟨lr,Z,e0,e1,e2,Z⟩
 rintro ⟨y,a⟩ n8 n9 l7 o0 h ⟨N,rfl,O,P,Q,R⟩
 unfold Qd4 at h
 refine Cs ?_
 obtain ⟨g9,j6,h⟩:=bnd h
 refine Jf (fun(g9:Bool) ρ' M' H'=>l7.le M'∧[(c, .cells (l27 a0 e d f g).toArray 27 (0,0))]::F=H'∧ρ' 1=(Iv a1)∧ρ' 2=(pt c 0)∧ρ' 5=(Iv y)∧ρ' 7=(Iv a)∧ρ' 49=(Bv g9)) g9 ?_ ?_
 have h:=j6
 refine Cg (qM (Iv a) R (qu (pt c 1) (Fa QbW P Z) (qu d (Lb 0 pl23 Z Z Z) ?_)))
 have j:=j.mono (x.trans N)
 refine qu (Iv (a0.Topics.length:Int)) (lenS underlying23 Z j.len) (qu (Bv (decide (a<(a0.Topics.length:Int)))) (lss Z Z) (qm (Bv (decide (a<(a0.Topics.length:Int)))) ?_))
 rcases Bi h with⟨z,h⟩ |⟨z,h⟩
 refine On 45 Z Z z (qM (Iv y) Q (On 45 Z Z z (qM (Iv a1) O (qo 45 z (Bv (decide (y≤a1))) (leq Z Z) (qu (Bv (decide (y≤a1))) (Pt Z z Z) (Wz ?_))))))
 obtain rfl:=oi h
 exact Tj ⟨lr,Z,O,P,Q,R,Z⟩
 iterate 3 refine Of 45 Z Z z Z ?_
 refine qu (Bv false) (Pf Z z Z) (Wz ?_)
 obtain rfl:=oi h
 exact Tj ⟨lr,Z,O,P,Q,R,Z⟩
 rintro o1 j7 o2 ⟨b1,rfl,b9,S,c0,c1,d7⟩
 refine Ch h d7 (fun j8 h=> ?_) (fun j8 h=> ?_)
 refine Ck (Tc ?_)
 obtain ⟨e3,j9,h⟩:=bnd h
 refine Jf (fun(e3:Int) ρ' M' H'=>j7.le M'∧[(c, .cells (l27 a0 e d f g).toArray 27 (0,0))]::F=H'∧ρ' 1=(Iv a1)∧ρ' 2=(pt c 0)∧ρ' 5=(Iv e3)∧ρ' 7=(Iv a)) e3 ?_ ?_
 have h:=j9
 refine Bk (Sr (qM (Iv y) c0 (qu (Iv (i64.wrap (y+1))) (add Z Z) (qu (pt c 1) (Fa QbW S Z) (qu d (Lb 0 pl23 Z Z Z) (qM (Iv a) c1 ?_))))))
 obtain ⟨c2,h⟩:=QaQ h
 have j:=j.mono ((x.trans N).trans b1)
 obtain ⟨k0,m4,h0,h1,hhas56⟩:=j.at c2.1 c2.2 (by decide)
 obtain ⟨l4,rfl,l5⟩:=QaN h1
 refine qu (.pointer (some k0)) (indexAddr (n:=a0.Topics.length) underlying23 sz55 Z Z c2.1 c2.2 h0) (qu (.pointer (some (k0.add 1))) (Fa QlP Z Z) (qu (Sv ((rd a0.Topics a).Name)) (loadM pl9 Z (hhas56 1 _ Z)) (qu (Iv (((rd a0.Topics a).Name).size:Int)) (lenStr underlying9 Z) (qu (Iv (i64.wrap ((((rd a0.Topics a).Name).size:Int).tdiv (40:Int)))) (quo Z Z (by decide)) (qu (Iv (i64.wrap ((i64.wrap (y+1))+(i64.wrap ((((rd a0.Topics a).Name).size:Int).tdiv (40:Int)))))) (add Z Z) (qa (Iv (i64.wrap ((i64.wrap (y+1))+(i64.wrap ((((rd a0.Topics a).Name).size:Int).tdiv (40:Int)))))) (Ns (qa (Iv 0) (Nt (Bk ?_))))))))))
 obtain ⟨o3,k1,k2⟩:=bnd h
 clear h
 refine WC.loop k1 (fun(p_:(Int×Int)) ρ' M' H'=>match p_ with |(q,b)=>j7.le M'∧[(c, .cells (l27 a0 e d f g).toArray 27 (0,0))]::F=H'∧ρ' 1=(Iv a1)∧ρ' 2=(pt c 0)∧ρ' 5=(Iv q)∧ρ' 7=(Iv a)∧ρ' 8=(Iv b)) ?_ ?_
 exact⟨lr,Z,b9,S,Z,c1,Z⟩
 rintro ⟨q,b⟩ o4 o5 l8 o6 h ⟨T,rfl,U,V,W,X,Y⟩
 unfold Qd3 at h
 refine Cs ?_
 obtain ⟨h2,k3,h⟩:=bnd h
 refine Jf (fun(h2:Bool) ρ' M' H'=>l8.le M'∧[(c, .cells (l27 a0 e d f g).toArray 27 (0,0))]::F=H'∧ρ' 1=(Iv a1)∧ρ' 2=(pt c 0)∧ρ' 5=(Iv q)∧ρ' 7=(Iv a)∧ρ' 8=(Iv b)∧ρ' 76=(Bv h2)) h2 ?_ ?_
 have h:=k3
 refine Cg (qM (Iv b) Y (qu (pt c 1) (Fa QbW V Z) (qu d (Lb 0 pl23 Z Z Z) (qM (Iv a) X ?_))))
 obtain ⟨c3,h⟩:=QaQ h
 have j:=j.mono T
 obtain ⟨k4,m5,h3,h4,hhas69⟩:=j.at c3.1 c3.2 (by decide)
 obtain ⟨e4,rfl,e5⟩:=QaN h4
 refine qu (.pointer (some k4)) (indexAddr (n:=a0.Topics.length) underlying23 sz55 Z Z c3.1 c3.2 h3) (qu (.pointer (some (k4.add 2))) (Fa QdB Z Z) (qu e4 (loadM pl53 Z (hhas69 2 _ Z)) (qu (Iv (((rd a0.Topics a).Parts).length:Int)) (lenS underlying53 Z e5.len) (qu (Bv (decide (b<(((rd a0.Topics a).Parts).length:Int)))) (lss Z Z) (qm (Bv (decide (b<(((rd a0.Topics a).Parts).length:Int)))) ?_)))))
 rcases Bi h with⟨A,h⟩ |⟨A,h⟩
 refine On 72 Z Z A (qM (Iv q) W (On 72 Z Z A (qM (Iv a1) U (qo 72 A (Bv (decide (q≤a1))) (leq Z Z) (qu (Bv (decide (q≤a1))) (Pt Z A Z) (Wz ?_))))))
 obtain rfl:=oi h
 exact Tj ⟨lr,Z,U,V,W,X,Y,Z⟩
 iterate 3 refine Of 72 Z Z A Z ?_
 refine qu (Bv false) (Pf Z A Z) (Wz ?_)
 obtain rfl:=oi h
 exact Tj ⟨lr,Z,U,V,W,X,Y,Z⟩
 rintro o7 o8 o9 ⟨b2,rfl,c4,a2,c5,a3,c6,d8⟩
 refine Ch h d8 (fun k5 h=> ?_) (fun k5 h=> ?_)
 refine Ck (Tc (Cs (Bk (Sr (qu (pt c 1) (Fa QbW a2 Z) (qu d (Lb 0 pl23 Z Z Z) (qM (Iv a) a3 ?_)))))))
 obtain ⟨c7,h⟩:=QaQ h
 have j:=j.mono (T.trans b2)
 obtain ⟨k6,m6,h5,h6,hhas78⟩:=j.at c7.1 c7.2 (by decide)
 obtain ⟨e6,rfl,e7⟩:=QaN h6
 refine qu (.pointer (some k6)) (indexAddr (n:=a0.Topics.length) underlying23 sz55 Z Z c7.1 c7.2 h5) (qu (.pointer (some (k6.add 2))) (Fa QdB Z Z) (qu e6 (loadM pl53 Z (hhas78 2 _ Z)) (qM (Iv b) c6 ?_)))
 obtain ⟨c8,h⟩:=QaQ h
 obtain ⟨l9,m7,h7,h8,hhas85⟩:=e7.at c8.1 c8.2 (by decide)
 obtain ⟨l,m,o,p,rfl,c9,d0,d1,d2⟩:=Qb7 h8
 refine qu (.pointer (some l9)) (indexAddr (n:=((rd a0.Topics a).Parts).length) underlying53 sz58 Z Z c8.1 c8.2 h7) (qu (a58_ (rd ((rd a0.Topics a).Parts) b) l m o p) (loadMA (cs:=(l58 (rd ((rd a0.Topics a).Parts) b) l m o p)) ag58 sz58 Z hhas85) (We (Al ze58 Z) Z ?_))
 rintro _ _ _ - ⟨rfl,e8,rfl,rfl⟩
 refine We (Sg (v:=(a58_ (rd ((rd a0.Topics a).Parts) b) l m o p)) (vl:=(l58 (rd ((rd a0.Topics a).Parts) b) l m o p)) (arr':=(l58 (rd ((rd a0.Topics a).Parts) b) l m o p)) Z sz58 Z Z (QbG (Oc (RS.one c9) (Oc (RS.one d0) (Oc Z (Oc Z (Oc (RS.one d1) (Oc (RS.one d2) Oz))))))) Z Z Z) Z ?_
 rintro _ _ _ - ⟨rfl,rfl⟩
 refine Nt (Cg (qM (Iv q) c5 (qu (Iv (i64.wrap (q+1))) (add Z Z) (qu (pt e8 0) (Fa QiE Z Z) (qu l (Lb 0 pl56 Z Z Z) (qu (Iv (((rd ((rd a0.Topics a).Parts) b).Ids).length:Int)) (lenS underlying56 Z c9.len) (qu (Iv (i64.wrap ((i64.wrap (q+1))+(((rd ((rd a0.Topics a).Parts) b).Ids).length:Int)))) (add Z Z) (qu (pt e8 1) (Fa QlJ Z Z) (qu m (Lb 0 pl56 Z Z Z) (qu (Iv (((rd ((rd a0.Topics a).Parts) b).Isr).length:Int)) (lenS underlying56 Z d0.len) (qu (Iv (i64.wrap ((i64.wrap ((i64.wrap (q+1))+(((rd ((rd a0.Topics a).Parts) b).Ids).length:Int)))+(((rd ((rd a0.Topics a).Parts) b).Isr).length:Int)))) (add Z Z) ?_)))))))))))
 refine qu (pt e8 4) (Fa QmT Z Z) (qu o (Lb 0 pl56 Z Z Z) (qu (Iv (((rd ((rd a0.Topics a).Parts) b).Add).length:Int)) (lenS underlying56 Z d1.len) (qu (Iv (i64.wrap ((i64.wrap ((i64.wrap ((i64.wrap (q+1))+(((rd ((rd a0.Topics a).Parts) b).Ids).length:Int)))+(((rd ((rd a0.Topics a).Parts) b).Isr).length:Int)))+(((rd ((rd a0.Topics a).Parts) b).Add).length:Int)))) (add Z Z) (qu (pt e8 5) (Fa Ql7 Z Z) (qu p (Lb 0 pl56 Z Z Z) (qu (Iv (((rd ((rd a0.Topics a).Parts) b).Drop).length:Int)) (lenS underlying56 Z d2.len) (qu (Iv (i64.wrap ((i64.wrap ((i64.wrap ((i64.wrap ((i64.wrap (q+1))+(((rd ((rd a0.Topics a).Parts) b).Ids).length:Int)))+(((rd ((rd a0.Topics a).Parts) b).Isr).length:Int)))+(((rd ((rd a0.Topics a).Parts) b).Add).length:Int)))+(((rd ((rd a0.Topics a).Parts) b).Drop).length:Int)))) (add Z Z) (qa (Iv (i64.wrap ((i64.wrap ((i64.wrap ((i64.wrap ((i64.wrap (q+1))+(((rd ((rd a0.Topics a).Parts) b).Ids).length:Int)))+(((rd ((rd a0.Topics a).Parts) b).Isr).length:Int)))+(((rd ((rd a0.Topics a).Parts) b).Add).length:Int)))+(((rd ((rd a0.Topics a).Parts) b).Drop).length:Int)))) (Wz (Bn (Tc ?_)))))))))))
 exact Cg (qM (Iv b) c6 (qu (Iv (i64.wrap (b+1))) (add Z Z) (qa (Iv (i64.wrap (b+1))) (Wz (Dr (WQ.again (i64.wrap ((i64.wrap ((i64.wrap ((i64.wrap ((i64.wrap (q+1))+(((rd ((rd a0.Topics a).Parts) b).Ids).length:Int)))+(((rd ((rd a0.Topics a).Parts) b).Isr).length:Int)))+(((rd ((rd a0.Topics a).Parts) b).Add).length:Int)))+(((rd ((rd a0.Topics a).Parts) b).Drop).length:Int)),i64.wrap (b+1)) (oi h).symm ⟨(T.trans b2),Z,c4,a2,Z,a3,Z⟩))))))
 refine WC.exit (WQ.thenE (WQ.leaveE q (oi h).symm (fun h9=> ?_)))
 subst h9
 have h:=k2
 refine WQ.blockH (Bn ?_)
 obtain rfl:=oi h
 exact Tj ⟨(T.trans b2),Z,c4,a2,c5,a3⟩
 rintro p0 p1 p2 ⟨i0,rfl,e9,f0,f1,f2⟩
 exact Cg (qM (Iv a) f2 (qu (Iv (i64.wrap (a+1))) (add Z Z) (qa (Iv (i64.wrap (a+1))) (Wz (WQ.again (e3,i64.wrap (a+1)) (oi h).symm ⟨((N.trans b1).trans i0),Z,e9,f0,f1,Z⟩)))))
 refine WC.exit (WQ.thenE (WQ.leaveE y (oi h).symm (fun i1=> ?_)))
 subst i1
 have h:=j5
 refine WQ.blockH ?_
 obtain rfl:=oi h
 exact Tj ⟨(N.trans b1),Z,b9,S,c0⟩
 rintro p3 k7 p4 ⟨b3,rfl,f3,f4,f5⟩
 obtain ⟨d9,k8,h⟩:=bnd h
 refine Jf (fun(d9:Int) ρ' M' H'=>k7.le M'∧[(c, .cells (l27 a0 e d f g).toArray 27 (0,0))]::F=H'∧ρ' 5=(Iv d9)) d9 ?_ ?_
 have h:=k8
 refine Sr (qa (Iv 0) (Nt (Bk ?_)))
 obtain ⟨p5,k9,l0⟩:=bnd h
 clear h
 refine WC.loop k9 (fun(p_:(Int×Int)) ρ' M' H'=>match p_ with |(r,i)=>k7.le M'∧[(c, .cells (l27 a0 e d f g).toArray 27 (0,0))]::F=H'∧ρ' 1=(Iv a1)∧ρ' 2=(pt c 0)∧ρ' 5=(Iv r)∧ρ' 10=(Iv i)) ?_ ?_
 exact⟨lr,Z,f3,f4,f5,Z⟩
 rintro ⟨r,i⟩ p6 p7 m0 p8 h ⟨a4,rfl,a5,a6,a7,B⟩
 unfold Qd5 at h
 refine Cs ?_
 obtain ⟨i2,l1,h⟩:=bnd h
 refine Jf (fun(i2:Bool) ρ' M' H'=>m0.le M'∧[(c, .cells (l27 a0 e d f g).toArray 27 (0,0))]::F=H'∧ρ' 1=(Iv a1)∧ρ' 2=(pt c 0)∧ρ' 5=(Iv r)∧ρ' 10=(Iv i)∧ρ' 115=(Bv i2)) i2 ?_ ?_
 have h:=l1
 refine Cg (qM (Iv i) B (qu (pt c 2) (Fa Qc5 a6 Z) (qu f (Lb 0 pl24 Z Z Z) ?_)))
 have t:=t.mono ((x.trans b3).trans a4)
 refine qu (Iv (a0.Configs.length:Int)) (lenS underlying24 Z t.len) (qu (Bv (decide (i<(a0.Configs.length:Int)))) (lss Z Z) (qm (Bv (decide (i<(a0.Configs.length:Int)))) ?_))
 rcases Bi h with⟨C,h⟩ |⟨C,h⟩
 refine On 111 Z Z C (qM (Iv r) a7 (On 111 Z Z C (qM (Iv a1) a5 (qo 111 C (Bv (decide (r≤a1))) (leq Z Z) (qu (Bv (decide (r≤a1))) (Pt Z C Z) (Wz ?_))))))
 obtain rfl:=oi h
 exact Tj ⟨lr,Z,a5,a6,a7,B,Z⟩
 iterate 3 refine Of 111 Z Z C Z ?_
 refine qu (Bv false) (Pf Z C Z) (Wz ?_)
 obtain rfl:=oi h
 exact Tj ⟨lr,Z,a5,a6,a7,B,Z⟩
 rintro p9 q0 q1 ⟨b4,rfl,f6,a8,d3,D,d5⟩
 refine Ch h d5 (fun l2 h=> ?_) (fun l2 h=> ?_)
 refine Ck (Tc (Cs (Bk (WC.draw [0,1,0,4,0,28,60,124,252,508,1023,0,2048,0,14336,30720,63488,129024,260096,524287,1048575] (.pure 0 (.pure 1 (.pure 2 (.pure 3 (.pure 4 (.pure 5 (.pure 6 (.pure 7 (.pure 8 (.pure 9 (.pure 10 (.pure 11 (.pure 12 (.pure 13 (.pure 14 (.pure 15 (.pure 16 (.pure 17 (.pure 18 (.pure 19 (.alt 20 .done .none))))))))))))))))))))) QdC (by kernel_rfl) (qt (Iv r) Z (Mv d3) (qt (Iv (i64.wrap (r+1))) Z (add Z Z) (qt (pt c 2) Z (Fa Qc5 a8 Z) (qt f Z (Lb 0 pl24 Z Z Z) (qt (Iv i) Z (Mv D) ?_)))))))))
 obtain ⟨d4,h⟩:=QaQ h
 have t:=t.mono (((x.trans b3).trans a4).trans b4)
 obtain ⟨l3,m1,f7,f8,hhas103⟩:=t.at d4.1 d4.2 (by decide)
 obtain rfl:=Qa8 f8
 refine qt (.pointer (some l3)) Z (indexAddr (n:=a0.Configs.length) underlying24 sz76 Z Z d4.1 d4.2 f7) (qt (.pointer (some (l3.add 1))) Z (Fa QfV Z Z) (qt (Sv ((rd a0.Configs i).Key)) Z (loadM pl9 Z (hhas103 1 _ Z)) (qt (Iv (((rd a0.Configs i).Key).size:Int)) Z (lenStr underlying9 Z) (qt (Iv (i64.wrap ((((rd a0.Configs i).Key).size:Int).tdiv (40:Int)))) Z (quo Z Z (by decide)) (qt (Iv (i64.wrap ((i64.wrap (r+1))+(i64.wrap ((((rd a0.Configs i).Key).size:Int).tdiv (40:Int)))))) Z (add Z Z) (qt (pt c 2) Z (Fa Qc5 a8 Z) (qt f Z (Lb 0 pl24 Z Z Z) (qt (Iv i) Z (Mv D) ?_))))))))
 obtain ⟨a9,h⟩:=QaQ h
 obtain ⟨g2,m2,f9,g0,hhas110⟩:=t.at a9.1 a9.2 (by decide)
 obtain rfl:=Qa8 g0
 refine qt (.pointer (some g2)) Z (indexAddr (n:=a0.Configs.length) underlying24 sz76 Z Z a9.1 a9.2 f9) (qt (.pointer (some (g2.add 2))) Z (Fa QfW Z Z) (qt (Sv ((rd a0.Configs i).Value)) Z (loadM pl9 Z (hhas110 2 _ Z)) (qt (Iv (((rd a0.Configs i).Value).size:Int)) Z (lenStr underlying9 Z) (qt (Iv (i64.wrap ((((rd a0.Configs i).Value).size:Int).tdiv (40:Int)))) Z (quo Z Z (by decide)) (qt (Iv (i64.wrap ((i64.wrap ((i64.wrap (r+1))+(i64.wrap ((((rd a0.Configs i).Key).size:Int).tdiv (40:Int)))))+(i64.wrap ((((rd a0.Configs i).Value).size:Int).tdiv (40:Int)))))) Z (add Z Z) (Ta Z ((Ag Z).eo) Z ?_ ?_))))))
 rintro _ _ _ - ⟨rfl,rfl,rfl⟩
 refine⟨(Sl Z), ?_⟩
 exact Ti (Bn (Tc (Cg (qM (Iv i) D (qu (Iv (i64.wrap (i+1))) (add Z Z) (qa (Iv (i64.wrap (i+1))) (Wz (WQ.again (i64.wrap ((i64.wrap ((i64.wrap (r+1))+(i64.wrap ((((rd a0.Configs i).Key).size:Int).tdiv (40:Int)))))+(i64.wrap ((((rd a0.Configs i).Value).size:Int).tdiv (40:Int)))),i64.wrap (i+1)) (oi h).symm ⟨(a4.trans b4),Z,f6,a8,Z,Z⟩))))))))
 exact Tz
 refine WC.exit (WQ.thenE (WQ.leaveE r (oi h).symm (fun i3=> ?_)))
 subst i3
 have h:=l0
 refine WQ.blockH ?_
 obtain rfl:=oi h
 exact Tj ⟨(a4.trans b4),Z,d3⟩
 rintro q2 q3 q4 ⟨i4,rfl,g1⟩
 exact Sr (qM (Iv d9) g1 (qa (Iv d9) (Nt (Cr (Dr (Rf h [] Z (Rs Z Z) ((x.trans b3).trans i4) ⟨Z,Z⟩))))))
noncomputable def QiZ (a0:QaA):Option Bool:=
 ((((QjZ a0 (300:Int)).bind fun a=>(if(decide (a≤(300:Int)))=true then(some (decide ((a0.Topics.length:Int)≤(60:Int))))else(some false))):Option Bool).bind fun b=>(some b))
def QqI (a0:QaA) (a b c d:Value):Bool→Value→IM→HL→Prop:=
 fun(e:Bool) (v:Value) (M':IM) (H':HL)=>(.bool e)=v∧H'=[]
theorem QtA (a0:QaA) (M:IM) (b a c d:Value) (m:RS QaD M b a0.Brokers) (g:RS QaG M a a0.Topics) (n:RS QaF M c a0.Configs) (o:RS QaI M d a0.Done) (res:Bool) (h:QiZ a0=some res):
 Tri prog 6 #[(a27_ a0 b a c d)] M [] (QqI a0 b a c d res):=by
 unfold QiZ at h
 refine Te func6 Z Z ?_
 intro F ρ hρ
 refine Sr (We (box (cs:=(l27 a0 b a c d).toArray) (congrArg Value.cells (asE (a27_ a0 b a c d) (hρ 0)))) Z ?_)
 rintro _ _ _ - ⟨rfl,p,rfl,rfl⟩
 refine qa (Bv false) (Nt ?_)
 obtain ⟨j,q,h⟩:=bnd h
 refine Jf (fun(j:Bool) ρ' M' H'=>M.le M'∧[(p, .cells (l27 a0 b a c d).toArray 27 (0,0))]::F=H'∧ρ' 2=(Bv j)) j ?_ ?_
 have h:=q
 refine Cg (qu (a27_ a0 b a c d) (La (cs:=(l27 a0 b a c d)) 0 ag27 sz27 Z Z Z) ?_)
 obtain ⟨k,r,h⟩:=bnd h
 refine We (Ca co17 (QrX a0 (300:Int) _ _ _ _ _ m g n o k r) (QaU Z Z)) Z ?_
 rintro _ s _ f ⟨_,⟨rfl,rfl⟩,rfl⟩
 refine WL.a0 (qu (Bv (decide (k≤300))) (leq Z Z) (qm (Bv (decide (k≤300))) ?_))
 rcases Bi h with⟨e,h⟩ |⟨e,h⟩
 refine qo 6 e (pt p 1) (Fa QbW Z Z) (qo 6 e a (Lb 0 pl23 Z Z Z) (On 6 Z Z e ?_))
 have g:=g.mono f
 refine qu (Iv (a0.Topics.length:Int)) (lenS underlying23 Z g.len) (qo 6 e (Bv (decide ((a0.Topics.length:Int)≤(60:Int)))) (leq Z Z) (qu (Bv (decide ((a0.Topics.length:Int)≤(60:Int)))) (Pt Z e Z) (qa (Bv (decide ((a0.Topics.length:Int)≤(60:Int)))) (Wz ?_))))
 obtain rfl:=oi h
 exact Tj ⟨f,Z,Z⟩
 iterate 4 refine Of 6 Z Z e Z ?_
 refine qu (Bv false) (Pf Z e Z) (qa (Bv false) (Wz ?_))
 obtain rfl:=oi h
 exact Tj ⟨f,Z,Z⟩
 rintro t u v ⟨l,rfl,i⟩
 exact Cr (Dr (Rf h [] Z (Rs Z i) l ⟨Z,Z⟩))
noncomputable def Qk3:Option (List QaK):=
 (some [Q6J,Q6H,Q6I,Q6G,Q6K,Q6L])
def QqJ:(List QaK)→Value→IM→HL→Prop:=
 fun(c:(List QaK)) (v:Value) (M':IM) (H':HL)=>∃ a b,a=v∧H'=[b]∧OwnS QjO M' a c b
theorem QtB (M:IM) (res:(List QaK)) (h:Qk3=some res):
 Tri prog 19 #[] M [] (QqJ res):=by
 unfold Qk3 at h
 refine Te func19 Z Z ?_
 intro F ρ hρ
 refine Sr (qa Zs (Ns (qu (.agg #[(Iv 2),(Iv 1),(Iv 1),(Iv 0),(Iv 0),(Iv 0),(Iv 0),(Iv 0),(Iv 0),(Bv false),(Sv ⟨#[]⟩),(Sv ⟨#[]⟩),(Sv ⟨#[]⟩),(Sv ⟨#[97]⟩),Zs,Zs,Zs,Zs]) (Bl (cl:=[(Iv 2),(Iv 1),(Iv 1),(Iv 0),(Iv 0),(Iv 0),(Iv 0),(Iv 0),(Iv 0),(Bv false),(Sv ⟨#[]⟩),(Sv ⟨#[]⟩),(Sv ⟨#[]⟩),(Sv ⟨#[97]⟩),Zs,Zs,Zs,Zs]) Q1D Q1A (Pc (Iv 2) Z Z (Pc (Iv 1) Z Z (Pc (Iv 1) Z Z (Pc (Sv ⟨#[97]⟩) Z Z Pz)))) Z) (qu (.agg #[(Iv 4),(Iv 1),(Iv 1),(Iv 0),(Iv 0),(Iv 0),(Iv 0),(Iv 0),(Iv 0),(Bv false),(Sv ⟨#[]⟩),(Sv ⟨#[]⟩),(Sv ⟨#[]⟩),(Sv ⟨#[]⟩),Zs,Zs,Zs,Zs]) (Bl (cl:=[(Iv 4),(Iv 1),(Iv 1),(Iv 0),(Iv 0),(Iv 0),(Iv 0),(Iv 0),(Iv 0),(Bv false),(Sv ⟨#[]⟩),(Sv ⟨#[]⟩),(Sv ⟨#[]⟩),(Sv ⟨#[]⟩),Zs,Zs,Zs,Zs]) Q1D Q1A (Pc (Iv 4) Z Z (Pc (Iv 1) Z Z (Pc (Iv 1) Z Z Pz))) Z) (qu (.agg #[(Iv 2),(Iv 2),(Iv 1),(Iv 0),(Iv 0),(Iv 0),(Iv 0),(Iv 0),(Iv 0),(Bv false),(Sv ⟨#[]⟩),(Sv ⟨#[]⟩),(Sv ⟨#[]⟩),(Sv ⟨#[98]⟩),Zs,Zs,Zs,Zs]) (Bl (cl:=[(Iv 2),(Iv 2),(Iv 1),(Iv 0),(Iv 0),(Iv 0),(Iv 0),(Iv 0),(Iv 0),(Bv false),(Sv ⟨#[]⟩),(Sv ⟨#[]⟩),(Sv ⟨#[]⟩),(Sv ⟨#[98]⟩),Zs,Zs,Zs,Zs]) Q1D Q1A (Pc (Iv 2) Z Z (Pc (Iv 2) Z Z (Pc (Iv 1) Z Z (Pc (Sv ⟨#[98]⟩) Z Z Pz)))) Z) (qu (.agg #[(Iv 4),(Iv 2),(Iv 1),(Iv 0),(Iv 0),(Iv 0),(Iv 0),(Iv 0),(Iv 0),(Bv false),(Sv ⟨#[]⟩),(Sv ⟨#[]⟩),(Sv ⟨#[]⟩),(Sv ⟨#[]⟩),Zs,Zs,Zs,Zs]) (Bl (cl:=[(Iv 4),(Iv 2),(Iv 1),(Iv 0),(Iv 0),(Iv 0),(Iv 0),(Iv 0),(Iv 0),(Bv false),(Sv ⟨#[]⟩),(Sv ⟨#[]⟩),(Sv ⟨#[]⟩),(Sv ⟨#[]⟩),Zs,Zs,Zs,Zs]) Q1D Q1A (Pc (Iv 4) Z Z (Pc (Iv 2) Z Z (Pc (Iv 1) Z Z Pz))) Z) (qu (.agg #[(Iv 7),(Iv 0),(Iv 0),(Iv 1),(Iv 0),(Iv 0),(Iv 0),(Iv 0),(Iv 0),(Bv false),(Sv ⟨#[116]⟩),(Sv ⟨#[]⟩),(Sv ⟨#[]⟩),(Sv ⟨#[]⟩),Zs,Zs,Zs,Zs]) (Bl (cl:=[(Iv 7),(Iv 0),(Iv 0),(Iv 1),(Iv 0),(Iv 0),(Iv 0),(Iv 0),(Iv 0),(Bv false),(Sv ⟨#[116]⟩),(Sv ⟨#[]⟩),(Sv ⟨#[]⟩),(Sv ⟨#[]⟩),Zs,Zs,Zs,Zs]) Q1D Q1A (Pc (Iv 7) Z Z (Pc (Iv 1) Z Z (Pc (Sv ⟨#[116]⟩) Z Z Pz))) Z) (We (buildSliceL (cl:=[(Iv 1),(Iv 2)]) underlying56 iz3 Z (Pc (Iv 1) Z Z (Pc (Iv 2) Z Z Pz)) Z) Z ?_))))))))
 rintro _ _ _ - ⟨rfl,a,rfl,rfl⟩
 have i:OwnS (Kd.int .i64) M (.slice (some ⟨a,0,none⟩) 2 2) [(1:Int),(2:Int)] [(a, .cells #[(Iv 1),(Iv 2)] 3 (0,0))]:=OwnS.rows (css:=[[(Iv 1)],[(Iv 2)]]) (Rows.cons Z (Rows.cons Z Rows.nil)) Z Z
 refine We (buildSliceL (cl:=[(Iv 1),(Iv 2)]) underlying56 iz3 Z (Pc (Iv 1) Z Z (Pc (Iv 2) Z Z Pz)) Z) Z ?_
 rintro _ _ _ - ⟨rfl,b,rfl,rfl⟩
 have g:OwnS (Kd.int .i64) M (.slice (some ⟨b,0,none⟩) 2 2) [(1:Int),(2:Int)] [(b, .cells #[(Iv 1),(Iv 2)] 3 (0,0))]:=OwnS.rows (css:=[[(Iv 1)],[(Iv 2)]]) (Rows.cons Z (Rows.cons Z Rows.nil)) Z Z
 refine qu (.agg #[(Iv 8),(Iv 0),(Iv 0),(Iv 1),(Iv 0),(Iv 1),(Iv 0),(Iv 0),(Iv 0),(Bv false),(Sv ⟨#[]⟩),(Sv ⟨#[]⟩),(Sv ⟨#[]⟩),(Sv ⟨#[]⟩),(.slice (some ⟨a,0,none⟩) 2 2),(.slice (some ⟨b,0,none⟩) 2 2),Zs,Zs]) (Bl (cl:=[(Iv 8),(Iv 0),(Iv 0),(Iv 1),(Iv 0),(Iv 1),(Iv 0),(Iv 0),(Iv 0),(Bv false),(Sv ⟨#[]⟩),(Sv ⟨#[]⟩),(Sv ⟨#[]⟩),(Sv ⟨#[]⟩),(.slice (some ⟨a,0,none⟩) 2 2),(.slice (some ⟨b,0,none⟩) 2 2),Zs,Zs]) Q1D Q1A (Pc (Iv 8) Z Z (Pc (Iv 1) Z Z (Parts.cons ((congrArg Value.cells (show ev _ _=(.slice (some ⟨a,0,none⟩) 2 2) from Z)).trans i.cells) (Parts.cons ((congrArg Value.cells (show ev _ _=(.slice (some ⟨b,0,none⟩) 2 2) from Z)).trans g.cells) (Pc (Iv 1) Z Z Pz))))) Z) (WL.f1 (WL.know (fun _ hs=>i.rs hs) (fun d=> ?_)))
 refine WL.freeze (fun e=> ?_)
 have g:=g.mono e
 refine WL.know (fun _ hs=>g.rs hs) (fun j=> ?_)
 refine WL.freeze (fun f=> ?_)
 refine We (buildSliceL (cl:=[(Iv 2),(Iv 1),(Iv 1),(Iv 0),(Iv 0),(Iv 0),(Iv 0),(Iv 0),(Iv 0),(Bv false),(Sv ⟨#[]⟩),(Sv ⟨#[]⟩),(Sv ⟨#[]⟩),(Sv ⟨#[97]⟩),Zs,Zs,Zs,Zs,(Iv 4),(Iv 1),(Iv 1),(Iv 0),(Iv 0),(Iv 0),(Iv 0),(Iv 0),(Iv 0),(Bv false),(Sv ⟨#[]⟩),(Sv ⟨#[]⟩),(Sv ⟨#[]⟩),(Sv ⟨#[]⟩),Zs,Zs,Zs,Zs,(Iv 2),(Iv 2),(Iv 1),(Iv 0),(Iv 0),(Iv 0),(Iv 0),(Iv 0),(Iv 0),(Bv false),(Sv ⟨#[]⟩),(Sv ⟨#[]⟩),(Sv ⟨#[]⟩),(Sv ⟨#[98]⟩),Zs,Zs,Zs,Zs,(Iv 4),(Iv 2),(Iv 1),(Iv 0),(Iv 0),(Iv 0),(Iv 0),(Iv 0),(Iv 0),(Bv false),(Sv ⟨#[]⟩),(Sv ⟨#[]⟩),(Sv ⟨#[]⟩),(Sv ⟨#[]⟩),Zs,Zs,Zs,Zs,(Iv 7),(Iv 0),(Iv 0),(Iv 1),(Iv 0),(Iv 0),(Iv 0),(Iv 0),(Iv 0),(Bv false),(Sv ⟨#[116]⟩),(Sv ⟨#[]⟩),(Sv ⟨#[]⟩),(Sv ⟨#[]⟩),Zs,Zs,Zs,Zs,(Iv 8),(Iv 0),(Iv 0),(Iv 1),(Iv 0),(Iv 1),(Iv 0),(Iv 0),(Iv 0),(Bv false),(Sv ⟨#[]⟩),(Sv ⟨#[]⟩),(Sv ⟨#[]⟩),(Sv ⟨#[]⟩),(.slice (some ⟨a,0,none⟩) 2 2),(.slice (some ⟨b,0,none⟩) 2 2),Zs,Zs]) underlying51 Q91 Z (Pc (.agg #[(Iv 2),(Iv 1),(Iv 1),(Iv 0),(Iv 0),(Iv 0),(Iv 0),(Iv 0),(Iv 0),(Bv false),(Sv ⟨#[]⟩),(Sv ⟨#[]⟩),(Sv ⟨#[]⟩),(Sv ⟨#[97]⟩),Zs,Zs,Zs,Zs]) Z Z (Pc (.agg #[(Iv 4),(Iv 1),(Iv 1),(Iv 0),(Iv 0),(Iv 0),(Iv 0),(Iv 0),(Iv 0),(Bv false),(Sv ⟨#[]⟩),(Sv ⟨#[]⟩),(Sv ⟨#[]⟩),(Sv ⟨#[]⟩),Zs,Zs,Zs,Zs]) Z Z (Pc (.agg #[(Iv 2),(Iv 2),(Iv 1),(Iv 0),(Iv 0),(Iv 0),(Iv 0),(Iv 0),(Iv 0),(Bv false),(Sv ⟨#[]⟩),(Sv ⟨#[]⟩),(Sv ⟨#[]⟩),(Sv ⟨#[98]⟩),Zs,Zs,Zs,Zs]) Z Z (Pc (.agg #[(Iv 4),(Iv 2),(Iv 1),(Iv 0),(Iv 0),(Iv 0),(Iv 0),(Iv 0),(Iv 0),(Bv false),(Sv ⟨#[]⟩),(Sv ⟨#[]⟩),(Sv ⟨#[]⟩),(Sv ⟨#[]⟩),Zs,Zs,Zs,Zs]) Z Z (Pc (.agg #[(Iv 7),(Iv 0),(Iv 0),(Iv 1),(Iv 0),(Iv 0),(Iv 0),(Iv 0),(Iv 0),(Bv false),(Sv ⟨#[116]⟩),(Sv ⟨#[]⟩),(Sv ⟨#[]⟩),(Sv ⟨#[]⟩),Zs,Zs,Zs,Zs]) Z Z (Pc (.agg #[(Iv 8),(Iv 0),(Iv 0),(Iv 1),(Iv 0),(Iv 1),(Iv 0),(Iv 0),(Iv 0),(Bv false),(Sv ⟨#[]⟩),(Sv ⟨#[]⟩),(Sv ⟨#[]⟩),(Sv ⟨#[]⟩),(.slice (some ⟨a,0,none⟩) 2 2),(.slice (some ⟨b,0,none⟩) 2 2),Zs,Zs]) Z Z Pz)))))) Z) Z ?_
 rintro _ _ _ - ⟨rfl,c,rfl,rfl⟩
 have d:=d.mono f
 have k:OwnS QjO ((M.add [(a, .cells #[(Iv 1),(Iv 2)] 3 (0,0))]).add [(b, .cells #[(Iv 1),(Iv 2)] 3 (0,0))]) (.slice (some ⟨c,0,none⟩) 6 6) [Q6J,Q6H,Q6I,Q6G,Q6K,Q6L] [(c, .cells #[(Iv 2),(Iv 1),(Iv 1),(Iv 0),(Iv 0),(Iv 0),(Iv 0),(Iv 0),(Iv 0),(Bv false),(Sv ⟨#[]⟩),(Sv ⟨#[]⟩),(Sv ⟨#[]⟩),(Sv ⟨#[97]⟩),Zs,Zs,Zs,Zs,(Iv 4),(Iv 1),(Iv 1),(Iv 0),(Iv 0),(Iv 0),(Iv 0),(Iv 0),(Iv 0),(Bv false),(Sv ⟨#[]⟩),(Sv ⟨#[]⟩),(Sv ⟨#[]⟩),(Sv ⟨#[]⟩),Zs,Zs,Zs,Zs,(Iv 2),(Iv 2),(Iv 1),(Iv 0),(Iv 0),(Iv 0),(Iv 0),(Iv 0),(Iv 0),(Bv false),(Sv ⟨#[]⟩),(Sv ⟨#[]⟩),(Sv ⟨#[]⟩),(Sv ⟨#[98]⟩),Zs,Zs,Zs,Zs,(Iv 4),(Iv 2),(Iv 1),(Iv 0),(Iv 0),(Iv 0),(Iv 0),(Iv 0),(Iv 0),(Bv false),(Sv ⟨#[]⟩),(Sv ⟨#[]⟩),(Sv ⟨#[]⟩),(Sv ⟨#[]⟩),Zs,Zs,Zs,Zs,(Iv 7),(Iv 0),(Iv 0),(Iv 1),(Iv 0),(Iv 0),(Iv 0),(Iv 0),(Iv 0),(Bv false),(Sv ⟨#[116]⟩),(Sv ⟨#[]⟩),(Sv ⟨#[]⟩),(Sv ⟨#[]⟩),Zs,Zs,Zs,Zs,(Iv 8),(Iv 0),(Iv 0),(Iv 1),(Iv 0),(Iv 1),(Iv 0),(Iv 0),(Iv 0),(Bv false),(Sv ⟨#[]⟩),(Sv ⟨#[]⟩),(Sv ⟨#[]⟩),(Sv ⟨#[]⟩),(.slice (some ⟨a,0,none⟩) 2 2),(.slice (some ⟨b,0,none⟩) 2 2),Zs,Zs] 111 (0,0))]:=OwnS.rows (css:=[[(Iv 2),(Iv 1),(Iv 1),(Iv 0),(Iv 0),(Iv 0),(Iv 0),(Iv 0),(Iv 0),(Bv false),(Sv ⟨#[]⟩),(Sv ⟨#[]⟩),(Sv ⟨#[]⟩),(Sv ⟨#[97]⟩),Zs,Zs,Zs,Zs],[(Iv 4),(Iv 1),(Iv 1),(Iv 0),(Iv 0),(Iv 0),(Iv 0),(Iv 0),(Iv 0),(Bv false),(Sv ⟨#[]⟩),(Sv ⟨#[]⟩),(Sv ⟨#[]⟩),(Sv ⟨#[]⟩),Zs,Zs,Zs,Zs],[(Iv 2),(Iv 2),(Iv 1),(Iv 0),(Iv 0),(Iv 0),(Iv 0),(Iv 0),(Iv 0),(Bv false),(Sv ⟨#[]⟩),(Sv ⟨#[]⟩),(Sv ⟨#[]⟩),(Sv ⟨#[98]⟩),Zs,Zs,Zs,Zs],[(Iv 4),(Iv 2),(Iv 1),(Iv 0),(Iv 0),(Iv 0),(Iv 0),(Iv 0),(Iv 0),(Bv false),(Sv ⟨#[]⟩),(Sv ⟨#[]⟩),(Sv ⟨#[]⟩),(Sv ⟨#[]⟩),Zs,Zs,Zs,Zs],[(Iv 7),(Iv 0),(Iv 0),(Iv 1),(Iv 0),(Iv 0),(Iv 0),(Iv 0),(Iv 0),(Bv false),(Sv ⟨#[116]⟩),(Sv ⟨#[]⟩),(Sv ⟨#[]⟩),(Sv ⟨#[]⟩),Zs,Zs,Zs,Zs],[(Iv 8),(Iv 0),(Iv 0),(Iv 1),(Iv 0),(Iv 1),(Iv 0),(Iv 0),(Iv 0),(Bv false),(Sv ⟨#[]⟩),(Sv ⟨#[]⟩),(Sv ⟨#[]⟩),(Sv ⟨#[]⟩),(.slice (some ⟨a,0,none⟩) 2 2),(.slice (some ⟨b,0,none⟩) 2 2),Zs,Zs]]) (Rows.cons (QeR (x:=Q6J) (RS.nil _ _) (RS.nil _ _) (RS.nil _ _) (RS.nil _ _)) (Rows.cons (QeR (x:=Q6H) (RS.nil _ _) (RS.nil _ _) (RS.nil _ _) (RS.nil _ _)) (Rows.cons (QeR (x:=Q6I) (RS.nil _ _) (RS.nil _ _) (RS.nil _ _) (RS.nil _ _)) (Rows.cons (QeR (x:=Q6G) (RS.nil _ _) (RS.nil _ _) (RS.nil _ _) (RS.nil _ _)) (Rows.cons (QeR (x:=Q6K) (RS.nil _ _) (RS.nil _ _) (RS.nil _ _) (RS.nil _ _)) (Rows.cons (QeR (x:=Q6L) d j (RS.nil _ _) (RS.nil _ _)) Rows.nil)))))) Z Z
 exact qa (.slice (some ⟨c,0,none⟩) 6 6) (Nt (Cr (Rf h [[(c, .cells #[(Iv 2),(Iv 1),(Iv 1),(Iv 0),(Iv 0),(Iv 0),(Iv 0),(Iv 0),(Iv 0),(Bv false),(Sv ⟨#[]⟩),(Sv ⟨#[]⟩),(Sv ⟨#[]⟩),(Sv ⟨#[97]⟩),Zs,Zs,Zs,Zs,(Iv 4),(Iv 1),(Iv 1),(Iv 0),(Iv 0),(Iv 0),(Iv 0),(Iv 0),(Iv 0),(Bv false),(Sv ⟨#[]⟩),(Sv ⟨#[]⟩),(Sv ⟨#[]⟩),(Sv ⟨#[]⟩),Zs,Zs,Zs,Zs,(Iv 2),(Iv 2),(Iv 1),(Iv 0),(Iv 0),(Iv 0),(Iv 0),(Iv 0),(Iv 0),(Bv false),(Sv ⟨#[]⟩),(Sv ⟨#[]⟩),(Sv ⟨#[]⟩),(Sv ⟨#[98]⟩),Zs,Zs,Zs,Zs,(Iv 4),(Iv 2),(Iv 1),(Iv 0),(Iv 0),(Iv 0),(Iv 0),(Iv 0),(Iv 0),(Bv false),(Sv ⟨#[]⟩),(Sv ⟨#[]⟩),(Sv ⟨#[]⟩),(Sv ⟨#[]⟩),Zs,Zs,Zs,Zs,(Iv 7),(Iv 0),(Iv 0),(Iv 1),(Iv 0),(Iv 0),(Iv 0),(Iv 0),(Iv 0),(Bv false),(Sv ⟨#[116]⟩),(Sv ⟨#[]⟩),(Sv ⟨#[]⟩),(Sv ⟨#[]⟩),Zs,Zs,Zs,Zs,(Iv 8),(Iv 0),(Iv 0),(Iv 1),(Iv 0),(Iv 1),(Iv 0),(Iv 0),(Iv 0),(Bv false),(Sv ⟨#[]⟩),(Sv ⟨#[]⟩),(Sv ⟨#[]⟩),(Sv ⟨#[]⟩),(.slice (some ⟨a,0,none⟩) 2 2),(.slice (some ⟨b,0,none⟩) 2 2),Zs,Zs] 111 (0,0))]] Z (Rs Z Z) (e.trans f) ⟨(.slice (some ⟨c,0,none⟩) 6 6),[(c, .cells #[(Iv 2),(Iv 1),(Iv 1),(Iv 0),(Iv 0),(Iv 0),(Iv 0),(Iv 0),(Iv 0),(Bv false),(Sv ⟨#[]⟩),(Sv ⟨#[]⟩),(Sv ⟨#[]⟩),(Sv ⟨#[97]⟩),Zs,Zs,Zs,Zs,(Iv 4),(Iv 1),(Iv 1),(Iv 0),(Iv 0),(Iv 0),(Iv 0),(Iv 0),(Iv 0),(Bv false),(Sv ⟨#[]⟩),(Sv ⟨#[]⟩),(Sv ⟨#[]⟩),(Sv ⟨#[]⟩),Zs,Zs,Zs,Zs,(Iv 2),(Iv 2),(Iv 1),(Iv 0),(Iv 0),(Iv 0),(Iv 0),(Iv 0),(Iv 0),(Bv false),(Sv ⟨#[]⟩),(Sv ⟨#[]⟩),(Sv ⟨#[]⟩),(Sv ⟨#[98]⟩),Zs,Zs,Zs,Zs,(Iv 4),(Iv 2),(Iv 1),(Iv 0),(Iv 0),(Iv 0),(Iv 0),(Iv 0),(Iv 0),(Bv false),(Sv ⟨#[]⟩),(Sv ⟨#[]⟩),(Sv ⟨#[]⟩),(Sv ⟨#[]⟩),Zs,Zs,Zs,Zs,(Iv 7),(Iv 0),(Iv 0),(Iv 1),(Iv 0),(Iv 0),(Iv 0),(Iv 0),(Iv 0),(Bv false),(Sv ⟨#[116]⟩),(Sv ⟨#[]⟩),(Sv ⟨#[]⟩),(Sv ⟨#[]⟩),Zs,Zs,Zs,Zs,(Iv 8),(Iv 0),(Iv 0),(Iv 1),(Iv 0),(Iv 1),(Iv 0),(Iv 0),(Iv 0),(Bv false),(Sv ⟨#[]⟩),(Sv ⟨#[]⟩),(Sv ⟨#[]⟩),(Sv ⟨#[]⟩),(.slice (some ⟨a,0,none⟩) 2 2),(.slice (some ⟨b,0,none⟩) 2 2),Zs,Zs] 111 (0,0))],Z,Z,k⟩)))
noncomputable def Qj0 (a1:Int) (b:ByteArray) (s_:Int):Option (Int⊕(Unit⊕Unit)):=
 match s_ with
 |a=>
 (if(decide (a<(b.size:Int)))=true then(grd (0≤a∧a<b.size) (if(decide ((btAt b a)=a1))=true then(some (inr (inr ())))else(some (inl (i64.wrap (a+(1:Int)))))))else(some (inr (inl ()))))
noncomputable def Qa1 (a0:Int) (a1:Int):Option Bool:=
 (((if(decide (a0=(2:Int)))=true then(some (⟨#[98,101,114]⟩:ByteArray))else(((if(decide (a0=(3:Int)))=true then(some (decide (a0=(3:Int))))else(if(decide (a0=(4:Int)))=true then(some (decide (a0=(4:Int))))else(if(decide (a0=(5:Int)))=true then(some (decide (a0=(5:Int))))else(some (decide (a0=(6:Int))))))):Option Bool).bind fun a=>(if a=true then(some (⟨#[98,101]⟩:ByteArray))else(if(decide (a0=(7:Int)))=true then(some (⟨#[116,110]⟩:ByteArray))else(if(decide (a0=(8:Int)))=true then(some (⟨#[116,112,108,105,109]⟩:ByteArray))else(if(decide (a0=(9:Int)))=true then(some (⟨#[116,101,112,108,105,109,120]⟩:ByteArray))else(if(decide (a0=(10:Int)))=true then(some (⟨#[116,107,118,102]⟩:ByteArray))else(if(decide (a0=(11:Int)))=true then(some (⟨#[116]⟩:ByteArray))else(if(decide (a0=(12:Int)))=true then(some (⟨#[97]⟩:ByteArray))else(some (⟨#[]⟩:ByteArray))))))))))):Option ByteArray).bind fun b=>((((iter (Qj0 a1 b) (0:Int)).bind (Sum.elim (fun _=>(some (inl ()))) (fun _=>(((some true)).bind fun r=>some (inr r))))):Option (Unit⊕Bool)).bind (Sum.elim (fun _=>(some false)) some)))
def QtC (a0:Int) (a1:Int):Bool→Value→IM→HL→Prop:=
 fun(a:Bool) (v:Value) (M':IM) (H':HL)=>(.bool a)=v∧H'=[]
theorem QbT (a0:Int) (a1:Int) (M:IM) (res:Bool) (h:Qa1 a0 a1=some res):
 Tri prog 127 #[(Iv a0),(Yv a1)] M [] (QtC a0 a1 res):=by
 unfold Qa1 at h
 refine Te func127 Z Z ?_
 intro F ρ hρ
 refine Sr (qa (Bv false) (Ns (qa (Sv ⟨#[]⟩) (Nt ?_))))
 obtain ⟨e,u,h⟩:=bnd h
 refine Jf (fun(e:ByteArray) ρ' M' H'=>M.le M'∧F=H'∧ρ' 1=(Yv a1)∧ρ' 5=(Sv e)) e ?_ ?_
 have h:=u
 refine Sr (qM (Iv a0) (hρ 0) (Nt (Bk (Sr (qu (Bv (decide (a0=2))) (eql Z Z) (qa (Bv (decide (a0=2))) (Nt (Ch h Z (fun v h=> ?_) (fun v h=> ?_)))))))))
 refine Cg (qa (Sv ⟨#[98,101,114]⟩) (Wz (Bn ?_)))
 obtain rfl:=oi h
 exact Tj ⟨lr,Z,(hρ 1),Z⟩
 obtain ⟨s,w,h⟩:=bnd h
 refine Jf (fun(s:Bool) ρ' M' H'=>M.le M'∧F=H'∧ρ' 1=(Yv a1)∧ρ' 5=(Sv ⟨#[]⟩)∧ρ' 7=(Iv a0)∧ρ' 10=(Bv s)) s ?_ ?_
 have h:=w
 refine Sr (qu (Bv (decide (a0=3))) (eql Z Z) (qa (Bv (decide (a0=3))) (Nt (Ch h Z (fun x h=> ?_) (fun x h=> ?_)))))
 refine Ck ?_
 obtain rfl:=oi h
 exact Tj ⟨lr,Z,(hρ 1),Z,Z,Z⟩
 refine Sr (qu (Bv (decide (a0=4))) (eql Z Z) (qa (Bv (decide (a0=4))) (Nt (Ch h Z (fun y h=> ?_) (fun y h=> ?_)))))
 refine Ck ?_
 obtain rfl:=oi h
 exact Tj ⟨lr,Z,(hρ 1),Z,Z,Z⟩
 refine Sr (qu (Bv (decide (a0=5))) (eql Z Z) (qa (Bv (decide (a0=5))) (Nt (Ch h Z (fun z h=> ?_) (fun z h=> ?_)))))
 refine Ck ?_
 obtain rfl:=oi h
 exact Tj ⟨lr,Z,(hρ 1),Z,Z,Z⟩
 refine Cg (qu (Bv (decide (a0=6))) (eql Z Z) (qa (Bv (decide (a0=6))) (Wz ?_)))
 obtain rfl:=oi h
 exact Tj ⟨lr,Z,(hρ 1),Z,Z,Z⟩
 rintro R S T ⟨b,rfl,a,n,c,l⟩
 refine Ch h l (fun A h=> ?_) (fun A h=> ?_)
 refine Cg (qa (Sv ⟨#[98,101]⟩) (Wz (Bn ?_)))
 obtain rfl:=oi h
 exact Tj ⟨b,Z,a,Z⟩
 refine Sr (qu (Bv (decide (a0=7))) (eql c Z) (qa (Bv (decide (a0=7))) (Nt (Ch h Z (fun B h=> ?_) (fun B h=> ?_)))))
 refine Cg (qa (Sv ⟨#[116,110]⟩) (Wz (Bn ?_)))
 obtain rfl:=oi h
 exact Tj ⟨b,Z,a,Z⟩
 refine Sr (qu (Bv (decide (a0=8))) (eql c Z) (qa (Bv (decide (a0=8))) (Nt (Ch h Z (fun C h=> ?_) (fun C h=> ?_)))))
 refine Cg (qa (Sv ⟨#[116,112,108,105,109]⟩) (Wz (Bn ?_)))
 obtain rfl:=oi h
 exact Tj ⟨b,Z,a,Z⟩
 refine Sr (qu (Bv (decide (a0=9))) (eql c Z) (qa (Bv (decide (a0=9))) (Nt (Ch h Z (fun D h=> ?_) (fun D h=> ?_)))))
 refine Cg (qa (Sv ⟨#[116,101,112,108,105,109,120]⟩) (Wz (Bn ?_)))
 obtain rfl:=oi h
 exact Tj ⟨b,Z,a,Z⟩
 refine Sr (qu (Bv (decide (a0=10))) (eql c Z) (qa (Bv (decide (a0=10))) (Nt (Ch h Z (fun E h=> ?_) (fun E h=> ?_)))))
 refine Cg (qa (Sv ⟨#[116,107,118,102]⟩) (Wz (Bn ?_)))
 obtain rfl:=oi h
 exact Tj ⟨b,Z,a,Z⟩
 refine Sr (qu (Bv (decide (a0=11))) (eql c Z) (qa (Bv (decide (a0=11))) (Nt (Ch h Z (fun G h=> ?_) (fun G h=> ?_)))))
 refine Cg (qa (Sv ⟨#[116]⟩) (Wz (Bn ?_)))
 obtain rfl:=oi h
 exact Tj ⟨b,Z,a,Z⟩
 refine Sr (qu (Bv (decide (a0=12))) (eql c Z) (qa (Bv (decide (a0=12))) (Nt (Ch h Z (fun I h=> ?_) (fun I h=> ?_)))))
 refine Cg (qa (Sv ⟨#[97]⟩) (Wz (Bn ?_)))
 obtain rfl:=oi h
 exact Tj ⟨b,Z,a,Z⟩
 refine Ck (Bn ?_)
 obtain rfl:=oi h
 exact Tj ⟨b,Z,a,n⟩
 rintro U J V ⟨m,rfl,o,p⟩
 obtain ⟨Q,K,h⟩:=bnd h
 refine WC.joinE (fun(_:Unit) ρ' M' H'=>J.le M'∧F=H') Q ?_ ?_
 have L:=h
 have h:=K
 refine Sr (qa (Iv 0) (Nt (Bk ?_)))
 obtain ⟨W,N,q⟩:=bnd h
 clear h
 refine WC.loop N (fun(d:Int) ρ' M' H'=>J.le M'∧F=H'∧ρ' 1=(Yv a1)∧ρ' 5=(Sv e)∧ρ' 6=(Iv d)) ?_ ?_
 exact⟨lr,Z,o,p,Z⟩
 rintro d X Y a2 a3 h ⟨i,rfl,k,f,g⟩
 unfold Qj0 at h
 refine Cs (Sr (qM (Iv d) g (qM (Sv e) f (qu (Iv (e.size:Int)) (lenStr underlying9 Z) (qu (Bv (decide (d<(e.size:Int)))) (lss Z Z) (Nt (Ch h Z (fun O h=> ?_) (fun O h=> ?_))))))))
 refine Ck (Tc (Cs (Bk (Sr (qM (Sv e) f (qM (Iv d) g ?_))))))
 obtain ⟨r,h⟩:=QaQ h
 refine qu (Yv (btAt e d)) (indexStr underlying9 Z Z r.1 (Q67 r)) (qM (Yv a1) k (qu (Bv (decide ((btAt e d)=a1))) (eql Z Z) (Nt (Ch h Z (fun P h=> ?_) (fun P h=> ?_)))))
 refine Sr (qa (Bv true) (Nt (Cr (Br (Tr (WQ.leaveR (inr ()) (oi h).symm (fun j=> ?_)))))))
 subst j
 have h:=(QdO q)
 refine Br (Tr ?_)
 have h:=KK.early h L
 exact Rf h [] Z (Rs Z Z) (m.trans i) ⟨Z,Z⟩
 exact Ck (Bn (Tc (Cg (qM (Iv d) g (qu (Iv (i64.wrap (d+1))) (add Z Z) (qa (Iv (i64.wrap (d+1))) (Wz (WQ.again (i64.wrap (d+1)) (oi h).symm ⟨i,Z,k,f,Z⟩))))))))
 refine WC.exit (WQ.thenE (WQ.leaveE (inl ()) (oi h).symm (fun j=> ?_)))
 subst j
 have h:=QeJ q
 exact WQ.blockH (WQ.thenFE h ⟨i,Z⟩)
 rintro _ a4 a5 a6 rfl ⟨t,rfl⟩
 have h:=(Sum.elim_inl _ _ _).symm.trans h
 exact Sr (qa (Bv false) (Nt (Cr (Rf h [] Z (Rs Z Z) (m.trans t) ⟨Z,Z⟩))))
noncomputable def QdP (a0:Int) (a1:Bool) (a2:Int) (a3:Int):Option Bool:=
 (if a1=true then(((if(decide (a2≤a0))=true then(some (decide (a0≤a3)))else(some false)):Option Bool).bind fun a=>(some a))else(some (decide (a0=(0:Int)))))
def QtD (a0:Int) (a1:Bool) (a2:Int) (a3:Int):Bool→Value→IM→HL→Prop:=
 fun(a:Bool) (v:Value) (M':IM) (H':HL)=>(.bool a)=v∧H'=[]
theorem Qd0 (a0:Int) (a1:Bool) (a2:Int) (a3:Int) (M:IM) (res:Bool) (h:QdP a0 a1 a2 a3=some res):
 Tri prog 147 #[(Iv a0),(Bv a1),(Iv a2),(Iv a3)] M [] (QtD a0 a1 a2 a3 res):=by
 unfold QdP at h
 refine Te func147 Z Z ?_
 intro F ρ hρ
 refine Sr (qa (Bv false) (Nt (Cs (Sr (qM (Bv a1) (hρ 1) (Nt (Ch h Z (fun e h=> ?_) (fun e h=> ?_))))))))
 obtain ⟨c,f,h⟩:=bnd h
 refine Jf (fun(c:Bool) ρ' M' H'=>M.le M'∧F=H'∧ρ' 8=(Bv c)) c ?_ ?_
 have h:=f
 refine Cg (qM (Iv a0) (hρ 0) (qM (Iv a2) (hρ 2) (qu (Bv (decide (a2≤a0))) (geq Z Z) (qm (Bv (decide (a2≤a0))) ?_))))
 rcases Bi h with⟨a,h⟩ |⟨a,h⟩
 refine On 13 Z Z a (qM (Iv a0) (hρ 0) (On 13 Z Z a (qM (Iv a3) (hρ 3) (qo 13 a (Bv (decide (a0≤a3))) (leq Z Z) (qu (Bv (decide (a0≤a3))) (Pt Z a Z) (qa (Bv (decide (a0≤a3))) (Wz ?_)))))))
 obtain rfl:=oi h
 exact Tj ⟨lr,Z,Z⟩
 iterate 3 refine Of 13 Z Z a Z ?_
 refine qu (Bv false) (Pf Z a Z) (qa (Bv false) (Wz ?_))
 obtain rfl:=oi h
 exact Tj ⟨lr,Z,Z⟩
 rintro g i j ⟨d,rfl,b⟩
 exact Cr (Tr (Rf h [] Z (Rs Z b) d ⟨Z,Z⟩))
 exact Ck (Tc (Sr (qM (Iv a0) (hρ 0) (qu (Bv (decide (a0=0))) (eql Z Z) (qa (Bv (decide (a0=0))) (Nt (Cr (Rf h [] Z (Rs Z Z) lr ⟨Z,Z⟩))))))))
noncomputable def Qi0 (a0:QaK):Option QaV:=
 (((if(decide (a0.Kind=(10:Int)))=true then(some (0:Int))else(some (1:Int))):Option Int).bind fun c=>((Qa1 a0.Kind (98:Int)).bind fun d=>((QdP a0.Broker d (1:Int) (64:Int)).bind fun e=>(if(!e)=true then(some (⟨(⟨#[98,114,111,107,101,114]⟩:ByteArray),a0.Broker,(2:Int)⟩:QaV))else((Qa1 a0.Kind (101:Int)).bind fun f=>((QdP a0.Epoch f (0:Int) (1073741824:Int)).bind fun g=>(if(!g)=true then(some (⟨(⟨#[101,112,111,99,104]⟩:ByteArray),a0.Epoch,(2:Int)⟩:QaV))else((Qa1 a0.Kind (116:Int)).bind fun i=>((QdP a0.Topic i c (1073741824:Int)).bind fun j=>(if(!j)=true then(some (⟨(⟨#[116,111,112,105,99]⟩:ByteArray),a0.Topic,(2:Int)⟩:QaV))else((Qa1 a0.Kind (112:Int)).bind fun k=>((QdP a0.Part k (0:Int) (255:Int)).bind fun l=>(if(!l)=true then(some (⟨(⟨#[112,97,114,116]⟩:ByteArray),a0.Part,(2:Int)⟩:QaV))else((Qa1 a0.Kind (108:Int)).bind fun m=>((QdP a0.Leader m (0:Int) (64:Int)).bind fun n=>(if(!n)=true then(some (⟨(⟨#[108,101,97,100,101,114]⟩:ByteArray),a0.Leader,(2:Int)⟩:QaV))else((((Qa1 a0.Kind (97:Int)).bind fun o=>((QdP a0.Client o (1:Int) (1073741824:Int)).bind fun p=>(if(!p)=true then(some true)else((Qa1 a0.Kind (97:Int)).bind fun q=>((QdP a0.Serial q (1:Int) (1073741824:Int)).bind fun r=>(if(!r)=true then(some true)else((Qa1 a0.Kind (97:Int)).bind fun a=>((QdP a0.Code a (0:Int) (21:Int)).bind fun b=>(some (!b)))))))))):Option Bool).bind fun s=>(if s=true then(some (⟨(⟨#[97,115,107,101,114]⟩:ByteArray),a0.Client,(2:Int)⟩:QaV))else(some (⟨(⟨#[]⟩:ByteArray),(0:Int),(0:Int)⟩:QaV))))))))))))))))))))
def QoQ (a0:QaK) (a b c d:Value):QaV→Value→IM→HL→Prop:=
 fun(e:QaV) (v:Value) (M':IM) (H':HL)=>(.agg #[(.string e.Op),(.int .i64 e.At),(.int .i64 e.Code)])=v∧H'=[]
theorem QqK (a0:QaK) (M:IM) (i j k l:Value) (d7:RS (Kd.int .i64) M i a0.Ids) (d8:RS (Kd.int .i64) M j a0.Isr) (d9:RS (Kd.int .i64) M k a0.Add) (e0:RS (Kd.int .i64) M l a0.Drop) (res:QaV) (h:Qi0 a0=some res):
 Tri prog 126 #[(QjY a0 i j k l)] M [] (QoQ a0 i j k l res):=by
 unfold Qi0 at h
 refine Te func126 Z Z ?_
 intro F ρ hρ
 refine Sr (We (box (cs:=(l111 a0 i j k l).toArray) (congrArg Value.cells (asE (QjY a0 i j k l) (hρ 0)))) Z ?_)
 rintro _ _ _ - ⟨rfl,g,rfl,rfl⟩
 refine We (Al Qn1 Z) Z ?_
 rintro _ _ _ - ⟨rfl,x,rfl,rfl⟩
 refine Ns (qu (pt g 0) (Fa Qu9 Z Z) (qu (Iv a0.Kind) (Lb 1 pl3 Z Z Z) (qa (Iv a0.Kind) (Ns (qa (Iv 1073741824) (Ns (qa (Iv 1) (Nt ?_))))))))
 obtain ⟨r,Y,h⟩:=bnd h
 refine Jf (fun(r:Int) ρ' M' H'=>M.le M'∧[(x, .cells #[(Sv ⟨#[]⟩),(Iv 0),(Iv 0)] 144 (0,0))]::[(g, .cells (l111 a0 i j k l).toArray 111 (0,0))]::F=H'∧ρ' 1=(pt g 0)∧ρ' 2=(pt x 0)∧ρ' 3=(Iv a0.Kind)∧ρ' 4=(Iv 1073741824)∧ρ' 5=(Iv r)) r ?_ ?_
 have h:=Y
 refine Sr (qm (Iv a0.Kind) (qu (Bv (decide (a0.Kind=10))) (eql Z Z) (Nt (Ch h Z (fun a1 h=> ?_) (fun a1 h=> ?_)))))
 refine Cg (qa (Iv 0) (Wz ?_))
 obtain rfl:=oi h
 exact Tj ⟨lr,Z,Z,Z,Z,Z,Z⟩
 refine Ck ?_
 obtain rfl:=oi h
 exact Tj ⟨lr,Z,Z,Z,Z,Z,Z⟩
 rintro f0 f1 f2 ⟨D,rfl,a,d,e,f,p⟩
 refine Cs (Cs (WC.draw [0,1,0,4,15,31] (.pure 0 (.pure 1 (.pure 2 (.alt 3 (.alt 4 (.pure 5 .done) .none) .none)))) QdC (by kernel_rfl) (qt (pt g 1) Z (Fa Qp6 a Z) (qt (Iv a0.Broker) Z (Lb 1 pl3 Z Z Z) (qt (Iv a0.Kind) Z (Mv e) ?_)))))
 obtain ⟨a2,a3,h⟩:=bnd h
 refine Ta Z (Ca QnU (QbT a0.Kind (98:Int) _ a2 a3) (QaU Z Z)) Z ?_ ?_
 rintro _ f3 _ E ⟨_,⟨rfl,rfl⟩,rfl⟩
 have e1:=D.trans E
 refine⟨(Sk 1 Z (Ss Z (Lb 1 pl3 Z Z Z) Z (Ss Z (Fa Qp6 a Z) Z trivial))), ?_⟩
 refine WT.a0 ?_
 obtain ⟨a4,a5,h⟩:=bnd h
 refine Ta Z (Ca QyA (Qd0 a0.Broker a2 (1:Int) (64:Int) _ a4 a5) (QlT Z Z Z Z)) Z ?_ ?_
 rintro _ f4 _ G ⟨_,⟨rfl,rfl⟩,rfl⟩
 have a6:=e1.trans G
 refine⟨(Sl Z), ?_⟩
 refine WT.a0 (qt (Bv (!a4)) Z (PO.not Z) (Ti (Tc (Ch h Z (fun a7 h=> ?_) (fun a7 h=> ?_)))))
 refine Sr (qu (pt g 1) (Fa Qp6 a Z) (qu (Iv a0.Broker) (Lb 1 pl3 Z Z Z) (qu (.agg #[(Sv ⟨#[98,114,111,107,101,114]⟩),(Iv a0.Broker),(Iv 2)]) (Bl (cl:=[(Sv ⟨#[98,114,111,107,101,114]⟩),(Iv a0.Broker),(Iv 2)]) Qn1 QsQ (Pc (Sv ⟨#[98,114,111,107,101,114]⟩) Z Z (Pc (Iv a0.Broker) Z Z (Pc (Iv 2) Z Z Pz))) Z) (We (Sg (v:=(.agg #[(Sv ⟨#[98,114,111,107,101,114]⟩),(Iv a0.Broker),(Iv 2)])) (vl:=[(Sv ⟨#[98,114,111,107,101,114]⟩),(Iv a0.Broker),(Iv 2)]) (arr':=[(Sv ⟨#[98,114,111,107,101,114]⟩),(Iv a0.Broker),(Iv 2)]) Z QiQ d Z (onb Z) Z Z Z) Z ?_))))
 rintro _ _ _ - ⟨rfl,rfl⟩
 exact Nt (Cr (Tr (Qa (Dr (Rd h [] (fun _ hs=>hs.drop) (QbH Z (Rc (cs:=[(Sv ⟨#[98,114,111,107,101,114]⟩),(Iv a0.Broker),(Iv 2)]) 0 Qp5 QiQ d Z Z)) a6 ⟨Z,Z⟩)))))
 refine Ck (Tc (Cs (Cs (WC.draw [0,1,0,4,0,31,63] (.pure 0 (.pure 1 (.pure 2 (.pure 4 (.alt 3 (.alt 5 (.pure 6 .done) .none) .none))))) QdC (by kernel_rfl) (qt (pt g 2) Z (Fa Ql1 a Z) (qt (Iv a0.Epoch) Z (Lb 1 pl3 Z Z Z) (qt (Iv a0.Kind) Z (Mv e) (qt (Iv 1073741824) Z (Mv f) ?_))))))))
 obtain ⟨a8,a9,h⟩:=bnd h
 refine Ta Z (Ca QnU (QbT a0.Kind (101:Int) _ a8 a9) (QaU Z Z)) Z ?_ ?_
 rintro _ f5 _ I ⟨_,⟨rfl,rfl⟩,rfl⟩
 have e2:=a6.trans I
 refine⟨(Ss Z (Mv f) Z (Sk 1 Z (Ss Z (Lb 1 pl3 Z Z Z) Z (Ss Z (Fa Ql1 a Z) Z trivial)))), ?_⟩
 refine WT.a0 ?_
 obtain ⟨b0,b1,h⟩:=bnd h
 refine Ta Z (Ca QyA (Qd0 a0.Epoch a8 (0:Int) (1073741824:Int) _ b0 b1) (QlT Z Z Z Z)) Z ?_ ?_
 rintro _ f6 _ J ⟨_,⟨rfl,rfl⟩,rfl⟩
 have b2:=e2.trans J
 refine⟨(Sl Z), ?_⟩
 refine WT.a0 (qt (Bv (!b0)) Z (PO.not Z) (Ti (Tc (Ch h Z (fun b3 h=> ?_) (fun b3 h=> ?_)))))
 refine Sr (qu (pt g 2) (Fa Ql1 a Z) (qu (Iv a0.Epoch) (Lb 1 pl3 Z Z Z) (qu (.agg #[(Sv ⟨#[101,112,111,99,104]⟩),(Iv a0.Epoch),(Iv 2)]) (Bl (cl:=[(Sv ⟨#[101,112,111,99,104]⟩),(Iv a0.Epoch),(Iv 2)]) Qn1 QsQ (Pc (Sv ⟨#[101,112,111,99,104]⟩) Z Z (Pc (Iv a0.Epoch) Z Z (Pc (Iv 2) Z Z Pz))) Z) (We (Sg (v:=(.agg #[(Sv ⟨#[101,112,111,99,104]⟩),(Iv a0.Epoch),(Iv 2)])) (vl:=[(Sv ⟨#[101,112,111,99,104]⟩),(Iv a0.Epoch),(Iv 2)]) (arr':=[(Sv ⟨#[101,112,111,99,104]⟩),(Iv a0.Epoch),(Iv 2)]) Z QiQ d Z (onb Z) Z Z Z) Z ?_))))
 rintro _ _ _ - ⟨rfl,rfl⟩
 exact Nt (Cr (Tr (Qa (Dr (Rd h [] (fun _ hs=>hs.drop) (QbH Z (Rc (cs:=[(Sv ⟨#[101,112,111,99,104]⟩),(Iv a0.Epoch),(Iv 2)]) 0 Qp5 QiQ d Z Z)) b2 ⟨Z,Z⟩)))))
 refine Ck (Tc (Cs (Cs (WC.draw [0,1,0,4,0,0,63,127] (.pure 0 (.pure 1 (.pure 2 (.pure 4 (.pure 5 (.alt 3 (.alt 6 (.pure 7 .done) .none) .none)))))) QdC (by kernel_rfl) (qt (pt g 3) Z (Fa QgV a Z) (qt (Iv a0.Topic) Z (Lb 1 pl3 Z Z Z) (qt (Iv a0.Kind) Z (Mv e) (qt (Iv r) Z (Mv p) (qt (Iv 1073741824) Z (Mv f) ?_)))))))))
 obtain ⟨b4,b5,h⟩:=bnd h
 refine Ta Z (Ca QnU (QbT a0.Kind (116:Int) _ b4 b5) (QaU Z Z)) Z ?_ ?_
 rintro _ f7 _ K ⟨_,⟨rfl,rfl⟩,rfl⟩
 have e3:=b2.trans K
 refine⟨(Ss Z (Mv f) Z (Ss Z (Mv p) Z (Sk 1 Z (Ss Z (Lb 1 pl3 Z Z Z) Z (Ss Z (Fa QgV a Z) Z trivial))))), ?_⟩
 refine WT.a0 ?_
 obtain ⟨b6,b7,h⟩:=bnd h
 refine Ta Z (Ca QyA (Qd0 a0.Topic b4 r (1073741824:Int) _ b6 b7) (QlT Z Z Z Z)) Z ?_ ?_
 rintro _ f8 _ L ⟨_,⟨rfl,rfl⟩,rfl⟩
 have b8:=e3.trans L
 refine⟨(Sl Z), ?_⟩
 refine WT.a0 (qt (Bv (!b6)) Z (PO.not Z) (Ti (Tc (Ch h Z (fun b9 h=> ?_) (fun b9 h=> ?_)))))
 refine Sr (qu (pt g 3) (Fa QgV a Z) (qu (Iv a0.Topic) (Lb 1 pl3 Z Z Z) (qu (.agg #[(Sv ⟨#[116,111,112,105,99]⟩),(Iv a0.Topic),(Iv 2)]) (Bl (cl:=[(Sv ⟨#[116,111,112,105,99]⟩),(Iv a0.Topic),(Iv 2)]) Qn1 QsQ (Pc (Sv ⟨#[116,111,112,105,99]⟩) Z Z (Pc (Iv a0.Topic) Z Z (Pc (Iv 2) Z Z Pz))) Z) (We (Sg (v:=(.agg #[(Sv ⟨#[116,111,112,105,99]⟩),(Iv a0.Topic),(Iv 2)])) (vl:=[(Sv ⟨#[116,111,112,105,99]⟩),(Iv a0.Topic),(Iv 2)]) (arr':=[(Sv ⟨#[116,111,112,105,99]⟩),(Iv a0.Topic),(Iv 2)]) Z QiQ d Z (onb Z) Z Z Z) Z ?_))))
 rintro _ _ _ - ⟨rfl,rfl⟩
 exact Nt (Cr (Tr (Qa (Dr (Rd h [] (fun _ hs=>hs.drop) (QbH Z (Rc (cs:=[(Sv ⟨#[116,111,112,105,99]⟩),(Iv a0.Topic),(Iv 2)]) 0 Qp5 QiQ d Z Z)) b8 ⟨Z,Z⟩)))))
 refine Ck (Tc (Cs (Cs (WC.draw [0,1,0,4,15,31] (.pure 0 (.pure 1 (.pure 2 (.alt 3 (.alt 4 (.pure 5 .done) .none) .none)))) QdC (by kernel_rfl) (qt (pt g 4) Z (Fa QnV a Z) (qt (Iv a0.Part) Z (Lb 1 pl3 Z Z Z) (qt (Iv a0.Kind) Z (Mv e) ?_)))))))
 obtain ⟨c0,c1,h⟩:=bnd h
 refine Ta Z (Ca QnU (QbT a0.Kind (112:Int) _ c0 c1) (QaU Z Z)) Z ?_ ?_
 rintro _ f9 _ N ⟨_,⟨rfl,rfl⟩,rfl⟩
 have e4:=b8.trans N
 refine⟨(Sk 1 Z (Ss Z (Lb 1 pl3 Z Z Z) Z (Ss Z (Fa QnV a Z) Z trivial))), ?_⟩
 refine WT.a0 ?_
 obtain ⟨c2,c3,h⟩:=bnd h
 refine Ta Z (Ca QyA (Qd0 a0.Part c0 (0:Int) (255:Int) _ c2 c3) (QlT Z Z Z Z)) Z ?_ ?_
 rintro _ g0 _ O ⟨_,⟨rfl,rfl⟩,rfl⟩
 have c4:=e4.trans O
 refine⟨(Sl Z), ?_⟩
 refine WT.a0 (qt (Bv (!c2)) Z (PO.not Z) (Ti (Tc (Ch h Z (fun c5 h=> ?_) (fun c5 h=> ?_)))))
 refine Sr (qu (pt g 4) (Fa QnV a Z) (qu (Iv a0.Part) (Lb 1 pl3 Z Z Z) (qu (.agg #[(Sv ⟨#[112,97,114,116]⟩),(Iv a0.Part),(Iv 2)]) (Bl (cl:=[(Sv ⟨#[112,97,114,116]⟩),(Iv a0.Part),(Iv 2)]) Qn1 QsQ (Pc (Sv ⟨#[112,97,114,116]⟩) Z Z (Pc (Iv a0.Part) Z Z (Pc (Iv 2) Z Z Pz))) Z) (We (Sg (v:=(.agg #[(Sv ⟨#[112,97,114,116]⟩),(Iv a0.Part),(Iv 2)])) (vl:=[(Sv ⟨#[112,97,114,116]⟩),(Iv a0.Part),(Iv 2)]) (arr':=[(Sv ⟨#[112,97,114,116]⟩),(Iv a0.Part),(Iv 2)]) Z QiQ d Z (onb Z) Z Z Z) Z ?_))))
 rintro _ _ _ - ⟨rfl,rfl⟩
 exact Nt (Cr (Tr (Qa (Dr (Rd h [] (fun _ hs=>hs.drop) (QbH Z (Rc (cs:=[(Sv ⟨#[112,97,114,116]⟩),(Iv a0.Part),(Iv 2)]) 0 Qp5 QiQ d Z Z)) c4 ⟨Z,Z⟩)))))
 refine Ck (Tc (Cs (Cs (WC.draw [0,1,0,4,15,31] (.pure 0 (.pure 1 (.pure 2 (.alt 3 (.alt 4 (.pure 5 .done) .none) .none)))) QdC (by kernel_rfl) (qt (pt g 5) Z (Fa QvA a Z) (qt (Iv a0.Leader) Z (Lb 1 pl3 Z Z Z) (qt (Iv a0.Kind) Z (Mv e) ?_)))))))
 obtain ⟨c6,c7,h⟩:=bnd h
 refine Ta Z (Ca QnU (QbT a0.Kind (108:Int) _ c6 c7) (QaU Z Z)) Z ?_ ?_
 rintro _ g1 _ P ⟨_,⟨rfl,rfl⟩,rfl⟩
 have e5:=c4.trans P
 refine⟨(Sk 1 Z (Ss Z (Lb 1 pl3 Z Z Z) Z (Ss Z (Fa QvA a Z) Z trivial))), ?_⟩
 refine WT.a0 ?_
 obtain ⟨c8,c9,h⟩:=bnd h
 refine Ta Z (Ca QyA (Qd0 a0.Leader c6 (0:Int) (64:Int) _ c8 c9) (QlT Z Z Z Z)) Z ?_ ?_
 rintro _ e6 _ Q ⟨_,⟨rfl,rfl⟩,rfl⟩
 have R:=e5.trans Q
 refine⟨(Sl Z), ?_⟩
 refine WT.a0 (qt (Bv (!c8)) Z (PO.not Z) (Ti (Tc (Ch h Z (fun d0 h=> ?_) (fun d0 h=> ?_)))))
 refine Sr (qu (pt g 5) (Fa QvA a Z) (qu (Iv a0.Leader) (Lb 1 pl3 Z Z Z) (qu (.agg #[(Sv ⟨#[108,101,97,100,101,114]⟩),(Iv a0.Leader),(Iv 2)]) (Bl (cl:=[(Sv ⟨#[108,101,97,100,101,114]⟩),(Iv a0.Leader),(Iv 2)]) Qn1 QsQ (Pc (Sv ⟨#[108,101,97,100,101,114]⟩) Z Z (Pc (Iv a0.Leader) Z Z (Pc (Iv 2) Z Z Pz))) Z) (We (Sg (v:=(.agg #[(Sv ⟨#[108,101,97,100,101,114]⟩),(Iv a0.Leader),(Iv 2)])) (vl:=[(Sv ⟨#[108,101,97,100,101,114]⟩),(Iv a0.Leader),(Iv 2)]) (arr':=[(Sv ⟨#[108,101,97,100,101,114]⟩),(Iv a0.Leader),(Iv 2)]) Z QiQ d Z (onb Z) Z Z Z) Z ?_))))
 rintro _ _ _ - ⟨rfl,rfl⟩
 exact Nt (Cr (Tr (Qa (Dr (Rd h [] (fun _ hs=>hs.drop) (QbH Z (Rc (cs:=[(Sv ⟨#[108,101,97,100,101,114]⟩),(Iv a0.Leader),(Iv 2)]) 0 Qp5 QiQ d Z Z)) R ⟨Z,Z⟩)))))
 refine Ck (Tc (Cs ?_))
 obtain ⟨S,d1,h⟩:=bnd h
 refine Jf (fun(S:Bool) ρ' M' H'=>e6.le M'∧[(x, .cells #[(Sv ⟨#[]⟩),(Iv 0),(Iv 0)] 144 (0,0))]::[(g, .cells (l111 a0 i j k l).toArray 111 (0,0))]::F=H'∧ρ' 1=(pt g 0)∧ρ' 2=(pt x 0)∧ρ' 81=(Bv S)) S ?_ ?_
 have h:=d1
 refine WC.draw [0,1,0,4,0,31,63,127,255,511,255,1279,255,8191,16383,32767,65535,131071,262143,131071,655359,2097151,4194303,8388607] (.pure 0 (.pure 1 (.pure 2 (.pure 4 (.alt 3 (.alt 5 (.pure 6 (.pure 7 (.pure 8 (.pure 9 (.pure 10 (.pure 12 (.alt 11 (.alt 13 (.pure 14 (.pure 15 (.pure 16 (.pure 17 (.pure 18 (.pure 19 (.alt 20 (.alt 21 (.pure 22 (.pure 23 .done)) .none) .none))))))) .none) .none))))))) .none) .none))))) QdC (by kernel_rfl) (qt (pt g 6) Z (Fa QvB a Z) (qt (Iv a0.Client) Z (Lb 1 pl3 Z Z Z) (qt (Iv a0.Kind) Z (Mv e) (qt (Iv 1073741824) Z (Mv f) ?_))))
 obtain ⟨d2,d3,h⟩:=bnd h
 refine Ta Z (Ca QnU (QbT a0.Kind (97:Int) _ d2 d3) (QaU Z Z)) Z ?_ ?_
 rintro _ g2 _ n ⟨_,⟨rfl,rfl⟩,rfl⟩
 refine⟨(Ss Z (Mv f) Z (Sk 1 Z (Ss Z (Lb 1 pl3 Z Z Z) Z (Ss Z (Fa QvB a Z) Z trivial)))), ?_⟩
 refine WT.a0 ?_
 obtain ⟨T,d4,h⟩:=bnd h
 refine Ta Z (Ca QyA (Qd0 a0.Client d2 (1:Int) (1073741824:Int) _ T d4) (QlT Z Z Z Z)) Z ?_ ?_
 rintro _ g3 _ o ⟨_,⟨rfl,rfl⟩,rfl⟩
 refine⟨(Sl Z), ?_⟩
 refine WT.a0 (qt (Bv (!T)) Z (PO.not Z) (qt (Bv (!T)) Z (Mv Z) ?_))
 rcases Bi h with⟨c,h⟩ |⟨c,h⟩
 refine Tf 65 Z Z Z c Z (Tf 65 Z Z Z c Z (Tf 65 Z Z Z c Z (Tf 65 Z Z Z c Z (Tg 65 Z Z Z c Z ⟨(St (Sf 65 Z Z Z c Z) (Sk 1 Z (St (Sf 65 Z Z Z c Z) (St (Sf 65 Z Z Z c Z) (Sl Z))))), ?_⟩ ?_))))
 refine Tg 65 Z Z Z c Z ⟨(Sl Z), ?_⟩ ?_
 refine Tf 65 Z Z Z c Z (qt (Bv true) Z (Pt Z c Z) (qt (Bv true) Z (Mv Z) (Tf 74 Z Z Z Z Z (Tf 74 Z Z Z Z Z (Tf 74 Z Z Z Z Z (Tg 74 Z Z Z Z Z ⟨(Sk 1 Z (St (Sf 74 Z Z Z Z Z) (St (Sf 74 Z Z Z Z Z) (Sl Z)))), ?_⟩ ?_))))))
 refine Tg 74 Z Z Z Z Z ⟨(Sl Z), ?_⟩ ?_
 refine Tf 74 Z Z Z Z Z (qt (Bv true) Z (Pt Z Z Z) (Ti ?_))
 obtain rfl:=oi h
 exact Tj ⟨(n.trans o),Z,a,d,Z⟩
 exact Tz
 exact Tz
 exact Tz
 exact Tz
 refine Tn (pt g 7) 65 Z Z Z c (Fa Qw7 a Z) Z (Tn (Iv a0.Serial) 65 Z Z Z c (Lb 1 pl3 Z Z Z) Z (Tn (Iv a0.Kind) 65 Z Z Z c (Mv e) Z (Tn (Iv 1073741824) 65 Z Z Z c (Mv f) Z ?_)))
 obtain ⟨d5,d6,h⟩:=bnd h
 refine WT.altOn 65 Z Z Z c (Ca QnU (QbT a0.Kind (97:Int) _ d5 d6) (QaU Z Z)) Z ?_ ?_
 rintro _ g4 _ s ⟨_,⟨rfl,rfl⟩,rfl⟩
 refine⟨(St (StabA.on 65 Z Z Z c (Mv f) Z) (Sk 1 Z (St (StabA.on 65 Z Z Z c (Lb 1 pl3 Z Z Z) Z) (St (StabA.on 65 Z Z Z c (Fa Qw7 a Z) Z) (Sl Z))))), ?_⟩
 refine WT.a0 ?_
 obtain ⟨y,U,h⟩:=bnd h
 refine WT.altOn 65 Z Z Z c (Ca QyA (Qd0 a0.Serial d5 (1:Int) (1073741824:Int) _ y U) (QlT Z Z Z Z)) Z ?_ ?_
 rintro _ e7 _ q ⟨_,⟨rfl,rfl⟩,rfl⟩
 refine⟨(Sl Z), ?_⟩
 refine WT.a0 (Tn (Bv (!y)) 65 Z Z Z c (PO.not Z) Z (qt (Bv (!y)) Z (Pf Z c Z) (qt (Bv (!y)) Z (Mv Z) ?_)))
 rcases Bi h with⟨b,h⟩ |⟨b,h⟩
 refine Tf 74 Z Z Z b Z (Tf 74 Z Z Z b Z (Tf 74 Z Z Z b Z (Tg 74 Z Z Z b Z ⟨(Sk 1 Z (St (Sf 74 Z Z Z b Z) (St (Sf 74 Z Z Z b Z) (Sl Z)))), ?_⟩ ?_)))
 refine Tg 74 Z Z Z b Z ⟨(Sl Z), ?_⟩ ?_
 refine Tf 74 Z Z Z b Z (qt (Bv true) Z (Pt Z b Z) (Ti ?_))
 obtain rfl:=oi h
 exact Tj ⟨(((n.trans o).trans s).trans q),Z,a,d,Z⟩
 exact Tz
 exact Tz
 refine Tn (pt g 8) 74 Z Z Z b (Fa QzE a Z) Z (Tn (Iv a0.Code) 74 Z Z Z b (Lb 1 pl3 Z Z Z) Z (Tn (Iv a0.Kind) 74 Z Z Z b (Mv e) Z ?_))
 obtain ⟨C,V,h⟩:=bnd h
 refine WT.altOn 74 Z Z Z b (Ca QnU (QbT a0.Kind (97:Int) _ C V) (QaU Z Z)) Z ?_ ?_
 rintro _ e8 _ z ⟨_,⟨rfl,rfl⟩,rfl⟩
 refine⟨(Sk 1 Z (St (StabA.on 74 Z Z Z b (Lb 1 pl3 Z Z Z) Z) (St (StabA.on 74 Z Z Z b (Fa QzE a Z) Z) (Sl Z)))), ?_⟩
 refine WT.a0 ?_
 obtain ⟨t,W,h⟩:=bnd h
 refine WT.altOn 74 Z Z Z b (Ca QyA (Qd0 a0.Code C (0:Int) (21:Int) _ t W) (QlT Z Z Z Z)) Z ?_ ?_
 rintro _ e9 _ A ⟨_,⟨rfl,rfl⟩,rfl⟩
 refine⟨(Sl Z), ?_⟩
 refine WT.a0 (Tn (Bv (!t)) 74 Z Z Z b (PO.not Z) Z (qt (Bv (!t)) Z (Pf Z b Z) (Ti ?_)))
 obtain rfl:=oi h
 exact Tj ⟨(((((n.trans o).trans s).trans q).trans z).trans A),Z,a,d,Z⟩
 exact Tz
 exact Tz
 exact Tz
 exact Tz
 exact Tz
 exact Tz
 rintro g5 g6 g7 ⟨u,rfl,B,m,w⟩
 refine Ch h w (fun X h=> ?_) (fun X h=> ?_)
 refine Sr (qu (pt g 6) (Fa QvB B Z) (qu (Iv a0.Client) (Lb 1 pl3 Z Z Z) (qu (.agg #[(Sv ⟨#[97,115,107,101,114]⟩),(Iv a0.Client),(Iv 2)]) (Bl (cl:=[(Sv ⟨#[97,115,107,101,114]⟩),(Iv a0.Client),(Iv 2)]) Qn1 QsQ (Pc (Sv ⟨#[97,115,107,101,114]⟩) Z Z (Pc (Iv a0.Client) Z Z (Pc (Iv 2) Z Z Pz))) Z) (We (Sg (v:=(.agg #[(Sv ⟨#[97,115,107,101,114]⟩),(Iv a0.Client),(Iv 2)])) (vl:=[(Sv ⟨#[97,115,107,101,114]⟩),(Iv a0.Client),(Iv 2)]) (arr':=[(Sv ⟨#[97,115,107,101,114]⟩),(Iv a0.Client),(Iv 2)]) Z QiQ m Z (onb Z) Z Z Z) Z ?_))))
 rintro _ _ _ - ⟨rfl,rfl⟩
 exact Nt (Cr (Tr (Qa (Dr (Rd h [] (fun _ hs=>hs.drop) (QbH Z (Rc (cs:=[(Sv ⟨#[97,115,107,101,114]⟩),(Iv a0.Client),(Iv 2)]) 0 Qp5 QiQ m Z Z)) (R.trans u) ⟨Z,Z⟩)))))
 refine Ck (Tc (Sr (qu (.agg #[(Sv ⟨#[]⟩),(Iv 0),(Iv 0)]) (Bl (cl:=[(Sv ⟨#[]⟩),(Iv 0),(Iv 0)]) Qn1 QsQ Pz Z) (We (Sg (v:=(.agg #[(Sv ⟨#[]⟩),(Iv 0),(Iv 0)])) (vl:=[(Sv ⟨#[]⟩),(Iv 0),(Iv 0)]) (arr':=[(Sv ⟨#[]⟩),(Iv 0),(Iv 0)]) Z QiQ m Z (onb Z) Z Z Z) Z ?_))))
 rintro _ _ _ - ⟨rfl,rfl⟩
 exact Nt (Cr (Qa (Dr (Rd h [] (fun _ hs=>hs.drop) (QbH Z (Rc (cs:=[(Sv ⟨#[]⟩),(Iv 0),(Iv 0)]) 0 Qp5 QiQ m Z Z)) (R.trans u) ⟨Z,Z⟩))))
 exact Tz
 exact Tz
 exact Tz
 exact Tz
 exact Tz
 exact Tz
 exact Tz
 exact Tz
 exact Tz
 exact Tz
noncomputable def QfD (a0:ByteArray) (s_:Int):Option (Int⊕(Unit⊕Unit)):=
 match s_ with
 |a=>
 (if(decide (a<(a0.size:Int)))=true then(grd (0≤a∧a<a0.size) (((if(decide ((97:Int)≤(btAt a0 a)))=true then(if(decide ((btAt a0 a)≤(122:Int)))=true then(some true)else(if(decide ((48:Int)≤(btAt a0 a)))=true then(if(decide ((btAt a0 a)≤(57:Int)))=true then(some true)else(if(decide ((btAt a0 a)=(46:Int)))=true then(some true)else(some (decide ((btAt a0 a)=(45:Int))))))else(if(decide ((btAt a0 a)=(46:Int)))=true then(some true)else(some (decide ((btAt a0 a)=(45:Int)))))))else(if(decide ((48:Int)≤(btAt a0 a)))=true then(if(decide ((btAt a0 a)≤(57:Int)))=true then(some true)else(if(decide ((btAt a0 a)=(46:Int)))=true then(some true)else(some (decide ((btAt a0 a)=(45:Int))))))else(if(decide ((btAt a0 a)=(46:Int)))=true then(some true)else(some (decide ((btAt a0 a)=(45:Int))))))):Option Bool).bind fun b=>(if(!b)=true then(some (inr (inr ())))else(some (inl (i64.wrap (a+(1:Int))))))))else(some (inr (inl ()))))
noncomputable def QeT (a0:ByteArray):Option Bool:=
 (((if(decide ((a0.size:Int)<(1:Int)))=true then(some true)else(if(decide ((40:Int)<(a0.size:Int)))=true then(some true)else(if(decide (a0=(⟨#[46]⟩:ByteArray)))=true then(some true)else(some (decide (a0=(⟨#[46,46]⟩:ByteArray))))))):Option Bool).bind fun a=>(if a=true then(some false)else((((iter (QfD a0) (0:Int)).bind (Sum.elim (fun _=>(some (inl ()))) (fun _=>(((some false)).bind fun r=>some (inr r))))):Option (Unit⊕Bool)).bind (Sum.elim (fun _=>(some true)) some))))
def QrY (a0:ByteArray):Bool→Value→IM→HL→Prop:=
 fun(a:Bool) (v:Value) (M':IM) (H':HL)=>(.bool a)=v∧H'=[]
theorem Qg6 (a0:ByteArray) (M:IM) (res:Bool) (h:QeT a0=some res):
 Tri prog 75 #[(Sv a0)] M [] (QrY a0 res):=by
 unfold QeT at h
 refine Te func75 Z Z ?_
 intro F ρ hρ
 refine Sr (qa (Bv false) (Nt (Cs ?_)))
 obtain ⟨D,G,h⟩:=bnd h
 refine Jf (fun(D:Bool) ρ' M' H'=>M.le M'∧F=H'∧ρ' 0=(Sv a0)∧ρ' 21=(Bv D)) D ?_ ?_
 have h:=G
 refine Cg (qM (Sv a0) (hρ 0) (qu (Iv (a0.size:Int)) (lenStr underlying9 Z) (qu (Bv (decide ((a0.size:Int)<(1:Int)))) (lss Z Z) (qm (Bv (decide ((a0.size:Int)<(1:Int)))) ?_))))
 rcases Bi h with⟨e,h⟩ |⟨e,h⟩
 iterate 3 refine Of 9 Z Z e Z ?_
 refine qu (Bv true) (Pt Z e Z) (qm (Bv true) ?_)
 iterate 2 refine Of 14 Z Z Z Z ?_
 refine qu (Bv true) (Pt Z Z Z) (qm (Bv true) ?_)
 iterate 2 refine Of 18 Z Z Z Z ?_
 refine qu (Bv true) (Pt Z Z Z) (Wz ?_)
 obtain rfl:=oi h
 exact Tj ⟨lr,Z,(hρ 0),Z⟩
 refine On 9 Z Z e (qM (Sv a0) (hρ 0) (qo 9 e (Iv (a0.size:Int)) (lenStr underlying9 Z) (qo 9 e (Bv (decide ((40:Int)<(a0.size:Int)))) (gtr Z Z) (qu (Bv (decide ((40:Int)<(a0.size:Int)))) (Pf Z e Z) (qm (Bv (decide ((40:Int)<(a0.size:Int)))) ?_)))))
 rcases Bi h with⟨f,h⟩ |⟨f,h⟩
 iterate 2 refine Of 14 Z Z f Z ?_
 refine qu (Bv true) (Pt Z f Z) (qm (Bv true) ?_)
 iterate 2 refine Of 18 Z Z Z Z ?_
 refine qu (Bv true) (Pt Z Z Z) (Wz ?_)
 obtain rfl:=oi h
 exact Tj ⟨lr,Z,(hρ 0),Z⟩
 refine On 14 Z Z f (qM (Sv a0) (hρ 0) (qo 14 f (Bv (decide (a0=(⟨#[46]⟩:ByteArray)))) (seql Z Z) (qu (Bv (decide (a0=(⟨#[46]⟩:ByteArray)))) (Pf Z f Z) (qm (Bv (decide (a0=(⟨#[46]⟩:ByteArray)))) ?_))))
 rcases Bi h with⟨g,h⟩ |⟨g,h⟩
 iterate 2 refine Of 18 Z Z g Z ?_
 refine qu (Bv true) (Pt Z g Z) (Wz ?_)
 obtain rfl:=oi h
 exact Tj ⟨lr,Z,(hρ 0),Z⟩
 refine On 18 Z Z g (qM (Sv a0) (hρ 0) (qo 18 g (Bv (decide (a0=(⟨#[46,46]⟩:ByteArray)))) (seql Z Z) (qu (Bv (decide (a0=(⟨#[46,46]⟩:ByteArray)))) (Pf Z g Z) (Wz ?_))))
 obtain rfl:=oi h
 exact Tj ⟨lr,Z,(hρ 0),Z⟩
 rintro T I U ⟨r,rfl,x,u⟩
 refine Ch h u (fun J h=> ?_) (fun J h=> ?_)
 exact Sr (qa (Bv false) (Nt (Cr (Tr (Rf h [] Z (Rs Z Z) r ⟨Z,Z⟩)))))
 refine Ck (Tc ?_)
 obtain ⟨R,K,h⟩:=bnd h
 refine WC.joinE (fun(_:Unit) ρ' M' H'=>I.le M'∧F=H') R ?_ ?_
 have L:=h
 have h:=K
 refine Sr (qa (Iv 0) (Nt (Bk ?_)))
 obtain ⟨V,N,B⟩:=bnd h
 clear h
 refine WC.loop N (fun(a:Int) ρ' M' H'=>I.le M'∧F=H'∧ρ' 0=(Sv a0)∧ρ' 3=(Iv a)) ?_ ?_
 exact⟨lr,Z,x,Z⟩
 rintro a W X S Y h ⟨s,rfl,b,c⟩
 unfold QfD at h
 refine Cs (Sr (qM (Iv a) c (qM (Sv a0) b (qu (Iv (a0.size:Int)) (lenStr underlying9 Z) (qu (Bv (decide (a<(a0.size:Int)))) (lss Z Z) (Nt (Ch h Z (fun O h=> ?_) (fun O h=> ?_))))))))
 refine Ck (Tc (Cs (Bk (Sr (qM (Sv a0) b (qM (Iv a) c ?_))))))
 obtain ⟨C,h⟩:=QaQ h
 refine qu (Yv (btAt a0 a)) (indexStr underlying9 Z Z C.1 (Q67 C)) (qa (Yv (btAt a0 a)) (Nt ?_))
 obtain ⟨v,P,h⟩:=bnd h
 refine Jf (fun(v:Bool) ρ' M' H'=>S.le M'∧F=H'∧ρ' 0=(Sv a0)∧ρ' 3=(Iv a)∧ρ' 5=(Bv v)) v ?_ ?_
 have h:=P
 refine Cg (qm (Yv (btAt a0 a)) (qu (Bv (decide ((97:Int)≤(btAt a0 a)))) (geq Z Z) (qm (Bv (decide ((97:Int)≤(btAt a0 a)))) ?_)))
 rcases Bi h with⟨i,h⟩ |⟨i,h⟩
 refine On 33 Z Z i (qm (Yv (btAt a0 a)) (qo 33 i (Bv (decide ((btAt a0 a)≤122))) (leq Z Z) (qu (Bv (decide ((btAt a0 a)≤122))) (Pt Z i Z) (qm (Bv (decide ((btAt a0 a)≤122))) ?_))))
 rcases Bi h with⟨d,h⟩ |⟨d,h⟩
 iterate 3 refine Of 37 Z Z d Z ?_
 refine WL.offU 40 Z Z Z (WL.offU 40 Z Z Z (Of 37 Z Z d Z (qu (Bv true) (Pt Z d Z) (qm (Bv true) ?_))))
 iterate 2 refine Of 45 Z Z Z Z ?_
 refine qu (Bv true) (Pt Z Z Z) (qm (Bv true) ?_)
 iterate 2 refine Of 49 Z Z Z Z ?_
 refine qu (Bv true) (Pt Z Z Z) (qa (Bv true) (Wz ?_))
 obtain rfl:=oi h
 exact Tj ⟨lr,Z,b,c,Z⟩
 refine On 37 Z Z d (qm (Yv (btAt a0 a)) (qo 37 d (Bv (decide ((48:Int)≤(btAt a0 a)))) (geq Z Z) (On 37 Z Z d (qm (Bv (decide ((48:Int)≤(btAt a0 a)))) ?_))))
 rcases Bi h with⟨j,h⟩ |⟨j,h⟩
 refine On 40 Z Z j (qm (Yv (btAt a0 a)) (qo 40 j (Bv (decide ((btAt a0 a)≤57))) (leq Z Z) (qo 37 d (Bv (decide ((btAt a0 a)≤57))) (Pt Z j Z) (qu (Bv (decide ((btAt a0 a)≤57))) (Pf Z d Z) (qm (Bv (decide ((btAt a0 a)≤57))) ?_)))))
 rcases Bi h with⟨k,h⟩ |⟨k,h⟩
 iterate 2 refine Of 45 Z Z k Z ?_
 refine qu (Bv true) (Pt Z k Z) (qm (Bv true) ?_)
 iterate 2 refine Of 49 Z Z Z Z ?_
 refine qu (Bv true) (Pt Z Z Z) (qa (Bv true) (Wz ?_))
 obtain rfl:=oi h
 exact Tj ⟨lr,Z,b,c,Z⟩
 refine On 45 Z Z k (qm (Yv (btAt a0 a)) (qo 45 k (Bv (decide ((btAt a0 a)=46))) (eql Z Z) (qu (Bv (decide ((btAt a0 a)=46))) (Pf Z k Z) (qm (Bv (decide ((btAt a0 a)=46))) ?_))))
 rcases Bi h with⟨l,h⟩ |⟨l,h⟩
 iterate 2 refine Of 49 Z Z l Z ?_
 refine qu (Bv true) (Pt Z l Z) (qa (Bv true) (Wz ?_))
 obtain rfl:=oi h
 exact Tj ⟨lr,Z,b,c,Z⟩
 refine On 49 Z Z l (qm (Yv (btAt a0 a)) (qo 49 l (Bv (decide ((btAt a0 a)=45))) (eql Z Z) (qu (Bv (decide ((btAt a0 a)=45))) (Pf Z l Z) (qa (Bv (decide ((btAt a0 a)=45))) (Wz ?_)))))
 obtain rfl:=oi h
 exact Tj ⟨lr,Z,b,c,Z⟩
 iterate 2 refine Of 40 Z Z j Z ?_
 refine qo 37 d (Bv false) (Pf Z j Z) (qu (Bv false) (Pf Z d Z) (qm (Bv false) (On 45 Z Z Z (qm (Yv (btAt a0 a)) (qo 45 Z (Bv (decide ((btAt a0 a)=46))) (eql Z Z) (qu (Bv (decide ((btAt a0 a)=46))) (Pf Z Z Z) (qm (Bv (decide ((btAt a0 a)=46))) ?_)))))))
 rcases Bi h with⟨m,h⟩ |⟨m,h⟩
 iterate 2 refine Of 49 Z Z m Z ?_
 refine qu (Bv true) (Pt Z m Z) (qa (Bv true) (Wz ?_))
 obtain rfl:=oi h
 exact Tj ⟨lr,Z,b,c,Z⟩
 refine On 49 Z Z m (qm (Yv (btAt a0 a)) (qo 49 m (Bv (decide ((btAt a0 a)=45))) (eql Z Z) (qu (Bv (decide ((btAt a0 a)=45))) (Pf Z m Z) (qa (Bv (decide ((btAt a0 a)=45))) (Wz ?_)))))
 obtain rfl:=oi h
 exact Tj ⟨lr,Z,b,c,Z⟩
 iterate 2 refine Of 33 Z Z i Z ?_
 refine qu (Bv false) (Pf Z i Z) (qm (Bv false) (On 37 Z Z Z (qm (Yv (btAt a0 a)) (qo 37 Z (Bv (decide ((48:Int)≤(btAt a0 a)))) (geq Z Z) (On 37 Z Z Z (qm (Bv (decide ((48:Int)≤(btAt a0 a)))) ?_))))))
 rcases Bi h with⟨n,h⟩ |⟨n,h⟩
 refine On 40 Z Z n (qm (Yv (btAt a0 a)) (qo 40 n (Bv (decide ((btAt a0 a)≤57))) (leq Z Z) (qo 37 Z (Bv (decide ((btAt a0 a)≤57))) (Pt Z n Z) (qu (Bv (decide ((btAt a0 a)≤57))) (Pf Z Z Z) (qm (Bv (decide ((btAt a0 a)≤57))) ?_)))))
 rcases Bi h with⟨o,h⟩ |⟨o,h⟩
 iterate 2 refine Of 45 Z Z o Z ?_
 refine qu (Bv true) (Pt Z o Z) (qm (Bv true) ?_)
 iterate 2 refine Of 49 Z Z Z Z ?_
 refine qu (Bv true) (Pt Z Z Z) (qa (Bv true) (Wz ?_))
 obtain rfl:=oi h
 exact Tj ⟨lr,Z,b,c,Z⟩
 refine On 45 Z Z o (qm (Yv (btAt a0 a)) (qo 45 o (Bv (decide ((btAt a0 a)=46))) (eql Z Z) (qu (Bv (decide ((btAt a0 a)=46))) (Pf Z o Z) (qm (Bv (decide ((btAt a0 a)=46))) ?_))))
 rcases Bi h with⟨p,h⟩ |⟨p,h⟩
 iterate 2 refine Of 49 Z Z p Z ?_
 refine qu (Bv true) (Pt Z p Z) (qa (Bv true) (Wz ?_))
 obtain rfl:=oi h
 exact Tj ⟨lr,Z,b,c,Z⟩
 refine On 49 Z Z p (qm (Yv (btAt a0 a)) (qo 49 p (Bv (decide ((btAt a0 a)=45))) (eql Z Z) (qu (Bv (decide ((btAt a0 a)=45))) (Pf Z p Z) (qa (Bv (decide ((btAt a0 a)=45))) (Wz ?_)))))
 obtain rfl:=oi h
 exact Tj ⟨lr,Z,b,c,Z⟩
 iterate 2 refine Of 40 Z Z n Z ?_
 refine qo 37 Z (Bv false) (Pf Z n Z) (qu (Bv false) (Pf Z Z Z) (qm (Bv false) (On 45 Z Z Z (qm (Yv (btAt a0 a)) (qo 45 Z (Bv (decide ((btAt a0 a)=46))) (eql Z Z) (qu (Bv (decide ((btAt a0 a)=46))) (Pf Z Z Z) (qm (Bv (decide ((btAt a0 a)=46))) ?_)))))))
 rcases Bi h with⟨q,h⟩ |⟨q,h⟩
 iterate 2 refine Of 49 Z Z q Z ?_
 refine qu (Bv true) (Pt Z q Z) (qa (Bv true) (Wz ?_))
 obtain rfl:=oi h
 exact Tj ⟨lr,Z,b,c,Z⟩
 refine On 49 Z Z q (qm (Yv (btAt a0 a)) (qo 49 q (Bv (decide ((btAt a0 a)=45))) (eql Z Z) (qu (Bv (decide ((btAt a0 a)=45))) (Pf Z q Z) (qa (Bv (decide ((btAt a0 a)=45))) (Wz ?_)))))
 obtain rfl:=oi h
 exact Tj ⟨lr,Z,b,c,Z⟩
 rintro a1 a2 a3 ⟨w,rfl,y,z,A⟩
 refine Sr (qM (Bv v) A (qu (Bv (!v)) (PO.not Z) (Nt (Ch h Z (fun Q h=> ?_) (fun Q h=> ?_)))))
 refine Sr (qa (Bv false) (Nt (Cr (Br (Tr (WQ.leaveR (inr ()) (oi h).symm (fun t=> ?_)))))))
 subst t
 have h:=(QdO B)
 refine Br (Tr ?_)
 have h:=KK.early h L
 exact Rf h [] Z (Rs Z Z) ((r.trans s).trans w) ⟨Z,Z⟩
 exact Ck (Bn (Tc (Cg (qM (Iv a) z (qu (Iv (i64.wrap (a+1))) (add Z Z) (qa (Iv (i64.wrap (a+1))) (Wz (WQ.again (i64.wrap (a+1)) (oi h).symm ⟨(s.trans w),Z,y,Z⟩))))))))
 refine WC.exit (WQ.thenE (WQ.leaveE (inl ()) (oi h).symm (fun t=> ?_)))
 subst t
 have h:=QeJ B
 exact WQ.blockH (WQ.thenFE h ⟨s,Z⟩)
 rintro _ a4 a5 a6 rfl ⟨E,rfl⟩
 have h:=(Sum.elim_inl _ _ _).symm.trans h
 exact Sr (qa (Bv true) (Nt (Cr (Rf h [] Z (Rs Z Z) (r.trans E) ⟨Z,Z⟩))))
noncomputable def Qg7 (a0:ByteArray) (a1:Bool):Option Bool:=
 (if a1=true then((QeT a0).bind fun a=>(some a))else(some (decide (a0=(⟨#[]⟩:ByteArray)))))
def QrZ (a0:ByteArray) (a1:Bool):Bool→Value→IM→HL→Prop:=
 fun(a:Bool) (v:Value) (M':IM) (H':HL)=>(.bool a)=v∧H'=[]
theorem QlB (a0:ByteArray) (a1:Bool) (M:IM) (res:Bool) (h:Qg7 a0 a1=some res):
 Tri prog 128 #[(Sv a0),(Bv a1)] M [] (QrZ a0 a1 res):=by
 unfold Qg7 at h
 refine Te func128 Z Z ?_
 intro F ρ hρ
 refine Sr (qa (Bv false) (Nt (Cs (Sr (qM (Bv a1) (hρ 1) (Nt (Ch h Z (fun b h=> ?_) (fun b h=> ?_))))))))
 refine Sr (qM (Sv a0) (hρ 0) ?_)
 obtain ⟨c,d,h⟩:=bnd h
 refine We (Ca co75 (Qg6 a0 _ c d) (QbK Z)) Z ?_
 rintro _ e _ a ⟨_,⟨rfl,rfl⟩,rfl⟩
 exact WL.a0 (qa (Bv c) (Nt (Cr (Tr (Rf h [] Z (Rs Z Z) a ⟨Z,Z⟩)))))
 exact Ck (Tc (Sr (qM (Sv a0) (hρ 0) (qu (Bv (decide (a0=(⟨#[]⟩:ByteArray)))) (seql Z Z) (qa (Bv (decide (a0=(⟨#[]⟩:ByteArray)))) (Nt (Cr (Rf h [] Z (Rs Z Z) lr ⟨Z,Z⟩))))))))
noncomputable def QcP (a0:(List Int)) (b:Int) (s_:Int):Option (Int⊕(Unit⊕Unit)):=
 match s_ with
 |a=>
 (if(decide (a<b))=true then(grd (0≤a∧a<a0.length) (grd (0≤b∧b<a0.length) (if(decide ((rd a0 a)=(rd a0 b)))=true then(some (inr (inr ())))else(some (inl (i64.wrap (a+(1:Int))))))))else(some (inr (inl ()))))
noncomputable def Qc2 (a0:(List Int)) (s_:Int):Option (Int⊕(Unit⊕Unit)):=
 match s_ with
 |a=>
 (if(decide (a<(a0.length:Int)))=true then(((((grd (0≤a∧a<a0.length) (if(decide ((rd a0 a)<(1:Int)))=true then(some true)else(grd (0≤a∧a<a0.length) (some (decide ((64:Int)<(rd a0 a))))))):Option Bool).bind fun b=>(if b=true then(((some (inr (inr ())))).bind fun r=>some (inr r))else((iter (QcP a0 a) (0:Int)).bind (Sum.elim (fun _=>(some (inl ()))) (fun _=>(((some (inr (inr ())))).bind fun r=>some (inr r))))))):Option (Unit⊕(Int⊕(Unit⊕Unit)))).bind (Sum.elim (fun _=>(some (inl (i64.wrap (a+(1:Int)))))) some))else(some (inr (inl ()))))
noncomputable def QcS (a0:(List Int)):Option Bool:=
 (if(decide ((7:Int)<(a0.length:Int)))=true then(some false)else((((iter (Qc2 a0) (0:Int)).bind (Sum.elim (fun _=>(some (inl ()))) (fun _=>(((some false)).bind fun r=>some (inr r))))):Option (Unit⊕Bool)).bind (Sum.elim (fun _=>(some true)) some)))
def QoR (a0:(List Int)) (b:Value):Bool→Value→IM→HL→Prop:=
 fun(a:Bool) (v:Value) (M':IM) (H':HL)=>(.bool a)=v∧H'=[]
theorem QeU (a0:(List Int)) (M:IM) (t:Value) (w:RS (Kd.int .i64) M t a0) (res:Bool) (h:QcS a0=some res):
 Tri prog 114 #[t] M [] (QoR a0 t res):=by
 unfold QcS at h
 refine Te func114 Z Z ?_
 intro F ρ hρ
 refine Sr (qa (Bv false) (Nt (Cs (Sr (qM t (hρ 0) (qu (Iv (a0.length:Int)) (lenS underlying56 Z w.len) (qu (Bv (decide ((7:Int)<(a0.length:Int)))) (gtr Z Z) (Nt (Ch h Z (fun S h=> ?_) (fun S h=> ?_))))))))))
 exact Sr (qa (Bv false) (Nt (Cr (Tr (Rf h [] Z (Rs Z Z) lr ⟨Z,Z⟩)))))
 refine Ck (Tc ?_)
 obtain ⟨a5,T,h⟩:=bnd h
 refine WC.joinE (fun(_:Unit) ρ' M' H'=>M.le M'∧F=H') a5 ?_ ?_
 have B:=h
 have h:=T
 refine Sr (qa (Iv 0) (Nt (Bk ?_)))
 obtain ⟨b6,U,u⟩:=bnd h
 clear h
 refine WC.loop U (fun(a:Int) ρ' M' H'=>M.le M'∧F=H'∧ρ' 0=t∧ρ' 3=(Iv a)) ?_ ?_
 exact⟨lr,Z,(hρ 0),Z⟩
 rintro a b7 b8 V b9 h ⟨g,rfl,b,c⟩
 unfold Qc2 at h
 refine Cs (Sr (qM (Iv a) c (qM t b ?_)))
 have w:=w.mono g
 refine qu (Iv (a0.length:Int)) (lenS underlying56 Z w.len) (qu (Bv (decide (a<(a0.length:Int)))) (lss Z Z) (Nt (Ch h Z (fun W h=> ?_) (fun W h=> ?_))))
 refine Ck (Tc ?_)
 obtain ⟨a6,X,h⟩:=bnd h
 refine WC.joinE (fun(_:Unit) ρ' M' H'=>V.le M'∧F=H'∧ρ' 0=t∧ρ' 3=(Iv a)) a6 ?_ ?_
 have C:=h
 have h:=X
 refine Bk (Cs ?_)
 obtain ⟨E,Y,h⟩:=bnd h
 refine Jf (fun(E:Bool) ρ' M' H'=>V.le M'∧F=H'∧ρ' 0=t∧ρ' 3=(Iv a)∧ρ' 25=(Bv E)) E ?_ ?_
 have h:=Y
 refine Cg (qM t b (qM (Iv a) c ?_))
 obtain ⟨p,h⟩:=QaQ h
 obtain ⟨a7,b2,G,I,hhas34⟩:=w.at p.1 p.2 (by decide)
 obtain rfl:=I
 refine qu (.pointer (some a7)) (indexAddr (n:=a0.length) underlying56 sz3 Z Z p.1 p.2 G) (qu (Iv (rd a0 a)) (loadM pl3 Z (IM.has0 hhas34)) (qu (Bv (decide ((rd a0 a)<1))) (lss Z Z) (qm (Bv (decide ((rd a0 a)<1))) ?_)))
 rcases Bi h with⟨d,h⟩ |⟨d,h⟩
 iterate 5 refine Of 19 Z Z d Z ?_
 refine qu (Bv true) (Pt Z d Z) (Wz ?_)
 obtain rfl:=oi h
 exact Tj ⟨lr,Z,b,c,Z⟩
 refine On 19 Z Z d (qM t b (On 19 Z Z d (qM (Iv a) c (On 19 Z Z d ?_))))
 obtain ⟨q,h⟩:=QaQ h
 obtain ⟨a8,b3,J,K,hhas42⟩:=w.at q.1 q.2 (by decide)
 obtain rfl:=K
 refine qu (.pointer (some a8)) (indexAddr (n:=a0.length) underlying56 sz3 Z Z q.1 q.2 J) (qo 19 d (Iv (rd a0 a)) (loadM pl3 Z (IM.has0 hhas42)) (qo 19 d (Bv (decide ((64:Int)<(rd a0 a)))) (gtr Z Z) (qu (Bv (decide ((64:Int)<(rd a0 a)))) (Pf Z d Z) (Wz ?_))))
 obtain rfl:=oi h
 exact Tj ⟨lr,Z,b,c,Z⟩
 rintro c0 a9 c1 ⟨k,rfl,x,y,v⟩
 refine Ch h v (fun a1 h=> ?_) (fun a1 h=> ?_)
 refine Sr (qa (Bv false) (Nt (Cr (Tr (Br (Tr ?_))))))
 have h:=KK.early h C
 refine WQ.leaveR (inr ()) (oi h).symm (fun i=> ?_)
 subst i
 have h:=(QdO u)
 refine Br (Tr ?_)
 have h:=KK.early h B
 exact Rf h [] Z (Rs Z Z) (g.trans k) ⟨Z,Z⟩
 refine Ck (Tc (Sr (qa (Iv 0) (Nt (Bk ?_)))))
 obtain ⟨c2,a2,D⟩:=bnd h
 clear h
 refine WC.loop a2 (fun(j:Int) ρ' M' H'=>a9.le M'∧F=H'∧ρ' 0=t∧ρ' 3=(Iv a)∧ρ' 4=(Iv j)) ?_ ?_
 exact⟨lr,Z,x,y,Z⟩
 rintro j c3 c4 c5 c6 h ⟨l,rfl,e,f,m⟩
 unfold QcP at h
 refine Cs (Sr (qM (Iv j) m (qM (Iv a) f (qu (Bv (decide (j<a))) (lss Z Z) (Nt (Ch h Z (fun a3 h=> ?_) (fun a3 h=> ?_)))))))
 refine Ck (Tc (Cs (Bk (Cs (WC.draw [0,0,3,7,0,0,48,112,255] (.pure 0 (.pure 1 (.pure 2 (.pure 3 (.pure 4 (.pure 5 (.pure 6 (.pure 7 (.pure 8 .done))))))))) QdC (by kernel_rfl) (qt t Z (Mv e) (qt (Iv j) Z (Mv m) ?_)))))))
 obtain ⟨r,h⟩:=QaQ h
 have w:=w.mono (k.trans l)
 obtain ⟨b0,b4,L,N,hhas53⟩:=w.at r.1 r.2 (by decide)
 obtain rfl:=N
 refine qt (.pointer (some b0)) Z (indexAddr (n:=a0.length) underlying56 sz3 Z Z r.1 r.2 L) (qt (Iv (rd a0 j)) Z (loadM pl3 Z (IM.has0 hhas53)) (qt t Z (Mv e) (qt (Iv a) Z (Mv f) ?_)))
 obtain ⟨s,h⟩:=QaQ h
 obtain ⟨b1,b5,O,P,hhas60⟩:=w.at s.1 s.2 (by decide)
 obtain rfl:=P
 refine qt (.pointer (some b1)) Z (indexAddr (n:=a0.length) underlying56 sz3 Z Z s.1 s.2 O) (qt (Iv (rd a0 a)) Z (loadM pl3 Z (IM.has0 hhas60)) (qt (Bv (decide ((rd a0 j)=(rd a0 a)))) Z (eql Z Z) (Ti (Tc (Ch h Z (fun a4 h=> ?_) (fun a4 h=> ?_))))))
 refine Sr (qa (Bv false) (Nt (Cr (Br (Tr (WQ.leaveR (inr ()) (oi h).symm (fun o=> ?_)))))))
 subst o
 have h:=(QdO D)
 refine Br (Br (Tr ?_))
 have h:=KK.early h C
 refine WQ.leaveR (inr ()) (oi h).symm (fun i=> ?_)
 subst i
 have h:=(QdO u)
 refine Br (Tr ?_)
 have h:=KK.early h B
 exact Rf h [] Z (Rs Z Z) ((g.trans k).trans l) ⟨Z,Z⟩
 exact Ck (Bn (Tc (Cg (qM (Iv j) m (qu (Iv (i64.wrap (j+1))) (add Z Z) (qa (Iv (i64.wrap (j+1))) (Wz (WQ.again (i64.wrap (j+1)) (oi h).symm ⟨l,Z,e,f,Z⟩))))))))
 refine WC.exit (WQ.thenE (WQ.leaveE (inl ()) (oi h).symm (fun o=> ?_)))
 subst o
 have h:=QeJ D
 exact WQ.blockH (Bn (WQ.thenFE h ⟨(k.trans l),Z,e,f⟩))
 rintro _ c7 c8 c9 rfl ⟨Q,rfl,z,A⟩
 have h:=(Sum.elim_inl _ _ _).symm.trans h
 exact Cg (qM (Iv a) A (qu (Iv (i64.wrap (a+1))) (add Z Z) (qa (Iv (i64.wrap (a+1))) (Wz (WQ.again (i64.wrap (a+1)) (oi h).symm ⟨(g.trans Q),Z,z,Z⟩)))))
 refine WC.exit (WQ.thenE (WQ.leaveE (inl ()) (oi h).symm (fun i=> ?_)))
 subst i
 have h:=QeJ u
 exact WQ.blockH (WQ.thenFE h ⟨g,Z⟩)
 rintro _ d0 d1 d2 rfl ⟨R,rfl⟩
 have h:=(Sum.elim_inl _ _ _).symm.trans h
 exact Sr (qa (Bv true) (Nt (Cr (Rf h [] Z (Rs Z Z) R ⟨Z,Z⟩))))
noncomputable def Qg8 (a0:(List Int)) (a1:Bool):Option Bool:=
 (if a1=true then((QcS a0).bind fun a=>(some a))else(some (decide ((a0.length:Int)=(0:Int)))))
def QtE (a0:(List Int)) (a1:Bool) (b:Value):Bool→Value→IM→HL→Prop:=
 fun(a:Bool) (v:Value) (M':IM) (H':HL)=>(.bool a)=v∧H'=[]
theorem Qj1 (a0:(List Int)) (a1:Bool) (M:IM) (b:Value) (f:RS (Kd.int .i64) M b a0) (res:Bool) (h:Qg8 a0 a1=some res):
 Tri prog 129 #[b,(Bv a1)] M [] (QtE a0 a1 b res):=by
 unfold Qg8 at h
 refine Te func129 Z Z ?_
 intro F ρ hρ
 refine Sr (qa (Bv false) (Nt (Cs (Sr (qM (Bv a1) (hρ 1) (Nt (Ch h Z (fun c h=> ?_) (fun c h=> ?_))))))))
 refine Sr (qM b (hρ 0) ?_)
 obtain ⟨d,e,h⟩:=bnd h
 refine We (Ca Q13 (QeU a0 _ _ f d e) (QbK Z)) Z ?_
 rintro _ g _ a ⟨_,⟨rfl,rfl⟩,rfl⟩
 exact WL.a0 (qa (Bv d) (Nt (Cr (Tr (Rf h [] Z (Rs Z Z) a ⟨Z,Z⟩)))))
 exact Ck (Tc (Sr (qM b (hρ 0) (qu (Iv (a0.length:Int)) (lenS underlying56 Z f.len) (qu (Bv (decide ((a0.length:Int)=(0:Int)))) (eql Z Z) (qa (Bv (decide ((a0.length:Int)=(0:Int)))) (Nt (Cr (Rf h [] Z (Rs Z Z) lr ⟨Z,Z⟩)))))))))

end Go.Proofs.YtpcbipcdfccnnaaGreatDoor.G
