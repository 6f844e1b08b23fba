/- Go functions: what they come to, and that they do. Printed by a program of the session (gen). -/
import Derived.Test.YtfkmkgpoddbbfaaGreatDoorRF
import Derived.Test.YtfkmkgpoddbbfaaGreatDoorR0
import Derived.Test.YtfkmkgpoddbbfaaGreatDoorR1
import Derived.Test.YtfkmkgpoddbbfaaGreatDoorR2
import Derived.Test.YtfkmkgpoddbbfaaGreatDoorKShar2
import Derived.Test.YtfkmkgpoddbbfaaGreatDoorKConv
import Derived.Test.YtfkmkgpoddbbfaaGreatDoorKMap
import Derived.Test.YtfkmkgpoddbbfaaGreatDoorKTight2
set_option linter.unusedVariables false
set_option linter.unusedSimpArgs false
set_option maxHeartbeats 8000000
set_option maxRecDepth 100000
namespace Go.Proofs.YtfkmkgpoddbbfaaGreatDoor.G
open Go Go.KK
open PO EO IntKind Sum Tryz

noncomputable def QnT (a0:QaA) (a1:QaO):Option (QaA×Int):=
 ((QkB a0 a1.Client a1.Serial).bind fun(c,b)=>(if b=true then(some (a0,(9:Int)))else(((if(decide ((64:Int)≤(a0.Done.length:Int)))=true then(some (i64.wrap ((a0.Done.length:Int)- (63:Int))))else(some (0:Int))):Option Int).bind fun a=>(grd (0≤a∧a≤(a0.Done.length:Int)∧(a0.Done.length:Int)≤(a0.Done.length:Int)) (grd (([]:List QaT).length+(sub a0.Done a (a0.Done.length:Int)).length≤274877906944) (grd ((([]:List QaT)++(sub a0.Done a (a0.Done.length:Int))).length+[(⟨a1.Client,a1.Serial,a1.Code⟩:QaT)].length≤274877906944) (some ((⟨a0.Brokers,a0.Topics,a0.Configs,(([]:List QaT)++(sub a0.Done a (a0.Done.length:Int)))++[(⟨a1.Client,a1.Serial,a1.Code⟩:QaT)],a0.Last⟩:QaA),(0:Int)))))))))
def Qr7 (a0:QaA) (a1:QaO) (l m n o g i j k:Value):(QaA×Int)→Value→IM→HL→Prop:=
 fun(p:(QaA×Int)) (v:Value) (f:IM) (q:HL)=>match p with |(e,r)=>∃ a b c d,(.tuple #[(.agg #[a,b,c,d,(.int .i64 e.Last)]),(.int .i64 r)])=v∧q=[]∧RS QaG f a e.Brokers∧RS QaI f b e.Topics∧RS QaH f c e.Configs∧RS QaL f d e.Done
theorem QuX (a0:QaA) (a1:QaO) (M:IM) (a b c d m o p q:Value) (f:RS QaG M a a0.Brokers) (g:RS QaI M b a0.Topics) (i:RS QaH M c a0.Configs) (e:RS QaL M d a0.Done) (Y:RS (Kd.int .i64) M m a1.Ids) (a2:RS (Kd.int .i64) M o a1.Isr) (a3:RS (Kd.int .i64) M p a1.Add) (a4:RS (Kd.int .i64) M q a1.Drop) (N:(QaA×Int)) (h:QnT a0 a1=some N):
 Tri prog 78 #[(a29_ a0 a b c d),(QjM a1 m o p q)] M [] (Qr7 a0 a1 a b c d m o p q N):=by
 unfold QnT at h
 refine Te func78 Z Z ?_
 intro F ρ a9
 refine Sr (We (box (cs:=(l29 a0 a b c d).toArray) (congrArg Value.cells (asE (a29_ a0 a b c d) (a9 0)))) Z ?_)
 rintro _ _ _ - ⟨rfl,C,rfl,rfl⟩
 refine We (box (cs:=(l102 a1 m o p q).toArray) (congrArg Value.cells (asE (QjM a1 m o p q) (a9 1)))) Z ?_
 rintro _ _ _ - ⟨rfl,z,rfl,rfl⟩
 refine We (Al ze29 Z) Z ?_
 rintro _ _ _ - ⟨rfl,O,rfl,rfl⟩
 refine qa (Iv 0) (Nt (Cs (Sr (qu (a29_ a0 a b c d) (La (cs:=(l29 a0 a b c d)) 2 ag29 sz29 Z Z Z) (qu (pt z 6) (Fa QvD Z Z) (qu (Iv a1.Client) (Lb 1 pl3 Z Z Z) (qu (pt z 7) (Fa Qw0 Z Z) (qu (Iv a1.Serial) (Lb 1 pl3 Z Z Z) ?_))))))))
 obtain ⟨⟨E,D⟩,P,h⟩:=bnd h
 refine We (Ca Q7M (QpO a0 a1.Client a1.Serial _ _ _ _ _ f g i e (E,D) P) (QcV Z Z Z)) Z ?_
 rintro _ a5 _ j ⟨_,⟨rfl,rfl⟩,rfl⟩
 refine WL.a0 (qm (.tuple #[(Iv E),(Bv D)]) (qu (Iv E) (Xt Z Z) (qu (Bv D) (Xt Z Z) (qa (Iv E) (qa (Bv D) (Ns (qm (Bv D) (Nt (Ch h Z (fun Q h=> ?_) (fun Q h=> ?_))))))))))
 refine Sr (qu (a29_ a0 a b c d) (La (cs:=(l29 a0 a b c d)) 2 ag29 sz29 Z Z Z) ?_)
 have f:=f.mono j
 have g:=g.mono j
 have i:=i.mono j
 have e:=e.mono j
 refine We (Sg (v:=(a29_ a0 a b c d)) (vl:=(l29 a0 a b c d)) (arr':=(l29 a0 a b c d)) Z sz29 Z Z (QaX (Oc (RS.one f) (Oc (RS.one g) (Oc (RS.one i) (Oc (RS.one e) (Oc Z Oz)))))) Z Z Z) Z ?_
 rintro _ _ _ - ⟨rfl,rfl⟩
 exact qa (Iv 9) (Nt (Cr (Tr (Qa (Dr (Qa (Dr (Rd h [] (fun _ hs=>hs.drop) (QaP Z (RVs.cons (Rc (cs:=(l29 a0 a b c d)) 0 ag29 sz29 Z Z Z) (RVs.cons (RV.tmp Z) RVs.nil))) j ⟨a,b,c,d,Z,Z,f,g,i,e⟩))))))))
 refine Ck (Tc (Sr (qu (a29_ a0 a b c d) (La (cs:=(l29 a0 a b c d)) 2 ag29 sz29 Z Z Z) (We (Al ze29 Z) Z ?_))))
 rintro _ _ _ - ⟨rfl,A,rfl,rfl⟩
 have f:=f.mono j
 have g:=g.mono j
 have i:=i.mono j
 have e:=e.mono j
 refine We (Sg (v:=(a29_ a0 a b c d)) (vl:=(l29 a0 a b c d)) (arr':=(l29 a0 a b c d)) Z sz29 Z Z (QaX (Oc (RS.one f) (Oc (RS.one g) (Oc (RS.one i) (Oc (RS.one e) (Oc Z Oz)))))) Z Z Z) Z ?_
 rintro _ _ _ - ⟨rfl,rfl⟩
 refine Ns (qu (pt A 3) (Fa QeO Z Z) (We (Es Zs ((l29 a0 a b c Zs)) Z sz27 Z Z Z Z Z Z) Z ?_))
 rintro _ _ _ - ⟨rfl,rfl⟩
 refine Ns (qa (Iv 0) (Nt ?_))
 obtain ⟨y,R,h⟩:=bnd h
 refine Jf (fun(y:Int) S M' H'=>a5.le M'∧[(A, .cells (l29 a0 a b c Zs).toArray 29 (0,0))]::[(O, .cells z29_.toArray 29 (0,0))]::[(z, .cells (l102 a1 m o p q).toArray 102 (0,0))]::[(C, .cells (l29 a0 a b c d).toArray 29 (0,0))]::F=H'∧S 2=(pt C 0)∧S 3=(pt z 0)∧S 4=(pt O 0)∧S 8=(pt A 0)∧S 9=(Iv y)) y ?_ ?_
 have h:=R
 refine Sr (qu (pt C 3) (Fa QeO Z Z) (qu d (Lb 3 pl27 Z Z Z) (qu (Iv (a0.Done.length:Int)) (lenS underlying27 Z e.len) (qu (Bv (decide ((64:Int)≤(a0.Done.length:Int)))) (geq Z Z) (Nt (Ch h Z (fun T h=> ?_) (fun T h=> ?_)))))))
 refine Cg (qu (pt C 3) (Fa QeO Z Z) (qu d (Lb 3 pl27 Z Z Z) (qu (Iv (a0.Done.length:Int)) (lenS underlying27 Z e.len) (qu (Iv (i64.wrap ((a0.Done.length:Int)- (63:Int)))) (PO.sub Z Z) (qa (Iv (i64.wrap ((a0.Done.length:Int)- (63:Int)))) (Wz ?_))))))
 obtain rfl:=oi h
 exact Tj ⟨lr,Z,Z,Z,Z,Z,Z⟩
 refine Ck ?_
 obtain rfl:=oi h
 exact Tj ⟨lr,Z,Z,Z,Z,Z,Z⟩
 rintro b2 a6 b3 ⟨r,rfl,G,t,B,k,I⟩
 refine Cs (WC.draw [0,1,0,4,0,28,63,127,255] (.pure 0 (.pure 1 (.pure 2 (.pure 3 (.pure 4 (.pure 5 (.alt 6 (.pure 7 (.alt 8 .done .none)) .none))))))) Qc3 (by kernel_rfl) (qt (pt A 3) Z (Fa QeO k Z) (qt Zs Z (Lb 0 pl27 Z Z Z) (qt (pt C 3) Z (Fa QeO G Z) (qt d Z (Lb 3 pl27 Z Z Z) (qt (Iv y) Z (Mv I) ?_))))))
 obtain ⟨s,h⟩:=Qa1 h
 have e:=e.mono r
 have a7:=e.sub s.1 s.2.1 s.2.2
 refine qt (slV d 3 (y).toNat ((a0.Done.length:Int)).toNat) Z (slice (n:=a0.Done.length) (l:=(y).toNat) (h:=((a0.Done.length:Int)).toNat) underlying27 sz78 Z e.len e.cap ⟨_,_,Z,s.1,Z⟩ (QwS Z) (Int.toNat_le_toNat s.2.1) (Qe4 s.2.2)) ?_
 obtain ⟨U,h⟩:=Qa1 h
 refine WT.e0 (Ta Z (append (dd:=QaL) (xs:=[]) (ys:=sub a0.Done y (a0.Done.length:Int)) underlying27 underlying27 in78 Z (appB (by decide) U) (by decide) Z Z (OwnS.nil _ _) (a7.src _)) Z ?_ ?_)
 rintro K _ _ - ⟨rfl,b4,rfl,L⟩
 refine⟨(Sl Z), ?_⟩
 refine qt (pt A 3) Z (Fa QeO k Z) (WT.f1 (Ta Z (Es K ((l29 a0 a b c K)) L.cells sz27 Z Z (Ow L) Z Z Z) Z ?_ ?_))
 rintro _ _ _ - ⟨rfl,rfl⟩
 refine⟨(Sl Z), ?_⟩
 refine Ti (Tc (Sr (qu (pt A 3) (Fa QeO k Z) (qu K (Lb 0 pl27 Z Z Z) (qu (pt z 6) (Fa QvD t Z) (qu (Iv a1.Client) (Lb 3 pl3 Z Z Z) (qu (pt z 7) (Fa Qw0 t Z) (qu (Iv a1.Serial) (Lb 3 pl3 Z Z Z) (qu (pt z 8) (Fa Qy1 t Z) (qu (Iv a1.Code) (Lb 3 pl3 Z Z Z) (qu (.agg #[(Iv a1.Client),(Iv a1.Serial),(Iv a1.Code)]) (Bl (cl:=[(Iv a1.Client),(Iv a1.Serial),(Iv a1.Code)]) ze78 fp78 (Pc (Iv a1.Client) Z Z (Pc (Iv a1.Serial) Z Z (Pc (Iv a1.Code) Z Z Pz))) Z) ?_)))))))))))
 refine We (buildSliceL (cl:=[(Iv a1.Client),(Iv a1.Serial),(Iv a1.Code)]) underlying27 iz78 Z (Pc (.agg #[(Iv a1.Client),(Iv a1.Serial),(Iv a1.Code)]) Z Z Pz) Z) Z ?_
 rintro _ _ _ - ⟨rfl,V,rfl,rfl⟩
 have a8:OwnS QaL a6 (.slice (some ⟨V,0,none⟩) 1 1) [(⟨a1.Client,a1.Serial,a1.Code⟩:QaT)] [(V, .cells #[(Iv a1.Client),(Iv a1.Serial),(Iv a1.Code)] 78 (0,0))]:=OwnS.rows (css:=[[(Iv a1.Client),(Iv a1.Serial),(Iv a1.Code)]]) (Rows.cons (QjQ (x:=(⟨a1.Client,a1.Serial,a1.Code⟩:QaT))) Rows.nil) Z Z
 obtain ⟨W,h⟩:=Qa1 h
 refine Wb (We (append (dd:=QaL) (xs:=([]:List QaT)++(sub a0.Done y (a0.Done.length:Int))) (ys:=[(⟨a1.Client,a1.Serial,a1.Code⟩:QaT)]) underlying27 underlying27 in78 Z (appB (by decide) W) (by decide) Z Z L (a8.src 1 Z)) Z ?_)
 rintro u _ _ - ⟨rfl,b5,rfl,J⟩
 refine qu (pt A 3) (Fa QeO k Z) (Wb (We (Es u ((l29 a0 a b c u)) J.cells sz27 Z Z (Ow J) Z Z Z) Z ?_))
 rintro _ _ _ - ⟨rfl,rfl⟩
 refine Ns (qu (a29_ a0 a b c u) (La (cs:=(l29 a0 a b c u)) 0 ag29 sz29 k Z Z) (WL.f3 ?_))
 have f:=f.mono r
 have g:=g.mono r
 have i:=i.mono r
 refine We (Sg (v:=(a29_ a0 a b c u)) (vl:=(l29 a0 a b c u)) (arr':=(l29 a0 a b c u)) Z sz29 B Z (QaX (Oc (RS.one f) (Oc (RS.one g) (Oc (RS.one i) (Oc (Ow J) (Oc Z Oz)))))) Z Z Z) Z ?_
 rintro _ _ _ - ⟨rfl,rfl⟩
 refine qa (Iv 0) (Nt (Cr (Qb (WQ.know (fun _ hs=>J.rs hs) (fun X=> ?_)))))
 refine WQ.freeze (fun w=> ?_)
 refine Qa (Dr (Qa (Dr (Qa (Dr (Qa (Dr ?_)))))))
 have f:=f.mono w
 have g:=g.mono w
 have i:=i.mono w
 exact Rd h [] (fun _ hs=>hs.drop) (QaP Z (RVs.cons (Rc (cs:=(l29 a0 a b c u)) 0 ag29 sz29 B Z Z) (RVs.cons (RV.tmp Z) RVs.nil))) ((j.trans r).trans w) ⟨a,b,c,u,Z,Z,f,g,i,X⟩
 exact Tz
 exact Tz
noncomputable def QmB (a0:QaA) (a1:QaO):Option (QaA×Int):=
 ((Ql8 a1).bind fun a=>(if(decide (a.Code≠(0:Int)))=true then(some (a0,a.Code))else(if(decide (a1.Kind=(2:Int)))=true then((QkA a0 a1).bind fun(b,c)=>(some (b,c)))else(((if(decide (a1.Kind=(3:Int)))=true then(some (decide (a1.Kind=(3:Int))))else(if(decide (a1.Kind=(4:Int)))=true then(some (decide (a1.Kind=(4:Int))))else(if(decide (a1.Kind=(5:Int)))=true then(some (decide (a1.Kind=(5:Int))))else(some (decide (a1.Kind=(6:Int))))))):Option Bool).bind fun d=>(if d=true then((QlG a0 a1).bind fun(e,f)=>(some (e,f)))else(((if(decide (a1.Kind=(8:Int)))=true then(some (decide (a1.Kind=(8:Int))))else(some (decide (a1.Kind=(9:Int))))):Option Bool).bind fun g=>(if g=true then((QnO a0 a1).bind fun(i,j)=>(some (i,j)))else(if(decide (a1.Kind=(7:Int)))=true then((QmA a0 a1).bind fun(k,l)=>(some (k,l)))else(if(decide (a1.Kind=(11:Int)))=true then((QnR a0 a1.Topic).bind fun(m,n)=>(some (m,n)))else(if(decide (a1.Kind=(10:Int)))=true then((QlI a0 a1).bind fun(o,p)=>(some (o,p)))else(if(decide (a1.Kind=(12:Int)))=true then((QnT a0 a1).bind fun(q,r)=>(some (q,r)))else(some (a0,(0:Int))))))))))))))
def QqR (a0:QaA) (a1:QaO) (l m n o g i j k:Value):(QaA×Int)→Value→IM→HL→Prop:=
 fun(p:(QaA×Int)) (v:Value) (f:IM) (q:HL)=>match p with |(e,r)=>∃ a b c d,(.tuple #[(.agg #[a,b,c,d,(.int .i64 e.Last)]),(.int .i64 r)])=v∧q=[]∧RS QaG f a e.Brokers∧RS QaI f b e.Topics∧RS QaH f c e.Configs∧RS QaL f d e.Done
theorem QmR (a0:QaA) (a1:QaO) (M:IM) (a b c d k l m n:Value) (f:RS QaG M a a0.Brokers) (g:RS QaI M b a0.Topics) (i:RS QaH M c a0.Configs) (j:RS QaL M d a0.Done) (o:RS (Kd.int .i64) M k a1.Ids) (p:RS (Kd.int .i64) M l a1.Isr) (q:RS (Kd.int .i64) M m a1.Add) (r:RS (Kd.int .i64) M n a1.Drop) (h3:(QaA×Int)) (h:QmB a0 a1=some h3):
 Tri prog 49 #[(a29_ a0 a b c d),(QjM a1 k l m n)] M [] (QqR a0 a1 a b c d k l m n h3):=by
 unfold QmB at h
 refine Te func49 Z Z ?_
 intro F ρ k0
 refine Sr (We (box (cs:=(l29 a0 a b c d).toArray) (congrArg Value.cells (asE (a29_ a0 a b c d) (k0 0)))) Z ?_)
 rintro _ _ _ - ⟨rfl,f2,rfl,rfl⟩
 refine We (box (cs:=(l102 a1 k l m n).toArray) (congrArg Value.cells (asE (QjM a1 k l m n) (k0 1)))) Z ?_
 rintro _ _ _ - ⟨rfl,e0,rfl,rfl⟩
 refine We (Al ze29 Z) Z ?_
 rintro _ _ _ - ⟨rfl,f3,rfl,rfl⟩
 refine qa (Iv 0) (Nt (Cs (Sr (qu (QjM a1 k l m n) (La (cs:=(l102 a1 k l m n)) 1 QvA QrH Z Z Z) ?_))))
 obtain ⟨a8,h4,h⟩:=bnd h
 refine We (Ca co71 (QtB a1 _ _ _ _ _ o p q r a8 h4) (Qb2 Z)) Z ?_
 rintro _ j6 _ t ⟨_,⟨rfl,rfl⟩,rfl⟩
 refine WL.a0 (We (Al QoB Z) Z ?_)
 rintro _ _ _ - ⟨rfl,f4,rfl,rfl⟩
 refine We (Sg (v:=(Q22 a8)) (vl:=(l130 a8)) (arr':=(l130 a8)) Z QiH Z Z (onb Z) Z Z Z) Z ?_
 rintro _ _ _ - ⟨rfl,rfl⟩
 refine Ns (qu (pt f4 2) (Fa Qw2 Z Z) (qu (Iv a8.Code) (Lb 0 pl34 Z Z Z) (qu (Bv (decide (a8.Code≠0))) (neq Z Z) (Nt (Ch h Z (fun h5 h=> ?_) (fun h5 h=> ?_))))))
 refine Cs (WC.draw [0,0,2,1,15] (.pure 0 (.pure 1 (.pure 2 (.alt 3 (.pure 4 .done) .none)))) Qc3 (by kernel_rfl) (qt (a29_ a0 a b c d) Z (La (cs:=(l29 a0 a b c d)) 3 ag29 sz29 Z Z Z) (qt (pt f4 2) Z (Fa Qw2 Z Z) (qt (Iv a8.Code) Z (Lb 0 pl34 Z Z Z) (WT.f1 ?_)))))
 have f:=f.mono t
 have g:=g.mono t
 have i:=i.mono t
 have j:=j.mono t
 refine Ta Z (Sg (v:=(a29_ a0 a b c d)) (vl:=(l29 a0 a b c d)) (arr':=(l29 a0 a b c d)) Z sz29 Z Z (QaX (Oc (RS.one f) (Oc (RS.one g) (Oc (RS.one i) (Oc (RS.one j) (Oc Z Oz)))))) Z Z Z) Z ?_ ?_
 rintro _ _ _ - ⟨rfl,rfl⟩
 refine⟨(Ss Z (Lb 1 pl34 Z Z Z) Z (Ss Z (Fa Qw2 Z Z) Z (Sl Z))), ?_⟩
 exact qt (Iv a8.Code) Z (Ag Z) (Ti (Tc (Cr (Tr (Qa (Dr (Qa (Dr (Qa (Dr (Rd h [] (fun _ hs=>hs.drop) (QaP Z (RVs.cons (Rc (cs:=(l29 a0 a b c d)) 0 ag29 sz29 Z Z Z) (RVs.cons (RV.tmp Z) RVs.nil))) t ⟨a,b,c,d,Z,Z,f,g,i,j⟩)))))))))))
 exact Tz
 refine Ck (Tc (Cs (Sr (qu (pt e0 0) (Fa QvB Z Z) (qu (Iv a1.Kind) (Lb 2 pl3 Z Z Z) (Nt (Bk (Sr (qu (Bv (decide (a1.Kind=2))) (eql Z Z) (qa (Bv (decide (a1.Kind=2))) (Nt ?_)))))))))))
 refine Ch h Z (fun h6 h=> ?_) (fun h6 h=> ?_)
 refine Sr (qu (a29_ a0 a b c d) (La (cs:=(l29 a0 a b c d)) 3 ag29 sz29 Z Z Z) (qu (QjM a1 k l m n) (La (cs:=(l102 a1 k l m n)) 2 QvA QrH Z Z Z) ?_))
 obtain ⟨⟨e1,f5⟩,h7,h⟩:=bnd h
 have f:=f.mono t
 have g:=g.mono t
 have i:=i.mono t
 have j:=j.mono t
 have o:=o.mono t
 have p:=p.mono t
 have q:=q.mono t
 have r:=r.mono t
 refine We (Ca co72 (QpI a0 a1 _ _ _ _ _ _ _ _ _ f g i j o p q r (e1,f5) h7) (QaS Z Z)) Z ?_
 rintro _ k1 _ f6 ⟨_,⟨u,w,x,y,rfl,rfl,b2,b3,b4,b5⟩,rfl⟩
 refine WL.a0 (qu (a29_ e1 u w x y) (Xt Z Z) (qu (Iv f5) (Xt Z Z) (WL.f1 (We (Sg (v:=(a29_ e1 u w x y)) (vl:=(l29 e1 u w x y)) (arr':=(l29 e1 u w x y)) Z sz29 Z Z (QaX (Oc (RS.one b2) (Oc (RS.one b3) (Oc (RS.one b4) (Oc (RS.one b5) (Oc Z Oz)))))) Z Z Z) Z ?_))))
 rintro _ _ _ - ⟨rfl,rfl⟩
 exact qa (Iv f5) (Nt (Cr (Br (Tr (Qa (Dr (Qa (Dr (Qa (Dr (Rd h [] (fun _ hs=>hs.drop) (QaP Z (RVs.cons (Rc (cs:=(l29 e1 u w x y)) 0 ag29 sz29 Z Z Z) (RVs.cons (RV.tmp Z) RVs.nil))) (t.trans f6) ⟨u,w,x,y,Z,Z,b2,b3,b4,b5⟩)))))))))))
 obtain ⟨f7,h8,h⟩:=bnd h
 refine Jf (fun(f7:Bool) e8 M' H'=>j6.le M'∧[(f4, .cells (l130 a8).toArray 130 (0,0))]::[(f3, .cells z29_.toArray 29 (0,0))]::[(e0, .cells (l102 a1 k l m n).toArray 102 (0,0))]::[(f2, .cells (l29 a0 a b c d).toArray 29 (0,0))]::F=H'∧e8 2=(pt f2 0)∧e8 3=(pt e0 0)∧e8 4=(pt f3 0)∧e8 16=(Iv a1.Kind)∧e8 24=(Bv f7)) f7 ?_ ?_
 have h:=h8
 refine Sr (qu (Bv (decide (a1.Kind=3))) (eql Z Z) (qa (Bv (decide (a1.Kind=3))) (Nt (Ch h Z (fun h9 h=> ?_) (fun h9 h=> ?_)))))
 refine Ck ?_
 obtain rfl:=oi h
 exact Tj ⟨lr,Z,Z,Z,Z,Z,Z⟩
 refine Sr (qu (Bv (decide (a1.Kind=4))) (eql Z Z) (qa (Bv (decide (a1.Kind=4))) (Nt (Ch h Z (fun i0 h=> ?_) (fun i0 h=> ?_)))))
 refine Ck ?_
 obtain rfl:=oi h
 exact Tj ⟨lr,Z,Z,Z,Z,Z,Z⟩
 refine Sr (qu (Bv (decide (a1.Kind=5))) (eql Z Z) (qa (Bv (decide (a1.Kind=5))) (Nt (Ch h Z (fun i1 h=> ?_) (fun i1 h=> ?_)))))
 refine Ck ?_
 obtain rfl:=oi h
 exact Tj ⟨lr,Z,Z,Z,Z,Z,Z⟩
 refine Cg (qu (Bv (decide (a1.Kind=6))) (eql Z Z) (qa (Bv (decide (a1.Kind=6))) (Wz ?_)))
 obtain rfl:=oi h
 exact Tj ⟨lr,Z,Z,Z,Z,Z,Z⟩
 rintro k2 j9 k3 ⟨f8,rfl,b0,b1,a7,a4,e9⟩
 have a9:=t.trans f8
 refine Ch h e9 (fun i2 h=> ?_) (fun i2 h=> ?_)
 refine Sr (qu (a29_ a0 a b c d) (La (cs:=(l29 a0 a b c d)) 3 ag29 sz29 b0 Z Z) (qu (QjM a1 k l m n) (La (cs:=(l102 a1 k l m n)) 2 QvA QrH b1 Z Z) ?_))
 obtain ⟨⟨e2,f9⟩,i3,h⟩:=bnd h
 have f:=f.mono a9
 have g:=g.mono a9
 have i:=i.mono a9
 have j:=j.mono a9
 have o:=o.mono a9
 have p:=p.mono a9
 have q:=q.mono a9
 have r:=r.mono a9
 refine We (Ca co73 (QrW a0 a1 _ _ _ _ _ _ _ _ _ f g i j o p q r (e2,f9) i3) (QaS Z Z)) Z ?_
 rintro _ k4 _ g0 ⟨_,⟨z,A,B,C,rfl,rfl,b6,b7,b8,b9⟩,rfl⟩
 refine WL.a0 (qu (a29_ e2 z A B C) (Xt Z Z) (qu (Iv f9) (Xt Z Z) (WL.f1 (We (Sg (v:=(a29_ e2 z A B C)) (vl:=(l29 e2 z A B C)) (arr':=(l29 e2 z A B C)) Z sz29 a7 Z (QaX (Oc (RS.one b6) (Oc (RS.one b7) (Oc (RS.one b8) (Oc (RS.one b9) (Oc Z Oz)))))) Z Z Z) Z ?_))))
 rintro _ _ _ - ⟨rfl,rfl⟩
 exact qa (Iv f9) (Nt (Cr (Br (Tr (Qa (Dr (Qa (Dr (Qa (Dr (Rd h [] (fun _ hs=>hs.drop) (QaP Z (RVs.cons (Rc (cs:=(l29 e2 z A B C)) 0 ag29 sz29 a7 Z Z) (RVs.cons (RV.tmp Z) RVs.nil))) (a9.trans g0) ⟨z,A,B,C,Z,Z,b6,b7,b8,b9⟩)))))))))))
 obtain ⟨g1,i4,h⟩:=bnd h
 refine Jf (fun(g1:Bool) e8 M' H'=>j9.le M'∧[(f4, .cells (l130 a8).toArray 130 (0,0))]::[(f3, .cells z29_.toArray 29 (0,0))]::[(e0, .cells (l102 a1 k l m n).toArray 102 (0,0))]::[(f2, .cells (l29 a0 a b c d).toArray 29 (0,0))]::F=H'∧e8 2=(pt f2 0)∧e8 3=(pt e0 0)∧e8 4=(pt f3 0)∧e8 16=(Iv a1.Kind)∧e8 34=(Bv g1)) g1 ?_ ?_
 have h:=i4
 refine Sr (qu (Bv (decide (a1.Kind=8))) (eql a4 Z) (qa (Bv (decide (a1.Kind=8))) (Nt (Ch h Z (fun i5 h=> ?_) (fun i5 h=> ?_)))))
 refine Ck ?_
 obtain rfl:=oi h
 exact Tj ⟨lr,Z,b0,b1,a7,a4,Z⟩
 refine Cg (qu (Bv (decide (a1.Kind=9))) (eql a4 Z) (qa (Bv (decide (a1.Kind=9))) (Wz ?_)))
 obtain rfl:=oi h
 exact Tj ⟨lr,Z,b0,b1,a7,a4,Z⟩
 rintro k5 k6 k7 ⟨g2,rfl,D,a5,s,a6,f0⟩
 have e:=a9.trans g2
 refine Ch h f0 (fun i6 h=> ?_) (fun i6 h=> ?_)
 refine Sr (qu (a29_ a0 a b c d) (La (cs:=(l29 a0 a b c d)) 3 ag29 sz29 D Z Z) (qu (QjM a1 k l m n) (La (cs:=(l102 a1 k l m n)) 2 QvA QrH a5 Z Z) ?_))
 obtain ⟨⟨e3,g3⟩,i7,h⟩:=bnd h
 have f:=f.mono e
 have g:=g.mono e
 have i:=i.mono e
 have j:=j.mono e
 have o:=o.mono e
 have p:=p.mono e
 have q:=q.mono e
 have r:=r.mono e
 refine We (Ca co74 (QuV a0 a1 _ _ _ _ _ _ _ _ _ f g i j o p q r (e3,g3) i7) (QaS Z Z)) Z ?_
 rintro _ k8 _ g4 ⟨_,⟨E,G,I,J,rfl,rfl,c0,c1,c2,c3⟩,rfl⟩
 refine WL.a0 (qu (a29_ e3 E G I J) (Xt Z Z) (qu (Iv g3) (Xt Z Z) (WL.f1 (We (Sg (v:=(a29_ e3 E G I J)) (vl:=(l29 e3 E G I J)) (arr':=(l29 e3 E G I J)) Z sz29 s Z (QaX (Oc (RS.one c0) (Oc (RS.one c1) (Oc (RS.one c2) (Oc (RS.one c3) (Oc Z Oz)))))) Z Z Z) Z ?_))))
 rintro _ _ _ - ⟨rfl,rfl⟩
 exact qa (Iv g3) (Nt (Cr (Br (Tr (Qa (Dr (Qa (Dr (Qa (Dr (Rd h [] (fun _ hs=>hs.drop) (QaP Z (RVs.cons (Rc (cs:=(l29 e3 E G I J)) 0 ag29 sz29 s Z Z) (RVs.cons (RV.tmp Z) RVs.nil))) (e.trans g4) ⟨E,G,I,J,Z,Z,c0,c1,c2,c3⟩)))))))))))
 refine Sr (qu (Bv (decide (a1.Kind=7))) (eql a6 Z) (qa (Bv (decide (a1.Kind=7))) (Nt (Ch h Z (fun i8 h=> ?_) (fun i8 h=> ?_)))))
 refine Sr (qu (a29_ a0 a b c d) (La (cs:=(l29 a0 a b c d)) 3 ag29 sz29 D Z Z) (qu (QjM a1 k l m n) (La (cs:=(l102 a1 k l m n)) 2 QvA QrH a5 Z Z) ?_))
 obtain ⟨⟨e4,g5⟩,i9,h⟩:=bnd h
 have f:=f.mono e
 have g:=g.mono e
 have i:=i.mono e
 have j:=j.mono e
 have o:=o.mono e
 have p:=p.mono e
 have q:=q.mono e
 have r:=r.mono e
 refine We (Ca co75 (QtJ a0 a1 _ _ _ _ _ _ _ _ _ f g i j o p q r (e4,g5) i9) (QaS Z Z)) Z ?_
 rintro _ k9 _ g6 ⟨_,⟨K,L,N,O,rfl,rfl,c4,c5,c6,c7⟩,rfl⟩
 refine WL.a0 (qu (a29_ e4 K L N O) (Xt Z Z) (qu (Iv g5) (Xt Z Z) (WL.f1 (We (Sg (v:=(a29_ e4 K L N O)) (vl:=(l29 e4 K L N O)) (arr':=(l29 e4 K L N O)) Z sz29 s Z (QaX (Oc (RS.one c4) (Oc (RS.one c5) (Oc (RS.one c6) (Oc (RS.one c7) (Oc Z Oz)))))) Z Z Z) Z ?_))))
 rintro _ _ _ - ⟨rfl,rfl⟩
 exact qa (Iv g5) (Nt (Cr (Br (Tr (Qa (Dr (Qa (Dr (Qa (Dr (Rd h [] (fun _ hs=>hs.drop) (QaP Z (RVs.cons (Rc (cs:=(l29 e4 K L N O)) 0 ag29 sz29 s Z Z) (RVs.cons (RV.tmp Z) RVs.nil))) (e.trans g6) ⟨K,L,N,O,Z,Z,c4,c5,c6,c7⟩)))))))))))
 refine Sr (qu (Bv (decide (a1.Kind=11))) (eql a6 Z) (qa (Bv (decide (a1.Kind=11))) (Nt (Ch h Z (fun j0 h=> ?_) (fun j0 h=> ?_)))))
 refine Sr (qu (a29_ a0 a b c d) (La (cs:=(l29 a0 a b c d)) 3 ag29 sz29 D Z Z) (qu (pt e0 3) (Fa QgY a5 Z) (qu (Iv a1.Topic) (Lb 2 pl3 Z Z Z) ?_)))
 obtain ⟨⟨e5,g7⟩,j1,h⟩:=bnd h
 have f:=f.mono e
 have g:=g.mono e
 have i:=i.mono e
 have j:=j.mono e
 refine We (Ca co76 (QuW a0 a1.Topic _ _ _ _ _ f g i j (e5,g7) j1) (QaS Z Z)) Z ?_
 rintro _ l0 _ g8 ⟨_,⟨P,Q,R,S,rfl,rfl,c8,c9,d0,d1⟩,rfl⟩
 refine WL.a0 (qu (a29_ e5 P Q R S) (Xt Z Z) (qu (Iv g7) (Xt Z Z) (WL.f1 (We (Sg (v:=(a29_ e5 P Q R S)) (vl:=(l29 e5 P Q R S)) (arr':=(l29 e5 P Q R S)) Z sz29 s Z (QaX (Oc (RS.one c8) (Oc (RS.one c9) (Oc (RS.one d0) (Oc (RS.one d1) (Oc Z Oz)))))) Z Z Z) Z ?_))))
 rintro _ _ _ - ⟨rfl,rfl⟩
 exact qa (Iv g7) (Nt (Cr (Br (Tr (Qa (Dr (Qa (Dr (Qa (Dr (Rd h [] (fun _ hs=>hs.drop) (QaP Z (RVs.cons (Rc (cs:=(l29 e5 P Q R S)) 0 ag29 sz29 s Z Z) (RVs.cons (RV.tmp Z) RVs.nil))) (e.trans g8) ⟨P,Q,R,S,Z,Z,c8,c9,d0,d1⟩)))))))))))
 refine Sr (qu (Bv (decide (a1.Kind=10))) (eql a6 Z) (qa (Bv (decide (a1.Kind=10))) (Nt (Ch h Z (fun j2 h=> ?_) (fun j2 h=> ?_)))))
 refine Sr (qu (a29_ a0 a b c d) (La (cs:=(l29 a0 a b c d)) 3 ag29 sz29 D Z Z) (qu (QjM a1 k l m n) (La (cs:=(l102 a1 k l m n)) 2 QvA QrH a5 Z Z) ?_))
 obtain ⟨⟨e6,g9⟩,j3,h⟩:=bnd h
 have f:=f.mono e
 have g:=g.mono e
 have i:=i.mono e
 have j:=j.mono e
 have o:=o.mono e
 have p:=p.mono e
 have q:=q.mono e
 have r:=r.mono e
 refine We (Ca co77 (Qr6 a0 a1 _ _ _ _ _ _ _ _ _ f g i j o p q r (e6,g9) j3) (QaS Z Z)) Z ?_
 rintro _ l1 _ h0 ⟨_,⟨T,U,V,W,rfl,rfl,d2,d3,d4,d5⟩,rfl⟩
 refine WL.a0 (qu (a29_ e6 T U V W) (Xt Z Z) (qu (Iv g9) (Xt Z Z) (WL.f1 (We (Sg (v:=(a29_ e6 T U V W)) (vl:=(l29 e6 T U V W)) (arr':=(l29 e6 T U V W)) Z sz29 s Z (QaX (Oc (RS.one d2) (Oc (RS.one d3) (Oc (RS.one d4) (Oc (RS.one d5) (Oc Z Oz)))))) Z Z Z) Z ?_))))
 rintro _ _ _ - ⟨rfl,rfl⟩
 exact qa (Iv g9) (Nt (Cr (Br (Tr (Qa (Dr (Qa (Dr (Qa (Dr (Rd h [] (fun _ hs=>hs.drop) (QaP Z (RVs.cons (Rc (cs:=(l29 e6 T U V W)) 0 ag29 sz29 s Z Z) (RVs.cons (RV.tmp Z) RVs.nil))) (e.trans h0) ⟨T,U,V,W,Z,Z,d2,d3,d4,d5⟩)))))))))))
 refine Sr (qu (Bv (decide (a1.Kind=12))) (eql a6 Z) (qa (Bv (decide (a1.Kind=12))) (Nt (Ch h Z (fun j4 h=> ?_) (fun j4 h=> ?_)))))
 refine Sr (qu (a29_ a0 a b c d) (La (cs:=(l29 a0 a b c d)) 3 ag29 sz29 D Z Z) (qu (QjM a1 k l m n) (La (cs:=(l102 a1 k l m n)) 2 QvA QrH a5 Z Z) ?_))
 obtain ⟨⟨e7,h1⟩,j5,h⟩:=bnd h
 have f:=f.mono e
 have g:=g.mono e
 have i:=i.mono e
 have j:=j.mono e
 have o:=o.mono e
 have p:=p.mono e
 have q:=q.mono e
 have r:=r.mono e
 refine We (Ca co78 (QuX a0 a1 _ _ _ _ _ _ _ _ _ f g i j o p q r (e7,h1) j5) (QaS Z Z)) Z ?_
 rintro _ l2 _ h2 ⟨_,⟨X,Y,a2,a3,rfl,rfl,d6,d7,d8,d9⟩,rfl⟩
 refine WL.a0 (qu (a29_ e7 X Y a2 a3) (Xt Z Z) (qu (Iv h1) (Xt Z Z) (WL.f1 (We (Sg (v:=(a29_ e7 X Y a2 a3)) (vl:=(l29 e7 X Y a2 a3)) (arr':=(l29 e7 X Y a2 a3)) Z sz29 s Z (QaX (Oc (RS.one d6) (Oc (RS.one d7) (Oc (RS.one d8) (Oc (RS.one d9) (Oc Z Oz)))))) Z Z Z) Z ?_))))
 rintro _ _ _ - ⟨rfl,rfl⟩
 exact qa (Iv h1) (Nt (Cr (Br (Tr (Qa (Dr (Qa (Dr (Qa (Dr (Rd h [] (fun _ hs=>hs.drop) (QaP Z (RVs.cons (Rc (cs:=(l29 e7 X Y a2 a3)) 0 ag29 sz29 s Z Z) (RVs.cons (RV.tmp Z) RVs.nil))) (e.trans h2) ⟨X,Y,a2,a3,Z,Z,d6,d7,d8,d9⟩)))))))))))
 refine Ck (Bn (Tc (Sr (qu (a29_ a0 a b c d) (La (cs:=(l29 a0 a b c d)) 3 ag29 sz29 D Z Z) (WL.f1 ?_)))))
 have f:=f.mono e
 have g:=g.mono e
 have i:=i.mono e
 have j:=j.mono e
 refine We (Sg (v:=(a29_ a0 a b c d)) (vl:=(l29 a0 a b c d)) (arr':=(l29 a0 a b c d)) Z sz29 s Z (QaX (Oc (RS.one f) (Oc (RS.one g) (Oc (RS.one i) (Oc (RS.one j) (Oc Z Oz)))))) Z Z Z) Z ?_
 rintro _ _ _ - ⟨rfl,rfl⟩
 exact qa (Iv 0) (Nt (Cr (Qa (Dr (Qa (Dr (Qa (Dr (Rd h [] (fun _ hs=>hs.drop) (QaP Z (RVs.cons (Rc (cs:=(l29 a0 a b c d)) 0 ag29 sz29 s Z Z) (RVs.cons (RV.tmp Z) RVs.nil))) e ⟨a,b,c,d,Z,Z,f,g,i,j⟩)))))))))
noncomputable def QnU (a0:(List QaO)) (n:(Int×(List QaD)×(List QaE)×(List QaJ)×(List QaT)×Int)):Option ((Int×(List QaD)×(List QaE)×(List QaJ)×(List QaT)×Int)⊕((List QaD)×(List QaE)×(List QaJ)×(List QaT)×Int)):=
 match n with
 |(a,c,d,e,f,g)=>
 (if(decide (a<(a0.length:Int)))=true then(((grd (0≤a∧a<a0.length) ((QmB (⟨c,d,e,f,g⟩:QaA) (rd a0 a)).bind fun(b,o)=>(some (b.Brokers,b.Topics,b.Configs,b.Done,b.Last)))):Option ((List QaD)×(List QaE)×(List QaJ)×(List QaT)×Int)).bind fun(i,j,k,l,m)=>(some (inl (i64.wrap (a+(1:Int)),i,j,k,l,m))))else(some (inr (c,d,e,f,g))))
noncomputable def QnV (a0:(List QaO)):Option QaA:=
 ((((iter (QnU a0) ((0:Int),[],[],[],[],(0:Int))).bind (fun(a,b,c,d,e)=>(some (a,b,c,d,e)))):Option ((List QaD)×(List QaE)×(List QaJ)×(List QaT)×Int)).bind fun(f,g,i,j,k)=>(some (⟨f,g,i,j,k⟩:QaA)))
def Qr8 (a0:(List QaO)) (i:Value):QaA→Value→IM→HL→Prop:=
 fun(e:QaA) (v:Value) (f:IM) (g:HL)=>∃ a b c d,(.agg #[a,b,c,d,(.int .i64 e.Last)])=v∧g=[]∧RS QaG f a e.Brokers∧RS QaI f b e.Topics∧RS QaH f c e.Configs∧RS QaL f d e.Done
theorem QuY (a0:(List QaO)) (M:IM) (v0:Value) (h0:RS Qi5 M v0 a0) (e6:QaA) (h:QnV a0=some e6):
 Tri prog 11 #[v0] M [] (Qr8 a0 v0 e6):=by
 unfold QnV at h
 refine Te func11 Z Z ?_
 intro F ρ h1
 refine Sr (We (Al ze29 Z) Z ?_)
 rintro _ _ _ - ⟨rfl,a6,rfl,rfl⟩
 refine Ns (qu (.agg z29_.toArray) (Bl (cl:=z29_) ze29 fp29 Pz Z) (We (Al ze29 Z) Z ?_))
 rintro _ _ _ - ⟨rfl,a7,rfl,rfl⟩
 refine We (Sg (v:=(.agg z29_.toArray)) (vl:=z29_) (arr':=z29_) Z sz29 Z Z (onb Z) Z Z Z) Z ?_
 rintro _ _ _ - ⟨rfl,rfl⟩
 refine Nt ?_
 obtain ⟨e7,e8,h⟩:=bnd h
 refine Jf (fun(p_:((List QaD)×(List QaE)×(List QaJ)×(List QaT)×Int)) a8 K H'=>match p_ with |(f2,f3,f4,f5,L)=>∃ o p q r,M.le K∧[(a7, .cells #[o,p,q,r,(Iv L)] 29 (0,0))]::[(a6, .cells z29_.toArray 29 (0,0))]::F=H'∧a8 2=(pt a6 0)∧a8 3=(pt a7 0)∧RS QaG K o f2∧RS QaI K p f3∧RS QaH K q f4∧RS QaL K r f5) e7 ?_ ?_
 have h:=e8
 refine Sr (qa (Iv 0) (Nt (Bk ?_)))
 obtain ⟨h2,f6,f7⟩:=bnd h
 clear h
 refine WC.loop f6 (fun(p_:(Int×(List QaD)×(List QaE)×(List QaJ)×(List QaT)×Int)) a8 K H'=>match p_ with |(m,b1,b2,b3,b4,I)=>∃ s t u w,M.le K∧[(a7, .cells #[s,t,u,w,(Iv I)] 29 (0,0))]::[(a6, .cells z29_.toArray 29 (0,0))]::F=H'∧a8 0=v0∧a8 2=(pt a6 0)∧a8 3=(pt a7 0)∧a8 4=(Iv m)∧RS QaG K s b1∧RS QaI K t b2∧RS QaH K u b3∧RS QaL K w b4) ?_ ?_
 exact⟨Zs,Zs,Zs,Zs,lr,Z,(h1 0),Z,Z,Z,RS.nil _ _,RS.nil _ _,RS.nil _ _,RS.nil _ _⟩
 rintro ⟨m,b1,b2,b3,b4,I⟩ h3 h4 g5 h5 h ⟨s,t,u,w,S,rfl,a,J,b,c,b5,b6,b7,b8⟩
 unfold QnU at h
 refine Cs (Sr (qM (Iv m) c (qM v0 a ?_)))
 have h0:=h0.mono S
 refine qu (Iv (a0.length:Int)) (lenS underlying46 Z h0.len) (qu (Bv (decide (m<(a0.length:Int)))) (lss Z Z) (Nt (Ch h Z (fun f8 h=> ?_) (fun f8 h=> ?_))))
 refine Ck (Tc (Cs (Bk ?_)))
 obtain ⟨f9,g0,h⟩:=bnd h
 refine Jf (fun(p_:((List QaD)×(List QaE)×(List QaJ)×(List QaT)×Int)) a8 K H'=>match p_ with |(d6,d7,d8,d9,N)=>∃ e0 x y z A,g5.le K∧[(a7, .cells #[s,t,u,w,(Iv I)] 29 (0,0))]::[(a6, .cells z29_.toArray 29 (0,0))]::[(e0, .cells #[x,y,z,A,(Iv N)] 29 (0,0))]::F=H'∧a8 0=v0∧a8 2=(pt a6 0)∧a8 3=(pt a7 0)∧a8 4=(Iv m)∧a8 5=(pt e0 0)∧RS QaG K x d6∧RS QaI K y d7∧RS QaH K z d8∧RS QaL K A d9) f9 ?_ ?_
 have h:=g0
 refine WC.draw [0,0,0,6,14,31,63,127,127,0,767,2047] (.pure 0 (.pure 1 (.pure 2 (.pure 3 (.pure 4 (.alt 5 (.pure 6 (.pure 7 (.pure 8 (.alt 9 (.alt 10 (.pure 11 .done) .none) .none)))) (.alt 9 (.alt 5 (.pure 6 (.pure 7 (.pure 8 (.alt 10 (.pure 11 .done) .none)))) .none) .none))))))) Qc3 (by kernel_rfl) (qt (.agg #[s,t,u,w,(Iv I)]) Z (La (cs:=[s,t,u,w,(Iv I)]) 0 ag29 sz29 b Z Z) (qt v0 Z (Mv a) (qt (Iv m) Z (Mv c) ?_)))
 obtain ⟨G,h⟩:=Qa1 h
 obtain ⟨g6,g9,T,e1,hhas54⟩:=h0.at G.1 G.2 (by decide)
 obtain ⟨B,C,D,E,rfl,O,P,Q,R⟩:=QrA e1
 refine qt (.pointer (some g6)) Z (indexAddr (n:=a0.length) underlying46 QrH Z Z G.1 G.2 T) (qt (QjM (rd a0 m) B C D E) Z (loadMA (cs:=(l102 (rd a0 m) B C D E)) QvA QrH Z hhas54) ?_)
 have g1:=h
 obtain ⟨⟨a9,c0⟩,g2,h⟩:=bnd h
 refine Ta Z (Ca co49 (QmR (⟨b1,b2,b3,b4,I⟩:QaA) (rd a0 m) _ _ _ _ _ _ _ _ _ b5 b6 b7 b8 O P Q R (a9,c0) g2) (QaS Z Z)) Z ?_ ?_
 rintro _ h6 _ b9 ⟨_,⟨d,e,f,g,rfl,rfl,U,V,W,X⟩,rfl⟩
 refine⟨(Sl Z), ?_⟩
 refine WT.a0 (qt (.tuple #[(a29_ a9 d e f g),(Iv c0)]) Z (Mv Z) (qt (a29_ a9 d e f g) Z (Xt Z Z) (qt (Iv c0) Z (Xt Z Z) (Ta Z (Al ze29 Z) Z ?_ ?_))))
 rintro _ _ _ - ⟨rfl,g7,rfl,rfl⟩
 have hhas54:=hhas54.mono b9
 refine⟨(Ss Z (Xt Z Z) Z (Ss Z (Xt Z Z) Z (Ss Z (Mv Z) Z (Ss Z (loadMA (cs:=(l102 (rd a0 m) B C D E)) QvA QrH Z hhas54) Z (Ss Z (indexAddr (n:=a0.length) underlying46 QrH Z Z G.1 G.2 T) Z (Ss Z (Mv c) Z (Ss Z (Mv a) Z (Ss Z (La (cs:=[s,t,u,w,(Iv I)]) 1 ag29 sz29 b Z Z) Z trivial)))))))), ?_⟩
 refine Ta Z (Sg (v:=(a29_ a9 d e f g)) (vl:=(l29 a9 d e f g)) (arr':=(l29 a9 d e f g)) Z sz29 Z Z (QaX (Oc (RS.one U) (Oc (RS.one V) (Oc (RS.one W) (Oc (RS.one X) (Oc Z Oz)))))) Z Z Z) Z ?_ ?_
 rintro _ _ _ - ⟨rfl,rfl⟩
 refine⟨(Ss Z (Xt Z Z) Z (Sl Z)), ?_⟩
 refine qt (Iv c0) Z (Ag Z) (Ti (Qb (Qb ?_)))
 obtain rfl:=oi h
 exact Tj ⟨g7,d,e,f,g,b9,Z,a,J,b,c,Z,U,V,W,X⟩
 exact Tz
 exact Tz
 have h:=g1
 refine Ta Z (Al ze29 Z) Z ?_ ?_
 rintro _ _ _ - ⟨rfl,g8,rfl,rfl⟩
 refine⟨(Ss Z (loadMA (cs:=(l102 (rd a0 m) B C D E)) QvA QrH Z hhas54) Z (Ss Z (indexAddr (n:=a0.length) underlying46 QrH Z Z G.1 G.2 T) Z (Ss Z (Mv c) Z (Ss Z (Mv a) Z (Ss Z (La (cs:=[s,t,u,w,(Iv I)]) 1 ag29 sz29 b Z Z) Z trivial))))), ?_⟩
 obtain ⟨⟨b0,c1⟩,g3,h⟩:=bnd h
 refine Ta Z (Ca co49 (QmR (⟨b1,b2,b3,b4,I⟩:QaA) (rd a0 m) _ _ _ _ _ _ _ _ _ b5 b6 b7 b8 O P Q R (b0,c1) g3) (QaS Z Z)) Z ?_ ?_
 rintro _ h7 _ e2 ⟨_,⟨i,j,k,l,rfl,rfl,Y,a1,a2,a3⟩,rfl⟩
 refine⟨(Sl Z), ?_⟩
 refine WT.a0 (qt (.tuple #[(a29_ b0 i j k l),(Iv c1)]) Z (Mv Z) (qt (a29_ b0 i j k l) Z (Xt Z Z) (qt (Iv c1) Z (Xt Z Z) (Ta Z (Sg (v:=(a29_ b0 i j k l)) (vl:=(l29 b0 i j k l)) (arr':=(l29 b0 i j k l)) Z sz29 Z Z (QaX (Oc (RS.one Y) (Oc (RS.one a1) (Oc (RS.one a2) (Oc (RS.one a3) (Oc Z Oz)))))) Z Z Z) Z ?_ ?_))))
 rintro _ _ _ - ⟨rfl,rfl⟩
 refine⟨(Ss Z (Xt Z Z) Z (Sl Z)), ?_⟩
 refine qt (Iv c1) Z (Ag Z) (Ti (Qb (Qb ?_)))
 obtain rfl:=oi h
 exact Tj ⟨g8,i,j,k,l,e2,Z,a,J,b,c,Z,Y,a1,a2,a3⟩
 exact Tz
 exact Tz
 exact Tz
 obtain ⟨d6,d7,d8,d9,N⟩:=f9
 rintro h8 h9 i0 ⟨e0,x,y,z,A,e3,rfl,c2,c3,a4,c4,c5,c7,c8,c9,d0⟩
 refine Cg (qu (.agg #[x,y,z,A,(Iv N)]) (La (cs:=[x,y,z,A,(Iv N)]) 2 ag29 sz29 c5 Z Z) (We (Sg (v:=(.agg #[x,y,z,A,(Iv N)])) (vl:=[x,y,z,A,(Iv N)]) (arr':=[x,y,z,A,(Iv N)]) Z sz29 a4 Z (QaX (Oc (RS.one c7) (Oc (RS.one c8) (Oc (RS.one c9) (Oc (RS.one d0) (Oc Z Oz)))))) Z Z Z) Z ?_))
 rintro _ _ _ - ⟨rfl,rfl⟩
 exact Wz (Bn (Tc (Cg (qM (Iv m) c4 (qu (Iv (i64.wrap (m+1))) (add Z Z) (qa (Iv (i64.wrap (m+1))) (Wz (Qb (Dr (WQ.again (i64.wrap (m+1),d6,d7,d8,d9,N) (oi h).symm ⟨x,y,z,A,(S.trans e3),Z,c2,c3,a4,Z,c7,c8,c9,d0⟩))))))))))
 refine WC.exit (WQ.thenE (WQ.leaveE (b1,b2,b3,b4,I) (oi h).symm (fun e4=> ?_)))
 subst e4
 have h:=f7
 refine WQ.blockH ?_
 obtain rfl:=oi h
 exact Tj ⟨s,t,u,w,S,Z,J,b,b5,b6,b7,b8⟩
 obtain ⟨f2,f3,f4,f5,L⟩:=e7
 rintro i1 i2 i3 ⟨o,p,q,r,e5,rfl,a5,c6,d1,d2,d3,d4⟩
 refine Sr (qu (.agg #[o,p,q,r,(Iv L)]) (La (cs:=[o,p,q,r,(Iv L)]) 0 ag29 sz29 c6 Z Z) (WL.f1 (We (Sg (v:=(.agg #[o,p,q,r,(Iv L)])) (vl:=[o,p,q,r,(Iv L)]) (arr':=[o,p,q,r,(Iv L)]) Z sz29 a5 Z (QaX (Oc (RS.one d1) (Oc (RS.one d2) (Oc (RS.one d3) (Oc (RS.one d4) (Oc Z Oz)))))) Z Z Z) Z ?_)))
 rintro _ _ _ - ⟨rfl,rfl⟩
 exact Nt (Cr (Qa (Dr (Rd h [] (fun _ hs=>hs.drop) (QbA Z (Rc (cs:=[o,p,q,r,(Iv L)]) 0 ag29 sz29 a5 Z Z)) e5 ⟨o,p,q,r,Z,Z,d1,d2,d3,d4⟩))))
noncomputable def QeZ (a0:ByteArray) (e:Int):Option (Int⊕(Unit⊕Unit)):=
 match e with
 |a=>
 (if(decide (a<((bytesOf a0).length:Int)))=true then(grd (0≤a∧a<(bytesOf a0).length) (((if(decide ((97:Int)≤(rd (bytesOf a0) a)))=true then(if(decide ((48:Int)≤(rd (bytesOf a0) a)))=true then(some (decide ((rd (bytesOf a0) a)≤(122:Int)),decide ((rd (bytesOf a0) a)≤(57:Int))))else(some (decide ((rd (bytesOf a0) a)≤(122:Int)),false)))else(if(decide ((48:Int)≤(rd (bytesOf a0) a)))=true then(some (false,decide ((rd (bytesOf a0) a)≤(57:Int))))else(some (false,false)))):Option (Bool×Bool)).bind fun(b,c)=>(((if(!b)=true then(if(!c)=true then(if(decide ((rd (bytesOf a0) a)≠(46:Int)))=true then(some (decide ((rd (bytesOf a0) a)≠(45:Int))))else(some false))else(some false))else(some false)):Option Bool).bind fun d=>(if d=true then(some (inr (inr ())))else(some (inl (i64.wrap (a+(1:Int)))))))))else(some (inr (inl ()))))
noncomputable def Qe9 (a0:ByteArray):Option Bool:=
 (((if(decide (a0=(⟨#[]⟩:ByteArray)))=true then(some true)else(if(decide ((40:Int)<(a0.size:Int)))=true then(some true)else(if(decide (a0=(⟨#[46]⟩:ByteArray)))=true then(some true)else(some (decide (a0=(⟨#[46,46]⟩:ByteArray))))))):Option Bool).bind fun a=>(if a=true then(some false)else((((iter (QeZ a0) (0:Int)).bind (Sum.elim (fun _=>(some (inl ()))) (fun _=>(((some false)).bind fun r=>some (inr r))))):Option (Unit⊕Bool)).bind (Sum.elim (fun _=>(some true)) some))))
def QqS (a0:ByteArray):Bool→Value→IM→HL→Prop:=
 fun(a:Bool) (v:Value) (c:IM) (b:HL)=>(.bool a)=v∧b=[]
theorem QiD (a0:ByteArray) (M:IM) (a1:Bool) (h:Qe9 a0=some a1):
 Tri prog 81 #[(Sv a0)] M [] (QqS a0 a1):=by
 unfold Qe9 at h
 refine Te func81 Z Z ?_
 intro F ρ Q
 refine Sr (qa (Bv false) (Nt (Cs ?_)))
 obtain ⟨S,a2,h⟩:=bnd h
 refine Jf (fun(S:Bool) s J K=>M.le J∧F=K∧s 0=(Sv a0)∧s 21=(Bv S)) S ?_ ?_
 have h:=a2
 refine Cg (qM (Sv a0) (Q 0) (qu (Bv (decide (a0=(⟨#[]⟩:ByteArray)))) (seql Z Z) (qm (Bv (decide (a0=(⟨#[]⟩:ByteArray)))) ?_)))
 rcases Bi h with⟨i,h⟩ |⟨i,h⟩
 iterate 3 refine Of 9 Z Z i Z ?_
 refine qu (Bv true) (Pt Z i Z) (qm (Bv true) ?_)
 iterate 2 refine Of 14 Z Z Z Z ?_
 refine qu (Bv true) (Pt Z Z Z) (qm (Bv true) ?_)
 iterate 2 refine Of 18 Z Z Z Z ?_
 refine qu (Bv true) (Pt Z Z Z) (Wz ?_)
 obtain rfl:=oi h
 exact Tj ⟨lr,Z,(Q 0),Z⟩
 refine On 9 Z Z i (qM (Sv a0) (Q 0) (qo 9 i (Iv (a0.size:Int)) (lenStr underlying9 Z) (qo 9 i (Bv (decide ((40:Int)<(a0.size:Int)))) (gtr Z Z) (qu (Bv (decide ((40:Int)<(a0.size:Int)))) (Pf Z i Z) (qm (Bv (decide ((40:Int)<(a0.size:Int)))) ?_)))))
 rcases Bi h with⟨j,h⟩ |⟨j,h⟩
 iterate 2 refine Of 14 Z Z j Z ?_
 refine qu (Bv true) (Pt Z j Z) (qm (Bv true) ?_)
 iterate 2 refine Of 18 Z Z Z Z ?_
 refine qu (Bv true) (Pt Z Z Z) (Wz ?_)
 obtain rfl:=oi h
 exact Tj ⟨lr,Z,(Q 0),Z⟩
 refine On 14 Z Z j (qM (Sv a0) (Q 0) (qo 14 j (Bv (decide (a0=(⟨#[46]⟩:ByteArray)))) (seql Z Z) (qu (Bv (decide (a0=(⟨#[46]⟩:ByteArray)))) (Pf Z j Z) (qm (Bv (decide (a0=(⟨#[46]⟩:ByteArray)))) ?_))))
 rcases Bi h with⟨k,h⟩ |⟨k,h⟩
 iterate 2 refine Of 18 Z Z k Z ?_
 refine qu (Bv true) (Pt Z k Z) (Wz ?_)
 obtain rfl:=oi h
 exact Tj ⟨lr,Z,(Q 0),Z⟩
 refine On 18 Z Z k (qM (Sv a0) (Q 0) (qo 18 k (Bv (decide (a0=(⟨#[46,46]⟩:ByteArray)))) (seql Z Z) (qu (Bv (decide (a0=(⟨#[46,46]⟩:ByteArray)))) (Pf Z k Z) (Wz ?_))))
 obtain rfl:=oi h
 exact Tj ⟨lr,Z,(Q 0),Z⟩
 rintro b8 a3 b9 ⟨u,rfl,L,z⟩
 refine Ch h z (fun a4 h=> ?_) (fun a4 h=> ?_)
 exact Sr (qa (Bv false) (Nt (Cr (Tr (Rf h [] Z (Rs Z Z) u ⟨Z,Z⟩)))))
 refine Ck (Tc ?_)
 obtain ⟨b3,a5,h⟩:=bnd h
 refine WC.joinE (fun(_:Unit) s J K=>a3.le J∧F=K) b3 ?_ ?_
 have a6:=h
 have h:=a5
 refine Sr (qM (Sv a0) L (We (s2b underlying9 underlying22 underlying5 Z) Z ?_))
 rintro T _ _ - ⟨rfl,U,rfl,N⟩
 refine qu (Iv ((bytesOf a0).length:Int)) (lenS underlying22 Z N.len) (qm (Iv 0) (Nt (Bk ?_)))
 obtain ⟨c0,a7,R⟩:=bnd h
 clear h
 refine WC.loop a7 (fun(a:Int) s J K=>a3.le J∧U::F=K∧s 23=T∧s 24=(Iv ((bytesOf a0).length:Int))∧s 25=(Iv a)) ?_ ?_
 exact⟨lr,Z,Z,Z,Z⟩
 rintro a c1 c2 b4 c3 h ⟨t,rfl,c,d,b⟩
 unfold QeZ at h
 refine Sr (qu (Bv (decide (a<((bytesOf a0).length:Int)))) (lss b d) (Nt (Cs (Ch h Z (fun a8 h=> ?_) (fun a8 h=> ?_)))))
 refine Ck (Tc (Cs (Bk (Sr ?_))))
 obtain ⟨w,h⟩:=Qa1 h
 have N:=N.mono t
 obtain ⟨b5,b7,V,W,hhas39⟩:=N.at w.1 w.2
 obtain rfl:=W
 refine qu (.pointer (some b5)) (indexAddr (n:=(bytesOf a0).length) underlying22 sz5 c b w.1 w.2 V) (qu (Yv (rd (bytesOf a0) a)) (loadC 0 pl5 Z Z (QuK hhas39)) (qa (Yv (rd (bytesOf a0) a)) (Nt ?_)))
 obtain ⟨a9,b0,h⟩:=bnd h
 refine Jf (fun(p_:(Bool×Bool)) s J K=>match p_ with |(A,y)=>b4.le J∧U::F=K∧s 4=(Yv (rd (bytesOf a0) a))∧s 5=(Bv A)∧s 6=(Bv y)∧s 23=T∧s 24=(Iv ((bytesOf a0).length:Int))∧s 25=(Iv a)) a9 ?_ ?_
 have h:=b0
 refine Cg (qm (Yv (rd (bytesOf a0) a)) (qu (Bv (decide ((97:Int)≤(rd (bytesOf a0) a)))) (geq Z Z) (qm (Bv (decide ((97:Int)≤(rd (bytesOf a0) a)))) ?_)))
 rcases Bi h with⟨l,h⟩ |⟨l,h⟩
 refine On 31 Z Z l (qm (Yv (rd (bytesOf a0) a)) (qo 31 l (Bv (decide ((rd (bytesOf a0) a)≤122))) (leq Z Z) (qu (Bv (decide ((rd (bytesOf a0) a)≤122))) (Pt Z l Z) (qm (Yv (rd (bytesOf a0) a)) (qu (Bv (decide ((48:Int)≤(rd (bytesOf a0) a)))) (geq Z Z) (qm (Bv (decide ((48:Int)≤(rd (bytesOf a0) a)))) ?_))))))
 rcases Bi h with⟨m,h⟩ |⟨m,h⟩
 refine On 37 Z Z m (qm (Yv (rd (bytesOf a0) a)) (qo 37 m (Bv (decide ((rd (bytesOf a0) a)≤57))) (leq Z Z) (qu (Bv (decide ((rd (bytesOf a0) a)≤57))) (Pt Z m Z) (qa (Bv (decide ((rd (bytesOf a0) a)≤122))) (qa (Bv (decide ((rd (bytesOf a0) a)≤57))) (Wz ?_))))))
 obtain rfl:=oi h
 exact Tj ⟨lr,Z,Z,Z,Z,c,d,b⟩
 iterate 2 refine Of 37 Z Z m Z ?_
 refine qu (Bv false) (Pf Z m Z) (qa (Bv (decide ((rd (bytesOf a0) a)≤122))) (qa (Bv false) (Wz ?_)))
 obtain rfl:=oi h
 exact Tj ⟨lr,Z,Z,Z,Z,c,d,b⟩
 iterate 2 refine Of 31 Z Z l Z ?_
 refine qu (Bv false) (Pf Z l Z) (qm (Yv (rd (bytesOf a0) a)) (qu (Bv (decide ((48:Int)≤(rd (bytesOf a0) a)))) (geq Z Z) (qm (Bv (decide ((48:Int)≤(rd (bytesOf a0) a)))) ?_)))
 rcases Bi h with⟨o,h⟩ |⟨o,h⟩
 refine On 37 Z Z o (qm (Yv (rd (bytesOf a0) a)) (qo 37 o (Bv (decide ((rd (bytesOf a0) a)≤57))) (leq Z Z) (qu (Bv (decide ((rd (bytesOf a0) a)≤57))) (Pt Z o Z) (qa (Bv false) (qa (Bv (decide ((rd (bytesOf a0) a)≤57))) (Wz ?_))))))
 obtain rfl:=oi h
 exact Tj ⟨lr,Z,Z,Z,Z,c,d,b⟩
 iterate 2 refine Of 37 Z Z o Z ?_
 refine qu (Bv false) (Pf Z o Z) (qa (Bv false) (qa (Bv false) (Wz ?_)))
 obtain rfl:=oi h
 exact Tj ⟨lr,Z,Z,Z,Z,c,d,b⟩
 obtain ⟨A,y⟩:=a9
 rintro c5 b6 c6 ⟨B,rfl,x,O,P,e,f,g⟩
 obtain ⟨X,b1,h⟩:=bnd h
 refine Jf (fun(X:Bool) s J K=>b6.le J∧U::F=K∧s 23=T∧s 24=(Iv ((bytesOf a0).length:Int))∧s 25=(Iv a)∧s 54=(Bv X)) X ?_ ?_
 have h:=b1
 refine Cg (qM (Bv A) O (qu (Bv (!A)) (PO.not Z) (qm (Bv (!A)) ?_)))
 rcases Bi h with⟨p,h⟩ |⟨p,h⟩
 refine On 43 Z Z p (qM (Bv y) P (qo 43 p (Bv (!y)) (PO.not Z) (qu (Bv (!y)) (Pt Z p Z) (qm (Bv (!y)) ?_))))
 rcases Bi h with⟨q,h⟩ |⟨q,h⟩
 refine On 47 Z Z q (qM (Yv (rd (bytesOf a0) a)) x (qo 47 q (Bv (decide ((rd (bytesOf a0) a)≠46))) (neq Z Z) (qu (Bv (decide ((rd (bytesOf a0) a)≠46))) (Pt Z q Z) (qm (Bv (decide ((rd (bytesOf a0) a)≠46))) ?_))))
 rcases Bi h with⟨r,h⟩ |⟨r,h⟩
 refine On 51 Z Z r (qM (Yv (rd (bytesOf a0) a)) x (qo 51 r (Bv (decide ((rd (bytesOf a0) a)≠45))) (neq Z Z) (qu (Bv (decide ((rd (bytesOf a0) a)≠45))) (Pt Z r Z) (Wz ?_))))
 obtain rfl:=oi h
 exact Tj ⟨lr,Z,e,f,g,Z⟩
 iterate 2 refine Of 51 Z Z r Z ?_
 refine qu (Bv false) (Pf Z r Z) (Wz ?_)
 obtain rfl:=oi h
 exact Tj ⟨lr,Z,e,f,g,Z⟩
 iterate 2 refine Of 47 Z Z q Z ?_
 refine qu (Bv false) (Pf Z q Z) (qm (Bv false) ?_)
 iterate 2 refine Of 51 Z Z Z Z ?_
 refine qu (Bv false) (Pf Z Z Z) (Wz ?_)
 obtain rfl:=oi h
 exact Tj ⟨lr,Z,e,f,g,Z⟩
 iterate 2 refine Of 43 Z Z p Z ?_
 refine qu (Bv false) (Pf Z p Z) (qm (Bv false) ?_)
 iterate 2 refine Of 47 Z Z Z Z ?_
 refine qu (Bv false) (Pf Z Z Z) (qm (Bv false) ?_)
 iterate 2 refine Of 51 Z Z Z Z ?_
 refine qu (Bv false) (Pf Z Z Z) (Wz ?_)
 obtain rfl:=oi h
 exact Tj ⟨lr,Z,e,f,g,Z⟩
 rintro c7 c8 c9 ⟨C,rfl,D,E,G,I⟩
 refine Ch h I (fun b2 h=> ?_) (fun b2 h=> ?_)
 refine Sr (qa (Bv false) (Nt (Cr (Br (Tr (WQ.leaveR (inr ()) (oi h).symm (fun v=> ?_)))))))
 subst v
 have h:=(QdZ R)
 refine Br (Tr ?_)
 have h:=KK.early h a6
 exact Dr (Rf h [] Z (Rs Z Z) (((u.trans t).trans B).trans C) ⟨Z,Z⟩)
 exact Ck (Bn (Tc (Cg (qu (Iv (i64.wrap (a+1))) (add G Z) (qm (Iv (i64.wrap (a+1))) (Wz (WQ.again (i64.wrap (a+1)) (oi h).symm ⟨((t.trans B).trans C),Z,D,E,Z⟩)))))))
 refine WC.exit (WQ.thenE (WQ.leaveE (inl ()) (oi h).symm (fun v=> ?_)))
 subst v
 have h:=QeV R
 exact WQ.blockH (Dr (WQ.thenFE h ⟨t,Z⟩))
 rintro _ d0 d1 d2 rfl ⟨Y,rfl⟩
 have h:=(Sum.elim_inl _ _ _).symm.trans h
 exact Sr (qa (Bv true) (Nt (Cr (Rf h [] Z (Rs Z Z) (u.trans Y) ⟨Z,Z⟩))))
noncomputable def QdQ (a0:ByteArray) (a1:Int) (a2:Int):Option GErr:=
 (some (GErr.fault a0 a1 (GErr.code a2)))
def QtK (a0:ByteArray) (a1:Int) (a2:Int):GErr→Value→IM→HL→Prop:=
 fun(a:GErr) (v:Value) (c:IM) (b:HL)=>(GV a)=v∧b=[]
theorem QdH (a0:ByteArray) (a1:Int) (a2:Int) (M:IM) (a:GErr) (h:QdQ a0 a1 a2=some a):
 Tri prog 54 #[(Sv a0),(Iv a1),(Iv a2)] M [] (QtK a0 a1 a2 a):=by
 unfold QdQ at h
 refine Te func54 Z Z ?_
 intro F c b
 refine Sr (qa (GV GErr.nil) (Ns (qM (Sv a0) (b 0) (qM (Iv a1) (b 1) (qM (Iv a2) (b 2) (qu (GV (GErr.code a2)) (makeInterface cc34 Z) (qu (.agg #[(Sv a0),(Iv a1),(GV (GErr.code a2))]) (Bl (cl:=[(Sv a0),(Iv a1),(GV (GErr.code a2))]) Q3A Q5Y (Pc (Sv a0) Z Z (Pc (Iv a1) Z Z (Parts.cons ((congrArg Value.cells (show ev _ _=(GV (GErr.code a2)) from Z)).trans (GErr.val_cells _ _ _ _)) Pz))) Z) (qu (GV (GErr.fault a0 a1 (GErr.code a2))) (makeInterface Q5N Z) (qa (GV (GErr.fault a0 a1 (GErr.code a2))) (Nt (Cr ?_)))))))))))
 exact Rf h [] Z (Rs Z Z) lr ⟨Z,Z⟩
noncomputable def QhV (a0:QaK) (a1:Int):Option Bool:=
 (some (decide (a0.Leader=a1)))
def Qm3 (a0:QaK) (a1:Int) (a b c d:Value) (e:Nat):Bool→Value→IM→HL→Prop:=
 fun(f:Bool) (v:Value) (i:IM) (g:HL)=>(.bool f)=v∧g=[[(e, .cells #[(.int .i64 a1)] 3 (0,0))]]
theorem QoT (a0:QaK) (a1:Int) (M:IM) (a b c d:Value) (f:Nat) (i:RS (Kd.int .i64) M a a0.Ids) (j:RS (Kd.int .i64) M b a0.Isr) (k:RS (Kd.int .i64) M c a0.Add) (l:RS (Kd.int .i64) M d a0.Drop) (e:Bool) (h:QhV a0 a1=some e):
 Tri prog 117 #[(a53_ a0 a b c d),(pt f 0)] M [[(f, .cells #[(Iv a1)] 3 (0,0))]] (Qm3 a0 a1 a b c d f e):=by
 unfold QhV at h
 refine Te func117 Z Z ?_
 intro F n m
 refine Sr (We (box (cs:=(l53 a0 a b c d).toArray) (congrArg Value.cells (asE (a53_ a0 a b c d) (m 0)))) Z ?_)
 rintro _ _ _ - ⟨rfl,g,rfl,rfl⟩
 exact qa (Bv false) (Ns (qu (pt g 2) (Fa QkK Z Z) (qu (Iv a0.Leader) (Lb 0 pl3 Z Z Z) (qu (Iv a1) (Lb 1 pl3 (m 1) Z Z) (qu (Bv (decide (a0.Leader=a1))) (eql Z Z) (qa (Bv (decide (a0.Leader=a1))) (Nt (Cr (Dr (Rf h [[(f, .cells #[(Iv a1)] 3 (0,0))]] Z (Rs Z Z) lr ⟨Z,Z⟩))))))))))
noncomputable def Qb5 (a0:(List QaK)) (a1k0:Int) (c:Int):Option (Int⊕(Unit⊕Int)):=
 match c with
 |a=>
 (if(decide (a<(a0.length:Int)))=true then(grd (0≤a∧a<a0.length) ((QhV (rd a0 a) a1k0).bind fun b=>(if b=true then(some (inr (inr a)))else(some (inl (i64.wrap (a+(1:Int))))))))else(some (inr (inl ()))))
noncomputable def QcC (a0:(List QaK)) (a1k0:Int):Option Int:=
 ((((iter (Qb5 a0 a1k0) (0:Int)).bind (Sum.elim (fun _=>(some (inl ()))) (fun(a:Int)=>(((some a)).bind fun r=>some (inr r))))):Option (Unit⊕Int)).bind (Sum.elim (fun _=>(some (-1:Int))) some))
def QgJ (a0:(List QaK)) (a1k0:Int) (c:Value) (g1k0:Nat):Int→Value→IM→HL→Prop:=
 fun(a:Int) (v:Value) (d:IM) (b:HL)=>(.int .i64 a)=v∧b=[[(g1k0, .cells #[(.int .i64 a1k0)] 3 (0,0))]]
theorem Qg3 (a0:(List QaK)) (a1k0:Int) (M:IM) (x:Value) (g1k0:Nat) (I:RS QbD M x a0) (y:Int) (h:QcC a0 a1k0=some y):
 Tri prog 131 #[x,(.func (.func 117) #[] #[(pt g1k0 0)])] M [[(g1k0, .cells #[(Iv a1k0)] 3 (0,0))]] (QgJ a0 a1k0 x g1k0 y):=by
 unfold QcC at h
 refine Te func131 Z Z ?_
 intro F ρ J
 refine Sr (qa (Iv 0) (Nt ?_))
 obtain ⟨K,z,h⟩:=bnd h
 refine WC.joinE (fun(_:Unit) A L N=>M.le L∧[(g1k0, .cells #[(Iv a1k0)] 3 (0,0))]::F=N) K ?_ ?_
 have B:=h
 have h:=z
 refine Sr (qM x (J 0) (qu (Iv (a0.length:Int)) (lenS underlying48 Z I.len) (qm (Iv 0) (Nt (Bk ?_)))))
 obtain ⟨R,C,t⟩:=bnd h
 clear h
 refine WC.loop C (fun(a:Int) A L N=>M.le L∧[(g1k0, .cells #[(Iv a1k0)] 3 (0,0))]::F=N∧A 0=x∧A 1=(.func (.func 117) #[] #[(pt g1k0 0)])∧A 7=(Iv (a0.length:Int))∧A 8=(Iv a)) ?_ ?_
 exact⟨lr,Z,(J 0),(J 1),Z,Z⟩
 rintro a S T U V h ⟨b,rfl,e,f,g,c⟩
 unfold Qb5 at h
 refine Sr (qu (Bv (decide (a<(a0.length:Int)))) (lss c g) (Nt (Cs (Ch h Z (fun D h=> ?_) (fun D h=> ?_)))))
 refine Ck (Tc (Cs (Bk (Sr (qM (Iv a) c (qa (Iv a) (Ns (qM (.func (.func 117) #[] #[(pt g1k0 0)]) f (qM x e (qm (Iv a) ?_))))))))))
 obtain ⟨i,h⟩:=Qa1 h
 have I:=I.mono b
 obtain ⟨O,Q,u,v,hhas31⟩:=I.at i.1 i.2 (by decide)
 obtain ⟨j,k,l,m,rfl,p,q,r,s⟩:=QcY v
 refine qu (.pointer (some O)) (indexAddr (n:=a0.length) underlying48 sz53 Z Z i.1 i.2 u) (qu (a53_ (rd a0 a) j k l m) (loadMA (cs:=(l53 (rd a0 a) j k l m)) ag53 sz53 Z hhas31) ?_)
 obtain ⟨P,E,h⟩:=bnd h
 refine We (callV1 (first:=#[]) (cap:=#[(pt g1k0 0)]) Q7Q Z (QoT (rd a0 a) a1k0 _ _ _ _ _ _ p q r s P E) (QzS Z Z)) Z ?_
 rintro _ W _ o ⟨_,⟨rfl,rfl⟩,rfl⟩
 refine WL.a1 (Nt (Ch h Z (fun G h=> ?_) (fun G h=> ?_)))
 refine Sr (qm (Iv a) (qa (Iv a) (Nt (Cr (Br (Tr (WQ.leaveR (inr a) (oi h).symm (fun d=> ?_))))))))
 subst d
 have h:=(QdZ t)
 refine Br (Tr ?_)
 have h:=KK.early h B
 exact Rf h [[(g1k0, .cells #[(Iv a1k0)] 3 (0,0))]] Z (Rs Z Z) (b.trans o) ⟨Z,Z⟩
 exact Ck (Bn (Tc (Cg (qu (Iv (i64.wrap (a+1))) (add c Z) (qm (Iv (i64.wrap (a+1))) (Wz (WQ.again (i64.wrap (a+1)) (oi h).symm ⟨(b.trans o),Z,e,f,g,Z⟩)))))))
 refine WC.exit (WQ.thenE (WQ.leaveE (inl ()) (oi h).symm (fun d=> ?_)))
 subst d
 have h:=QeV t
 exact WQ.blockH (WQ.thenFE h ⟨b,Z⟩)
 rintro _ X Y a2 rfl ⟨w,rfl⟩
 have h:=(Sum.elim_inl _ _ _).symm.trans h
 exact Sr (qa (Iv (-1:Int)) (Nt (Cr (Rf h [[(g1k0, .cells #[(Iv a1k0)] 3 (0,0))]] Z (Rs Z Z) w ⟨Z,Z⟩))))
noncomputable def QbK (a0:(List QaK)) (a1k0:Int):Option Bool:=
 ((QcC a0 a1k0).bind fun a=>(some (decide ((0:Int)≤a))))
def QfZ (a0:(List QaK)) (a1k0:Int) (c:Value) (g1k0:Nat):Bool→Value→IM→HL→Prop:=
 fun(a:Bool) (v:Value) (d:IM) (b:HL)=>(.bool a)=v∧b=[[(g1k0, .cells #[(.int .i64 a1k0)] 3 (0,0))]]
theorem QgB (a0:(List QaK)) (a1k0:Int) (M:IM) (e:Value) (g1k0:Nat) (g:RS QbD M e a0) (c:Bool) (h:QbK a0 a1k0=some c):
 Tri prog 116 #[e,(.func (.func 117) #[] #[(pt g1k0 0)])] M [[(g1k0, .cells #[(Iv a1k0)] 3 (0,0))]] (QfZ a0 a1k0 e g1k0 c):=by
 unfold QbK at h
 refine Te func116 Z Z ?_
 intro F j f
 refine Sr (qa (Bv false) (Ns (qM e (f 0) (qM (.func (.func 117) #[] #[(pt g1k0 0)]) (f 1) ?_))))
 obtain ⟨a,d,h⟩:=bnd h
 refine We (Cb Q7X (Qg3 a0 a1k0 _ _ _ g a d) (QaS Z Z)) Z ?_
 rintro _ i _ b ⟨_,⟨rfl,rfl⟩,rfl⟩
 exact WL.a1 (qu (Bv (decide ((0:Int)≤a))) (geq Z Z) (qa (Bv (decide ((0:Int)≤a))) (Nt (Cr (Rf h [[(g1k0, .cells #[(Iv a1k0)] 3 (0,0))]] Z (Rs Z Z) b ⟨Z,Z⟩)))))
noncomputable def QiU (a0:QaE) (a1:Int):Option Bool:=
 ((QbK a0.Parts a1).bind fun a=>(some a))
def QoU (a0:QaE) (a1:Int) (a:Value) (b:Nat):Bool→Value→IM→HL→Prop:=
 fun(c:Bool) (v:Value) (e:IM) (d:HL)=>(.bool c)=v∧d=[[(b, .cells #[(.int .i64 a1)] 3 (0,0))]]
theorem QqT (a0:QaE) (a1:Int) (M:IM) (a:Value) (c:Nat) (d:RS QbD M a a0.Parts) (e:Bool) (h:QiU a0 a1=some e):
 Tri prog 115 #[(a50_ a0 a),(pt c 0)] M [[(c, .cells #[(Iv a1)] 3 (0,0))]] (QoU a0 a1 a c e):=by
 unfold QiU at h
 refine Te func115 Z Z ?_
 intro F l j
 refine Sr (We (box (cs:=(l50 a0 a).toArray) (congrArg Value.cells (asE (a50_ a0 a) (j 0)))) Z ?_)
 rintro _ _ _ - ⟨rfl,i,rfl,rfl⟩
 refine qa (Bv false) (Ns (qu (pt i 2) (Fa Qd0 Z Z) (qu a (Lb 0 pl48 Z Z Z) (qu (.func (.func 117) #[] #[(pt c 0)]) (makeFunc2 (QmW) (Qb2 (asE (Value.pointer (some ⟨c,0,none⟩)) (j 1)))) ?_))))
 obtain ⟨f,g,h⟩:=bnd h
 refine WL.f1 (We (Cb Q7P (QgB a0.Parts a1 _ _ _ d f g) (QaS Z Z)) Z ?_)
 rintro _ k _ b ⟨_,⟨rfl,rfl⟩,rfl⟩
 exact WL.a1 (qa (Bv f) (Nt (Cr (Qa (Dr (Rf h [[(c, .cells #[(Iv a1)] 3 (0,0))]] Z (Rs Z Z) b ⟨Z,Z⟩))))))
noncomputable def Qb7 (a0:(List QaE)) (a1k0:Int) (c:Int):Option (Int⊕(Unit⊕Int)):=
 match c with
 |a=>
 (if(decide (a<(a0.length:Int)))=true then(grd (0≤a∧a<a0.length) ((QiU (rd a0 a) a1k0).bind fun b=>(if b=true then(some (inr (inr a)))else(some (inl (i64.wrap (a+(1:Int))))))))else(some (inr (inl ()))))
noncomputable def QcI (a0:(List QaE)) (a1k0:Int):Option Int:=
 ((((iter (Qb7 a0 a1k0) (0:Int)).bind (Sum.elim (fun _=>(some (inl ()))) (fun(a:Int)=>(((some a)).bind fun r=>some (inr r))))):Option (Unit⊕Int)).bind (Sum.elim (fun _=>(some (-1:Int))) some))
def QgX (a0:(List QaE)) (a1k0:Int) (c:Value) (g1k0:Nat):Int→Value→IM→HL→Prop:=
 fun(a:Int) (v:Value) (d:IM) (b:HL)=>(.int .i64 a)=v∧b=[[(g1k0, .cells #[(.int .i64 a1k0)] 3 (0,0))]]
theorem QhE (a0:(List QaE)) (a1k0:Int) (M:IM) (r:Value) (g1k0:Nat) (A:RS QaI M r a0) (s:Int) (h:QcI a0 a1k0=some s):
 Tri prog 130 #[r,(.func (.func 115) #[] #[(pt g1k0 0)])] M [[(g1k0, .cells #[(Iv a1k0)] 3 (0,0))]] (QgX a0 a1k0 r g1k0 s):=by
 unfold QcI at h
 refine Te func130 Z Z ?_
 intro F U B
 refine Sr (qa (Iv 0) (Nt ?_))
 obtain ⟨C,t,h⟩:=bnd h
 refine WC.joinE (fun(_:Unit) u D E=>M.le D∧[(g1k0, .cells #[(Iv a1k0)] 3 (0,0))]::F=E) C ?_ ?_
 have v:=h
 have h:=t
 refine Sr (qM r (B 0) (qu (Iv (a0.length:Int)) (lenS underlying25 Z A.len) (qm (Iv 0) (Nt (Bk ?_)))))
 obtain ⟨K,w,m⟩:=bnd h
 clear h
 refine WC.loop w (fun(a:Int) u D E=>M.le D∧[(g1k0, .cells #[(Iv a1k0)] 3 (0,0))]::F=E∧u 0=r∧u 1=(.func (.func 115) #[] #[(pt g1k0 0)])∧u 7=(Iv (a0.length:Int))∧u 8=(Iv a)) ?_ ?_
 exact⟨lr,Z,(B 0),(B 1),Z,Z⟩
 rintro a L N O P h ⟨b,rfl,e,f,g,c⟩
 unfold Qb7 at h
 refine Sr (qu (Bv (decide (a<(a0.length:Int)))) (lss c g) (Nt (Cs (Ch h Z (fun x h=> ?_) (fun x h=> ?_)))))
 refine Ck (Tc (Cs (Bk (Sr (qM (Iv a) c (qa (Iv a) (Ns (qM (.func (.func 115) #[] #[(pt g1k0 0)]) f (qM r e (qm (Iv a) ?_))))))))))
 obtain ⟨i,h⟩:=Qa1 h
 have A:=A.mono b
 obtain ⟨G,J,o,p,hhas31⟩:=A.at i.1 i.2 (by decide)
 obtain ⟨j,rfl,l⟩:=QaW p
 refine qu (.pointer (some G)) (indexAddr (n:=a0.length) underlying25 sz50 Z Z i.1 i.2 o) (qu (a50_ (rd a0 a) j) (loadMA (cs:=(l50 (rd a0 a) j)) ag50 sz50 Z hhas31) ?_)
 obtain ⟨I,y,h⟩:=bnd h
 refine We (callV1 (first:=#[]) (cap:=#[(pt g1k0 0)]) Q7O Z (QqT (rd a0 a) a1k0 _ _ _ l I y) (QzS Z Z)) Z ?_
 rintro _ Q _ k ⟨_,⟨rfl,rfl⟩,rfl⟩
 refine WL.a1 (Nt (Ch h Z (fun z h=> ?_) (fun z h=> ?_)))
 refine Sr (qm (Iv a) (qa (Iv a) (Nt (Cr (Br (Tr (WQ.leaveR (inr a) (oi h).symm (fun d=> ?_))))))))
 subst d
 have h:=(QdZ m)
 refine Br (Tr ?_)
 have h:=KK.early h v
 exact Rf h [[(g1k0, .cells #[(Iv a1k0)] 3 (0,0))]] Z (Rs Z Z) (b.trans k) ⟨Z,Z⟩
 exact Ck (Bn (Tc (Cg (qu (Iv (i64.wrap (a+1))) (add c Z) (qm (Iv (i64.wrap (a+1))) (Wz (WQ.again (i64.wrap (a+1)) (oi h).symm ⟨(b.trans k),Z,e,f,g,Z⟩)))))))
 refine WC.exit (WQ.thenE (WQ.leaveE (inl ()) (oi h).symm (fun d=> ?_)))
 subst d
 have h:=QeV m
 exact WQ.blockH (WQ.thenFE h ⟨b,Z⟩)
 rintro _ R S T rfl ⟨q,rfl⟩
 have h:=(Sum.elim_inl _ _ _).symm.trans h
 exact Sr (qa (Iv (-1:Int)) (Nt (Cr (Rf h [[(g1k0, .cells #[(Iv a1k0)] 3 (0,0))]] Z (Rs Z Z) q ⟨Z,Z⟩))))
noncomputable def QbL (a0:(List QaE)) (a1k0:Int):Option Bool:=
 ((QcI a0 a1k0).bind fun a=>(some (decide ((0:Int)≤a))))
def Qf6 (a0:(List QaE)) (a1k0:Int) (c:Value) (g1k0:Nat):Bool→Value→IM→HL→Prop:=
 fun(a:Bool) (v:Value) (d:IM) (b:HL)=>(.bool a)=v∧b=[[(g1k0, .cells #[(.int .i64 a1k0)] 3 (0,0))]]
theorem QgK (a0:(List QaE)) (a1k0:Int) (M:IM) (e:Value) (g1k0:Nat) (g:RS QaI M e a0) (c:Bool) (h:QbL a0 a1k0=some c):
 Tri prog 114 #[e,(.func (.func 115) #[] #[(pt g1k0 0)])] M [[(g1k0, .cells #[(Iv a1k0)] 3 (0,0))]] (Qf6 a0 a1k0 e g1k0 c):=by
 unfold QbL at h
 refine Te func114 Z Z ?_
 intro F j f
 refine Sr (qa (Bv false) (Ns (qM e (f 0) (qM (.func (.func 115) #[] #[(pt g1k0 0)]) (f 1) ?_))))
 obtain ⟨a,d,h⟩:=bnd h
 refine We (Cb Q7W (QhE a0 a1k0 _ _ _ g a d) (QaS Z Z)) Z ?_
 rintro _ i _ b ⟨_,⟨rfl,rfl⟩,rfl⟩
 exact WL.a1 (qu (Bv (decide ((0:Int)≤a))) (geq Z Z) (qa (Bv (decide ((0:Int)≤a))) (Nt (Cr (Rf h [[(g1k0, .cells #[(Iv a1k0)] 3 (0,0))]] Z (Rs Z Z) b ⟨Z,Z⟩)))))
noncomputable def QiV (a0:QaA) (a1:Int):Option Bool:=
 ((QbL a0.Topics a1).bind fun a=>(some a))
def QqU (a0:QaA) (a1:Int) (a b c d:Value):Bool→Value→IM→HL→Prop:=
 fun(e:Bool) (v:Value) (g:IM) (f:HL)=>(.bool e)=v∧f=[]
theorem QtL (a0:QaA) (a1:Int) (M:IM) (b a c d:Value) (m:RS QaG M b a0.Brokers) (f:RS QaI M a a0.Topics) (n:RS QaH M c a0.Configs) (o:RS QaL M d a0.Done) (g:Bool) (h:QiV a0 a1=some g):
 Tri prog 82 #[(a29_ a0 b a c d),(Iv a1)] M [] (QqU a0 a1 b a c d g):=by
 unfold QiV at h
 refine Te func82 Z Z ?_
 intro F r p
 refine Sr (We (box (cs:=(l29 a0 b a c d).toArray) (congrArg Value.cells (asE (a29_ a0 b a c d) (p 0)))) Z ?_)
 rintro _ _ _ - ⟨rfl,l,rfl,rfl⟩
 refine We (box (cs:=#[(Iv a1)]) (congrArg Value.cells (asE (Iv a1) (p 1)))) Z ?_
 rintro _ _ _ - ⟨rfl,i,rfl,rfl⟩
 refine qa (Bv false) (Ns (qu (pt l 1) (Fa QcB Z Z) (qu a (Lb 1 pl25 Z Z Z) (qu (.func (.func 115) #[] #[(pt i 0)]) (makeFunc2 (QmW) (Qb2 (show ev _ _=(pt i 0) from Z))) ?_))))
 obtain ⟨j,k,h⟩:=bnd h
 refine We (Cb Q7N (QgK a0.Topics a1 _ _ _ f j k) (QaS Z Z)) Z ?_
 rintro _ q _ e ⟨_,⟨rfl,rfl⟩,rfl⟩
 exact WL.a1 (qa (Bv j) (Nt (Cr (Dr (Dr (Rf h [] Z (Rs Z Z) e ⟨Z,Z⟩))))))
noncomputable def Qf0 (a0:QaA) (j:(Int×Int)):Option ((Int×Int)⊕(Unit⊕GErr)):=
 match j with
 |(b,a)=>
 (if(decide (a<(a0.Brokers.length:Int)))=true then(grd (0≤a∧a<a0.Brokers.length) (((if(decide (((rd a0.Brokers a).Id)≤b))=true then(some true)else(if(decide ((64:Int)<((rd a0.Brokers a).Id)))=true then(some true)else(if(decide (((rd a0.Brokers a).Epoch)<(0:Int)))=true then(some true)else(if(decide ((1073741824:Int)<((rd a0.Brokers a).Epoch)))=true then(some true)else((Qe9 ((rd a0.Brokers a).Rack)).bind fun c=>(some (!c))))))):Option Bool).bind fun d=>(if d=true then((QdQ (⟨#[98,114,111,107,101,114]⟩:ByteArray) a (2:Int)).bind fun e=>(some (inr (inr e))))else(((if((rd a0.Brokers a).Fenced)=true then(if((rd a0.Brokers a).Leaving)=true then((QiV a0 ((rd a0.Brokers a).Id)).bind fun f=>(some f))else(some false))else(some false)):Option Bool).bind fun g=>(if g=true then((QdQ (⟨#[98,114,111,107,101,114]⟩:ByteArray) a (10:Int)).bind fun i=>(some (inr (inr i))))else(some (inl ((rd a0.Brokers a).Id,i64.wrap (a+(1:Int))))))))))else(some (inr (inl ()))))
noncomputable def Qh5 (a0:QaA):Option GErr:=
 ((((iter (Qf0 a0) ((0:Int),(0:Int))).bind (Sum.elim (fun _=>(some (inl ()))) (fun(a:GErr)=>(((some a)).bind fun r=>some (inr r))))):Option (Unit⊕GErr)).bind (Sum.elim (fun _=>(some GErr.nil)) some))
def QpP (a0:QaA) (a b c d:Value):GErr→Value→IM→HL→Prop:=
 fun(e:GErr) (v:Value) (g:IM) (f:HL)=>(GV e)=v∧f=[]
theorem Qr9 (a0:QaA) (M:IM) (b d e f:Value) (t:RS QaG M b a0.Brokers) (I:RS QaI M d a0.Topics) (J:RS QaH M e a0.Configs) (K:RS QaL M f a0.Done) (b6:GErr) (h:Qh5 a0=some b6):
 Tri prog 51 #[(a29_ a0 b d e f)] M [] (QpP a0 b d e f b6):=by
 unfold Qh5 at h
 refine Te func51 Z Z ?_
 intro F ρ d3
 refine Sr (We (box (cs:=(l29 a0 b d e f).toArray) (congrArg Value.cells (asE (a29_ a0 b d e f) (d3 0)))) Z ?_)
 rintro _ _ _ - ⟨rfl,E,rfl,rfl⟩
 refine qa (GV GErr.nil) (Ns (qa (Iv 0) (Nt ?_)))
 obtain ⟨c8,b7,h⟩:=bnd h
 refine WC.joinE (fun(_:Unit) z M' H'=>M.le M'∧[(E, .cells (l29 a0 b d e f).toArray 29 (0,0))]::F=H') c8 ?_ ?_
 have a1:=h
 have h:=b7
 refine Sr (qu (pt E 0) (Fa QeU Z Z) (qu b (Lb 0 pl24 Z Z Z) (qu (Iv (a0.Brokers.length:Int)) (lenS underlying24 Z t.len) (qm (Iv 0) (Nt (Bk ?_))))))
 obtain ⟨d4,b8,L⟩:=bnd h
 clear h
 refine WC.loop b8 (fun(p_:(Int×Int)) z M' H'=>match p_ with |(N,a)=>M.le M'∧[(E, .cells (l29 a0 b d e f).toArray 29 (0,0))]::F=H'∧z 1=(pt E 0)∧z 3=(Iv N)∧z 7=b∧z 8=(Iv (a0.Brokers.length:Int))∧z 9=(Iv a)) ?_ ?_
 exact⟨lr,Z,Z,Z,Z,Z,Z⟩
 rintro ⟨N,a⟩ d6 d7 c9 d8 h ⟨g,rfl,m,R,i,j,c⟩
 unfold Qf0 at h
 refine Sr (qu (Bv (decide (a<(a0.Brokers.length:Int)))) (lss c j) (Nt (Cs (Ch h Z (fun b9 h=> ?_) (fun b9 h=> ?_)))))
 refine Ck (Tc (Cs (Bk (Sr (qM (Iv a) c ?_)))))
 obtain ⟨G,h⟩:=Qa1 h
 have t:=t.mono g
 obtain ⟨d0,d2,a4,a5,hhas33⟩:=t.at G.1 G.2 (by decide)
 obtain rfl:=QbB a5
 refine qu (.pointer (some d0)) (indexAddr (n:=a0.Brokers.length) underlying24 sz66 i c G.1 G.2 a4) (qu (a66_ (rd a0.Brokers a)) (loadMA (cs:=(l66 (rd a0.Brokers a))) ag66 sz66 Z hhas33) (We (Al ze66 Z) Z ?_))
 rintro _ _ _ - ⟨rfl,o,rfl,rfl⟩
 refine qa (Iv a) (We (Sg (v:=(a66_ (rd a0.Brokers a))) (vl:=(l66 (rd a0.Brokers a))) (arr':=(l66 (rd a0.Brokers a))) Z sz66 Z Z (onb Z) Z Z Z) Z ?_)
 rintro _ _ _ - ⟨rfl,rfl⟩
 refine Nt (Cs (Bk ?_))
 obtain ⟨a6,c0,h⟩:=bnd h
 refine Jf (fun(a6:Bool) z M' H'=>c9.le M'∧[(o, .cells (l66 (rd a0.Brokers a)).toArray 66 (0,0))]::[(E, .cells (l29 a0 b d e f).toArray 29 (0,0))]::F=H'∧z 1=(pt E 0)∧z 4=(Iv a)∧z 5=(pt o 0)∧z 7=b∧z 8=(Iv (a0.Brokers.length:Int))∧z 9=(Iv a)∧z 14=(Bv a6)) a6 ?_ ?_
 have h:=c0
 refine Cg (qu (pt o 0) (Fa QhO Z Z) (qu (Iv ((rd a0.Brokers a).Id)) (Lb 0 pl3 Z Z Z) (qM (Iv N) R (qu (Bv (decide (((rd a0.Brokers a).Id)≤N))) (leq Z Z) (qm (Bv (decide (((rd a0.Brokers a).Id)≤N))) ?_)))))
 rcases Bi h with⟨u,h⟩ |⟨u,h⟩
 iterate 3 refine Of 19 Z Z u Z ?_
 refine qu (Bv true) (Pt Z u Z) (qm (Bv true) ?_)
 iterate 3 refine Of 24 Z Z Z Z ?_
 refine qu (Bv true) (Pt Z Z Z) (qm (Bv true) ?_)
 iterate 3 refine Of 29 Z Z Z Z ?_
 refine qu (Bv true) (Pt Z Z Z) (qm (Bv true) ?_)
 iterate 4 refine Of 34 Z Z Z Z ?_
 refine qu (Bv true) (Pt Z Z Z) (qa (Bv true) (Wz ?_))
 obtain rfl:=oi h
 exact Tj ⟨lr,Z,m,Z,Z,i,j,c,Z⟩
 refine qo 19 u (pt o 0) (Fa QhO Z Z) (qo 19 u (Iv ((rd a0.Brokers a).Id)) (Lb 0 pl3 Z Z Z) (qo 19 u (Bv (decide ((64:Int)<((rd a0.Brokers a).Id)))) (gtr Z Z) (qu (Bv (decide ((64:Int)<((rd a0.Brokers a).Id)))) (Pf Z u Z) (qm (Bv (decide ((64:Int)<((rd a0.Brokers a).Id)))) ?_))))
 rcases Bi h with⟨w,h⟩ |⟨w,h⟩
 iterate 3 refine Of 24 Z Z w Z ?_
 refine qu (Bv true) (Pt Z w Z) (qm (Bv true) ?_)
 iterate 3 refine Of 29 Z Z Z Z ?_
 refine qu (Bv true) (Pt Z Z Z) (qm (Bv true) ?_)
 iterate 4 refine Of 34 Z Z Z Z ?_
 refine qu (Bv true) (Pt Z Z Z) (qa (Bv true) (Wz ?_))
 obtain rfl:=oi h
 exact Tj ⟨lr,Z,m,Z,Z,i,j,c,Z⟩
 refine qo 24 w (pt o 1) (Fa QmU Z Z) (qo 24 w (Iv ((rd a0.Brokers a).Epoch)) (Lb 0 pl3 Z Z Z) (qo 24 w (Bv (decide (((rd a0.Brokers a).Epoch)<0))) (lss Z Z) (qu (Bv (decide (((rd a0.Brokers a).Epoch)<0))) (Pf Z w Z) (qm (Bv (decide (((rd a0.Brokers a).Epoch)<0))) ?_))))
 rcases Bi h with⟨x,h⟩ |⟨x,h⟩
 iterate 3 refine Of 29 Z Z x Z ?_
 refine qu (Bv true) (Pt Z x Z) (qm (Bv true) ?_)
 iterate 4 refine Of 34 Z Z Z Z ?_
 refine qu (Bv true) (Pt Z Z Z) (qa (Bv true) (Wz ?_))
 obtain rfl:=oi h
 exact Tj ⟨lr,Z,m,Z,Z,i,j,c,Z⟩
 refine qo 29 x (pt o 1) (Fa QmU Z Z) (qo 29 x (Iv ((rd a0.Brokers a).Epoch)) (Lb 0 pl3 Z Z Z) (qo 29 x (Bv (decide ((1073741824:Int)<((rd a0.Brokers a).Epoch)))) (gtr Z Z) (qu (Bv (decide ((1073741824:Int)<((rd a0.Brokers a).Epoch)))) (Pf Z x Z) (qm (Bv (decide ((1073741824:Int)<((rd a0.Brokers a).Epoch)))) ?_))))
 rcases Bi h with⟨p,h⟩ |⟨p,h⟩
 iterate 4 refine Of 34 Z Z p Z ?_
 refine qu (Bv true) (Pt Z p Z) (qa (Bv true) (Wz ?_))
 obtain rfl:=oi h
 exact Tj ⟨lr,Z,m,Z,Z,i,j,c,Z⟩
 refine qo 34 p (pt o 2) (Fa QrE Z Z) (qo 34 p (Sv ((rd a0.Brokers a).Rack)) (Lb 0 pl9 Z Z Z) (On 34 Z Z p ?_))
 obtain ⟨S,c1,h⟩:=bnd h
 refine We (Ca co81 (QiD ((rd a0.Brokers a).Rack) _ S c1) (Qb2 Z)) Z ?_
 rintro _ d9 _ a7 ⟨_,⟨rfl,rfl⟩,rfl⟩
 refine WL.a0 (qo 34 p (Bv (!S)) (PO.not Z) (qu (Bv (!S)) (Pf Z p Z) (qa (Bv (!S)) (Wz ?_))))
 obtain rfl:=oi h
 exact Tj ⟨a7,Z,m,Z,Z,i,j,c,Z⟩
 rintro e0 d1 e1 ⟨l,rfl,r,s,k,B,C,D,O⟩
 refine Ch h O (fun c2 h=> ?_) (fun c2 h=> ?_)
 refine Sr (qM (Iv a) s ?_)
 obtain ⟨a8,c3,h⟩:=bnd h
 refine We (Ca co54 (QdH ⟨#[98,114,111,107,101,114]⟩ a (2:Int) _ a8 c3) (QcV Z Z Z)) Z ?_
 rintro _ e2 _ a9 ⟨_,⟨rfl,rfl⟩,rfl⟩
 refine WL.a0 (qa (GV a8) (Nt (Cr (Br (Tr (Br (Tr (WQ.leaveR (inr a8) (oi h).symm (fun y=> ?_)))))))))
 subst y
 have h:=(QdZ L)
 refine Br (Tr ?_)
 have h:=KK.early h a1
 exact Dr (Dr (Rf h [] Z (Rs Z Z) ((g.trans l).trans a9) ⟨Z,Z⟩))
 obtain ⟨b0,c4,h⟩:=bnd h
 refine Jf (fun(b0:Bool) z M' H'=>d1.le M'∧[(o, .cells (l66 (rd a0.Brokers a)).toArray 66 (0,0))]::[(E, .cells (l29 a0 b d e f).toArray 29 (0,0))]::F=H'∧z 1=(pt E 0)∧z 4=(Iv a)∧z 5=(pt o 0)∧z 7=b∧z 8=(Iv (a0.Brokers.length:Int))∧z 9=(Iv a)∧z 42=(Bv b0)) b0 ?_ ?_
 have h:=c4
 refine Cg (qu (pt o 3) (Fa Qn8 k Z) (qu (Bv ((rd a0.Brokers a).Fenced)) (Lb 0 pl4 Z Z Z) (qm (Bv ((rd a0.Brokers a).Fenced)) ?_)))
 rcases Bi h with⟨A,h⟩ |⟨A,h⟩
 refine qo 45 A (pt o 4) (Fa Qs1 k Z) (qo 45 A (Bv ((rd a0.Brokers a).Leaving)) (Lb 0 pl4 Z Z Z) (qu (Bv ((rd a0.Brokers a).Leaving)) (Pt Z A Z) (qm (Bv ((rd a0.Brokers a).Leaving)) ?_)))
 rcases Bi h with⟨q,h⟩ |⟨q,h⟩
 refine qo 49 q (a29_ a0 b d e f) (La (cs:=(l29 a0 b d e f)) 1 ag29 sz29 r Z Z) (qo 49 q (pt o 0) (Fa QhO k Z) (qo 49 q (Iv ((rd a0.Brokers a).Id)) (Lb 0 pl3 Z Z Z) (On 49 Z Z q ?_)))
 obtain ⟨b1,c5,h⟩:=bnd h
 have t:=t.mono l
 have I:=I.mono (g.trans l)
 have J:=J.mono (g.trans l)
 have K:=K.mono (g.trans l)
 refine We (Ca co82 (QtL a0 ((rd a0.Brokers a).Id) _ _ _ _ _ t I J K b1 c5) (QaS Z Z)) Z ?_
 rintro _ e3 _ b2 ⟨_,⟨rfl,rfl⟩,rfl⟩
 refine WL.a0 (qu (Bv b1) (Pt Z q Z) (qa (Bv b1) (Wz ?_)))
 obtain rfl:=oi h
 exact Tj ⟨b2,Z,r,s,k,B,C,D,Z⟩
 iterate 4 refine Of 49 Z Z q Z ?_
 refine qu (Bv false) (Pf Z q Z) (qa (Bv false) (Wz ?_))
 obtain rfl:=oi h
 exact Tj ⟨lr,Z,r,s,k,B,C,D,Z⟩
 iterate 2 refine Of 45 Z Z A Z ?_
 refine qu (Bv false) (Pf Z A Z) (qm (Bv false) ?_)
 iterate 4 refine Of 49 Z Z Z Z ?_
 refine qu (Bv false) (Pf Z Z Z) (qa (Bv false) (Wz ?_))
 obtain rfl:=oi h
 exact Tj ⟨lr,Z,r,s,k,B,C,D,Z⟩
 rintro e4 e5 e6 ⟨P,rfl,T,U,V,W,X,Y,Q⟩
 refine Ch h Q (fun c6 h=> ?_) (fun c6 h=> ?_)
 refine Sr (qM (Iv a) U ?_)
 obtain ⟨b3,c7,h⟩:=bnd h
 refine We (Ca co54 (QdH ⟨#[98,114,111,107,101,114]⟩ a (10:Int) _ b3 c7) (QcV Z Z Z)) Z ?_
 rintro _ e7 _ b4 ⟨_,⟨rfl,rfl⟩,rfl⟩
 refine WL.a0 (qa (GV b3) (Nt (Cr (Br (Tr (Br (Tr (WQ.leaveR (inr b3) (oi h).symm (fun y=> ?_)))))))))
 subst y
 have h:=(QdZ L)
 refine Br (Tr ?_)
 have h:=KK.early h a1
 exact Dr (Dr (Rf h [] Z (Rs Z Z) (((g.trans l).trans P).trans b4) ⟨Z,Z⟩))
 refine Ck (Bn (Tc (Cg (qu (pt o 0) (Fa QhO V Z) (qu (Iv ((rd a0.Brokers a).Id)) (Lb 0 pl3 Z Z Z) (qa (Iv ((rd a0.Brokers a).Id)) (Wz (Bn (Tc (Cg (qu (Iv (i64.wrap (a+1))) (add Y Z) ?_)))))))))))
 exact qm (Iv (i64.wrap (a+1))) (Wz (Dr (WQ.again ((rd a0.Brokers a).Id,i64.wrap (a+1)) (oi h).symm ⟨((g.trans l).trans P),Z,T,Z,W,X,Z⟩)))
 refine WC.exit (WQ.thenE (WQ.leaveE (inl ()) (oi h).symm (fun y=> ?_)))
 subst y
 have h:=QeV L
 exact WQ.blockH (WQ.thenFE h ⟨g,Z⟩)
 rintro _ e8 e9 f0 rfl ⟨b5,rfl⟩
 have h:=(Sum.elim_inl _ _ _).symm.trans h
 exact Sr (qa (GV GErr.nil) (Nt (Cr (Dr (Rf h [] Z (Rs Z Z) b5 ⟨Z,Z⟩)))))
noncomputable def QbV (a0:(List Int)) (a1:Int) (b:Int):Option (Int⊕(Unit⊕Int)):=
 match b with
 |a=>
 (if(decide (a<(a0.length:Int)))=true then(grd (0≤a∧a<a0.length) (if(decide (a1=(rd a0 a)))=true then(some (inr (inr a)))else(some (inl (i64.wrap (a+(1:Int)))))))else(some (inr (inl ()))))
noncomputable def QeS (a0:(List Int)) (a1:Int):Option Int:=
 ((((iter (QbV a0 a1) (0:Int)).bind (Sum.elim (fun _=>(some (inl ()))) (fun(a:Int)=>(((some a)).bind fun r=>some (inr r))))):Option (Unit⊕Int)).bind (Sum.elim (fun _=>(some (-1:Int))) some))
def QkZ (a0:(List Int)) (a1:Int) (c:Value):Int→Value→IM→HL→Prop:=
 fun(a:Int) (v:Value) (d:IM) (b:HL)=>(.int .i64 a)=v∧b=[]
theorem QlJ (a0:(List Int)) (a1:Int) (M:IM) (o:Value) (w:RS (Kd.int .i64) M o a0) (p:Int) (h:QeS a0 a1=some p):
 Tri prog 136 #[o,(Iv a1)] M [] (QkZ a0 a1 o p):=by
 unfold QeS at h
 refine Te func136 Z Z ?_
 intro F O x
 refine Sr (qa (Iv 0) (Nt ?_))
 obtain ⟨y,q,h⟩:=bnd h
 refine WC.joinE (fun(_:Unit) r z A=>M.le z∧F=A) y ?_ ?_
 have s:=h
 have h:=q
 refine Sr (qM o (x 0) (qu (Iv (a0.length:Int)) (lenS underlying51 Z w.len) (qm (Iv 0) (Nt (Bk ?_)))))
 obtain ⟨D,t,j⟩:=bnd h
 clear h
 refine WC.loop t (fun(a:Int) r z A=>M.le z∧F=A∧r 0=o∧r 1=(Iv a1)∧r 7=(Iv (a0.length:Int))∧r 8=(Iv a)) ?_ ?_
 exact⟨lr,Z,(x 0),(x 1),Z,Z⟩
 rintro a E G I J h ⟨b,rfl,e,f,g,c⟩
 unfold QbV at h
 refine Sr (qu (Bv (decide (a<(a0.length:Int)))) (lss c g) (Nt (Cs (Ch h Z (fun u h=> ?_) (fun u h=> ?_)))))
 refine Ck (Tc (Cs (Bk (Sr (qM (Iv a) c (qa (Iv a) (Ns (qM (Iv a1) f (qM o e (qm (Iv a) ?_))))))))))
 obtain ⟨i,h⟩:=Qa1 h
 have w:=w.mono b
 obtain ⟨B,C,k,l,hhas31⟩:=w.at i.1 i.2 (by decide)
 obtain rfl:=l
 refine qu (.pointer (some B)) (indexAddr (n:=a0.length) underlying51 sz3 Z Z i.1 i.2 k) (qu (Iv (rd a0 a)) (loadM pl3 Z (IM.has0 hhas31)) (qu (Bv (decide (a1=(rd a0 a)))) (eql Z Z) (Nt (Ch h Z (fun v h=> ?_) (fun v h=> ?_)))))
 refine Sr (qm (Iv a) (qa (Iv a) (Nt (Cr (Br (Tr (WQ.leaveR (inr a) (oi h).symm (fun d=> ?_))))))))
 subst d
 have h:=(QdZ j)
 refine Br (Tr ?_)
 have h:=KK.early h s
 exact Rf h [] Z (Rs Z Z) b ⟨Z,Z⟩
 exact Ck (Bn (Tc (Cg (qu (Iv (i64.wrap (a+1))) (add c Z) (qm (Iv (i64.wrap (a+1))) (Wz (WQ.again (i64.wrap (a+1)) (oi h).symm ⟨b,Z,e,f,g,Z⟩)))))))
 refine WC.exit (WQ.thenE (WQ.leaveE (inl ()) (oi h).symm (fun d=> ?_)))
 subst d
 have h:=QeV j
 exact WQ.blockH (WQ.thenFE h ⟨b,Z⟩)
 rintro _ K L N rfl ⟨m,rfl⟩
 have h:=(Sum.elim_inl _ _ _).symm.trans h
 exact Sr (qa (Iv (-1:Int)) (Nt (Cr (Rf h [] Z (Rs Z Z) m ⟨Z,Z⟩))))
noncomputable def Qc8 (a0:(List Int)) (a1:Int):Option Bool:=
 ((QeS a0 a1).bind fun a=>(some (decide ((0:Int)≤a))))
def QjZ (a0:(List Int)) (a1:Int) (c:Value):Bool→Value→IM→HL→Prop:=
 fun(a:Bool) (v:Value) (d:IM) (b:HL)=>(.bool a)=v∧b=[]
theorem QkO (a0:(List Int)) (a1:Int) (M:IM) (e:Value) (g:RS (Kd.int .i64) M e a0) (c:Bool) (h:Qc8 a0 a1=some c):
 Tri prog 132 #[e,(Iv a1)] M [] (QjZ a0 a1 e c):=by
 unfold Qc8 at h
 refine Te func132 Z Z ?_
 intro F j f
 refine Sr (qa (Bv false) (Ns (qM e (f 0) (qM (Iv a1) (f 1) ?_))))
 obtain ⟨a,d,h⟩:=bnd h
 refine We (Ca Q72 (QlJ a0 a1 _ _ g a d) (QaS Z Z)) Z ?_
 rintro _ i _ b ⟨_,⟨rfl,rfl⟩,rfl⟩
 exact WL.a0 (qu (Bv (decide ((0:Int)≤a))) (geq Z Z) (qa (Bv (decide ((0:Int)≤a))) (Nt (Cr (Rf h [] Z (Rs Z Z) b ⟨Z,Z⟩)))))
noncomputable def QdB (a0:(List Int)) (d:Int):Option (Int⊕(Unit⊕Unit)):=
 match d with
 |a=>
 (if(decide (a<(a0.length:Int)))=true then(grd (0≤a∧a<a0.length) (((if(decide ((rd a0 a)<(1:Int)))=true then(some true)else(if(decide ((64:Int)<(rd a0 a)))=true then(some true)else(grd (0≤(0:Int)∧(0:Int)≤a∧a≤(a0.length:Int)) ((Qc8 (sub a0 (0:Int) a) (rd a0 a)).bind fun b=>(some b))))):Option Bool).bind fun c=>(if c=true then(some (inr (inr ())))else(some (inl (i64.wrap (a+(1:Int))))))))else(some (inr (inl ()))))
noncomputable def QdL (a0:(List Int)):Option Bool:=
 (if(decide ((7:Int)<(a0.length:Int)))=true then(some false)else((((iter (QdB a0) (0:Int)).bind (Sum.elim (fun _=>(some (inl ()))) (fun _=>(((some false)).bind fun r=>some (inr r))))):Option (Unit⊕Bool)).bind (Sum.elim (fun _=>(some true)) some)))
def QnW (a0:(List Int)) (c:Value):Bool→Value→IM→HL→Prop:=
 fun(a:Bool) (v:Value) (d:IM) (b:HL)=>(.bool a)=v∧b=[]
theorem QpQ (a0:(List Int)) (M:IM) (o:Value) (w:RS (Kd.int .i64) M o a0) (D:Bool) (h:QdL a0=some D):
 Tri prog 118 #[o] M [] (QnW a0 o D):=by
 unfold QdL at h
 refine Te func118 Z Z ?_
 intro F ρ S
 refine Sr (qa (Bv false) (Nt (Cs (Sr (qM o (S 0) (qu (Iv (a0.length:Int)) (lenS underlying51 Z w.len) (qu (Bv (decide ((7:Int)<(a0.length:Int)))) (gtr Z Z) (Nt (Ch h Z (fun E h=> ?_) (fun E h=> ?_))))))))))
 exact Sr (qa (Bv false) (Nt (Cr (Tr (Rf h [] Z (Rs Z Z) lr ⟨Z,Z⟩)))))
 refine Ck (Tc ?_)
 obtain ⟨T,G,h⟩:=bnd h
 refine WC.joinE (fun(_:Unit) p I J=>M.le I∧F=J) T ?_ ?_
 have K:=h
 have h:=G
 refine Sr (qM o (S 0) (qu (Iv (a0.length:Int)) (lenS underlying51 Z w.len) (qm (Iv 0) (Nt (Bk ?_)))))
 obtain ⟨Y,L,x⟩:=bnd h
 clear h
 refine WC.loop L (fun(a:Int) p I J=>M.le I∧F=J∧p 0=o∧p 8=o∧p 9=(Iv (a0.length:Int))∧p 10=(Iv a)) ?_ ?_
 exact⟨lr,Z,(S 0),Z,Z,Z⟩
 rintro a a1 a2 U a3 h ⟨j,rfl,d,e,f,b⟩
 unfold QdB at h
 refine Sr (qu (Bv (decide (a<(a0.length:Int)))) (lss b f) (Nt (Cs (Ch h Z (fun N h=> ?_) (fun N h=> ?_)))))
 refine Ck (Tc (Cs (Bk (Sr (qM (Iv a) b ?_)))))
 obtain ⟨m,h⟩:=Qa1 h
 have w:=w.mono j
 obtain ⟨V,X,y,z,hhas31⟩:=w.at m.1 m.2 (by decide)
 obtain rfl:=z
 refine qu (.pointer (some V)) (indexAddr (n:=a0.length) underlying51 sz3 e b m.1 m.2 y) (qu (Iv (rd a0 a)) (loadM pl3 Z (IM.has0 hhas31)) (qa (Iv a) (qa (Iv (rd a0 a)) (Nt ?_))))
 obtain ⟨A,O,h⟩:=bnd h
 refine Jf (fun(A:Bool) p I J=>U.le I∧F=J∧p 0=o∧p 8=o∧p 9=(Iv (a0.length:Int))∧p 10=(Iv a)∧p 27=(Bv A)) A ?_ ?_
 have h:=O
 refine Cg (qm (Iv (rd a0 a)) (qu (Bv (decide ((rd a0 a)<1))) (lss Z Z) (qm (Bv (decide ((rd a0 a)<1))) ?_)))
 rcases Bi h with⟨i,h⟩ |⟨i,h⟩
 iterate 2 refine Of 17 Z Z i Z ?_
 refine qu (Bv true) (Pt Z i Z) (qm (Bv true) ?_)
 iterate 5 refine Of 21 Z Z Z Z ?_
 refine qu (Bv true) (Pt Z Z Z) (Wz ?_)
 obtain rfl:=oi h
 exact Tj ⟨lr,Z,d,e,f,b,Z⟩
 refine On 17 Z Z i (qm (Iv (rd a0 a)) (qo 17 i (Bv (decide ((64:Int)<(rd a0 a)))) (gtr Z Z) (qu (Bv (decide ((64:Int)<(rd a0 a)))) (Pf Z i Z) (qm (Bv (decide ((64:Int)<(rd a0 a)))) ?_))))
 rcases Bi h with⟨c,h⟩ |⟨c,h⟩
 iterate 5 refine Of 21 Z Z c Z ?_
 refine qu (Bv true) (Pt Z c Z) (Wz ?_)
 obtain rfl:=oi h
 exact Tj ⟨lr,Z,d,e,f,b,Z⟩
 refine On 21 Z Z c (qM o d (On 21 Z Z c (qm (Iv a) (On 21 Z Z c ?_))))
 obtain ⟨g,h⟩:=Qa1 h
 have W:=w.sub g.1 g.2.1 g.2.2
 refine qu (slV o 1 ((0:Int)).toNat (a).toNat) (slice (n:=a0.length) (l:=((0:Int)).toNat) (h:=(a).toNat) underlying51 sz3 Z w.len w.cap (Q31 Z) ⟨_,_,Z,(Int.le_trans g.1 g.2.1),Z⟩ (Int.toNat_le_toNat g.2.1) (Qe4 g.2.2)) (On 21 Z Z c (qm (Iv (rd a0 a)) (On 21 Z Z c ?_)))
 obtain ⟨P,Q,h⟩:=bnd h
 refine We (Ca Q7Y (QkO (sub a0 (0:Int) a) (rd a0 a) _ _ W P Q) (QaS Z Z)) Z ?_
 rintro _ a4 _ B ⟨_,⟨rfl,rfl⟩,rfl⟩
 refine WL.a0 (qu (Bv P) (Pf Z c Z) (Wz ?_))
 obtain rfl:=oi h
 exact Tj ⟨B,Z,d,e,f,b,Z⟩
 rintro a5 a6 a7 ⟨q,rfl,t,u,v,r,s⟩
 refine Ch h s (fun R h=> ?_) (fun R h=> ?_)
 refine Sr (qa (Bv false) (Nt (Cr (Br (Tr (WQ.leaveR (inr ()) (oi h).symm (fun k=> ?_)))))))
 subst k
 have h:=(QdZ x)
 refine Br (Tr ?_)
 have h:=KK.early h K
 exact Rf h [] Z (Rs Z Z) (j.trans q) ⟨Z,Z⟩
 exact Ck (Bn (Tc (Cg (qu (Iv (i64.wrap (a+1))) (add r Z) (qm (Iv (i64.wrap (a+1))) (Wz (WQ.again (i64.wrap (a+1)) (oi h).symm ⟨(j.trans q),Z,t,u,v,Z⟩)))))))
 refine WC.exit (WQ.thenE (WQ.leaveE (inl ()) (oi h).symm (fun k=> ?_)))
 subst k
 have h:=QeV x
 exact WQ.blockH (WQ.thenFE h ⟨j,Z⟩)
 rintro _ a8 a9 b0 rfl ⟨C,rfl⟩
 have h:=(Sum.elim_inl _ _ _).symm.trans h
 exact Sr (qa (Bv true) (Nt (Cr (Rf h [] Z (Rs Z Z) C ⟨Z,Z⟩))))
noncomputable def QkC (a0:QaD):Option Int:=
 (some a0.Id)
def QnX (a0:QaD):Int→Value→IM→HL→Prop:=
 fun(a:Int) (v:Value) (c:IM) (b:HL)=>(.int .i64 a)=v∧b=[]
theorem QpR (a0:QaD) (M:IM) (a:Int) (h:QkC a0=some a):
 Tri prog 138 #[(a66_ a0)] M [] (QnX a0 a):=by
 unfold QkC at h
 refine Te func138 Z Z ?_
 intro F d c
 refine Sr (We (box (cs:=(l66 a0).toArray) (congrArg Value.cells (asE (a66_ a0) (c 0)))) Z ?_)
 rintro _ _ _ - ⟨rfl,b,rfl,rfl⟩
 exact qa (Iv 0) (Ns (qu (pt b 0) (Fa QhO Z Z) (qu (Iv a0.Id) (Lb 0 pl3 Z Z Z) (qa (Iv a0.Id) (Nt (Cr (Dr (Rf h [] Z (Rs Z Z) lr ⟨Z,Z⟩))))))))
noncomputable def Qb3 (a0:QaD) (a1:Int):Option Int:=
 ((QkC a0).bind fun a=>(some (i64.wrap (a - a1))))
def QhF (a0:QaD) (a1:Int) (a:Nat):Int→Value→IM→HL→Prop:=
 fun(b:Int) (v:Value) (d:IM) (c:HL)=>(.int .i64 b)=v∧c=[[(a, .cells #[(.func (.func 138) #[] #[])] 208 (0,0))]]
theorem Qd7 (a0:QaD) (a1:Int) (M:IM) (e:Nat) (c:Int) (h:Qb3 a0 a1=some c):
 Tri prog 142 #[(a66_ a0),(Iv a1),(pt e 0)] M [[(e, .cells #[(.func (.func 138) #[] #[])] 208 (0,0))]] (QhF a0 a1 e c):=by
 unfold Qb3 at h
 refine Te func142 Z Z ?_
 intro F j f
 refine Sr (We (box (cs:=(l66 a0).toArray) (congrArg Value.cells (asE (a66_ a0) (f 0)))) Z ?_)
 rintro _ _ _ - ⟨rfl,g,rfl,rfl⟩
 refine qa (Iv 0) (Ns (qu (.func (.func 138) #[] #[]) (Lb 1 Q8E (f 2) Z Z) (qu (a66_ a0) (La (cs:=(l66 a0)) 0 ag66 sz66 Z Z Z) ?_)))
 obtain ⟨a,d,h⟩:=bnd h
 refine We (callV0 (first:=#[]) (cap:=#[]) Q74 Z (QpR a0 _ a d) (QzS Z Z)) Z ?_
 rintro _ i _ b ⟨_,⟨rfl,rfl⟩,rfl⟩
 exact WL.a0 (qM (Iv a1) (f 1) (qu (Iv (i64.wrap (a - a1))) (PO.sub Z Z) (qa (Iv (i64.wrap (a - a1))) (Nt (Cr (Dr (Rf h [[(e, .cells #[(.func (.func 138) #[] #[])] 208 (0,0))]] Z (Rs Z Z) b ⟨Z,Z⟩)))))))
noncomputable def QaQ (a0:(List QaD)) (a1:Int) (d:(Int×Int)):Option ((Int×Int)⊕Int):=
 match d with
 |(a,b)=>
 (if(decide (a<b))=true then(grd (0≤i64.wrap (shrI .u64 (u64.wrap (i64.wrap (a+b))) (1:Int))∧i64.wrap (shrI .u64 (u64.wrap (i64.wrap (a+b))) (1:Int))<a0.length) ((Qb3 (rd a0 (i64.wrap (shrI .u64 (u64.wrap (i64.wrap (a+b))) (1:Int)))) a1).bind fun c=>(if(decide (c<(0:Int)))=true then(some (inl (i64.wrap ((i64.wrap (shrI .u64 (u64.wrap (i64.wrap (a+b))) (1:Int)))+(1:Int)),b)))else(some (inl (a,i64.wrap (shrI .u64 (u64.wrap (i64.wrap (a+b))) (1:Int))))))))else(some (inr a)))
noncomputable def QaZ (a0:(List QaD)) (a1:Int):Option (Int×Bool):=
 ((((iter (QaQ a0 a1) ((0:Int),(a0.length:Int))).bind (fun(b:Int)=>(some b))):Option Int).bind fun a=>(((if(decide (a<(a0.length:Int)))=true then(grd (0≤a∧a<a0.length) ((Qb3 (rd a0 a) a1).bind fun c=>(some (a,decide (c=(0:Int))))))else(some (a,false))):Option (Int×Bool)).bind fun(d,e)=>(some (d,e))))
def Qc1 (a0:(List QaD)) (a1:Int) (e:Value) (g2k0:Nat):(Int×Bool)→Value→IM→HL→Prop:=
 fun(a:(Int×Bool)) (v:Value) (f:IM) (b:HL)=>match a with |(c,d)=>(.tuple #[(.int .i64 c),(.bool d)])=v∧b=[[(g2k0, .cells #[(.func (.func 138) #[] #[])] 208 (0,0))]]
theorem Qc6 (a0:(List QaD)) (a1:Int) (M:IM) (A:Value) (g2k0:Nat) (B:RS QaG M A a0) (L:(Int×Bool)) (h:QaZ a0 a1=some L):
 Tri prog 141 #[A,(Iv a1),(.func (.func 142) #[] #[(pt g2k0 0)])] M [[(g2k0, .cells #[(.func (.func 138) #[] #[])] 208 (0,0))]] (Qc1 a0 a1 A g2k0 L):=by
 unfold QaZ at h
 refine Te func141 Z Z ?_
 intro F ρ a4
 refine Sr (qa (Iv 0) (qa (Bv false) (Ns (qM A (a4 0) (qu (Iv (a0.length:Int)) (lenS underlying24 Z B.len) (qa (Iv (a0.length:Int)) (Ns (qm (Iv (a0.length:Int)) (qa (Iv 0) (qa (Iv (a0.length:Int)) (Nt ?_)))))))))))
 obtain ⟨d,N,h⟩:=bnd h
 refine Jf (fun(d:Int) o O P=>M.le O∧[(g2k0, .cells #[(.func (.func 138) #[] #[])] 208 (0,0))]::F=P∧o 0=A∧o 1=(Iv a1)∧o 2=(.func (.func 142) #[] #[(pt g2k0 0)])∧o 8=(Iv (a0.length:Int))∧o 9=(Iv d)) d ?_ ?_
 have h:=N
 refine Bk ?_
 obtain ⟨b1,Q,R⟩:=bnd h
 clear h
 refine WC.loop Q (fun(p_:(Int×Int)) o O P=>match p_ with |(a,b)=>M.le O∧[(g2k0, .cells #[(.func (.func 138) #[] #[])] 208 (0,0))]::F=P∧o 0=A∧o 1=(Iv a1)∧o 2=(.func (.func 142) #[] #[(pt g2k0 0)])∧o 8=(Iv (a0.length:Int))∧o 9=(Iv a)∧o 10=(Iv b)) ?_ ?_
 exact⟨lr,Z,(a4 0),(a4 1),(a4 2),Z,Z,Z⟩
 rintro ⟨a,b⟩ b2 b3 b4 b5 h ⟨k,rfl,e,f,g,l,i,j⟩
 unfold QaQ at h
 refine Cs (Sr (qM (Iv a) i (qM (Iv b) j (qu (Bv (decide (a<b))) (lss Z Z) (Nt (Ch h Z (fun S h=> ?_) (fun S h=> ?_)))))))
 refine Ck (Tc (Bk (Sr (qM (Iv a) i (qM (Iv b) j (qu (Iv (i64.wrap (a+b))) (add Z Z) (qu (Uv (u64.wrap (i64.wrap (a+b)))) (conv us3 underlying143 Z) (qu (Uv (shrI .u64 (u64.wrap (i64.wrap (a+b))) (1:Int))) (shr Z Z (by decide)) (qu (Iv (i64.wrap (shrI .u64 (u64.wrap (i64.wrap (a+b))) (1:Int)))) (conv Q56 underlying3 Z) (qa (Iv (i64.wrap (shrI .u64 (u64.wrap (i64.wrap (a+b))) (1:Int)))) (Ns ?_)))))))))))
 refine qM (.func (.func 142) #[] #[(pt g2k0 0)]) g (qM A e (qm (Iv (i64.wrap (shrI .u64 (u64.wrap (i64.wrap (a+b))) (1:Int)))) ?_))
 obtain ⟨p,h⟩:=Qa1 h
 have B:=B.mono k
 obtain ⟨a6,a9,C,D,hhas33⟩:=B.at p.1 p.2 (by decide)
 obtain rfl:=QbB D
 refine qu (.pointer (some a6)) (indexAddr (n:=a0.length) underlying24 sz66 Z Z p.1 p.2 C) (qu (a66_ (rd a0 (i64.wrap (shrI .u64 (u64.wrap (i64.wrap (a+b))) (1:Int))))) (loadMA (cs:=(l66 (rd a0 (i64.wrap (shrI .u64 (u64.wrap (i64.wrap (a+b))) (1:Int)))))) ag66 sz66 Z hhas33) (qM (Iv a1) f ?_))
 obtain ⟨T,U,h⟩:=bnd h
 refine We (callV1 (first:=#[]) (cap:=#[(pt g2k0 0)]) Q5V Z (Qd7 (rd a0 (i64.wrap (shrI .u64 (u64.wrap (i64.wrap (a+b))) (1:Int)))) a1 _ _ T U) (QzT Z Z Z)) Z ?_
 rintro _ b6 _ r ⟨_,⟨rfl,rfl⟩,rfl⟩
 refine WL.a1 (qu (Bv (decide (T<0))) (lss Z Z) (Nt (Ch h Z (fun V h=> ?_) (fun V h=> ?_))))
 exact Cg (qm (Iv (i64.wrap (shrI .u64 (u64.wrap (i64.wrap (a+b))) (1:Int)))) (qu (Iv (i64.wrap ((i64.wrap (shrI .u64 (u64.wrap (i64.wrap (a+b))) (1:Int)))+1))) (add Z Z) (qa (Iv (i64.wrap ((i64.wrap (shrI .u64 (u64.wrap (i64.wrap (a+b))) (1:Int)))+1))) (Wz (Bn (WQ.again (i64.wrap ((i64.wrap (shrI .u64 (u64.wrap (i64.wrap (a+b))) (1:Int)))+1),b) (oi h).symm ⟨(k.trans r),Z,e,f,g,l,Z,j⟩))))))
 exact Cg (qm (Iv (i64.wrap (shrI .u64 (u64.wrap (i64.wrap (a+b))) (1:Int)))) (qa (Iv (i64.wrap (shrI .u64 (u64.wrap (i64.wrap (a+b))) (1:Int)))) (Wz (Bn (WQ.again (a,i64.wrap (shrI .u64 (u64.wrap (i64.wrap (a+b))) (1:Int))) (oi h).symm ⟨(k.trans r),Z,e,f,g,l,i,Z⟩)))))
 refine WC.exit (WQ.thenE (WQ.leaveE a (oi h).symm (fun E=> ?_)))
 subst E
 have h:=R
 refine WQ.blockH ?_
 obtain rfl:=oi h
 exact Tj ⟨k,Z,e,f,g,l,i⟩
 rintro b7 a7 b8 ⟨s,rfl,t,u,v,w,m⟩
 obtain ⟨W,X,h⟩:=bnd h
 refine Jf (fun(p_:(Int×Bool)) o O P=>match p_ with |(Y,a2)=>a7.le O∧[(g2k0, .cells #[(.func (.func 138) #[] #[])] 208 (0,0))]::F=P∧o 6=(Iv Y)∧o 7=(Bv a2)) W ?_ ?_
 have h:=X
 refine Cg (qM (Iv d) m (qM (Iv d) m (qM (Iv (a0.length:Int)) w (qu (Bv (decide (d<(a0.length:Int)))) (lss Z Z) (qm (Bv (decide (d<(a0.length:Int)))) ?_)))))
 rcases Bi h with⟨c,h⟩ |⟨c,h⟩
 refine On 39 Z Z c (qM (.func (.func 142) #[] #[(pt g2k0 0)]) v (On 39 Z Z c (qM A t (On 39 Z Z c (qM (Iv d) m (On 39 Z Z c ?_))))))
 obtain ⟨q,h⟩:=Qa1 h
 have B:=B.mono s
 obtain ⟨a8,b0,G,I,hhas50⟩:=B.at q.1 q.2 (by decide)
 obtain rfl:=QbB I
 refine qu (.pointer (some a8)) (indexAddr (n:=a0.length) underlying24 sz66 Z Z q.1 q.2 G) (qo 39 c (a66_ (rd a0 d)) (loadMA (cs:=(l66 (rd a0 d))) ag66 sz66 Z hhas50) (On 39 Z Z c (qM (Iv a1) u (On 39 Z Z c ?_))))
 obtain ⟨x,a3,h⟩:=bnd h
 refine We (callV1 (first:=#[]) (cap:=#[(pt g2k0 0)]) Q5V Z (Qd7 (rd a0 d) a1 _ _ x a3) (QzT Z Z Z)) Z ?_
 rintro _ b9 _ J ⟨_,⟨rfl,rfl⟩,rfl⟩
 refine WL.a1 (qo 39 c (Bv (decide (x=0))) (eql Z Z) (qu (Bv (decide (x=0))) (Pt Z c Z) (qa (Iv d) (qa (Bv (decide (x=0))) (Wz ?_)))))
 obtain rfl:=oi h
 exact Tj ⟨J,Z,Z,Z⟩
 iterate 8 refine Of 39 Z Z c Z ?_
 refine qu (Bv false) (Pf Z c Z) (qa (Iv d) (qa (Bv false) (Wz ?_)))
 obtain rfl:=oi h
 exact Tj ⟨lr,Z,Z,Z⟩
 obtain ⟨Y,a2⟩:=W
 rintro c0 c1 c2 ⟨K,rfl,y,z⟩
 exact Cr (Rf h [[(g2k0, .cells #[(.func (.func 138) #[] #[])] 208 (0,0))]] Z (Qg1 Z y z) (s.trans K) ⟨Z,Z⟩)
noncomputable def QcU (a0:(List QaD)) (a1:Int):Option (Int×Bool):=
 ((QaZ a0 a1).bind fun(a,b)=>(some (a,b)))
def Qh1 (a0:(List QaD)) (a1:Int) (e:Value):(Int×Bool)→Value→IM→HL→Prop:=
 fun(a:(Int×Bool)) (v:Value) (f:IM) (b:HL)=>match a with |(c,d)=>(.tuple #[(.int .i64 c),(.bool d)])=v∧b=[]
theorem QiF (a0:(List QaD)) (a1:Int) (M:IM) (g:Value) (j:RS QaG M g a0) (d:(Int×Bool)) (h:QcU a0 a1=some d):
 Tri prog 137 #[g,(Iv a1),(.func (.func 138) #[] #[])] M [] (Qh1 a0 a1 g d):=by
 unfold QcU at h
 refine Te func137 Z Z ?_
 intro F l i
 refine Sr (We (box (cs:=#[(.func (.func 138) #[] #[])]) (congrArg Value.cells (asE (.func (.func 138) #[] #[]) (i 2)))) Z ?_)
 rintro _ _ _ - ⟨rfl,e,rfl,rfl⟩
 refine qa (Iv 0) (qa (Bv false) (Ns (qM g (i 0) (qM (Iv a1) (i 1) (qu (.func (.func 142) #[] #[(pt e 0)]) (makeFunc2 (QmW) (Qb2 (show ev _ _=(pt e 0) from Z))) ?_)))))
 obtain ⟨⟨a,b⟩,f,h⟩:=bnd h
 refine We (Cb Q76 (Qc6 a0 a1 _ _ _ j (a,b) f) (QcV Z Z Z)) Z ?_
 rintro _ k _ c ⟨_,⟨rfl,rfl⟩,rfl⟩
 exact WL.a1 (qu (Iv a) (Xt Z Z) (qu (Bv b) (Xt Z Z) (qa (Iv a) (qa (Bv b) (Nt (Cr (Dr (Rf h [] Z (Qg1 Z Z Z) c ⟨Z,Z⟩))))))))
noncomputable def QjP (a0:QaA) (a1:Int):Option (Int×Bool):=
 ((QcU a0.Brokers a1).bind fun(a,b)=>(some (a,b)))
def QpS (a0:QaA) (a1:Int) (a b c d:Value):(Int×Bool)→Value→IM→HL→Prop:=
 fun(e:(Int×Bool)) (v:Value) (j:IM) (f:HL)=>match e with |(g,i)=>(.tuple #[(.int .i64 g),(.bool i)])=v∧f=[]
theorem QsA (a0:QaA) (a1:Int) (M:IM) (a b c d:Value) (i:RS QaG M a a0.Brokers) (m:RS QaI M b a0.Topics) (n:RS QaH M c a0.Configs) (o:RS QaL M d a0.Done) (j:(Int×Bool)) (h:QjP a0 a1=some j):
 Tri prog 133 #[(a29_ a0 a b c d),(Iv a1)] M [] (QpS a0 a1 a b c d j):=by
 unfold QjP at h
 refine Te func133 Z Z ?_
 intro F r p
 refine Sr (We (box (cs:=(l29 a0 a b c d).toArray) (congrArg Value.cells (asE (a29_ a0 a b c d) (p 0)))) Z ?_)
 rintro _ _ _ - ⟨rfl,l,rfl,rfl⟩
 refine qa (Iv 0) (qa (Bv false) (Ns (qu (pt l 0) (Fa QeU Z Z) (qu a (Lb 0 pl24 Z Z Z) (qM (Iv a1) (p 1) ?_)))))
 obtain ⟨⟨e,f⟩,k,h⟩:=bnd h
 refine We (Ca Q73 (QiF a0.Brokers a1 _ _ i (e,f) k) (QcV Z Z Z)) Z ?_
 rintro _ q _ g ⟨_,⟨rfl,rfl⟩,rfl⟩
 exact WL.a0 (qu (Iv e) (Xt Z Z) (qu (Bv f) (Xt Z Z) (qa (Iv e) (qa (Bv f) (Nt (Cr (Dr (Rf h [] Z (Qg1 Z Z Z) g ⟨Z,Z⟩))))))))
noncomputable def QgU (a0:QaA) (a1:Int):Option (QaD×Bool):=
 ((QjP a0 a1).bind fun(a,b)=>(if(!b)=true then(some ((⟨(0:Int),(0:Int),(⟨#[]⟩:ByteArray),false,false⟩:QaD),false))else(grd (0≤a∧a<a0.Brokers.length) (some ((rd a0.Brokers a),true)))))
def QpT (a0:QaA) (a1:Int) (b c d e:Value):(QaD×Bool)→Value→IM→HL→Prop:=
 fun(f:(QaD×Bool)) (v:Value) (j:IM) (g:HL)=>match f with |(a,i)=>(.tuple #[(.agg #[(.int .i64 a.Id),(.int .i64 a.Epoch),(.string a.Rack),(.bool a.Fenced),(.bool a.Leaving)]),(.bool i)])=v∧g=[]
theorem QlW (a0:QaA) (a1:Int) (M:IM) (a b c d:Value) (g:RS QaG M a a0.Brokers) (m:RS QaI M b a0.Topics) (o:RS QaH M c a0.Configs) (p:RS QaL M d a0.Done) (q:(QaD×Bool)) (h:QgU a0 a1=some q):
 Tri prog 119 #[(a29_ a0 a b c d),(Iv a1)] M [] (QpT a0 a1 a b c d q):=by
 unfold QgU at h
 refine Te func119 Z Z ?_
 intro F A w
 refine Sr (We (box (cs:=(l29 a0 a b c d).toArray) (congrArg Value.cells (asE (a29_ a0 a b c d) (w 0)))) Z ?_)
 rintro _ _ _ - ⟨rfl,t,rfl,rfl⟩
 refine We (Al ze66 Z) Z ?_
 rintro _ _ _ - ⟨rfl,y,rfl,rfl⟩
 refine qa (Bv false) (Ns (qu (a29_ a0 a b c d) (La (cs:=(l29 a0 a b c d)) 1 ag29 sz29 Z Z Z) (qM (Iv a1) (w 1) ?_)))
 obtain ⟨⟨e,j⟩,r,h⟩:=bnd h
 refine We (Ca Q7Z (QsA a0 a1 _ _ _ _ _ g m o p (e,j) r) (QaS Z Z)) Z ?_
 rintro _ z _ f ⟨_,⟨rfl,rfl⟩,rfl⟩
 refine WL.a0 (qm (.tuple #[(Iv e),(Bv j)]) (qu (Iv e) (Xt Z Z) (qu (Bv j) (Xt Z Z) (qa (Iv e) (qa (Bv j) (Nt (Cs (Sr (qm (Bv j) (qu (Bv (!j)) (PO.not Z) (Nt ?_)))))))))))
 refine Ch h Z (fun s h=> ?_) (fun s h=> ?_)
 refine Sr (qu (.agg z66_.toArray) (Bl (cl:=z66_) ze66 fp66 Pz Z) (We (Sg (v:=(.agg z66_.toArray)) (vl:=z66_) (arr':=z66_) Z sz66 Z Z (onb Z) Z Z Z) Z ?_))
 rintro _ _ _ - ⟨rfl,rfl⟩
 exact qa (Bv false) (Nt (Cr (Tr (Qa (Dr (Rd h [] (fun _ hs=>hs.drop) (QaP Z (RVs.cons (Rc (cs:=z66_) 0 ag66 sz66 Z Z Z) (RVs.cons (RV.tmp Z) RVs.nil))) f ⟨Z,Z⟩))))))
 refine Ck (Tc (Sr (qu (pt t 0) (Fa QeU Z Z) (qu a (Lb 1 pl24 Z Z Z) (qm (Iv e) ?_)))))
 obtain ⟨i,h⟩:=Qa1 h
 have g:=g.mono f
 obtain ⟨u,x,k,l,hhas36⟩:=g.at i.1 i.2 (by decide)
 obtain rfl:=QbB l
 refine qu (.pointer (some u)) (indexAddr (n:=a0.Brokers.length) underlying24 sz66 Z Z i.1 i.2 k) (qu (a66_ (rd a0.Brokers e)) (loadMA (cs:=(l66 (rd a0.Brokers e))) ag66 sz66 Z hhas36) (We (Sg (v:=(a66_ (rd a0.Brokers e))) (vl:=(l66 (rd a0.Brokers e))) (arr':=(l66 (rd a0.Brokers e))) Z sz66 Z Z (onb Z) Z Z Z) Z ?_))
 rintro _ _ _ - ⟨rfl,rfl⟩
 exact qa (Bv true) (Nt (Cr (Qa (Dr (Rd h [] (fun _ hs=>hs.drop) (QaP Z (RVs.cons (Rc (cs:=(l66 (rd a0.Brokers e))) 0 ag66 sz66 Z Z Z) (RVs.cons (RV.tmp Z) RVs.nil))) f ⟨Z,Z⟩)))))

end Go.Proofs.YtfkmkgpoddbbfaaGreatDoor.G
