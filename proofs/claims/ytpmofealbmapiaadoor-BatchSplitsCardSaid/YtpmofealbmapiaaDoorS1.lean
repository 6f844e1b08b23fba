/- Go functions: what they come to, and that they do. Printed by a program of the session (gen). -/
import Derived.Test.YtpmofealbmapiaaDoorSF
import Derived.Test.YtpmofealbmapiaaDoorS0
import Derived.Test.YtpmofealbmapiaaDoorKShar2
import Derived.Test.YtpmofealbmapiaaDoorKConv
import Derived.Test.YtpmofealbmapiaaDoorKShar
import Derived.Test.YtpmofealbmapiaaDoorKArith
import Derived.Test.YtpmofealbmapiaaDoorKTight2
set_option linter.unusedVariables false
set_option linter.unusedSimpArgs false
set_option maxHeartbeats 8000000
set_option maxRecDepth 100000
namespace Go.Proofs.YtpmofealbmapiaaDoor.G
open Go Go.KK
open PO EO IntKind Sum Tryd

noncomputable def f_batch_Check_l0 (a0:T_api_Batch) (d:Int):Option (Int⊕(Unit⊕GErr)):=
 match d with
 |a=>
 (if(decide (a<(a0.Records.length:Int)))=true then(grd (0≤a∧a<a0.Records.length) ((f_record_Check (rd a0.Records a)).bind fun b=>(if(!b.isNil)=true then((f_fault_Wrap (⟨#[114,101,99,111,114,100]⟩:ByteArray) a b).bind fun c=>(some (inr (inr c))))else(some (inl (i64.wrap (a+(1:Int))))))))else(some (inr (inl ()))))
noncomputable def f_batch_Check (a0:T_api_Batch):Option GErr:=
 (((if(decide (a0.Term<(1:Int)))=true then(some true)else(some (decide ((1073741824:Int)<a0.Term)))):Option Bool).bind fun a=>(if a=true then((f_fault_New (⟨#[116,101,114,109]⟩:ByteArray) a0.Term (2:Int)).bind fun b=>(some b))else(((if(decide (a0.Base<(0:Int)))=true then(some true)else(some (decide ((1073741824:Int)<a0.Base)))):Option Bool).bind fun c=>(if c=true then((f_fault_New (⟨#[98,97,115,101]⟩:ByteArray) a0.Base (2:Int)).bind fun d=>(some d))else(((if(decide ((a0.Records.length:Int)<(1:Int)))=true then(some true)else(some (decide ((64:Int)<(a0.Records.length:Int))))):Option Bool).bind fun e=>(if e=true then((f_fault_New (⟨#[114,101,99,111,114,100,115]⟩:ByteArray) (a0.Records.length:Int) (6:Int)).bind fun f=>(some f))else((((iter (f_batch_Check_l0 a0) (0:Int)).bind (Sum.elim (fun _=>(some (inl ()))) (fun(g:GErr)=>(((some g)).bind fun r=>some (inr r))))):Option (Unit⊕GErr)).bind (Sum.elim (fun _=>(some GErr.nil)) some))))))))
def f_batch_Check_post (a0:T_api_Batch) (a:Value):GErr→Value→IM→HL→Prop:=
 fun(b:GErr) (v:Value) (d:IM) (c:HL)=>(GV b)=v∧c=[]
theorem f_batch_Check_ok (a0:T_api_Batch) (M:IM) (a:Value) (f:RS kd_api_Record M a a0.Records) (a5:GErr) (h:f_batch_Check a0=some a5):
 Tri prog 15 #[(a31_ a0 a)] M [] (f_batch_Check_post a0 a a5):=by
 unfold f_batch_Check at h
 refine Te func15 Z Z ?_
 intro F ρ d1
 refine Sr (We (box (cs:=(l31 a0 a).toArray) (congrArg Value.cells (asE (a31_ a0 a) (d1 0)))) Z ?_)
 rintro _ _ _ - ⟨rfl,g,rfl,rfl⟩
 refine qa (GV GErr.nil) (Nt (Cs (Bk ?_)))
 obtain ⟨P,a6,h⟩:=bnd h
 refine Jf (fun(P:Bool) B K L=>M.le K∧[(g, .cells (l31 a0 a).toArray 31 (0,0))]::F=L∧B 1=(pt g 0)∧B 6=(Bv P)) P ?_ ?_
 have h:=a6
 refine Cg (qu (pt g 0) (Fa fo31_0 Z Z) (qu (Iv a0.Term) (Lb 0 pl3 Z Z Z) (qu (Bv (decide (a0.Term<1))) (lss Z Z) (qm (Bv (decide (a0.Term<1))) ?_))))
 rcases Bi h with⟨o,h⟩ |⟨o,h⟩
 iterate 3 refine Of 10 Z Z o Z ?_
 refine qu (Bv true) (Pt Z o Z) (qa (Bv true) (Wz ?_))
 obtain rfl:=oi h
 exact Tj ⟨lr,Z,Z,Z⟩
 refine qo 10 o (pt g 0) (Fa fo31_0 Z Z) (qo 10 o (Iv a0.Term) (Lb 0 pl3 Z Z Z) (qo 10 o (Bv (decide ((1073741824:Int)<a0.Term))) (gtr Z Z) (qu (Bv (decide ((1073741824:Int)<a0.Term))) (Pf Z o Z) (qa (Bv (decide ((1073741824:Int)<a0.Term))) (Wz ?_)))))
 obtain rfl:=oi h
 exact Tj ⟨lr,Z,Z,Z⟩
 rintro d2 c6 d3 ⟨D,rfl,j,N⟩
 refine Ch h N (fun a7 h=> ?_) (fun a7 h=> ?_)
 refine Sr (qu (pt g 0) (Fa fo31_0 j Z) (qu (Iv a0.Term) (Lb 0 pl3 Z Z Z) ?_))
 obtain ⟨a8,a9,h⟩:=bnd h
 refine We (Ca co22 (f_fault_New_ok ⟨#[116,101,114,109]⟩ a0.Term (2:Int) _ a8 a9) (args3 Z Z Z)) Z ?_
 rintro _ d4 _ Q ⟨_,⟨rfl,rfl⟩,rfl⟩
 exact WL.a0 (qa (GV a8) (Nt (Cr (Br (Tr (Dr (Rf h [] Z (Rs Z Z) (D.trans Q) ⟨Z,Z⟩)))))))
 obtain ⟨R,b0,h⟩:=bnd h
 refine Jf (fun(R:Bool) B K L=>c6.le K∧[(g, .cells (l31 a0 a).toArray 31 (0,0))]::F=L∧B 1=(pt g 0)∧B 18=(Bv R)) R ?_ ?_
 have h:=b0
 refine Cg (qu (pt g 1) (Fa fo31_1 j Z) (qu (Iv a0.Base) (Lb 0 pl3 Z Z Z) (qu (Bv (decide (a0.Base<0))) (lss Z Z) (qm (Bv (decide (a0.Base<0))) ?_))))
 rcases Bi h with⟨p,h⟩ |⟨p,h⟩
 iterate 3 refine Of 22 Z Z p Z ?_
 refine qu (Bv true) (Pt Z p Z) (qa (Bv true) (Wz ?_))
 obtain rfl:=oi h
 exact Tj ⟨lr,Z,j,Z⟩
 refine qo 22 p (pt g 1) (Fa fo31_1 j Z) (qo 22 p (Iv a0.Base) (Lb 0 pl3 Z Z Z) (qo 22 p (Bv (decide ((1073741824:Int)<a0.Base))) (gtr Z Z) (qu (Bv (decide ((1073741824:Int)<a0.Base))) (Pf Z p Z) (qa (Bv (decide ((1073741824:Int)<a0.Base))) (Wz ?_)))))
 obtain rfl:=oi h
 exact Tj ⟨lr,Z,j,Z⟩
 rintro d5 c7 d6 ⟨S,rfl,k,E⟩
 have T:=D.trans S
 refine Ch h E (fun b1 h=> ?_) (fun b1 h=> ?_)
 refine Sr (qu (pt g 1) (Fa fo31_1 k Z) (qu (Iv a0.Base) (Lb 0 pl3 Z Z Z) ?_))
 obtain ⟨b2,b3,h⟩:=bnd h
 refine We (Ca co22 (f_fault_New_ok ⟨#[98,97,115,101]⟩ a0.Base (2:Int) _ b2 b3) (args3 Z Z Z)) Z ?_
 rintro _ d7 _ U ⟨_,⟨rfl,rfl⟩,rfl⟩
 exact WL.a0 (qa (GV b2) (Nt (Cr (Br (Tr (Dr (Rf h [] Z (Rs Z Z) (T.trans U) ⟨Z,Z⟩)))))))
 obtain ⟨V,b4,h⟩:=bnd h
 refine Jf (fun(V:Bool) B K L=>c7.le K∧[(g, .cells (l31 a0 a).toArray 31 (0,0))]::F=L∧B 1=(pt g 0)∧B 30=(Bv V)) V ?_ ?_
 have h:=b4
 refine Cg (qu (pt g 2) (Fa fo31_2 k Z) (qu a (Lb 0 pl23 Z Z Z) ?_))
 have f:=f.mono T
 refine qu (Iv (a0.Records.length:Int)) (lenS underlying23 Z f.len) (qu (Bv (decide ((a0.Records.length:Int)<(1:Int)))) (lss Z Z) (qm (Bv (decide ((a0.Records.length:Int)<(1:Int)))) ?_))
 rcases Bi h with⟨m,h⟩ |⟨m,h⟩
 iterate 4 refine Of 35 Z Z m Z ?_
 refine qu (Bv true) (Pt Z m Z) (qa (Bv true) (Wz ?_))
 obtain rfl:=oi h
 exact Tj ⟨lr,Z,k,Z⟩
 refine qo 35 m (pt g 2) (Fa fo31_2 k Z) (qo 35 m a (Lb 0 pl23 Z Z Z) (qo 35 m (Iv (a0.Records.length:Int)) (lenS underlying23 Z f.len) (qo 35 m (Bv (decide ((64:Int)<(a0.Records.length:Int)))) (gtr Z Z) (qu (Bv (decide ((64:Int)<(a0.Records.length:Int)))) (Pf Z m Z) (qa (Bv (decide ((64:Int)<(a0.Records.length:Int)))) (Wz ?_))))))
 obtain rfl:=oi h
 exact Tj ⟨lr,Z,k,Z⟩
 rintro d8 b5 d9 ⟨W,rfl,z,G⟩
 have I:=T.trans W
 refine Ch h G (fun b6 h=> ?_) (fun b6 h=> ?_)
 refine Sr (qu (pt g 2) (Fa fo31_2 z Z) (qu a (Lb 0 pl23 Z Z Z) ?_))
 have f:=f.mono I
 refine qu (Iv (a0.Records.length:Int)) (lenS underlying23 Z f.len) ?_
 obtain ⟨b7,b8,h⟩:=bnd h
 refine We (Ca co22 (f_fault_New_ok ⟨#[114,101,99,111,114,100,115]⟩ (a0.Records.length:Int) (6:Int) _ b7 b8) (args3 Z Z Z)) Z ?_
 rintro _ e0 _ X ⟨_,⟨rfl,rfl⟩,rfl⟩
 exact WL.a0 (qa (GV b7) (Nt (Cr (Br (Tr (Dr (Rf h [] Z (Rs Z Z) (I.trans X) ⟨Z,Z⟩)))))))
 refine Ck (Bn (Tc ?_))
 obtain ⟨c8,b9,h⟩:=bnd h
 refine WC.joinE (fun(_:Unit) B K L=>b5.le K∧[(g, .cells (l31 a0 a).toArray 31 (0,0))]::F=L) c8 ?_ ?_
 have c0:=h
 have h:=b9
 refine Sr (qu (pt g 2) (Fa fo31_2 z Z) (qu a (Lb 0 pl23 Z Z Z) ?_))
 have f:=f.mono I
 refine qu (Iv (a0.Records.length:Int)) (lenS underlying23 Z f.len) (qm (Iv 0) (Nt (Bk ?_)))
 obtain ⟨e1,c1,O⟩:=bnd h
 clear h
 refine WC.loop c1 (fun(i:Int) B K L=>b5.le K∧[(g, .cells (l31 a0 a).toArray 31 (0,0))]::F=L∧B 46=a∧B 47=(Iv (a0.Records.length:Int))∧B 48=(Iv i)) ?_ ?_
 exact⟨lr,Z,Z,Z,Z⟩
 rintro i e2 e3 e4 e5 h ⟨q,rfl,r,s,l⟩
 unfold f_batch_Check_l0 at h
 refine Sr (qu (Bv (decide (i<(a0.Records.length:Int)))) (lss l s) (Nt (Cs (Ch h Z (fun c2 h=> ?_) (fun c2 h=> ?_)))))
 refine Ck (Tc (Cs (Bk (Sr (qM (Iv i) l ?_)))))
 obtain ⟨A,h⟩:=grd_i h
 have f:=f.mono q
 obtain ⟨c9,d0,Y,a1,hhas59⟩:=f.at A.1 A.2 (by decide)
 obtain ⟨b,c,d,e,rfl,t,u,w,x⟩:=kd_api_Record_open a1
 refine qu (.pointer (some c9)) (indexAddr (n:=a0.Records.length) underlying23 sz36 r l A.1 A.2 Y) (qu (a36_ (rd a0.Records i) b c d e) (loadMA (cs:=(l36 (rd a0.Records i) b c d e)) ag36 sz36 Z hhas59) (We (Al ze36 Z) Z ?_))
 rintro _ _ _ - ⟨rfl,e6,rfl,rfl⟩
 refine qa (Iv i) (We (Sg (v:=(a36_ (rd a0.Records i) b c d e)) (vl:=(l36 (rd a0.Records i) b c d e)) (arr':=(l36 (rd a0.Records i) b c d e)) Z sz36 Z Z (onesOf (Oc Z (Oc Z (Oc Z (Oc Z (Oc Z (Oc Z (Oc Z (Oc Z (Oc Z (Oc Z (Oc Z (Oc Z (Oc Z (Oc Z (Oc (RS.one t) (Oc (RS.one u) (Oc (RS.one w) (Oc (RS.one x) Oz))))))))))))))))))) Z Z (by kernel_rfl)) Z ?_)
 rintro _ _ _ - ⟨rfl,rfl⟩
 refine Ns (qu (a36_ (rd a0.Records i) b c d e) (La (cs:=(l36 (rd a0.Records i) b c d e)) 0 ag36 sz36 Z Z Z) ?_)
 obtain ⟨C,c3,h⟩:=bnd h
 refine We (Ca co29 (f_record_Check_ok (rd a0.Records i) _ _ _ _ _ t u w x C c3) (args1 Z)) Z ?_
 rintro _ e7 _ J ⟨_,⟨rfl,rfl⟩,rfl⟩
 refine WL.a0 (qa (GV C) (Ns (qm (GV C) (qu (Bv (!C.isNil)) (errNotNil underlying40 Z) (Nt (Ch h Z (fun c4 h=> ?_) (fun c4 h=> ?_)))))))
 refine Sr (qm (Iv i) (qm (GV C) ?_))
 obtain ⟨a2,c5,h⟩:=bnd h
 refine We (Ca co21 (f_fault_Wrap_ok ⟨#[114,101,99,111,114,100]⟩ i C _ a2 c5) (args3 Z Z Z)) Z ?_
 rintro _ e8 _ a3 ⟨_,⟨rfl,rfl⟩,rfl⟩
 refine WL.a0 (qa (GV a2) (Nt (Cr (Br (Tr (WQ.leaveR (inr a2) (oi h).symm (fun y=> ?_)))))))
 subst y
 have h:=(elimR O)
 refine Br (Tr ?_)
 have h:=KK.early h c0
 exact Dr (Dr (Rf h [] Z (Rs Z Z) (((I.trans q).trans J).trans a3) ⟨Z,Z⟩))
 exact Ck (Bn (Tc (Cg (qu (Iv (i64.wrap (i+1))) (add l Z) (qm (Iv (i64.wrap (i+1))) (Wz (Dr (WQ.again (i64.wrap (i+1)) (oi h).symm ⟨(q.trans J),Z,r,s,Z⟩))))))))
 refine WC.exit (WQ.thenE (WQ.leaveE (inl ()) (oi h).symm (fun y=> ?_)))
 subst y
 have h:=elimL O
 exact WQ.blockH (WQ.thenFE h ⟨q,Z⟩)
 rintro _ e9 f0 f1 rfl ⟨a4,rfl⟩
 have h:=(Sum.elim_inl _ _ _).symm.trans h
 exact Sr (qa (GV GErr.nil) (Nt (Cr (Dr (Rf h [] Z (Rs Z Z) (I.trans a4) ⟨Z,Z⟩)))))
noncomputable def f_wire_Num (a0:(List Int)) (a1:Int):Option (List Int):=
 (if(decide ((if(4611686018427387903:Int)<a1 then(4611686018427387903:Int)else a1)<(64:Int)))=true then(grd (a0.length+[u8.wrap (if(4611686018427387903:Int)<a1 then(4611686018427387903:Int)else a1)].length≤274877906944) (some (a0++[u8.wrap (if(4611686018427387903:Int)<a1 then(4611686018427387903:Int)else a1)])))else(if(decide ((if(4611686018427387903:Int)<a1 then(4611686018427387903:Int)else a1)<(16384:Int)))=true then(grd (a0.length+[orI .u8 (64:Int) (u8.wrap (shrI .u64 (if(4611686018427387903:Int)<a1 then(4611686018427387903:Int)else a1) (8:Int))),u8.wrap (if(4611686018427387903:Int)<a1 then(4611686018427387903:Int)else a1)].length≤274877906944) (some (a0++[orI .u8 (64:Int) (u8.wrap (shrI .u64 (if(4611686018427387903:Int)<a1 then(4611686018427387903:Int)else a1) (8:Int))),u8.wrap (if(4611686018427387903:Int)<a1 then(4611686018427387903:Int)else a1)])))else(if(decide ((if(4611686018427387903:Int)<a1 then(4611686018427387903:Int)else a1)<(1073741824:Int)))=true then(grd (a0.length+[orI .u8 (128:Int) (u8.wrap (shrI .u64 (if(4611686018427387903:Int)<a1 then(4611686018427387903:Int)else a1) (24:Int))),u8.wrap (shrI .u64 (if(4611686018427387903:Int)<a1 then(4611686018427387903:Int)else a1) (16:Int)),u8.wrap (shrI .u64 (if(4611686018427387903:Int)<a1 then(4611686018427387903:Int)else a1) (8:Int)),u8.wrap (if(4611686018427387903:Int)<a1 then(4611686018427387903:Int)else a1)].length≤274877906944) (some (a0++[orI .u8 (128:Int) (u8.wrap (shrI .u64 (if(4611686018427387903:Int)<a1 then(4611686018427387903:Int)else a1) (24:Int))),u8.wrap (shrI .u64 (if(4611686018427387903:Int)<a1 then(4611686018427387903:Int)else a1) (16:Int)),u8.wrap (shrI .u64 (if(4611686018427387903:Int)<a1 then(4611686018427387903:Int)else a1) (8:Int)),u8.wrap (if(4611686018427387903:Int)<a1 then(4611686018427387903:Int)else a1)])))else(grd (a0.length+[orI .u8 (192:Int) (u8.wrap (shrI .u64 (if(4611686018427387903:Int)<a1 then(4611686018427387903:Int)else a1) (56:Int))),u8.wrap (shrI .u64 (if(4611686018427387903:Int)<a1 then(4611686018427387903:Int)else a1) (48:Int)),u8.wrap (shrI .u64 (if(4611686018427387903:Int)<a1 then(4611686018427387903:Int)else a1) (40:Int)),u8.wrap (shrI .u64 (if(4611686018427387903:Int)<a1 then(4611686018427387903:Int)else a1) (32:Int)),u8.wrap (shrI .u64 (if(4611686018427387903:Int)<a1 then(4611686018427387903:Int)else a1) (24:Int)),u8.wrap (shrI .u64 (if(4611686018427387903:Int)<a1 then(4611686018427387903:Int)else a1) (16:Int)),u8.wrap (shrI .u64 (if(4611686018427387903:Int)<a1 then(4611686018427387903:Int)else a1) (8:Int)),u8.wrap (if(4611686018427387903:Int)<a1 then(4611686018427387903:Int)else a1)].length≤274877906944) (some (a0++[orI .u8 (192:Int) (u8.wrap (shrI .u64 (if(4611686018427387903:Int)<a1 then(4611686018427387903:Int)else a1) (56:Int))),u8.wrap (shrI .u64 (if(4611686018427387903:Int)<a1 then(4611686018427387903:Int)else a1) (48:Int)),u8.wrap (shrI .u64 (if(4611686018427387903:Int)<a1 then(4611686018427387903:Int)else a1) (40:Int)),u8.wrap (shrI .u64 (if(4611686018427387903:Int)<a1 then(4611686018427387903:Int)else a1) (32:Int)),u8.wrap (shrI .u64 (if(4611686018427387903:Int)<a1 then(4611686018427387903:Int)else a1) (24:Int)),u8.wrap (shrI .u64 (if(4611686018427387903:Int)<a1 then(4611686018427387903:Int)else a1) (16:Int)),u8.wrap (shrI .u64 (if(4611686018427387903:Int)<a1 then(4611686018427387903:Int)else a1) (8:Int)),u8.wrap (if(4611686018427387903:Int)<a1 then(4611686018427387903:Int)else a1)]))))))
def f_wire_Num_post (a0:(List Int)) (a1:Int) (f:Value):(List Int)→Value→IM→HL→Prop:=
 fun(c:(List Int)) (v:Value) (d:IM) (e:HL)=>∃ a b,a=v∧e=[b]∧OwnS (Kd.int .u8) d a c b
theorem f_wire_Num_ok (a0:(List Int)) (a1:Int) (M:IM) (a:Value) (I:Chunk) (x:OwnS (Kd.int .u8) M a a0 I) (b:(List Int)) (h:f_wire_Num a0 a1=some b):
 Tri prog 32 #[a,(Uv a1)] M [I] (f_wire_Num_post a0 a1 a b):=by
 unfold f_wire_Num at h
 refine Te func32 Z Z ?_
 intro F J c
 refine Sr (qa Zs (Ns (qM (Uv a1) (c 1) (qu (Uv (mn 4611686018427387903 a1)) (PO.min Z Z) (qa (Uv (mn 4611686018427387903 a1)) (Nt (Cs (Bk (Sr (qm (Uv (mn 4611686018427387903 a1)) (qu (Bv (decide ((mn 4611686018427387903 a1)<64))) (lss Z Z) ?_)))))))))))
 refine qa (Bv (decide ((mn 4611686018427387903 a1)<64))) (Nt (Ch h Z (fun d h=> ?_) (fun d h=> ?_)))
 refine Sr (qM a (c 0) (qm (Uv (mn 4611686018427387903 a1)) (qu (Yv (u8.wrap (mn 4611686018427387903 a1))) (conv us65 underlying5 Z) (We (buildSliceL (cl:=[(Yv (u8.wrap (mn 4611686018427387903 a1)))]) underlying38 iz5 Z (Pc (Yv (u8.wrap (mn 4611686018427387903 a1))) Z Z Pz) Z) Z ?_))))
 rintro _ _ _ - ⟨rfl,e,rfl,rfl⟩
 have y:OwnS (Kd.int .u8) M (.slice (some ⟨e,0,none⟩) 1 1) [u8.wrap (mn 4611686018427387903 a1)] [(e, .cells #[(Yv (u8.wrap (mn 4611686018427387903 a1)))] 5 (0,0))]:=OwnS.rows (css:=[[(Yv (u8.wrap (mn 4611686018427387903 a1)))]]) (Rows.cons Z Rows.nil) Z Z
 obtain ⟨f,h⟩:=grd_i h
 refine WL.f1 (We (append (dd:=(Kd.int .u8)) (xs:=a0) (ys:=[u8.wrap (mn 4611686018427387903 a1)]) underlying38 underlying38 in5 Z (appB (by decide) f) (by decide) Z Z x (y.src 1 Z)) Z ?_)
 rintro g _ _ - ⟨rfl,i,rfl,z⟩
 exact qa g (Nt (Cr (Br (Tr (Qa (Dr (Rf h [i] Z (Rs Z Z) lr ⟨g,i,Z,Z,z⟩)))))))
 refine Sr (qm (Uv (mn 4611686018427387903 a1)) (qu (Bv (decide ((mn 4611686018427387903 a1)<16384))) (lss Z Z) (qa (Bv (decide ((mn 4611686018427387903 a1)<16384))) (Nt (Ch h Z (fun j h=> ?_) (fun j h=> ?_))))))
 refine Sr (qM a (c 0) (qm (Uv (mn 4611686018427387903 a1)) (qu (Uv (shrI .u64 (mn 4611686018427387903 a1) (8:Int))) (shr Z Z (by decide)) (qu (Yv (u8.wrap (shrI .u64 (mn 4611686018427387903 a1) (8:Int)))) (conv us65 underlying5 Z) (qu (Yv (orI .u8 64 (u8.wrap (shrI .u64 (mn 4611686018427387903 a1) (8:Int))))) (PO.or Z Z) (qm (Uv (mn 4611686018427387903 a1)) (qu (Yv (u8.wrap (mn 4611686018427387903 a1))) (conv us65 underlying5 Z) (We (buildSliceL (cl:=[(Yv (orI .u8 64 (u8.wrap (shrI .u64 (mn 4611686018427387903 a1) (8:Int))))),(Yv (u8.wrap (mn 4611686018427387903 a1)))]) underlying38 iz5 Z (Pc (Yv (orI .u8 64 (u8.wrap (shrI .u64 (mn 4611686018427387903 a1) (8:Int))))) Z Z (Pc (Yv (u8.wrap (mn 4611686018427387903 a1))) Z Z Pz)) Z) Z ?_))))))))
 rintro _ _ _ - ⟨rfl,k,rfl,rfl⟩
 have A:OwnS (Kd.int .u8) M (.slice (some ⟨k,0,none⟩) 2 2) [orI .u8 64 (u8.wrap (shrI .u64 (mn 4611686018427387903 a1) (8:Int))),u8.wrap (mn 4611686018427387903 a1)] [(k, .cells #[(Yv (orI .u8 64 (u8.wrap (shrI .u64 (mn 4611686018427387903 a1) (8:Int))))),(Yv (u8.wrap (mn 4611686018427387903 a1)))] 5 (0,0))]:=OwnS.rows (css:=[[(Yv (orI .u8 64 (u8.wrap (shrI .u64 (mn 4611686018427387903 a1) (8:Int)))))],[(Yv (u8.wrap (mn 4611686018427387903 a1)))]]) (Rows.cons Z (Rows.cons Z Rows.nil)) Z Z
 obtain ⟨l,h⟩:=grd_i h
 refine WL.f1 (We (append (dd:=(Kd.int .u8)) (xs:=a0) (ys:=[orI .u8 64 (u8.wrap (shrI .u64 (mn 4611686018427387903 a1) (8:Int))),u8.wrap (mn 4611686018427387903 a1)]) underlying38 underlying38 in5 Z (appB (by decide) l) (by decide) Z Z x (A.src 1 Z)) Z ?_)
 rintro m _ _ - ⟨rfl,n,rfl,B⟩
 exact qa m (Nt (Cr (Br (Tr (Qa (Dr (Rf h [n] Z (Rs Z Z) lr ⟨m,n,Z,Z,B⟩)))))))
 refine Sr (qm (Uv (mn 4611686018427387903 a1)) (qu (Bv (decide ((mn 4611686018427387903 a1)<1073741824))) (lss Z Z) (qa (Bv (decide ((mn 4611686018427387903 a1)<1073741824))) (Nt (Ch h Z (fun o h=> ?_) (fun o h=> ?_))))))
 refine Sr (qM a (c 0) (qm (Uv (mn 4611686018427387903 a1)) (qu (Uv (shrI .u64 (mn 4611686018427387903 a1) (24:Int))) (shr Z Z (by decide)) (qu (Yv (u8.wrap (shrI .u64 (mn 4611686018427387903 a1) (24:Int)))) (conv us65 underlying5 Z) (qu (Yv (orI .u8 128 (u8.wrap (shrI .u64 (mn 4611686018427387903 a1) (24:Int))))) (PO.or Z Z) (qm (Uv (mn 4611686018427387903 a1)) (qu (Uv (shrI .u64 (mn 4611686018427387903 a1) (16:Int))) (shr Z Z (by decide)) (qu (Yv (u8.wrap (shrI .u64 (mn 4611686018427387903 a1) (16:Int)))) (conv us65 underlying5 Z) (qm (Uv (mn 4611686018427387903 a1)) (qu (Uv (shrI .u64 (mn 4611686018427387903 a1) (8:Int))) (shr Z Z (by decide)) (qu (Yv (u8.wrap (shrI .u64 (mn 4611686018427387903 a1) (8:Int)))) (conv us65 underlying5 Z) ?_)))))))))))
 refine qm (Uv (mn 4611686018427387903 a1)) (qu (Yv (u8.wrap (mn 4611686018427387903 a1))) (conv us65 underlying5 Z) (We (buildSliceL (cl:=[(Yv (orI .u8 128 (u8.wrap (shrI .u64 (mn 4611686018427387903 a1) (24:Int))))),(Yv (u8.wrap (shrI .u64 (mn 4611686018427387903 a1) (16:Int)))),(Yv (u8.wrap (shrI .u64 (mn 4611686018427387903 a1) (8:Int)))),(Yv (u8.wrap (mn 4611686018427387903 a1)))]) underlying38 iz5 Z (Pc (Yv (orI .u8 128 (u8.wrap (shrI .u64 (mn 4611686018427387903 a1) (24:Int))))) Z Z (Pc (Yv (u8.wrap (shrI .u64 (mn 4611686018427387903 a1) (16:Int)))) Z Z (Pc (Yv (u8.wrap (shrI .u64 (mn 4611686018427387903 a1) (8:Int)))) Z Z (Pc (Yv (u8.wrap (mn 4611686018427387903 a1))) Z Z Pz)))) Z) Z ?_))
 rintro _ _ _ - ⟨rfl,p,rfl,rfl⟩
 have C:OwnS (Kd.int .u8) M (.slice (some ⟨p,0,none⟩) 4 4) [orI .u8 128 (u8.wrap (shrI .u64 (mn 4611686018427387903 a1) (24:Int))),u8.wrap (shrI .u64 (mn 4611686018427387903 a1) (16:Int)),u8.wrap (shrI .u64 (mn 4611686018427387903 a1) (8:Int)),u8.wrap (mn 4611686018427387903 a1)] [(p, .cells #[(Yv (orI .u8 128 (u8.wrap (shrI .u64 (mn 4611686018427387903 a1) (24:Int))))),(Yv (u8.wrap (shrI .u64 (mn 4611686018427387903 a1) (16:Int)))),(Yv (u8.wrap (shrI .u64 (mn 4611686018427387903 a1) (8:Int)))),(Yv (u8.wrap (mn 4611686018427387903 a1)))] 5 (0,0))]:=OwnS.rows (css:=[[(Yv (orI .u8 128 (u8.wrap (shrI .u64 (mn 4611686018427387903 a1) (24:Int)))))],[(Yv (u8.wrap (shrI .u64 (mn 4611686018427387903 a1) (16:Int))))],[(Yv (u8.wrap (shrI .u64 (mn 4611686018427387903 a1) (8:Int))))],[(Yv (u8.wrap (mn 4611686018427387903 a1)))]]) (Rows.cons Z (Rows.cons Z (Rows.cons Z (Rows.cons Z Rows.nil)))) Z Z
 obtain ⟨q,h⟩:=grd_i h
 refine WL.f1 (We (append (dd:=(Kd.int .u8)) (xs:=a0) (ys:=[orI .u8 128 (u8.wrap (shrI .u64 (mn 4611686018427387903 a1) (24:Int))),u8.wrap (shrI .u64 (mn 4611686018427387903 a1) (16:Int)),u8.wrap (shrI .u64 (mn 4611686018427387903 a1) (8:Int)),u8.wrap (mn 4611686018427387903 a1)]) underlying38 underlying38 in5 Z (appB (by decide) q) (by decide) Z Z x (C.src 1 Z)) Z ?_)
 rintro r _ _ - ⟨rfl,s,rfl,D⟩
 exact qa r (Nt (Cr (Br (Tr (Qa (Dr (Rf h [s] Z (Rs Z Z) lr ⟨r,s,Z,Z,D⟩)))))))
 refine Ck (Bn (Tc (Sr (qM a (c 0) (qm (Uv (mn 4611686018427387903 a1)) (qu (Uv (shrI .u64 (mn 4611686018427387903 a1) (56:Int))) (shr Z Z (by decide)) (qu (Yv (u8.wrap (shrI .u64 (mn 4611686018427387903 a1) (56:Int)))) (conv us65 underlying5 Z) (qu (Yv (orI .u8 192 (u8.wrap (shrI .u64 (mn 4611686018427387903 a1) (56:Int))))) (PO.or Z Z) (qm (Uv (mn 4611686018427387903 a1)) (qu (Uv (shrI .u64 (mn 4611686018427387903 a1) (48:Int))) (shr Z Z (by decide)) (qu (Yv (u8.wrap (shrI .u64 (mn 4611686018427387903 a1) (48:Int)))) (conv us65 underlying5 Z) ?_)))))))))))
 refine qm (Uv (mn 4611686018427387903 a1)) (qu (Uv (shrI .u64 (mn 4611686018427387903 a1) (40:Int))) (shr Z Z (by decide)) (qu (Yv (u8.wrap (shrI .u64 (mn 4611686018427387903 a1) (40:Int)))) (conv us65 underlying5 Z) (qm (Uv (mn 4611686018427387903 a1)) (qu (Uv (shrI .u64 (mn 4611686018427387903 a1) (32:Int))) (shr Z Z (by decide)) (qu (Yv (u8.wrap (shrI .u64 (mn 4611686018427387903 a1) (32:Int)))) (conv us65 underlying5 Z) (qm (Uv (mn 4611686018427387903 a1)) (qu (Uv (shrI .u64 (mn 4611686018427387903 a1) (24:Int))) (shr Z Z (by decide)) (qu (Yv (u8.wrap (shrI .u64 (mn 4611686018427387903 a1) (24:Int)))) (conv us65 underlying5 Z) (qm (Uv (mn 4611686018427387903 a1)) (qu (Uv (shrI .u64 (mn 4611686018427387903 a1) (16:Int))) (shr Z Z (by decide)) (qu (Yv (u8.wrap (shrI .u64 (mn 4611686018427387903 a1) (16:Int)))) (conv us65 underlying5 Z) ?_)))))))))))
 refine qm (Uv (mn 4611686018427387903 a1)) (qu (Uv (shrI .u64 (mn 4611686018427387903 a1) (8:Int))) (shr Z Z (by decide)) (qu (Yv (u8.wrap (shrI .u64 (mn 4611686018427387903 a1) (8:Int)))) (conv us65 underlying5 Z) (qm (Uv (mn 4611686018427387903 a1)) (qu (Yv (u8.wrap (mn 4611686018427387903 a1))) (conv us65 underlying5 Z) (We (buildSliceL (cl:=[(Yv (orI .u8 192 (u8.wrap (shrI .u64 (mn 4611686018427387903 a1) (56:Int))))),(Yv (u8.wrap (shrI .u64 (mn 4611686018427387903 a1) (48:Int)))),(Yv (u8.wrap (shrI .u64 (mn 4611686018427387903 a1) (40:Int)))),(Yv (u8.wrap (shrI .u64 (mn 4611686018427387903 a1) (32:Int)))),(Yv (u8.wrap (shrI .u64 (mn 4611686018427387903 a1) (24:Int)))),(Yv (u8.wrap (shrI .u64 (mn 4611686018427387903 a1) (16:Int)))),(Yv (u8.wrap (shrI .u64 (mn 4611686018427387903 a1) (8:Int)))),(Yv (u8.wrap (mn 4611686018427387903 a1)))]) underlying38 iz5 Z (Pc (Yv (orI .u8 192 (u8.wrap (shrI .u64 (mn 4611686018427387903 a1) (56:Int))))) Z Z (Pc (Yv (u8.wrap (shrI .u64 (mn 4611686018427387903 a1) (48:Int)))) Z Z (Pc (Yv (u8.wrap (shrI .u64 (mn 4611686018427387903 a1) (40:Int)))) Z Z (Pc (Yv (u8.wrap (shrI .u64 (mn 4611686018427387903 a1) (32:Int)))) Z Z (Pc (Yv (u8.wrap (shrI .u64 (mn 4611686018427387903 a1) (24:Int)))) Z Z (Pc (Yv (u8.wrap (shrI .u64 (mn 4611686018427387903 a1) (16:Int)))) Z Z (Pc (Yv (u8.wrap (shrI .u64 (mn 4611686018427387903 a1) (8:Int)))) Z Z (Pc (Yv (u8.wrap (mn 4611686018427387903 a1))) Z Z Pz)))))))) Z) Z ?_)))))
 rintro _ _ _ - ⟨rfl,t,rfl,rfl⟩
 have E:OwnS (Kd.int .u8) M (.slice (some ⟨t,0,none⟩) 8 8) [orI .u8 192 (u8.wrap (shrI .u64 (mn 4611686018427387903 a1) (56:Int))),u8.wrap (shrI .u64 (mn 4611686018427387903 a1) (48:Int)),u8.wrap (shrI .u64 (mn 4611686018427387903 a1) (40:Int)),u8.wrap (shrI .u64 (mn 4611686018427387903 a1) (32:Int)),u8.wrap (shrI .u64 (mn 4611686018427387903 a1) (24:Int)),u8.wrap (shrI .u64 (mn 4611686018427387903 a1) (16:Int)),u8.wrap (shrI .u64 (mn 4611686018427387903 a1) (8:Int)),u8.wrap (mn 4611686018427387903 a1)] [(t, .cells #[(Yv (orI .u8 192 (u8.wrap (shrI .u64 (mn 4611686018427387903 a1) (56:Int))))),(Yv (u8.wrap (shrI .u64 (mn 4611686018427387903 a1) (48:Int)))),(Yv (u8.wrap (shrI .u64 (mn 4611686018427387903 a1) (40:Int)))),(Yv (u8.wrap (shrI .u64 (mn 4611686018427387903 a1) (32:Int)))),(Yv (u8.wrap (shrI .u64 (mn 4611686018427387903 a1) (24:Int)))),(Yv (u8.wrap (shrI .u64 (mn 4611686018427387903 a1) (16:Int)))),(Yv (u8.wrap (shrI .u64 (mn 4611686018427387903 a1) (8:Int)))),(Yv (u8.wrap (mn 4611686018427387903 a1)))] 5 (0,0))]:=OwnS.rows (css:=[[(Yv (orI .u8 192 (u8.wrap (shrI .u64 (mn 4611686018427387903 a1) (56:Int)))))],[(Yv (u8.wrap (shrI .u64 (mn 4611686018427387903 a1) (48:Int))))],[(Yv (u8.wrap (shrI .u64 (mn 4611686018427387903 a1) (40:Int))))],[(Yv (u8.wrap (shrI .u64 (mn 4611686018427387903 a1) (32:Int))))],[(Yv (u8.wrap (shrI .u64 (mn 4611686018427387903 a1) (24:Int))))],[(Yv (u8.wrap (shrI .u64 (mn 4611686018427387903 a1) (16:Int))))],[(Yv (u8.wrap (shrI .u64 (mn 4611686018427387903 a1) (8:Int))))],[(Yv (u8.wrap (mn 4611686018427387903 a1)))]]) (Rows.cons Z (Rows.cons Z (Rows.cons Z (Rows.cons Z (Rows.cons Z (Rows.cons Z (Rows.cons Z (Rows.cons Z Rows.nil)))))))) Z Z
 obtain ⟨u,h⟩:=grd_i h
 refine WL.f1 (We (append (dd:=(Kd.int .u8)) (xs:=a0) (ys:=[orI .u8 192 (u8.wrap (shrI .u64 (mn 4611686018427387903 a1) (56:Int))),u8.wrap (shrI .u64 (mn 4611686018427387903 a1) (48:Int)),u8.wrap (shrI .u64 (mn 4611686018427387903 a1) (40:Int)),u8.wrap (shrI .u64 (mn 4611686018427387903 a1) (32:Int)),u8.wrap (shrI .u64 (mn 4611686018427387903 a1) (24:Int)),u8.wrap (shrI .u64 (mn 4611686018427387903 a1) (16:Int)),u8.wrap (shrI .u64 (mn 4611686018427387903 a1) (8:Int)),u8.wrap (mn 4611686018427387903 a1)]) underlying38 underlying38 in5 Z (appB (by decide) u) (by decide) Z Z x (E.src 1 Z)) Z ?_)
 rintro v _ _ - ⟨rfl,w,rfl,G⟩
 exact qa v (Nt (Cr (Qa (Dr (Rf h [w] Z (Rs Z Z) lr ⟨v,w,Z,Z,G⟩)))))
noncomputable def f_wire_Int (a0:(List Int)) (a1:Int):Option (List Int):=
 ((f_wire_Num a0 (u64.wrap (if a1<(0:Int)then(0:Int)else a1))).bind fun a=>(some a))
def f_wire_Int_post (a0:(List Int)) (a1:Int) (f:Value):(List Int)→Value→IM→HL→Prop:=
 fun(c:(List Int)) (v:Value) (d:IM) (e:HL)=>∃ a b,a=v∧e=[b]∧OwnS (Kd.int .u8) d a c b
theorem f_wire_Int_ok (a0:(List Int)) (a1:Int) (M:IM) (g:Value) (j:Chunk) (l:OwnS (Kd.int .u8) M g a0 j) (d:(List Int)) (h:f_wire_Int a0 a1=some d):
 Tri prog 19 #[g,(Iv a1)] M [j] (f_wire_Int_post a0 a1 g d):=by
 unfold f_wire_Int at h
 refine Te func19 Z Z ?_
 intro F n k
 refine Sr (qa Zs (Ns (qM g (k 0) (qM (Iv a1) (k 1) (qu (Iv (if a1<0 then(0:Int)else a1)) (PO.max Z Z) (qu (Uv (u64.wrap (if a1<0 then(0:Int)else a1))) (conv us3 underlying65 Z) ?_))))))
 obtain ⟨i,e,h⟩:=bnd h
 refine We (Cb co32 (f_wire_Num_ok a0 (u64.wrap (if a1<0 then(0:Int)else a1)) _ _ _ l i e) (args2 Z Z)) Z ?_
 rintro _ m _ c ⟨_,⟨a,b,rfl,rfl,f⟩,rfl⟩
 exact WL.a1 (qa a (Nt (Cr (Rf h [b] Z (Rs Z Z) c ⟨a,b,Z,Z,f⟩))))
noncomputable def f_record_Put_1 (a0:Int) (a1:Int) (a2:Int) (a3:(List Int)):Option (List Int):=
 (if(decide ((andI .i64 a2 a0)≠(0:Int)))=true then((f_wire_Int a3 a1).bind fun a=>(some a))else(some a3))
def f_record_Put_1_post (a0:Int) (a1:Int) (a2:Int) (a3:(List Int)) (i:Value) (c d:Nat):(List Int)→Value→IM→HL→Prop:=
 fun(e:(List Int)) (v:Value) (f:IM) (g:HL)=>∃ a b,(.tuple #[])=v∧g=[[(c, .cells #[(.int .i64 a2)] 3 (0,0))],[(d, .cells #[a] 38 (0,0))],b]∧OwnS (Kd.int .u8) f a e b
theorem f_record_Put_1_ok (a0:Int) (a1:Int) (a2:Int) (a3:(List Int)) (M:IM) (e:Value) (f g:Nat) (m:Chunk) (o:OwnS (Kd.int .u8) M e a3 m) (i:(List Int)) (h:f_record_Put_1 a0 a1 a2 a3=some i):
 Tri prog 34 #[(Iv a0),(Iv a1),(pt f 0),(pt g 0)] M [[(f, .cells #[(Iv a2)] 3 (0,0))],[(g, .cells #[e] 38 (0,0))],m] (f_record_Put_1_post a0 a1 a2 a3 e f g i):=by
 unfold f_record_Put_1 at h
 refine Te func34 Z Z ?_
 intro F q j
 refine Sr (qu (Iv a2) (Lb 0 pl3 (j 2) Z Z) (qM (Iv a0) (j 0) (qu (Iv (andI .i64 a2 a0)) (PO.and Z Z) (qu (Bv (decide ((andI .i64 a2 a0)≠0))) (neq Z Z) (Nt (Ch h Z (fun k h=> ?_) (fun k h=> ?_)))))))
 refine Cg (qu e (Lb 1 pl38 (j 3) Z Z) (qM (Iv a1) (j 1) ?_))
 obtain ⟨n,l,h⟩:=bnd h
 refine Wb (We (Cb co19 (f_wire_Int_ok a3 a1 _ _ _ o n l) (args2 Z Z)) Z ?_)
 rintro _ p _ d ⟨_,⟨a,c,rfl,rfl,b⟩,rfl⟩
 refine WL.a1 (Wb (We (Es a [a] b.cells sz38 (j 3) Z (Ow b) Z Z Z) Z ?_))
 rintro _ _ _ - ⟨rfl,rfl⟩
 exact Wz (Qa (Qa (Qb (WQ.endsF h [[(f, .cells #[(Iv a2)] 3 (0,0))],[(g, .cells #[a] 38 (0,0))],c] Z (results0 Z) d ⟨a,c,Z,Z,b⟩))))
 exact Ck (WQ.endsF h [[(f, .cells #[(Iv a2)] 3 (0,0))],[(g, .cells #[e] 38 (0,0))],m] Z (results0 Z) lr ⟨e,m,Z,Z,o⟩)
noncomputable def f_wire_Flag (a0:(List Int)) (a1:Bool):Option (List Int):=
 (if a1=true then(grd (a0.length+[(1:Int)].length≤274877906944) (some (a0++[(1:Int)])))else(grd (a0.length+[(0:Int)].length≤274877906944) (some (a0++[(0:Int)]))))
def f_wire_Flag_post (a0:(List Int)) (a1:Bool) (f:Value):(List Int)→Value→IM→HL→Prop:=
 fun(c:(List Int)) (v:Value) (d:IM) (e:HL)=>∃ a b,a=v∧e=[b]∧OwnS (Kd.int .u8) d a c b
theorem f_wire_Flag_ok (a0:(List Int)) (a1:Bool) (M:IM) (a:Value) (r:Chunk) (s:OwnS (Kd.int .u8) M a a0 r) (b:(List Int)) (h:f_wire_Flag a0 a1=some b):
 Tri prog 35 #[a,(Bv a1)] M [r] (f_wire_Flag_post a0 a1 a b):=by
 unfold f_wire_Flag at h
 refine Te func35 Z Z ?_
 intro F t m
 refine Sr (qa Zs (Nt (Cs (Sr (qM (Bv a1) (m 1) (Nt (Ch h Z (fun c h=> ?_) (fun c h=> ?_))))))))
 refine Sr (qM a (m 0) (We (buildSliceL (cl:=[(Yv 1)]) underlying38 iz5 Z (Pc (Yv 1) Z Z Pz) Z) Z ?_))
 rintro _ _ _ - ⟨rfl,d,rfl,rfl⟩
 have n:OwnS (Kd.int .u8) M (.slice (some ⟨d,0,none⟩) 1 1) [(1:Int)] [(d, .cells #[(Yv 1)] 5 (0,0))]:=OwnS.rows (css:=[[(Yv 1)]]) (Rows.cons Z Rows.nil) Z Z
 obtain ⟨e,h⟩:=grd_i h
 refine WL.f1 (We (append (dd:=(Kd.int .u8)) (xs:=a0) (ys:=[(1:Int)]) underlying38 underlying38 in5 Z (appB (by decide) e) (by decide) Z Z s (n.src 1 Z)) Z ?_)
 rintro f _ _ - ⟨rfl,g,rfl,o⟩
 exact qa f (Nt (Cr (Tr (Qa (Dr (Rf h [g] Z (Rs Z Z) lr ⟨f,g,Z,Z,o⟩))))))
 refine Ck (Tc (Sr (qM a (m 0) (We (buildSliceL (cl:=[(Yv 0)]) underlying38 iz5 Z (Pc (Yv 0) Z Z Pz) Z) Z ?_))))
 rintro _ _ _ - ⟨rfl,i,rfl,rfl⟩
 have p:OwnS (Kd.int .u8) M (.slice (some ⟨i,0,none⟩) 1 1) [(0:Int)] [(i, .cells #[(Yv 0)] 5 (0,0))]:=OwnS.rows (css:=[[(Yv 0)]]) (Rows.cons Z Rows.nil) Z Z
 obtain ⟨j,h⟩:=grd_i h
 refine WL.f1 (We (append (dd:=(Kd.int .u8)) (xs:=a0) (ys:=[(0:Int)]) underlying38 underlying38 in5 Z (appB (by decide) j) (by decide) Z Z s (p.src 1 Z)) Z ?_)
 rintro k _ _ - ⟨rfl,l,rfl,q⟩
 exact qa k (Nt (Cr (Qa (Dr (Rf h [l] Z (Rs Z Z) lr ⟨k,l,Z,Z,q⟩)))))
noncomputable def f_wire_Text (a0:(List Int)) (a1:(List Int)):Option (List Int):=
 ((f_wire_Int a0 (a1.length:Int)).bind fun a=>(grd (a.length+a1.length≤274877906944) (some (a++a1))))
def f_wire_Text_post (a0:(List Int)) (a1:(List Int)) (f g:Value):(List Int)→Value→IM→HL→Prop:=
 fun(c:(List Int)) (v:Value) (d:IM) (e:HL)=>∃ a b,a=v∧e=[b]∧OwnS (Kd.int .u8) d a c b
theorem f_wire_Text_ok (a0:(List Int)) (a1:(List Int)) (M:IM) (k b:Value) (o:Chunk) (r:OwnS (Kd.int .u8) M k a0 o) (l:RS (Kd.int .u8) M b a1) (c:(List Int)) (h:f_wire_Text a0 a1=some c):
 Tri prog 37 #[k,b] M [o] (f_wire_Text_post a0 a1 k b c):=by
 unfold f_wire_Text at h
 refine Te func37 Z Z ?_
 intro F t m
 refine Sr (qa Zs (Ns (qM k (m 0) (qM b (m 1) (qu (Iv (a1.length:Int)) (lenS underlying38 Z l.len) ?_)))))
 obtain ⟨d,e,h⟩:=bnd h
 refine We (Cb co19 (f_wire_Int_ok a0 (a1.length:Int) _ _ _ r d e) (args2 Z Z)) Z ?_
 rintro _ s _ a ⟨_,⟨p,q,rfl,rfl,f⟩,rfl⟩
 refine WL.a1 (qM b (m 1) ?_)
 obtain ⟨g,h⟩:=grd_i h
 have l:=l.mono a
 refine We (append (dd:=(Kd.int .u8)) (xs:=d) (ys:=a1) underlying38 underlying38 in5 Z (appB (by decide) g) (by decide) Z Z f (l.src _)) Z ?_
 rintro i _ _ - ⟨rfl,j,rfl,n⟩
 exact qa i (Nt (Cr (Rf h [j] Z (Rs Z Z) a ⟨i,j,Z,Z,n⟩)))
noncomputable def f_record_Put_2 (a0:Int) (a1:ByteArray) (a2:Int) (a3:(List Int)):Option (List Int):=
 (if(decide ((andI .i64 a2 a0)≠(0:Int)))=true then((f_wire_Text a3 (bytesOf a1)).bind fun a=>(some a))else(some a3))
def f_record_Put_2_post (a0:Int) (a1:ByteArray) (a2:Int) (a3:(List Int)) (i:Value) (c d:Nat):(List Int)→Value→IM→HL→Prop:=
 fun(e:(List Int)) (v:Value) (f:IM) (g:HL)=>∃ a b,(.tuple #[])=v∧g=[[(c, .cells #[(.int .i64 a2)] 3 (0,0))],[(d, .cells #[a] 38 (0,0))],b]∧OwnS (Kd.int .u8) f a e b
theorem f_record_Put_2_ok (a0:Int) (a1:ByteArray) (a2:Int) (a3:(List Int)) (M:IM) (e:Value) (f g:Nat) (q:Chunk) (t:OwnS (Kd.int .u8) M e a3 q) (i:(List Int)) (h:f_record_Put_2 a0 a1 a2 a3=some i):
 Tri prog 36 #[(Iv a0),(Sv a1),(pt f 0),(pt g 0)] M [[(f, .cells #[(Iv a2)] 3 (0,0))],[(g, .cells #[e] 38 (0,0))],q] (f_record_Put_2_post a0 a1 a2 a3 e f g i):=by
 unfold f_record_Put_2 at h
 refine Te func36 Z Z ?_
 intro F y j
 refine Sr (qu (Iv a2) (Lb 0 pl3 (j 2) Z Z) (qM (Iv a0) (j 0) (qu (Iv (andI .i64 a2 a0)) (PO.and Z Z) (qu (Bv (decide ((andI .i64 a2 a0)≠0))) (neq Z Z) (Nt (Ch h Z (fun k h=> ?_) (fun k h=> ?_)))))))
 refine Cg (qu e (Lb 1 pl38 (j 3) Z Z) (qM (Sv a1) (j 1) (We (s2b underlying9 underlying38 underlying5 Z) Z ?_)))
 rintro v _ _ - ⟨rfl,r,rfl,l⟩
 obtain ⟨m,n,h⟩:=bnd h
 refine WL.f3 (WL.f1 (We (EO.call2 co37 (Tri.lend l.excl fun w x o=>(f_wire_Text_ok a3 (bytesOf a1) _ _ _ _ (t.mono (IM.le_add _ _)) (l.rs o) m n)) (args2 Z Z)) Z ?_))
 rintro _ _ _ d ⟨_,⟨p,u,s,rfl,rfl,⟨a,c,rfl,rfl,b⟩⟩,rfl⟩
 have b:OwnS (Kd.int .u8) (p.minus r) a m c:=b.any (Kd.int_flat _)
 refine WL.a2 (WL.f3 (We (Es a [a] b.cells sz38 (j 3) Z (Ow b) Z Z Z) Z ?_))
 rintro _ _ _ - ⟨rfl,rfl⟩
 exact Wz (Qa (Dr (Qa (Qa (Qb (WQ.endsF h [[(f, .cells #[(Iv a2)] 3 (0,0))],[(g, .cells #[a] 38 (0,0))],c] Z (results0 Z) d ⟨a,c,Z,Z,b⟩))))))
 exact Ck (WQ.endsF h [[(f, .cells #[(Iv a2)] 3 (0,0))],[(g, .cells #[e] 38 (0,0))],q] Z (results0 Z) lr ⟨e,q,Z,Z,t⟩)
noncomputable def f_wire_Row_l0 (a1:(List Int)) (d:((List Int)×Int)):Option (((List Int)×Int)⊕(List Int)):=
 match d with
 |(b,a)=>
 (if(decide (a<(a1.length:Int)))=true then(grd (0≤a∧a<a1.length) ((f_wire_Int b (rd a1 a)).bind fun c=>(some (inl (c,i64.wrap (a+(1:Int)))))))else(some (inr b)))
noncomputable def f_wire_Row (a0:(List Int)) (a1:(List Int)):Option (List Int):=
 ((f_wire_Int a0 (a1.length:Int)).bind fun a=>((((iter (f_wire_Row_l0 a1) (a,(0:Int))).bind (fun(b:(List Int))=>(some b))):Option (List Int)).bind fun c=>(some c)))
def f_wire_Row_post (a0:(List Int)) (a1:(List Int)) (f g:Value):(List Int)→Value→IM→HL→Prop:=
 fun(c:(List Int)) (v:Value) (d:IM) (e:HL)=>∃ a b,a=v∧e=[b]∧OwnS (Kd.int .u8) d a c b
theorem f_wire_Row_ok (a0:(List Int)) (a1:(List Int)) (M:IM) (U A:Value) (c0:Chunk) (h0:OwnS (Kd.int .u8) M U a0 c0) (t:RS (Kd.int .i64) M A a1) (C:(List Int)) (h:f_wire_Row a0 a1=some C):
 Tri prog 39 #[U,A] M [c0] (f_wire_Row_post a0 a1 U A C):=by
 unfold f_wire_Row at h
 refine Te func39 Z Z ?_
 intro F ρ V
 refine Sr (qa Zs (Ns (qM U (V 0) (qM A (V 1) (qu (Iv (a1.length:Int)) (lenS underlying34 Z t.len) ?_)))))
 obtain ⟨W,D,h⟩:=bnd h
 refine We (Cb co19 (f_wire_Int_ok a0 (a1.length:Int) _ _ _ h0 W D) (args2 Z Z)) Z ?_
 rintro _ E _ m ⟨_,⟨q,G,rfl,rfl,I⟩,rfl⟩
 refine WL.a1 (qa q (Nt ?_))
 obtain ⟨u,J,h⟩:=bnd h
 refine Jf (fun(u:(List Int)) B K X=>∃ c d,E.le K∧d::F=X∧B 0=c∧OwnS (Kd.int .u8) K c u d) u ?_ ?_
 have h:=J
 refine Sr (qM A (V 1) ?_)
 have t:=t.mono m
 refine qu (Iv (a1.length:Int)) (lenS underlying34 Z t.len) (qm (Iv 0) (Nt (Bk ?_)))
 obtain ⟨a5,L,N⟩:=bnd h
 clear h
 refine WC.loop L (fun(p_:((List Int)×Int)) B K X=>match p_ with |(o,b)=>∃ e j,E.le K∧j::F=X∧B 0=e∧B 11=A∧B 12=(Iv (a1.length:Int))∧B 13=(Iv b)∧OwnS (Kd.int .u8) K e o j) ?_ ?_
 exact⟨q,G,lr,Z,Z,Z,Z,Z,I⟩
 rintro ⟨o,b⟩ a7 a8 a9 b0 h ⟨e,j,i,rfl,k,f,g,a,r⟩
 unfold f_wire_Row_l0 at h
 refine Sr (qu (Bv (decide (b<(a1.length:Int)))) (lss a g) (Nt (Cs (Ch h Z (fun O h=> ?_) (fun O h=> ?_)))))
 refine Ck (Tc (Cs (Bk (Sr ?_))))
 obtain ⟨l,h⟩:=grd_i h
 have t:=t.mono i
 obtain ⟨Y,a3,v,w,hhas38⟩:=t.at l.1 l.2 (by decide)
 obtain rfl:=w
 refine qu (.pointer (some Y)) (indexAddr (n:=a1.length) underlying34 sz3 f a l.1 l.2 v) (qu (Iv (rd a1 b)) (loadM pl3 Z (IM.has0 hhas38)) (qa (Iv (rd a1 b)) (Nt (Cg (qM e k (qm (Iv (rd a1 b)) ?_))))))
 obtain ⟨P,Q,h⟩:=bnd h
 refine We (Cb co19 (f_wire_Int_ok o (rd a1 b) _ _ _ r P Q) (args2 Z Z)) Z ?_
 rintro _ b1 _ x ⟨_,⟨s,R,rfl,rfl,S⟩,rfl⟩
 exact WL.a1 (qa s (Wz (Bn (Tc (Cg (qu (Iv (i64.wrap (b+1))) (add a Z) (qm (Iv (i64.wrap (b+1))) (Wz (WQ.again (P,i64.wrap (b+1)) (oi h).symm ⟨s,R,(i.trans x),Z,Z,f,g,Z,S⟩)))))))))
 refine WC.exit (WQ.thenE (WQ.leaveE o (oi h).symm (fun y=> ?_)))
 subst y
 have h:=N
 refine WQ.blockH ?_
 obtain rfl:=oi h
 exact Tj ⟨e,j,i,Z,k,r⟩
 rintro b2 b3 b4 ⟨c,d,z,rfl,p,T⟩
 exact Sr (qM c p (qa c (Nt (Cr (Rf h [d] Z (Rs Z Z) (m.trans z) ⟨c,d,Z,Z,T⟩)))))
noncomputable def f_record_Put_3 (a0:Int) (a1:(List Int)) (a2:Int) (a3:(List Int)):Option (List Int):=
 (if(decide ((andI .i64 a2 a0)≠(0:Int)))=true then((f_wire_Row a3 a1).bind fun a=>(some a))else(some a3))
def f_record_Put_3_post (a0:Int) (a1:(List Int)) (a2:Int) (a3:(List Int)) (i j:Value) (c d:Nat):(List Int)→Value→IM→HL→Prop:=
 fun(e:(List Int)) (v:Value) (f:IM) (g:HL)=>∃ a b,(.tuple #[])=v∧g=[[(c, .cells #[(.int .i64 a2)] 3 (0,0))],[(d, .cells #[a] 38 (0,0))],b]∧OwnS (Kd.int .u8) f a e b
theorem f_record_Put_3_ok (a0:Int) (a1:(List Int)) (a2:Int) (a3:(List Int)) (M:IM) (m e:Value) (f g:Nat) (n:Chunk) (q:RS (Kd.int .i64) M m a1) (p:OwnS (Kd.int .u8) M e a3 n) (i:(List Int)) (h:f_record_Put_3 a0 a1 a2 a3=some i):
 Tri prog 38 #[(Iv a0),m,(pt f 0),(pt g 0)] M [[(f, .cells #[(Iv a2)] 3 (0,0))],[(g, .cells #[e] 38 (0,0))],n] (f_record_Put_3_post a0 a1 a2 a3 m e f g i):=by
 unfold f_record_Put_3 at h
 refine Te func38 Z Z ?_
 intro F s j
 refine Sr (qu (Iv a2) (Lb 0 pl3 (j 2) Z Z) (qM (Iv a0) (j 0) (qu (Iv (andI .i64 a2 a0)) (PO.and Z Z) (qu (Bv (decide ((andI .i64 a2 a0)≠0))) (neq Z Z) (Nt (Ch h Z (fun k h=> ?_) (fun k h=> ?_)))))))
 refine Cg (qu e (Lb 1 pl38 (j 3) Z Z) (qM m (j 1) ?_))
 obtain ⟨o,l,h⟩:=bnd h
 refine Wb (We (Cb co39 (f_wire_Row_ok a3 a1 _ _ _ _ p q o l) (args2 Z Z)) Z ?_)
 rintro _ r _ d ⟨_,⟨a,c,rfl,rfl,b⟩,rfl⟩
 refine WL.a1 (Wb (We (Es a [a] b.cells sz38 (j 3) Z (Ow b) Z Z Z) Z ?_))
 rintro _ _ _ - ⟨rfl,rfl⟩
 exact Wz (Qa (Qa (Qb (WQ.endsF h [[(f, .cells #[(Iv a2)] 3 (0,0))],[(g, .cells #[a] 38 (0,0))],c] Z (results0 Z) d ⟨a,c,Z,Z,b⟩))))
 exact Ck (WQ.endsF h [[(f, .cells #[(Iv a2)] 3 (0,0))],[(g, .cells #[e] 38 (0,0))],n] Z (results0 Z) lr ⟨e,n,Z,Z,p⟩)
noncomputable def f_record_Put (a0:(List Int)) (a1:T_api_Record):Option ((List Int)×GErr):=
 ((f_record_Check a1).bind fun b=>(if(!b.isNil)=true then(some ([],b))else((f_record_about a1.Kind).bind fun a=>(grd (a0.length+[u8.wrap a1.Kind].length≤274877906944) ((f_record_Put_1 (1:Int) a1.Broker a (a0++[u8.wrap a1.Kind])).bind fun n=>((f_record_Put_1 (2:Int) a1.Epoch a n).bind fun o=>((f_record_Put_1 (4:Int) a1.Topic a o).bind fun p=>((f_record_Put_1 (8:Int) a1.Part a p).bind fun q=>((f_record_Put_1 (16:Int) a1.Leader a q).bind fun r=>((f_record_Put_1 (32:Int) a1.Client a r).bind fun s=>((f_record_Put_1 (32:Int) a1.Serial a s).bind fun t=>((f_record_Put_1 (32:Int) a1.Code a t).bind fun c=>(((if(decide ((andI .i64 a (64:Int))≠(0:Int)))=true then((f_wire_Flag c a1.Flag).bind fun d=>(some d))else(some c)):Option (List Int)).bind fun u=>((f_record_Put_2 (128:Int) a1.Name a u).bind fun e=>((f_record_Put_2 (256:Int) a1.Key a e).bind fun f=>((f_record_Put_2 (512:Int) a1.Value a f).bind fun g=>((f_record_Put_2 (1024:Int) a1.Rack a g).bind fun i=>((f_record_Put_3 (2048:Int) a1.Ids a i).bind fun j=>((f_record_Put_3 (4096:Int) a1.Isr a j).bind fun k=>((f_record_Put_3 (8192:Int) a1.Add a k).bind fun l=>((f_record_Put_3 (8192:Int) a1.Drop a l).bind fun m=>(some (m,GErr.nil)))))))))))))))))))))))
def f_record_Put_post (a0:(List Int)) (a1:T_api_Record) (m c d e f:Value):((List Int)×GErr)→Value→IM→HL→Prop:=
 fun(g:((List Int)×GErr)) (v:Value) (i:IM) (j:HL)=>match g with |(k,l)=>∃ a b,(.tuple #[a,(GV l)])=v∧j=[b]∧OwnS (Kd.int .u8) i a k b
theorem f_record_Put_ok (a0:(List Int)) (a1:T_api_Record) (M:IM) (v0 f g i j:Value) (c0:Chunk) (h0:OwnS (Kd.int .u8) M v0 a0 c0) (l:RS (Kd.int .i64) M f a1.Ids) (m:RS (Kd.int .i64) M g a1.Isr) (n:RS (Kd.int .i64) M i a1.Add) (o:RS (Kd.int .i64) M j a1.Drop) (c4:((List Int)×GErr)) (h:f_record_Put a0 a1=some c4):
 Tri prog 20 #[v0,(a36_ a1 f g i j)] M [c0] (f_record_Put_post a0 a1 v0 f g i j c4):=by
 unfold f_record_Put at h
 refine Te func20 Z Z ?_
 intro F ρ j1
 refine Sr (We (box (cs:=#[v0]) ((congrArg Value.cells (asE v0 (j1 0))).trans h0.cells)) Z ?_)
 rintro _ _ _ - ⟨rfl,a,rfl,rfl⟩
 refine We (box (cs:=(l36 a1 f g i j).toArray) (congrArg Value.cells (asE (a36_ a1 f g i j) (j1 1)))) Z ?_
 rintro _ _ _ - ⟨rfl,e,rfl,rfl⟩
 refine qa Zs (qa (GV GErr.nil) (Nt (Cs (Sr (qu (a36_ a1 f g i j) (La (cs:=(l36 a1 f g i j)) 0 ag36 sz36 Z Z Z) ?_)))))
 obtain ⟨u,c5,h⟩:=bnd h
 refine We (Ca co29 (f_record_Check_ok a1 _ _ _ _ _ l m n o u c5) (args1 Z)) Z ?_
 rintro _ l9 _ q ⟨_,⟨rfl,rfl⟩,rfl⟩
 refine WL.a0 (qa (GV u) (Ns (qm (GV u) (qu (Bv (!u.isNil)) (errNotNil underlying40 Z) (Nt (Ch h Z (fun c6 h=> ?_) (fun c6 h=> ?_)))))))
 refine Sr (qm (GV u) (qa Zs (qa (GV u) (Nt (Cr (Tr (WQ.e0 (Qa (Dr (Qa (Dr ?_)))))))))))
 exact Qa (Dr (Rf h [[]] Z (results2 Z Z Z) q ⟨Zs,[],Z,Z,(OwnS.nil _ _)⟩))
 refine Ck (Tc (Sr (qu (pt e 0) (Fa fo36_0 Z Z) (qu (Iv a1.Kind) (Lb 0 pl3 Z Z Z) ?_))))
 obtain ⟨d,c7,h⟩:=bnd h
 refine We (Ca co33 (f_record_about_ok a1.Kind _ d c7) (args1 Z)) Z ?_
 rintro _ g9 _ v ⟨_,⟨rfl,rfl⟩,rfl⟩
 refine WL.a0 (We (Al ze3 Z) Z ?_)
 rintro _ _ _ - ⟨rfl,b,rfl,rfl⟩
 refine We (Es (Iv d) [(Iv d)] Z sz3 Z Z Z Z Z Z) Z ?_
 rintro _ _ _ - ⟨rfl,rfl⟩
 refine Ns (qu v0 (Lb 2 pl38 Z Z Z) (qu (pt e 0) (Fa fo36_0 Z Z) (qu (Iv a1.Kind) (Lb 1 pl3 Z Z Z) (qu (Yv (u8.wrap a1.Kind)) (conv us3 underlying5 Z) (We (buildSliceL (cl:=[(Yv (u8.wrap a1.Kind))]) underlying38 iz5 Z (Pc (Yv (u8.wrap a1.Kind)) Z Z Pz) Z) Z ?_)))))
 rintro _ _ _ - ⟨rfl,c8,rfl,rfl⟩
 have h1:OwnS (Kd.int .u8) g9 (.slice (some ⟨c8,0,none⟩) 1 1) [u8.wrap a1.Kind] [(c8, .cells #[(Yv (u8.wrap a1.Kind))] 5 (0,0))]:=OwnS.rows (css:=[[(Yv (u8.wrap a1.Kind))]]) (Rows.cons Z Rows.nil) Z Z
 obtain ⟨c9,h⟩:=grd_i h
 refine WL.f4 ?_
 have h0:=h0.mono (q.trans v)
 refine We (append (dd:=(Kd.int .u8)) (xs:=a0) (ys:=[u8.wrap a1.Kind]) underlying38 underlying38 in5 Z (appB (by decide) c9) (by decide) Z Z h0 (h1.src 1 Z)) Z ?_
 rintro d0 _ _ - ⟨rfl,m0,rfl,X⟩
 refine WL.f4 (We (Es d0 [d0] X.cells sz38 Z Z (Ow X) Z Z Z) Z ?_)
 rintro _ _ _ - ⟨rfl,rfl⟩
 refine Ns (qu (.func (.func 34) #[] #[(pt b 0),(pt a 0)]) (makeFunc2 (args0) (args2 (show ev _ _=(pt b 0) from Z) (show ev _ _=(pt a 0) from Z))) (qa (.func (.func 34) #[] #[(pt b 0),(pt a 0)]) (Ns (qm (.func (.func 34) #[] #[(pt b 0),(pt a 0)]) (qu (pt e 1) (Fa fo36_1 Z Z) (qu (Iv a1.Broker) (Lb 4 pl3 Z Z Z) ?_))))))
 obtain ⟨d1,d2,h⟩:=bnd h
 refine WL.f1 (WL.f1 (WL.f3 (We (callV3 (first:=#[]) (cap:=#[(pt b 0),(pt a 0)]) co34 Z (f_record_Put_1_ok (1:Int) a1.Broker d (a0++[u8.wrap a1.Kind]) _ _ _ _ _ X d1 d2) (argsV2 Z Z Z)) Z ?_)))
 rintro _ m1 _ Y ⟨_,⟨m2,m3,rfl,rfl,h2⟩,rfl⟩
 have h3:=(q.trans v).trans Y
 refine WL.a3 (Ns (qm (.func (.func 34) #[] #[(pt b 0),(pt a 0)]) (qu (pt e 2) (Fa fo36_2 Z Z) (qu (Iv a1.Epoch) (Lb 4 pl3 Z Z Z) ?_))))
 obtain ⟨d3,d4,h⟩:=bnd h
 refine Wb (Wb (Wb (We (callV3 (first:=#[]) (cap:=#[(pt b 0),(pt a 0)]) co34 Z (f_record_Put_1_ok (2:Int) a1.Epoch d d1 _ _ _ _ _ h2 d3 d4) (argsV2 Z Z Z)) Z ?_)))
 rintro _ m4 _ a2 ⟨_,⟨m5,m6,rfl,rfl,h4⟩,rfl⟩
 have h5:=h3.trans a2
 refine WL.a3 (Ns (qm (.func (.func 34) #[] #[(pt b 0),(pt a 0)]) (qu (pt e 3) (Fa fo36_3 Z Z) (qu (Iv a1.Topic) (Lb 4 pl3 Z Z Z) ?_))))
 obtain ⟨d5,d6,h⟩:=bnd h
 refine Wb (Wb (Wb (We (callV3 (first:=#[]) (cap:=#[(pt b 0),(pt a 0)]) co34 Z (f_record_Put_1_ok (4:Int) a1.Topic d d3 _ _ _ _ _ h4 d5 d6) (argsV2 Z Z Z)) Z ?_)))
 rintro _ m7 _ a4 ⟨_,⟨m8,m9,rfl,rfl,h6⟩,rfl⟩
 have h7:=h5.trans a4
 refine WL.a3 (Ns (qm (.func (.func 34) #[] #[(pt b 0),(pt a 0)]) (qu (pt e 4) (Fa fo36_4 Z Z) (qu (Iv a1.Part) (Lb 4 pl3 Z Z Z) ?_))))
 obtain ⟨d7,d8,h⟩:=bnd h
 refine Wb (Wb (Wb (We (callV3 (first:=#[]) (cap:=#[(pt b 0),(pt a 0)]) co34 Z (f_record_Put_1_ok (8:Int) a1.Part d d5 _ _ _ _ _ h6 d7 d8) (argsV2 Z Z Z)) Z ?_)))
 rintro _ n0 _ a5 ⟨_,⟨n1,n2,rfl,rfl,h8⟩,rfl⟩
 have h9:=h7.trans a5
 refine WL.a3 (Ns (qm (.func (.func 34) #[] #[(pt b 0),(pt a 0)]) (qu (pt e 5) (Fa fo36_5 Z Z) (qu (Iv a1.Leader) (Lb 4 pl3 Z Z Z) ?_))))
 obtain ⟨d9,e1,h⟩:=bnd h
 refine Wb (Wb (Wb (We (callV3 (first:=#[]) (cap:=#[(pt b 0),(pt a 0)]) co34 Z (f_record_Put_1_ok (16:Int) a1.Leader d d7 _ _ _ _ _ h8 d9 e1) (argsV2 Z Z Z)) Z ?_)))
 rintro _ n3 _ a6 ⟨_,⟨n4,n5,rfl,rfl,i0⟩,rfl⟩
 have i1:=h9.trans a6
 refine WL.a3 (Ns (qm (.func (.func 34) #[] #[(pt b 0),(pt a 0)]) (qu (pt e 6) (Fa fo36_6 Z Z) (qu (Iv a1.Client) (Lb 4 pl3 Z Z Z) ?_))))
 obtain ⟨e2,e3,h⟩:=bnd h
 refine Wb (Wb (Wb (We (callV3 (first:=#[]) (cap:=#[(pt b 0),(pt a 0)]) co34 Z (f_record_Put_1_ok (32:Int) a1.Client d d9 _ _ _ _ _ i0 e2 e3) (argsV2 Z Z Z)) Z ?_)))
 rintro _ n6 _ a7 ⟨_,⟨n7,n8,rfl,rfl,i2⟩,rfl⟩
 have i3:=i1.trans a7
 refine WL.a3 (Ns (qm (.func (.func 34) #[] #[(pt b 0),(pt a 0)]) (qu (pt e 7) (Fa fo36_7 Z Z) (qu (Iv a1.Serial) (Lb 4 pl3 Z Z Z) ?_))))
 obtain ⟨e4,e5,h⟩:=bnd h
 refine Wb (Wb (Wb (We (callV3 (first:=#[]) (cap:=#[(pt b 0),(pt a 0)]) co34 Z (f_record_Put_1_ok (32:Int) a1.Serial d e2 _ _ _ _ _ i2 e4 e5) (argsV2 Z Z Z)) Z ?_)))
 rintro _ n9 _ a8 ⟨_,⟨o0,o1,rfl,rfl,i4⟩,rfl⟩
 have i5:=i3.trans a8
 refine WL.a3 (Ns (qm (.func (.func 34) #[] #[(pt b 0),(pt a 0)]) (qu (pt e 8) (Fa fo36_8 Z Z) (qu (Iv a1.Code) (Lb 4 pl3 Z Z Z) ?_))))
 obtain ⟨e6,e7,h⟩:=bnd h
 refine Wb (Wb (Wb (We (callV3 (first:=#[]) (cap:=#[(pt b 0),(pt a 0)]) co34 Z (f_record_Put_1_ok (32:Int) a1.Code d e4 _ _ _ _ _ i4 e6 e7) (argsV2 Z Z Z)) Z ?_)))
 rintro _ i6 _ a9 ⟨_,⟨e8,i7,rfl,rfl,e9⟩,rfl⟩
 have i8:=i5.trans a9
 refine WL.a3 (Nt ?_)
 obtain ⟨A,b0,h⟩:=bnd h
 refine Jf (fun(A:(List Int)) i9 M' H'=>∃ w x,i6.le M'∧[(b, .cells #[(Iv d)] 3 (0,0))]::[(a, .cells #[w] 38 (0,0))]::[(e, .cells (l36 a1 f g i j).toArray 36 (0,0))]::x::F=H'∧i9 2=(pt a 0)∧i9 3=(pt e 0)∧i9 7=(pt b 0)∧OwnS (Kd.int .u8) M' w A x) A ?_ ?_
 have h:=b0
 refine Sr (qu (Iv d) (Lb 0 pl3 Z Z Z) (qu (Iv (andI .i64 d (64:Int))) (PO.and Z Z) (qu (Bv (decide ((andI .i64 d (64:Int))≠0))) (neq Z Z) (Nt (Ch h Z (fun b1 h=> ?_) (fun b1 h=> ?_))))))
 refine Cg (qu e8 (Lb 1 pl38 Z Z Z) (qu (pt e 9) (Fa fo36_9 Z Z) (qu (Bv a1.Flag) (Lb 4 pl4 Z Z Z) ?_)))
 obtain ⟨f0,b2,h⟩:=bnd h
 refine Wb (We (Cb co35 (f_wire_Flag_ok e6 a1.Flag _ _ _ e9 f0 b2) (args2 Z Z)) Z ?_)
 rintro _ j3 _ B ⟨_,⟨r,b3,rfl,rfl,s⟩,rfl⟩
 refine WL.a1 (Wb (We (Es r [r] s.cells sz38 Z Z (Ow s) Z Z Z) Z ?_))
 rintro _ _ _ - ⟨rfl,rfl⟩
 refine Wz (WQ.f3 (Dr (Qa (WQ.f3 (Qb (WQ.f3 ?_))))))
 obtain rfl:=oi h
 exact Tj ⟨r,b3,B,Z,Z,Z,Z,s⟩
 refine Ck (WQ.f3 (Dr (Qb (WQ.f3 (WQ.f3 (WQ.f3 ?_))))))
 obtain rfl:=oi h
 exact Tj ⟨e8,i7,lr,Z,Z,Z,Z,e9⟩
 rintro j4 j5 j6 ⟨w,x,C,rfl,k,c,p,f2⟩
 have f5:=i8.trans C
 refine Sr (qu (.func (.func 36) #[] #[(pt b 0),(pt a 0)]) (makeFunc2 (args0) (args2 (asE (Value.pointer (some ⟨b,0,none⟩)) p) (asE (Value.pointer (some ⟨a,0,none⟩)) k))) (qa (.func (.func 36) #[] #[(pt b 0),(pt a 0)]) (Ns (qm (.func (.func 36) #[] #[(pt b 0),(pt a 0)]) (qu (pt e 10) (Fa fo36_10 c Z) (qu (Sv a1.Name) (Lb 2 pl9 Z Z Z) ?_))))))
 obtain ⟨N,b4,h⟩:=bnd h
 refine WL.f3 (Wb (Wb (We (callV3 (first:=#[]) (cap:=#[(pt b 0),(pt a 0)]) co36 Z (f_record_Put_2_ok (128:Int) a1.Name d A _ _ _ _ _ f2 N b4) (argsV2 Z Z Z)) Z ?_)))
 rintro _ j7 _ D ⟨_,⟨j8,j9,rfl,rfl,f6⟩,rfl⟩
 have f7:=f5.trans D
 refine WL.a3 (Ns (qm (.func (.func 36) #[] #[(pt b 0),(pt a 0)]) (qu (pt e 11) (Fa fo36_11 c Z) (qu (Sv a1.Key) (Lb 3 pl9 Z Z Z) ?_))))
 obtain ⟨O,b5,h⟩:=bnd h
 refine Wb (Wb (Wb (We (callV3 (first:=#[]) (cap:=#[(pt b 0),(pt a 0)]) co36 Z (f_record_Put_2_ok (256:Int) a1.Key d N _ _ _ _ _ f6 O b5) (argsV2 Z Z Z)) Z ?_)))
 rintro _ k0 _ E ⟨_,⟨k1,k2,rfl,rfl,f8⟩,rfl⟩
 have f9:=f7.trans E
 refine WL.a3 (Ns (qm (.func (.func 36) #[] #[(pt b 0),(pt a 0)]) (qu (pt e 12) (Fa fo36_12 c Z) (qu (Sv a1.Value) (Lb 3 pl9 Z Z Z) ?_))))
 obtain ⟨P,b6,h⟩:=bnd h
 refine Wb (Wb (Wb (We (callV3 (first:=#[]) (cap:=#[(pt b 0),(pt a 0)]) co36 Z (f_record_Put_2_ok (512:Int) a1.Value d O _ _ _ _ _ f8 P b6) (argsV2 Z Z Z)) Z ?_)))
 rintro _ k3 _ G ⟨_,⟨k4,k5,rfl,rfl,g0⟩,rfl⟩
 have g1:=f9.trans G
 refine WL.a3 (Ns (qm (.func (.func 36) #[] #[(pt b 0),(pt a 0)]) (qu (pt e 13) (Fa fo36_13 c Z) (qu (Sv a1.Rack) (Lb 3 pl9 Z Z Z) ?_))))
 obtain ⟨Q,b7,h⟩:=bnd h
 refine Wb (Wb (Wb (We (callV3 (first:=#[]) (cap:=#[(pt b 0),(pt a 0)]) co36 Z (f_record_Put_2_ok (1024:Int) a1.Rack d P _ _ _ _ _ g0 Q b7) (argsV2 Z Z Z)) Z ?_)))
 rintro _ k6 _ I ⟨_,⟨k7,k8,rfl,rfl,g2⟩,rfl⟩
 have R:=g1.trans I
 refine WL.a3 (Ns (qu (.func (.func 38) #[] #[(pt b 0),(pt a 0)]) (makeFunc2 (args0) (args2 (asE (Value.pointer (some ⟨b,0,none⟩)) p) (asE (Value.pointer (some ⟨a,0,none⟩)) k))) (qa (.func (.func 38) #[] #[(pt b 0),(pt a 0)]) (Ns (qm (.func (.func 38) #[] #[(pt b 0),(pt a 0)]) (qu (pt e 14) (Fa fo36_14 c Z) (qu f (Lb 3 pl34 Z Z Z) ?_)))))))
 obtain ⟨S,b8,h⟩:=bnd h
 refine Wb (Wb (Wb ?_))
 have l:=l.mono R
 refine We (callV3 (first:=#[]) (cap:=#[(pt b 0),(pt a 0)]) co38 Z (f_record_Put_3_ok (2048:Int) a1.Ids d Q _ _ _ _ _ _ l g2 S b8) (argsV2 Z Z Z)) Z ?_
 rintro _ k9 _ J ⟨_,⟨l0,l1,rfl,rfl,g3⟩,rfl⟩
 have T:=R.trans J
 refine WL.a3 (Ns (qm (.func (.func 38) #[] #[(pt b 0),(pt a 0)]) (qu (pt e 15) (Fa fo36_15 c Z) (qu g (Lb 3 pl34 Z Z Z) ?_))))
 obtain ⟨U,b9,h⟩:=bnd h
 refine Wb (Wb (Wb ?_))
 have m:=m.mono T
 refine We (callV3 (first:=#[]) (cap:=#[(pt b 0),(pt a 0)]) co38 Z (f_record_Put_3_ok (4096:Int) a1.Isr d S _ _ _ _ _ _ m g3 U b9) (argsV2 Z Z Z)) Z ?_
 rintro _ l2 _ K ⟨_,⟨l3,l4,rfl,rfl,g4⟩,rfl⟩
 have y:=T.trans K
 refine WL.a3 (Ns (qm (.func (.func 38) #[] #[(pt b 0),(pt a 0)]) (qu (pt e 16) (Fa fo36_16 c Z) (qu i (Lb 3 pl34 Z Z Z) ?_))))
 obtain ⟨V,c1,h⟩:=bnd h
 refine Wb (Wb (Wb ?_))
 have n:=n.mono y
 refine We (callV3 (first:=#[]) (cap:=#[(pt b 0),(pt a 0)]) co38 Z (f_record_Put_3_ok (8192:Int) a1.Add d U _ _ _ _ _ _ n g4 V c1) (argsV2 Z Z Z)) Z ?_
 rintro _ l5 _ t ⟨_,⟨l6,l7,rfl,rfl,g5⟩,rfl⟩
 refine WL.a3 (Ns (qm (.func (.func 38) #[] #[(pt b 0),(pt a 0)]) (qu (pt e 17) (Fa fo36_17 c Z) (qu j (Lb 3 pl34 Z Z Z) ?_))))
 obtain ⟨g6,c2,h⟩:=bnd h
 refine Wb (Wb (Wb ?_))
 have o:=o.mono (y.trans t)
 refine We (callV3 (first:=#[]) (cap:=#[(pt b 0),(pt a 0)]) co38 Z (f_record_Put_3_ok (8192:Int) a1.Drop d V _ _ _ _ _ _ o g5 g6 c2) (argsV2 Z Z Z)) Z ?_
 rintro _ l8 _ L ⟨_,⟨z,W,rfl,rfl,g7⟩,rfl⟩
 exact WL.a3 (Ns (qu z (Lb 1 pl38 k Z Z) (qa z (qa (GV GErr.nil) (Nt (Cr (Dr (Dr (Qa (Dr (Rf h [W] Z (results2 Z Z Z) ((y.trans t).trans L) ⟨z,W,Z,Z,g7⟩)))))))))))
noncomputable def f_batch_Put_l0 (a0:T_api_Batch) (f:((List Int)×Int)):Option (((List Int)×Int)⊕((List Int)⊕((List Int)×GErr))):=
 match f with
 |(b,a)=>
 (if(decide (a<(a0.Records.length:Int)))=true then(grd (0≤a∧a<a0.Records.length) ((f_record_Put b (rd a0.Records a)).bind fun(d,c)=>(if(!c.isNil)=true then((f_fault_Wrap (⟨#[114,101,99,111,114,100]⟩:ByteArray) a c).bind fun e=>(some (inr (inr ([],e)))))else(some (inl (d,i64.wrap (a+(1:Int))))))))else(some (inr (inl b))))
noncomputable def f_batch_Put (a0:T_api_Batch):Option ((List Int)×GErr):=
 ((f_batch_Check a0).bind fun b=>(if(!b.isNil)=true then(some ([],b))else((f_wire_Int [] a0.Term).bind fun c=>((f_wire_Int c a0.Base).bind fun d=>((f_wire_Int d (a0.Records.length:Int)).bind fun e=>((((iter (f_batch_Put_l0 a0) (e,(0:Int))).bind (Sum.elim (fun(f:(List Int))=>(some (inl f))) (fun(g,i)=>(((some (g,i))).bind fun r=>some (inr r))))):Option ((List Int)⊕((List Int)×GErr))).bind (Sum.elim (fun(a:(List Int))=>(if(decide ((16384:Int)<(a.length:Int)))=true then((f_fault_New (⟨#[98,97,116,99,104]⟩:ByteArray) (a.length:Int) (6:Int)).bind fun j=>(some ([],j)))else(some (a,GErr.nil)))) some)))))))
def f_batch_Put_post (a0:T_api_Batch) (c:Value):((List Int)×GErr)→Value→IM→HL→Prop:=
 fun(d:((List Int)×GErr)) (v:Value) (e:IM) (f:HL)=>match d with |(g,i)=>∃ a b,(.tuple #[a,(GV i)])=v∧f=[b]∧OwnS (Kd.int .u8) e a g b
theorem f_batch_Put_ok (a0:T_api_Batch) (M:IM) (f:Value) (a:RS kd_api_Record M f a0.Records) (a3:((List Int)×GErr)) (h:f_batch_Put a0=some a3):
 Tri prog 11 #[(a31_ a0 f)] M [] (f_batch_Put_post a0 f a3):=by
 unfold f_batch_Put at h
 refine Te func11 Z Z ?_
 intro F ρ d9
 refine Sr (We (box (cs:=(l31 a0 f).toArray) (congrArg Value.cells (asE (a31_ a0 f) (d9 0)))) Z ?_)
 rintro _ _ _ - ⟨rfl,D,rfl,rfl⟩
 refine qa Zs (qa (GV GErr.nil) (Nt (Cs (Sr (qu (a31_ a0 f) (La (cs:=(l31 a0 f)) 0 ag31 sz31 Z Z Z) ?_)))))
 obtain ⟨E,a4,h⟩:=bnd h
 refine We (Ca co15 (f_batch_Check_ok a0 _ _ a E a4) (args1 Z)) Z ?_
 rintro _ e1 _ y ⟨_,⟨rfl,rfl⟩,rfl⟩
 refine WL.a0 (qa (GV E) (Ns (qm (GV E) (qu (Bv (!E.isNil)) (errNotNil underlying40 Z) (Nt (Ch h Z (fun a5 h=> ?_) (fun a5 h=> ?_)))))))
 exact Sr (qm (GV E) (qa Zs (qa (GV E) (Nt (Cr (Tr (WQ.e0 (Qa (Dr (Rf h [[]] Z (results2 Z Z Z) y ⟨Zs,[],Z,Z,(OwnS.nil _ _)⟩))))))))))
 refine Ck (Tc (Cs (WC.draw [0,1,3,0,8,31,0,64,192,511,1023] (.pure 0 (.pure 1 (.pure 3 (.pure 4 (.pure 6 (.pure 7 (.pure 8 (.alt 2 (.alt 5 (.alt 9 (.pure 10 .done) .none) .none) .none)))))))) mixed (by kernel_rfl) (qt (pt D 0) Z (Fa fo31_0 Z Z) (qt (Iv a0.Term) Z (Lb 0 pl3 Z Z Z) (qt (pt D 1) Z (Fa fo31_1 Z Z) (qt (Iv a0.Base) Z (Lb 0 pl3 Z Z Z) (qt (pt D 2) Z (Fa fo31_2 Z Z) (qt f Z (Lb 0 pl23 Z Z Z) ?_)))))))))
 have a:=a.mono y
 refine qt (Iv (a0.Records.length:Int)) Z (lenS underlying23 Z a.len) ?_
 obtain ⟨a6,a7,h⟩:=bnd h
 refine WT.e0 (Ta Z (Cb co19 (f_wire_Int_ok [] a0.Term _ _ _ (OwnS.nil _ _) a6 a7) (args2 Z Z)) Z ?_ ?_)
 rintro _ e2 _ I ⟨_,⟨d4,d5,rfl,rfl,a8⟩,rfl⟩
 have a:=a.mono I
 refine⟨(Ss Z (lenS underlying23 Z a.len) Z (Ss Z (Lb 1 pl23 Z Z Z) Z (Ss Z (Fa fo31_2 Z Z) Z (Ss Z (Lb 1 pl3 Z Z Z) Z (Ss Z (Fa fo31_1 Z Z) Z (Sl Z)))))), ?_⟩
 refine WT.a1 ?_
 obtain ⟨a9,b0,h⟩:=bnd h
 refine Ta Z (Cb co19 (f_wire_Int_ok a6 a0.Base _ _ _ a8 a9 b0) (args2 Z Z)) Z ?_ ?_
 rintro _ e3 _ J ⟨_,⟨d6,d7,rfl,rfl,b1⟩,rfl⟩
 have a:=a.mono J
 refine⟨(Ss Z (lenS underlying23 Z a.len) Z (Ss Z (Lb 1 pl23 Z Z Z) Z (Ss Z (Fa fo31_2 Z Z) Z (Sl Z)))), ?_⟩
 refine WT.a1 ?_
 obtain ⟨d0,b2,h⟩:=bnd h
 refine Ta Z (Cb co19 (f_wire_Int_ok a9 (a0.Records.length:Int) _ _ _ b1 d0 b2) (args2 Z Z)) Z ?_ ?_
 rintro _ b3 _ K ⟨_,⟨Q,b4,rfl,rfl,b5⟩,rfl⟩
 have T:=((y.trans I).trans J).trans K
 refine⟨(Sl Z), ?_⟩
 refine WT.a1 (qt Q Z (Ag Z) (Ti (Tc ?_)))
 obtain ⟨d1,b6,h⟩:=bnd h
 refine WC.joinE (fun(G:(List Int)) a2 M' H'=>∃ j o,b3.le M'∧[(D, .cells (l31 a0 f).toArray 31 (0,0))]::o::F=H'∧a2 5=j∧OwnS (Kd.int .u8) M' j G o) d1 ?_ ?_
 have b8:=h
 have h:=b6
 refine Sr (qu (pt D 2) (Fa fo31_2 Z Z) (qu f (Lb 1 pl23 Z Z Z) ?_))
 have a:=a.mono K
 refine qu (Iv (a0.Records.length:Int)) (lenS underlying23 Z a.len) (qm (Iv 0) (Nt (Bk (WC.f1 ?_))))
 obtain ⟨e4,b9,R⟩:=bnd h
 clear h
 refine WC.loop b9 (fun(p_:((List Int)×Int)) a2 M' H'=>match p_ with |(P,g)=>∃ p A,b3.le M'∧[(D, .cells (l31 a0 f).toArray 31 (0,0))]::A::F=H'∧a2 5=p∧a2 26=f∧a2 27=(Iv (a0.Records.length:Int))∧a2 28=(Iv g)∧OwnS (Kd.int .u8) M' p P A) ?_ ?_
 exact⟨Q,b4,lr,Z,Z,Z,Z,Z,b5⟩
 rintro ⟨P,g⟩ e6 e7 e8 e9 h ⟨p,A,l,rfl,B,q,r,i,S⟩
 unfold f_batch_Put_l0 at h
 refine Sr (qu (Bv (decide (g<(a0.Records.length:Int)))) (lss i r) (Nt (Cs (Ch h Z (fun c0 h=> ?_) (fun c0 h=> ?_)))))
 refine Ck (Tc (Cs (Bk (Sr (qM (Iv g) i ?_)))))
 obtain ⟨C,h⟩:=grd_i h
 have a:=a.mono l
 obtain ⟨d3,d8,U,V,hhas59⟩:=a.at C.1 C.2 (by decide)
 obtain ⟨b,c,d,e,rfl,s,t,u,w⟩:=kd_api_Record_open V
 refine qu (.pointer (some d3)) (indexAddr (n:=a0.Records.length) underlying23 sz36 q i C.1 C.2 U) (qu (a36_ (rd a0.Records g) b c d e) (loadMA (cs:=(l36 (rd a0.Records g) b c d e)) ag36 sz36 Z hhas59) (We (Al ze36 Z) Z ?_))
 rintro _ _ _ - ⟨rfl,f0,rfl,rfl⟩
 refine qa (Iv g) (We (Sg (v:=(a36_ (rd a0.Records g) b c d e)) (vl:=(l36 (rd a0.Records g) b c d e)) (arr':=(l36 (rd a0.Records g) b c d e)) Z sz36 Z Z (onesOf (Oc Z (Oc Z (Oc Z (Oc Z (Oc Z (Oc Z (Oc Z (Oc Z (Oc Z (Oc Z (Oc Z (Oc Z (Oc Z (Oc Z (Oc (RS.one s) (Oc (RS.one t) (Oc (RS.one u) (Oc (RS.one w) Oz))))))))))))))))))) Z Z (by kernel_rfl)) Z ?_)
 rintro _ _ _ - ⟨rfl,rfl⟩
 refine Ns (qM p B (qu (a36_ (rd a0.Records g) b c d e) (La (cs:=(l36 (rd a0.Records g) b c d e)) 0 ag36 sz36 Z Z Z) ?_))
 obtain ⟨⟨c1,x⟩,c2,h⟩:=bnd h
 refine Wb (We (Cb co20 (f_record_Put_ok P (rd a0.Records g) _ _ _ _ _ _ _ S s t u w (c1,x) c2) (args2 Z Z)) Z ?_)
 rintro _ f2 _ L ⟨_,⟨k,c3,rfl,rfl,c4⟩,rfl⟩
 refine WL.a1 (qm (.tuple #[k,(GV x)]) (qu k (Xt Z Z) (qu (GV x) (Xt Z Z) (qa k (qa (GV x) (Nt (Cs (Sr (qm (GV x) (qu (Bv (!x.isNil)) (errNotNil underlying40 Z) (Nt ?_)))))))))))
 refine Ch h Z (fun c5 h=> ?_) (fun c5 h=> ?_)
 refine Sr (qm (Iv g) (qm (GV x) ?_))
 obtain ⟨W,c6,h⟩:=bnd h
 refine We (Ca co21 (f_fault_Wrap_ok ⟨#[114,101,99,111,114,100]⟩ g x _ W c6) (args3 Z Z Z)) Z ?_
 rintro _ f3 _ X ⟨_,⟨rfl,rfl⟩,rfl⟩
 refine WL.a0 (qa Zs (qa (GV W) (Nt (Cr (Tr (Br (Tr (WQ.leaveR (inr ([],W)) (oi h).symm (fun z=> ?_)))))))))
 subst z
 have h:=(elimR R)
 refine Br (Tr ?_)
 have h:=KK.early h b8
 exact WQ.e0 (Qa (Dr (Qa (Dr (Qa (Dr (Rf h [[]] Z (results2 Z Z Z) (((T.trans l).trans L).trans X) ⟨Zs,[],Z,Z,(OwnS.nil _ _)⟩)))))))
 refine Ck (Tc (Cg (qm k (qa k (Wz (Bn (Tc (Cg (qu (Iv (i64.wrap (g+1))) (add i Z) (qm (Iv (i64.wrap (g+1))) (Wz ?_)))))))))))
 exact Qa (Dr (Qa (WQ.again (c1,i64.wrap (g+1)) (oi h).symm ⟨k,c3,(l.trans L),Z,Z,q,r,Z,c4⟩)))
 refine WC.exit (WQ.thenE (WQ.leaveE (inl P) (oi h).symm (fun z=> ?_)))
 subst z
 have h:=elimL R
 exact WQ.blockH (WQ.thenFE h ⟨p,A,l,Z,B,S⟩)
 rintro G f4 f5 f6 rfl ⟨j,o,N,rfl,m,O⟩
 have h:=(Sum.elim_inl _ _ _).symm.trans h
 refine Cs (Sr (qM j m (qu (Iv (G.length:Int)) (lenS underlying38 Z O.len) (qu (Bv (decide ((16384:Int)<(G.length:Int)))) (gtr Z Z) (Nt (Ch h Z (fun c7 h=> ?_) (fun c7 h=> ?_)))))))
 refine Sr (qM j m (qu (Iv (G.length:Int)) (lenS underlying38 Z O.len) ?_))
 obtain ⟨c8,c9,h⟩:=bnd h
 refine We (Ca co22 (f_fault_New_ok ⟨#[98,97,116,99,104]⟩ (G.length:Int) (6:Int) _ c8 c9) (args3 Z Z Z)) Z ?_
 rintro _ f7 _ Y ⟨_,⟨rfl,rfl⟩,rfl⟩
 exact WL.a0 (qa Zs (qa (GV c8) (Nt (Cr (Tr (WQ.e0 (Qa (Dr (Qa (Dr (Rf h [[]] Z (results2 Z Z Z) ((T.trans N).trans Y) ⟨Zs,[],Z,Z,(OwnS.nil _ _)⟩)))))))))))
 exact Ck (Tc (Sr (qM j m (qa j (qa (GV GErr.nil) (Nt (Cr (Dr (Rf h [o] Z (results2 Z Z Z) (T.trans N) ⟨j,o,Z,Z,O⟩)))))))))
 exact Tz
 exact Tz
 exact Tz
noncomputable def f_wire_Read (a0:(List Int)):Option T_wire_Reader:=
 (some (⟨a0,(0:Int),GErr.nil⟩:T_wire_Reader))
def f_wire_Read_post (a0:(List Int)) (g:Value):T_wire_Reader→Value→IM→HL→Prop:=
 fun(c:T_wire_Reader) (v:Value) (e:IM) (f:HL)=>∃ d a,(.pointer (some ⟨d,0,none⟩))=v∧f=[[(d, .cells #[a,(.int .i64 c.at_),(GV c.err)] 76 (0,0))]]∧RS (Kd.int .u8) e a c.b
theorem f_wire_Read_ok (a0:(List Int)) (M:IM) (a:Value) (d:RS (Kd.int .u8) M a a0) (c:T_wire_Reader) (h:f_wire_Read a0=some c):
 Tri prog 23 #[a] M [] (f_wire_Read_post a0 a c):=by
 unfold f_wire_Read at h
 refine Te func23 Z Z ?_
 intro F f e
 refine Sr (qa (.pointer none) (Ns (qM a (e 0) (qu (.agg #[a,(Iv 0),(GV GErr.nil)]) (Bl (cl:=[a,(Iv 0),(GV GErr.nil)]) ze76 fp76 (Parts.cons ((congrArg Value.cells (show ev _ _=a from Z)).trans d.cells) Pz) Z) (We (box (cs:=#[a,(Iv 0),(GV GErr.nil)]) (congrArg Value.cells (show ev _ _=(.agg #[a,(Iv 0),(GV GErr.nil)]) from Z))) Z ?_)))))
 rintro _ _ _ - ⟨rfl,b,rfl,rfl⟩
 exact qa (pt b 0) (Nt (Cr (Rf h [[(b, .cells #[a,(Iv 0),(GV GErr.nil)] 76 (0,0))]] Z (Rs Z Z) lr ⟨b,a,Z,Z,d⟩)))
noncomputable def f_wire_Reader_At (a0:T_wire_Reader):Option Int:=
 (some a0.at_)
def f_wire_Reader_At_post (a0:T_wire_Reader) (a:Value) (b:Nat):Int→Value→IM→HL→Prop:=
 fun(c:Int) (v:Value) (e:IM) (d:HL)=>(.int .i64 c)=v∧d=[[(b, .cells #[a,(.int .i64 a0.at_),(GV a0.err)] 76 (0,0))]]
theorem f_wire_Reader_At_ok (a0:T_wire_Reader) (M:IM) (a:Value) (c:Nat) (e:RS (Kd.int .u8) M a a0.b) (d:Int) (h:f_wire_Reader_At a0=some d):
 Tri prog 40 #[(pt c 0)] M [[(c, .cells #[a,(Iv a0.at_),(GV a0.err)] 76 (0,0))]] (f_wire_Reader_At_post a0 a c d):=by
 unfold f_wire_Reader_At at h
 refine Te func40 Z Z ?_
 intro F g f
 exact Sr (qa (Iv 0) (Ns (qM (pt c 0) (f 0) (qu (pt c 0) (Nk Z) (qu (pt c 1) (Fa fo76_1 Z Z) (qu (Iv a0.at_) (Lb 0 pl3 Z Z Z) (qa (Iv a0.at_) (Nt (Cr (Rf h [[(c, .cells #[a,(Iv a0.at_),(GV a0.err)] 76 (0,0))]] Z (Rs Z Z) lr ⟨Z,Z⟩))))))))))
noncomputable def f_wire_Reader_fail (a0:T_wire_Reader) (a1:ByteArray) (a2:Int) (a3:Int):Option GErr:=
 (if a0.err.isNil=true then((f_fault_New a1 a2 a3).bind fun a=>(some a))else(some a0.err))
def f_wire_Reader_fail_post (a0:T_wire_Reader) (a1:ByteArray) (a2:Int) (a3:Int) (a:Value) (b:Nat):GErr→Value→IM→HL→Prop:=
 fun(c:GErr) (v:Value) (e:IM) (d:HL)=>(.tuple #[])=v∧d=[[(b, .cells #[a,(.int .i64 a0.at_),(GV c)] 76 (0,0))]]
theorem f_wire_Reader_fail_ok (a0:T_wire_Reader) (a1:ByteArray) (a2:Int) (a3:Int) (M:IM) (a:Value) (c:Nat) (k:RS (Kd.int .u8) M a a0.b) (f:GErr) (h:f_wire_Reader_fail a0 a1 a2 a3=some f):
 Tri prog 45 #[(pt c 0),(Sv a1),(Iv a2),(Iv a3)] M [[(c, .cells #[a,(Iv a0.at_),(GV a0.err)] 76 (0,0))]] (f_wire_Reader_fail_post a0 a1 a2 a3 a c f):=by
 unfold f_wire_Reader_fail at h
 refine Te func45 Z Z ?_
 intro F m g
 refine Sr (qM (pt c 0) (g 0) (qu (pt c 0) (Nk Z) (qu (pt c 2) (Fa fo76_2 Z Z) (qu (GV a0.err) (Lb 0 pl40 Z Z Z) (qu (Bv a0.err.isNil) (errNil underlying40 Z) (Nt (Ch h Z (fun i h=> ?_) (fun i h=> ?_))))))))
 refine Cg (qM (pt c 0) (g 0) (qM (Sv a1) (g 1) (qM (Iv a2) (g 2) (qM (Iv a3) (g 3) ?_))))
 obtain ⟨d,j,h⟩:=bnd h
 refine We (Ca co22 (f_fault_New_ok a1 a2 a3 _ d j) (args3 Z Z Z)) Z ?_
 rintro _ l _ e ⟨_,⟨rfl,rfl⟩,rfl⟩
 refine WL.a0 (qu (pt c 0) (Nk Z) (qu (pt c 2) (Fa fo76_2 Z Z) (We (Es (GV d) [a,(Iv a0.at_),(GV d)] (GErr.val_cells _ _ _ _) sz40 Z Z (GErr.val_one _ _ _ _) Z Z Z) Z ?_)))
 rintro _ _ _ - ⟨rfl,rfl⟩
 exact Wz (WQ.endsF h [[(c, .cells #[a,(Iv a0.at_),(GV d)] 76 (0,0))]] Z (results0 Z) e ⟨Z,Z⟩)
 exact Ck (WQ.endsF h [[(c, .cells #[a,(Iv a0.at_),(GV a0.err)] 76 (0,0))]] Z (results0 Z) lr ⟨Z,Z⟩)
noncomputable def f_wire_Reader_Num_1 (a0:Int) (a1:(List Int)) (a2:Int):Option (Int×Int):=
 (grd (0≤a2∧a2<a1.length) (some (orI .u64 (shlI .u64 a0 (8:Int)) (u64.wrap (rd a1 a2)),i64.wrap (a2+(1:Int)))))
def f_wire_Reader_Num_1_post (a0:Int) (a1:(List Int)) (a2:Int) (a:Value) (b c d:Nat):(Int×Int)→Value→IM→HL→Prop:=
 fun(e:(Int×Int)) (v:Value) (j:IM) (f:HL)=>match e with |(g,i)=>(.tuple #[])=v∧f=[[(b, .cells #[(.int .u64 g)] 65 (0,0))],[(c, .cells #[a] 38 (0,0))],[(d, .cells #[(.int .i64 i)] 3 (0,0))]]
theorem f_wire_Reader_Num_1_ok (a0:Int) (a1:(List Int)) (a2:Int) (M:IM) (e:Value) (g i j:Nat) (m:RS (Kd.int .u8) M e a1) (f:(Int×Int)) (h:f_wire_Reader_Num_1 a0 a1 a2=some f):
 Tri prog 67 #[(pt g 0),(pt i 0),(pt j 0)] M [[(g, .cells #[(Uv a0)] 65 (0,0))],[(i, .cells #[e] 38 (0,0))],[(j, .cells #[(Iv a2)] 3 (0,0))]] (f_wire_Reader_Num_1_post a0 a1 a2 e g i j f):=by
 unfold f_wire_Reader_Num_1 at h
 refine Te func67 Z Z ?_
 intro F o d
 refine Cs (WC.draw [0,1,0,0,12,28,60,127,255] (.pure 0 (.pure 1 (.pure 2 (.pure 3 (.pure 4 (.pure 5 (.pure 6 (.pure 7 (.alt 8 .done .none))))))))) mixed (by kernel_rfl) (qt (Uv a0) Z (Lb 0 pl65 (d 0) Z Z) (qt (Uv (shlI .u64 a0 (8:Int))) Z (shl Z Z (by decide)) (qt e Z (Lb 1 pl38 (d 1) Z Z) (qt (Iv a2) Z (Lb 2 pl3 (d 2) Z Z) ?_)))))
 obtain ⟨a,h⟩:=grd_i h
 obtain ⟨k,l,b,c,hhas26⟩:=m.at a.1 a.2 (by decide)
 obtain rfl:=c
 refine qt (.pointer (some k)) Z (indexAddr (n:=a1.length) underlying38 sz5 Z Z a.1 a.2 b) (qt (Yv (rd a1 a2)) Z (loadM pl5 Z (IM.has0 hhas26)) (qt (Uv (u64.wrap (rd a1 a2))) Z (conv us5 underlying65 Z) (qt (Uv (orI .u64 (shlI .u64 a0 (8:Int)) (u64.wrap (rd a1 a2)))) Z (PO.or Z Z) (Ta Z (Es (Uv (orI .u64 (shlI .u64 a0 (8:Int)) (u64.wrap (rd a1 a2)))) [(Uv (orI .u64 (shlI .u64 a0 (8:Int)) (u64.wrap (rd a1 a2))))] Z sz65 (d 0) Z Z Z Z Z) Z ?_ ?_))))
 rintro _ _ _ - ⟨rfl,rfl⟩
 refine⟨(Sl Z), ?_⟩
 refine Ti (Tc (Cg (qu (Iv a2) (Lb 2 pl3 (d 2) Z Z) (qu (Iv (i64.wrap (a2+1))) (add Z Z) (Wb (We (Es (Iv (i64.wrap (a2+1))) [(Iv (i64.wrap (a2+1)))] Z sz3 (d 2) Z Z Z Z Z) Z ?_))))))
 rintro _ _ _ - ⟨rfl,rfl⟩
 exact Wz (Qb (Qb (WQ.endsF h [[(g, .cells #[(Uv (orI .u64 (shlI .u64 a0 (8:Int)) (u64.wrap (rd a1 a2))))] 65 (0,0))],[(i, .cells #[e] 38 (0,0))],[(j, .cells #[(Iv (i64.wrap (a2+1)))] 3 (0,0))]] Z (results0 Z) lr ⟨Z,Z⟩)))
 exact Tz
noncomputable def f_wire_Reader_Num (a0:T_wire_Reader) (a1:Int):Option (Int×Int×GErr):=
 (if(!a0.err.isNil)=true then(some ((0:Int),a0.at_,a0.err))else(grd (0≤a0.at_∧a0.at_≤(a0.b.length:Int)∧(a0.b.length:Int)≤(a0.b.length:Int)) (if(decide (((sub a0.b a0.at_ (a0.b.length:Int)).length:Int)=(0:Int)))=true then((f_wire_Reader_fail a0 (⟨#[110,117,109]⟩:ByteArray) a0.at_ (3:Int)).bind fun e=>(some ((0:Int),a0.at_,e)))else(grd (0≤(0:Int)∧(0:Int)<(sub a0.b a0.at_ (a0.b.length:Int)).length) (grd (0≤shrI .u8 (rd (sub a0.b a0.at_ (a0.b.length:Int)) (0:Int)) (6:Int)) (if(decide (((sub a0.b a0.at_ (a0.b.length:Int)).length:Int)<(shlI .i64 (1:Int) (shrI .u8 (rd (sub a0.b a0.at_ (a0.b.length:Int)) (0:Int)) (6:Int)))))=true then((f_wire_Reader_fail a0 (⟨#[110,117,109]⟩:ByteArray) a0.at_ (3:Int)).bind fun f=>(some ((0:Int),a0.at_,f)))else(grd (0≤(0:Int)∧(0:Int)<(sub a0.b a0.at_ (a0.b.length:Int)).length) (((((((if(decide ((shlI .i64 (1:Int) (shrI .u8 (rd (sub a0.b a0.at_ (a0.b.length:Int)) (0:Int)) (6:Int)))=(8:Int)))=true then((f_wire_Reader_Num_1 (u64.wrap (andI .u8 (rd (sub a0.b a0.at_ (a0.b.length:Int)) (0:Int)) (63:Int))) (sub a0.b a0.at_ (a0.b.length:Int)) (1:Int)).bind fun(g,i)=>((f_wire_Reader_Num_1 g (sub a0.b a0.at_ (a0.b.length:Int)) i).bind fun(j,k)=>((f_wire_Reader_Num_1 j (sub a0.b a0.at_ (a0.b.length:Int)) k).bind fun(l,m)=>((f_wire_Reader_Num_1 l (sub a0.b a0.at_ (a0.b.length:Int)) m).bind fun(n,o)=>(some (inl (u64.wrap ((0:Int)+(1073725440:Int)),o,n)))))))else(if(decide ((shlI .i64 (1:Int) (shrI .u8 (rd (sub a0.b a0.at_ (a0.b.length:Int)) (0:Int)) (6:Int)))=(4:Int)))=true then(some (inl ((0:Int),(1:Int),u64.wrap (andI .u8 (rd (sub a0.b a0.at_ (a0.b.length:Int)) (0:Int)) (63:Int)))))else(if(decide ((shlI .i64 (1:Int) (shrI .u8 (rd (sub a0.b a0.at_ (a0.b.length:Int)) (0:Int)) (6:Int)))=(2:Int)))=true then(((some (inl ((0:Int),(1:Int),u64.wrap (andI .u8 (rd (sub a0.b a0.at_ (a0.b.length:Int)) (0:Int)) (63:Int)))))).bind fun r=>some (inr r))else(((((some ((0:Int),(1:Int),u64.wrap (andI .u8 (rd (sub a0.b a0.at_ (a0.b.length:Int)) (0:Int)) (63:Int))))).bind fun r=>some (inr r))).bind fun r=>some (inr r))))):Option ((Int×Int×Int)⊕((Int×Int×Int)⊕(Int×Int×Int)))).bind (Sum.elim (fun(p,q,s)=>((f_wire_Reader_Num_1 s (sub a0.b a0.at_ (a0.b.length:Int)) q).bind fun(t,u)=>((f_wire_Reader_Num_1 t (sub a0.b a0.at_ (a0.b.length:Int)) u).bind fun(v,w)=>(some (inl (u64.wrap (p+(16320:Int)),w,v)))))) some)):Option ((Int×Int×Int)⊕(Int×Int×Int))).bind (Sum.elim (fun(x,y,z)=>((f_wire_Reader_Num_1 z (sub a0.b a0.at_ (a0.b.length:Int)) y).bind fun(A,B)=>(some (u64.wrap (x+(64:Int)),B,A)))) some)):Option (Int×Int×Int)).bind fun(C,D,a)=>(if(decide (a<C))=true then((f_wire_Reader_fail a0 (⟨#[110,117,109]⟩:ByteArray) a0.at_ (5:Int)).bind fun c=>(some ((0:Int),a0.at_,c)))else(if(decide (a1<a))=true then((f_wire_Reader_fail a0 (⟨#[110,117,109]⟩:ByteArray) a0.at_ (6:Int)).bind fun d=>(some ((0:Int),a0.at_,d)))else(some (a,i64.wrap (a0.at_+(shlI .i64 (1:Int) (shrI .u8 (rd (sub a0.b a0.at_ (a0.b.length:Int)) (0:Int)) (6:Int)))),a0.err))))))))))))
def f_wire_Reader_Num_post (a0:T_wire_Reader) (a1:Int) (a:Value) (b:Nat):(Int×Int×GErr)→Value→IM→HL→Prop:=
 fun(c:(Int×Int×GErr)) (v:Value) (i:IM) (d:HL)=>match c with |(e,f,g)=>(.int .u64 e)=v∧d=[[(b, .cells #[a,(.int .i64 f),(GV g)] 76 (0,0))]]
theorem f_wire_Reader_Num_ok (a0:T_wire_Reader) (a1:Int) (M:IM) (a:Value) (e:Nat) (i:RS (Kd.int .u8) M a a0.b) (c1:(Int×Int×GErr)) (h:f_wire_Reader_Num a0 a1=some c1):
 Tri prog 58 #[(pt e 0),(Uv a1)] M [[(e, .cells #[a,(Iv a0.at_),(GV a0.err)] 76 (0,0))]] (f_wire_Reader_Num_post a0 a1 a e c1):=by
 unfold f_wire_Reader_Num at h
 refine Te func58 Z Z ?_
 intro F ρ s
 refine Sr (qa (Uv 0) (Nt (Cs (Sr (qM (pt e 0) (s 0) (qu (pt e 0) (Nk Z) (qu (pt e 2) (Fa fo76_2 Z Z) (qu (GV a0.err) (Lb 0 pl40 Z Z Z) (qu (Bv (!a0.err.isNil)) (errNotNil underlying40 Z) (Nt (Ch h Z (fun c2 h=> ?_) (fun c2 h=> ?_))))))))))))
 exact Sr (qa (Uv 0) (Nt (Cr (Tr (Rf h [[(e, .cells #[a,(Iv a0.at_),(GV a0.err)] 76 (0,0))]] Z (Rs Z Z) lr ⟨Z,Z⟩)))))
 refine Ck (Tc (Cs (WC.draw [0,1,3,7,0,16,48,112,255,0,1023] (.pure 0 (.pure 1 (.pure 2 (.pure 3 (.pure 4 (.pure 5 (.pure 6 (.pure 7 (.pure 8 (.alt 9 (.alt 10 .done .none) .none)))))))))) mixed (by kernel_rfl) (qt (pt e 0) Z (Mv (s 0)) (qt (pt e 0) Z (Nk Z) (qt (pt e 0) Z (Fa fo76_0 Z Z) (qt a Z (Lb 0 pl38 Z Z Z) (qt (pt e 0) Z (Mv (s 0)) (qt (pt e 0) Z (Nk Z) (qt (pt e 1) Z (Fa fo76_1 Z Z) (qt (Iv a0.at_) Z (Lb 0 pl3 Z Z Z) ?_)))))))))))
 obtain ⟨j,h⟩:=grd_i h
 have c:=i.sub j.1 j.2.1 j.2.2
 refine qt (slV a 1 (a0.at_).toNat ((a0.b.length:Int)).toNat) Z (slice (n:=a0.b.length) (l:=(a0.at_).toNat) (h:=((a0.b.length:Int)).toNat) underlying38 sz5 Z i.len i.cap ⟨_,_,Z,j.1,Z⟩ (boundN_ Z) (Int.toNat_le_toNat j.2.1) (toNat_le_len j.2.2)) (Ta Z (Al ze38 Z) Z ?_ ?_)
 rintro _ _ _ - ⟨rfl,f,rfl,rfl⟩
 refine⟨(Ss Z (slice (n:=a0.b.length) (l:=(a0.at_).toNat) (h:=((a0.b.length:Int)).toNat) underlying38 sz5 Z i.len i.cap ⟨_,_,Z,j.1,Z⟩ (boundN_ Z) (Int.toNat_le_toNat j.2.1) (toNat_le_len j.2.2)) Z (Ss Z (Lb 1 pl3 Z Z Z) Z (Ss Z (Fa fo76_1 Z Z) Z (Ss Z (Nk Z) Z (Ss Z (Mv (s 0)) Z (Ss Z (Lb 1 pl38 Z Z Z) Z (Ss Z (Fa fo76_0 Z Z) Z (Ss Z (Nk Z) Z (Ss Z (Mv (s 0)) Z trivial))))))))), ?_⟩
 refine Ta Z (Es (slV a 1 (a0.at_).toNat ((a0.b.length:Int)).toNat) [(slV a 1 (a0.at_).toNat ((a0.b.length:Int)).toNat)] c.cells sz38 Z Z (RS.one c) Z Z Z) Z ?_ ?_
 rintro _ _ _ - ⟨rfl,rfl⟩
 refine⟨(Sl Z), ?_⟩
 refine Ti (Tc (Cs (Sr (qu (slV a 1 (a0.at_).toNat ((a0.b.length:Int)).toNat) (Lb 0 pl38 Z Z Z) (qu (Iv ((sub a0.b a0.at_ (a0.b.length:Int)).length:Int)) (lenS underlying38 Z c.len) (qu (Bv (decide (((sub a0.b a0.at_ (a0.b.length:Int)).length:Int)=(0:Int)))) (eql Z Z) (Nt (Ch h Z (fun c3 h=> ?_) (fun c3 h=> ?_)))))))))
 refine Sr (qM (pt e 0) (s 0) (qM (pt e 0) (s 0) (qu (pt e 0) (Nk Z) (qu (pt e 1) (Fa fo76_1 Z Z) (qu (Iv a0.at_) (Lb 1 pl3 Z Z Z) ?_)))))
 obtain ⟨c4,c5,h⟩:=bnd h
 refine WL.f1 (We (Cb co45 (f_wire_Reader_fail_ok a0 (⟨#[110,117,109]⟩:ByteArray) a0.at_ (3:Int) _ _ _ i c4 c5) (args4 Z Z Z Z)) Z ?_)
 rintro _ h5 _ a5 ⟨_,⟨rfl,rfl⟩,rfl⟩
 exact WL.a1 (Ns (qa (Uv 0) (Nt (Cr (Tr (Qa (Dr (Rf h [[(e, .cells #[a,(Iv a0.at_),(GV c4)] 76 (0,0))]] Z (Rs Z Z) a5 ⟨Z,Z⟩))))))))
 refine Ck (Tc (Sr (qu (slV a 1 (a0.at_).toNat ((a0.b.length:Int)).toNat) (Lb 0 pl38 Z Z Z) ?_)))
 obtain ⟨t,h⟩:=grd_i h
 obtain ⟨f9,h0,a6,a7,hhas35⟩:=c.at t.1 t.2 (by decide)
 obtain rfl:=a7
 refine qu (.pointer (some f9)) (indexAddr (n:=(sub a0.b a0.at_ (a0.b.length:Int)).length) underlying38 sz5 Z Z t.1 t.2 a6) (qu (Yv (rd (sub a0.b a0.at_ (a0.b.length:Int)) (0:Int))) (loadM pl5 Z (IM.has0 hhas35)) (qu (Yv (shrI .u8 (rd (sub a0.b a0.at_ (a0.b.length:Int)) (0:Int)) (6:Int))) (shr Z Z (by decide)) ?_))
 obtain ⟨c6,h⟩:=grd_i h
 refine qu (Iv (shlI .i64 1 (shrI .u8 (rd (sub a0.b a0.at_ (a0.b.length:Int)) (0:Int)) (6:Int)))) (shl Z Z c6) (qa (Iv (shlI .i64 1 (shrI .u8 (rd (sub a0.b a0.at_ (a0.b.length:Int)) (0:Int)) (6:Int)))) (Nt (Cs (Sr (qu (slV a 1 (a0.at_).toNat ((a0.b.length:Int)).toNat) (Lb 0 pl38 Z Z Z) (qu (Iv ((sub a0.b a0.at_ (a0.b.length:Int)).length:Int)) (lenS underlying38 Z c.len) (qm (Iv (shlI .i64 1 (shrI .u8 (rd (sub a0.b a0.at_ (a0.b.length:Int)) (0:Int)) (6:Int)))) (qu (Bv (decide (((sub a0.b a0.at_ (a0.b.length:Int)).length:Int)<(shlI .i64 1 (shrI .u8 (rd (sub a0.b a0.at_ (a0.b.length:Int)) (0:Int)) (6:Int)))))) (lss Z Z) (Nt (Ch h Z (fun c7 h=> ?_) (fun c7 h=> ?_)))))))))))
 refine Sr (qM (pt e 0) (s 0) (qM (pt e 0) (s 0) (qu (pt e 0) (Nk Z) (qu (pt e 1) (Fa fo76_1 Z Z) (qu (Iv a0.at_) (Lb 1 pl3 Z Z Z) ?_)))))
 obtain ⟨c8,c9,h⟩:=bnd h
 refine WL.f1 (We (Cb co45 (f_wire_Reader_fail_ok a0 (⟨#[110,117,109]⟩:ByteArray) a0.at_ (3:Int) _ _ _ i c8 c9) (args4 Z Z Z Z)) Z ?_)
 rintro _ h6 _ a8 ⟨_,⟨rfl,rfl⟩,rfl⟩
 exact WL.a1 (Ns (qa (Uv 0) (Nt (Cr (Tr (Qa (Dr (Rf h [[(e, .cells #[a,(Iv a0.at_),(GV c8)] 76 (0,0))]] Z (Rs Z Z) a8 ⟨Z,Z⟩))))))))
 refine Ck (Tc (Sr (qu (slV a 1 (a0.at_).toNat ((a0.b.length:Int)).toNat) (Lb 0 pl38 Z Z Z) ?_)))
 obtain ⟨u,h⟩:=grd_i h
 obtain ⟨g1,h1,a9,b0,hhas48⟩:=c.at u.1 u.2 (by decide)
 obtain rfl:=b0
 refine qu (.pointer (some g1)) (indexAddr (n:=(sub a0.b a0.at_ (a0.b.length:Int)).length) underlying38 sz5 Z Z u.1 u.2 a9) (qu (Yv (rd (sub a0.b a0.at_ (a0.b.length:Int)) (0:Int))) (loadM pl5 Z (IM.has0 hhas48)) (qu (Yv (andI .u8 (rd (sub a0.b a0.at_ (a0.b.length:Int)) (0:Int)) (63:Int))) (PO.and Z Z) (qu (Uv (u64.wrap (andI .u8 (rd (sub a0.b a0.at_ (a0.b.length:Int)) (0:Int)) (63:Int)))) (conv us5 underlying65 Z) (We (Al ze65 Z) Z ?_))))
 rintro _ _ _ - ⟨rfl,d,rfl,rfl⟩
 refine We (Al ze3 Z) Z ?_
 rintro _ _ _ - ⟨rfl,g,rfl,rfl⟩
 refine WL.f1 (We (Es (Uv (u64.wrap (andI .u8 (rd (sub a0.b a0.at_ (a0.b.length:Int)) (0:Int)) (63:Int)))) [(Uv (u64.wrap (andI .u8 (rd (sub a0.b a0.at_ (a0.b.length:Int)) (0:Int)) (63:Int))))] Z sz65 Z Z Z Z Z Z) Z ?_)
 rintro _ _ _ - ⟨rfl,rfl⟩
 refine WL.f1 (We (Es (Iv 1) [(Iv 1)] Z sz3 Z Z Z Z Z Z) Z ?_)
 rintro _ _ _ - ⟨rfl,rfl⟩
 refine Ns (qu (.func (.func 67) #[] #[(pt d 0),(pt f 0),(pt g 0)]) (makeFunc2 (args0) (args3 (show ev _ _=(pt d 0) from Z) (show ev _ _=(pt f 0) from Z) (show ev _ _=(pt g 0) from Z))) (qa (.func (.func 67) #[] #[(pt d 0),(pt f 0),(pt g 0)]) (Ns (qa (Uv 0) (Nt ?_)))))
 obtain ⟨d0,d1,h⟩:=bnd h
 refine Jf (fun(p_:(Int×Int×Int)) p M' H'=>match p_ with |(v,d5,o)=>M.le M'∧[(g, .cells #[(Iv d5)] 3 (0,0))]::[(d, .cells #[(Uv o)] 65 (0,0))]::[(f, .cells #[(slV a 1 (a0.at_).toNat ((a0.b.length:Int)).toNat)] 38 (0,0))]::[(e, .cells #[a,(Iv a0.at_),(GV a0.err)] 76 (0,0))]::F=H'∧p 0=(pt e 0)∧p 1=(Uv a1)∧p 6=(Iv (shlI .i64 1 (shrI .u8 (rd (sub a0.b a0.at_ (a0.b.length:Int)) (0:Int)) (6:Int))))∧p 7=(pt d 0)∧p 10=(Uv v)) d0 ?_ ?_
 have h:=d1
 refine Sr (qm (Iv (shlI .i64 1 (shrI .u8 (rd (sub a0.b a0.at_ (a0.b.length:Int)) (0:Int)) (6:Int)))) (Nt (Bk ?_)))
 obtain ⟨g2,d6,h⟩:=bnd h
 refine WC.joinE (fun(p_:(Int×Int×Int)) p M' H'=>match p_ with |(w,b1,b2)=>M.le M'∧[(g, .cells #[(Iv b1)] 3 (0,0))]::[(d, .cells #[(Uv b2)] 65 (0,0))]::[(f, .cells #[(slV a 1 (a0.at_).toNat ((a0.b.length:Int)).toNat)] 38 (0,0))]::[(e, .cells #[a,(Iv a0.at_),(GV a0.err)] 76 (0,0))]::F=H'∧p 0=(pt e 0)∧p 1=(Uv a1)∧p 6=(Iv (shlI .i64 1 (shrI .u8 (rd (sub a0.b a0.at_ (a0.b.length:Int)) (0:Int)) (6:Int))))∧p 7=(pt d 0)∧p 9=(.func (.func 67) #[] #[(pt d 0),(pt f 0),(pt g 0)])∧p 10=(Uv w)) g2 ?_ ?_
 have d7:=h
 have h:=d6
 refine Bk ?_
 obtain ⟨g3,d8,h⟩:=bnd h
 refine WC.joinE (fun(p_:(Int×Int×Int)) p M' H'=>match p_ with |(x,b3,b4)=>M.le M'∧[(g, .cells #[(Iv b3)] 3 (0,0))]::[(d, .cells #[(Uv b4)] 65 (0,0))]::[(f, .cells #[(slV a 1 (a0.at_).toNat ((a0.b.length:Int)).toNat)] 38 (0,0))]::[(e, .cells #[a,(Iv a0.at_),(GV a0.err)] 76 (0,0))]::F=H'∧p 0=(pt e 0)∧p 1=(Uv a1)∧p 6=(Iv (shlI .i64 1 (shrI .u8 (rd (sub a0.b a0.at_ (a0.b.length:Int)) (0:Int)) (6:Int))))∧p 7=(pt d 0)∧p 9=(.func (.func 67) #[] #[(pt d 0),(pt f 0),(pt g 0)])∧p 10=(Uv x)) g3 ?_ ?_
 have Y:=h
 have h:=d8
 refine Bk (Cs (Bk (Cs (Cs (Sr (qu (Bv (decide ((shlI .i64 1 (shrI .u8 (rd (sub a0.b a0.at_ (a0.b.length:Int)) (0:Int)) (6:Int)))=8))) (eql Z Z) (qa (Bv (decide ((shlI .i64 1 (shrI .u8 (rd (sub a0.b a0.at_ (a0.b.length:Int)) (0:Int)) (6:Int)))=8))) (Nt (Ch h Z (fun d9 h=> ?_) (fun d9 h=> ?_))))))))))
 refine WC.exit (WQ.thenE (WQ.thenE (WQ.blockH (Tc (Sr (qm (.func (.func 67) #[] #[(pt d 0),(pt f 0),(pt g 0)]) ?_))))))
 obtain ⟨⟨e0,e1⟩,e2,h⟩:=bnd h
 refine Wb (Wb (We (callV3 (first:=#[]) (cap:=#[(pt d 0),(pt f 0),(pt g 0)]) co67 Z (f_wire_Reader_Num_1_ok (u64.wrap (andI .u8 (rd (sub a0.b a0.at_ (a0.b.length:Int)) (0:Int)) (63:Int))) (sub a0.b a0.at_ (a0.b.length:Int)) (1:Int) _ _ _ _ _ c (e0,e1) e2) (argsV0 Z)) Z ?_))
 rintro _ h7 _ y ⟨_,⟨rfl,rfl⟩,rfl⟩
 refine WL.a3 (Ns (qm (.func (.func 67) #[] #[(pt d 0),(pt f 0),(pt g 0)]) ?_))
 obtain ⟨⟨e3,e4⟩,e5,h⟩:=bnd h
 refine Wb (Wb (Wb ?_))
 have c:=c.mono y
 refine We (callV3 (first:=#[]) (cap:=#[(pt d 0),(pt f 0),(pt g 0)]) co67 Z (f_wire_Reader_Num_1_ok e0 (sub a0.b a0.at_ (a0.b.length:Int)) e1 _ _ _ _ _ c (e3,e4) e5) (argsV0 Z)) Z ?_
 rintro _ h8 _ z ⟨_,⟨rfl,rfl⟩,rfl⟩
 refine WL.a3 (Ns (qm (.func (.func 67) #[] #[(pt d 0),(pt f 0),(pt g 0)]) ?_))
 obtain ⟨⟨e6,e7⟩,e8,h⟩:=bnd h
 refine Wb (Wb (Wb ?_))
 have c:=c.mono z
 refine We (callV3 (first:=#[]) (cap:=#[(pt d 0),(pt f 0),(pt g 0)]) co67 Z (f_wire_Reader_Num_1_ok e3 (sub a0.b a0.at_ (a0.b.length:Int)) e4 _ _ _ _ _ c (e6,e7) e8) (argsV0 Z)) Z ?_
 rintro _ h9 _ A ⟨_,⟨rfl,rfl⟩,rfl⟩
 refine WL.a3 (Ns (qm (.func (.func 67) #[] #[(pt d 0),(pt f 0),(pt g 0)]) ?_))
 obtain ⟨⟨g4,g5⟩,e9,h⟩:=bnd h
 refine Wb (Wb (Wb ?_))
 have c:=c.mono A
 refine We (callV3 (first:=#[]) (cap:=#[(pt d 0),(pt f 0),(pt g 0)]) co67 Z (f_wire_Reader_Num_1_ok e6 (sub a0.b a0.at_ (a0.b.length:Int)) e7 _ _ _ _ _ c (g4,g5) e9) (argsV0 Z)) Z ?_
 rintro _ i0 _ b5 ⟨_,⟨rfl,rfl⟩,rfl⟩
 refine WL.a3 (Nt (Cg (qm (Uv 0) (qu (Uv (u64.wrap ((0:Int)+(1073725440:Int)))) (add Z Z) (qa (Uv (u64.wrap ((0:Int)+(1073725440:Int)))) (Wz (Bn (WQ.f3 (Qb (Qb (WQ.f3 ?_)))))))))))
 exact WQ.thenFE h ⟨(((y.trans z).trans A).trans b5),Z,(s 0),(s 1),Z,Z,Z,Z⟩
 refine Ck (Tc (Cs (Sr (qu (Bv (decide ((shlI .i64 1 (shrI .u8 (rd (sub a0.b a0.at_ (a0.b.length:Int)) (0:Int)) (6:Int)))=4))) (eql Z Z) (qa (Bv (decide ((shlI .i64 1 (shrI .u8 (rd (sub a0.b a0.at_ (a0.b.length:Int)) (0:Int)) (6:Int)))=4))) (Nt (Ch h Z (fun f0 h=> ?_) (fun f0 h=> ?_))))))))
 exact WC.exit (WQ.thenE (WQ.thenE (WQ.blockM Z (WQ.thenE (WQ.blockH (WQ.thenFE h ⟨lr,Z,(s 0),(s 1),Z,Z,Z,Z⟩))))))
 refine Ck (Tc (Sr (qu (Bv (decide ((shlI .i64 1 (shrI .u8 (rd (sub a0.b a0.at_ (a0.b.length:Int)) (0:Int)) (6:Int)))=2))) (eql Z Z) (qa (Bv (decide ((shlI .i64 1 (shrI .u8 (rd (sub a0.b a0.at_ (a0.b.length:Int)) (0:Int)) (6:Int)))=2))) (Nt (Ch h Z (fun f2 h=> ?_) (fun f2 h=> ?_)))))))
 refine WC.exit (WQ.thenE (WQ.blockM Z (WQ.thenE (WQ.blockM Z (WQ.thenE ?_)))))
 have h:=KK.early h Y
 exact WQ.blockH (WQ.thenFE h ⟨lr,Z,(s 0),(s 1),Z,Z,Z,Z⟩)
 refine Ck (Tc (WC.exit (WQ.blockM Z (WQ.thenE (WQ.blockM Z (WQ.thenE ?_))))))
 have h:=KK.early h Y
 refine WQ.blockM Z (WQ.thenE ?_)
 have h:=KK.early h d7
 refine WQ.blockH ?_
 obtain rfl:=oi h
 exact Tj ⟨lr,Z,(s 0),(s 1),Z,Z,Z⟩
 rintro ⟨x,b3,b4⟩ i1 i2 i3 rfl ⟨B,rfl,J,K,L,N,q,C⟩
 have h:=(Sum.elim_inl _ _ _).symm.trans h
 refine Sr (qM (.func (.func 67) #[] #[(pt d 0),(pt f 0),(pt g 0)]) q ?_)
 obtain ⟨⟨f4,f5⟩,f6,h⟩:=bnd h
 refine Wb (Wb ?_)
 have c:=c.mono B
 refine We (callV3 (first:=#[]) (cap:=#[(pt d 0),(pt f 0),(pt g 0)]) co67 Z (f_wire_Reader_Num_1_ok b4 (sub a0.b a0.at_ (a0.b.length:Int)) b3 _ _ _ _ _ c (f4,f5) f6) (argsV0 Z)) Z ?_
 rintro _ i4 _ D ⟨_,⟨rfl,rfl⟩,rfl⟩
 refine WL.a3 (Ns (qM (.func (.func 67) #[] #[(pt d 0),(pt f 0),(pt g 0)]) q ?_))
 obtain ⟨⟨g6,g7⟩,f7,h⟩:=bnd h
 refine Wb (Wb (Wb ?_))
 have c:=c.mono D
 refine We (callV3 (first:=#[]) (cap:=#[(pt d 0),(pt f 0),(pt g 0)]) co67 Z (f_wire_Reader_Num_1_ok f4 (sub a0.b a0.at_ (a0.b.length:Int)) f5 _ _ _ _ _ c (g6,g7) f7) (argsV0 Z)) Z ?_
 rintro _ i5 _ b6 ⟨_,⟨rfl,rfl⟩,rfl⟩
 refine WL.a3 (Nt (Cg (qM (Uv x) C (qu (Uv (u64.wrap (x+16320))) (add Z Z) (qa (Uv (u64.wrap (x+16320))) (Wz (Bn (WQ.f3 (Qb (Qb (WQ.f3 ?_)))))))))))
 exact WQ.thenFE h ⟨((B.trans D).trans b6),Z,J,K,L,N,q,Z⟩
 rintro ⟨w,b1,b2⟩ i6 i7 i8 rfl ⟨E,rfl,O,P,Q,R,S,G⟩
 have h:=(Sum.elim_inl _ _ _).symm.trans h
 refine Cs (Sr (qM (.func (.func 67) #[] #[(pt d 0),(pt f 0),(pt g 0)]) S ?_))
 obtain ⟨⟨g8,g9⟩,f8,h⟩:=bnd h
 refine Wb (Wb ?_)
 have c:=c.mono E
 refine We (callV3 (first:=#[]) (cap:=#[(pt d 0),(pt f 0),(pt g 0)]) co67 Z (f_wire_Reader_Num_1_ok b2 (sub a0.b a0.at_ (a0.b.length:Int)) b1 _ _ _ _ _ c (g8,g9) f8) (argsV0 Z)) Z ?_
 rintro _ h2 _ T ⟨_,⟨rfl,rfl⟩,rfl⟩
 refine WL.a3 (Nt (Cg (qM (Uv w) G (qu (Uv (u64.wrap (w+64))) (add Z Z) (qa (Uv (u64.wrap (w+64))) (Nt (WC.exit (WQ.blockH (WQ.f3 (Qb (Qb ?_)))))))))))
 refine WQ.f3 ?_
 obtain rfl:=oi h
 exact Tj ⟨(E.trans T),Z,O,P,Q,R,Z⟩
 obtain ⟨v,d5,o⟩:=d0
 rintro i9 j0 j1 ⟨m,rfl,k,U,V,r,I⟩
 refine Cs (Bk (Sr (qu (Uv o) (Lb 1 pl65 r Z Z) (qM (Uv v) I (qu (Bv (decide (o<v))) (lss Z Z) (qa (Bv (decide (o<v))) (Nt (Ch h Z (fun b7 h=> ?_) (fun b7 h=> ?_)))))))))
 refine Sr (qM (pt e 0) k (qM (pt e 0) k (qu (pt e 0) (Nk Z) (qu (pt e 1) (Fa fo76_1 Z Z) (qu (Iv a0.at_) (Lb 3 pl3 Z Z Z) ?_)))))
 obtain ⟨a2,b8,h⟩:=bnd h
 refine WL.f3 ?_
 have i:=i.mono m
 refine We (Cb co45 (f_wire_Reader_fail_ok a0 (⟨#[110,117,109]⟩:ByteArray) a0.at_ (5:Int) _ _ _ i a2 b8) (args4 Z Z Z Z)) Z ?_
 rintro _ h3 _ W ⟨_,⟨rfl,rfl⟩,rfl⟩
 refine WL.a1 (Ns (qa (Uv 0) (Nt (Cr (Br (Tr (Qa (Dr (Qa (Dr (Qa ?_)))))))))))
 exact Dr (Rf h [[(e, .cells #[a,(Iv a0.at_),(GV a2)] 76 (0,0))]] Z (Rs Z Z) (m.trans W) ⟨Z,Z⟩)
 refine Sr (qu (Uv o) (Lb 1 pl65 r Z Z) (qM (Uv a1) U (qu (Bv (decide (a1<o))) (gtr Z Z) (qa (Bv (decide (a1<o))) (Nt (Ch h Z (fun b9 h=> ?_) (fun b9 h=> ?_)))))))
 refine Sr (qM (pt e 0) k (qM (pt e 0) k (qu (pt e 0) (Nk Z) (qu (pt e 1) (Fa fo76_1 Z Z) (qu (Iv a0.at_) (Lb 3 pl3 Z Z Z) ?_)))))
 obtain ⟨a4,c0,h⟩:=bnd h
 refine WL.f3 ?_
 have i:=i.mono m
 refine We (Cb co45 (f_wire_Reader_fail_ok a0 (⟨#[110,117,109]⟩:ByteArray) a0.at_ (6:Int) _ _ _ i a4 c0) (args4 Z Z Z Z)) Z ?_
 rintro _ h4 _ X ⟨_,⟨rfl,rfl⟩,rfl⟩
 refine WL.a1 (Ns (qa (Uv 0) (Nt (Cr (Br (Tr (Qa (Dr (Qa (Dr (Qa ?_)))))))))))
 exact Dr (Rf h [[(e, .cells #[a,(Iv a0.at_),(GV a4)] 76 (0,0))]] Z (Rs Z Z) (m.trans X) ⟨Z,Z⟩)
 refine Ck (Bn (Tc (Sr (qM (pt e 0) k (qu (pt e 0) (Nk Z) (qu (pt e 1) (Fa fo76_1 Z Z) (qu (Iv a0.at_) (Lb 3 pl3 Z Z Z) (qM (Iv (shlI .i64 1 (shrI .u8 (rd (sub a0.b a0.at_ (a0.b.length:Int)) (0:Int)) (6:Int)))) V (qu (Iv (i64.wrap (a0.at_+(shlI .i64 1 (shrI .u8 (rd (sub a0.b a0.at_ (a0.b.length:Int)) (0:Int)) (6:Int)))))) (add Z Z) (qu (pt e 0) (Nk Z) (qu (pt e 1) (Fa fo76_1 Z Z) ?_)))))))))))
 refine WL.f3 (We (Es (Iv (i64.wrap (a0.at_+(shlI .i64 1 (shrI .u8 (rd (sub a0.b a0.at_ (a0.b.length:Int)) (0:Int)) (6:Int)))))) [a,(Iv (i64.wrap (a0.at_+(shlI .i64 1 (shrI .u8 (rd (sub a0.b a0.at_ (a0.b.length:Int)) (0:Int)) (6:Int)))))),(GV a0.err)] Z sz3 Z Z Z Z Z Z) Z ?_)
 rintro _ _ _ - ⟨rfl,rfl⟩
 exact Ns (qu (Uv o) (Lb 2 pl65 r Z Z) (qa (Uv o) (Nt (Cr (Qa (Dr (Qa (Dr (Qa (Dr (Rf h [[(e, .cells #[a,(Iv (i64.wrap (a0.at_+(shlI .i64 1 (shrI .u8 (rd (sub a0.b a0.at_ (a0.b.length:Int)) (0:Int)) (6:Int)))))),(GV a0.err)] 76 (0,0))]] Z (Rs Z Z) m ⟨Z,Z⟩)))))))))))
 exact Tz
 exact Tz
noncomputable def f_wire_Reader_Int (a0:T_wire_Reader) (a1:Int):Option (Int×Int×GErr):=
 ((f_wire_Reader_Num a0 (u64.wrap (if a1<(0:Int)then(0:Int)else a1))).bind fun(a,b,c)=>(some (i64.wrap a,b,c)))
def f_wire_Reader_Int_post (a0:T_wire_Reader) (a1:Int) (a:Value) (b:Nat):(Int×Int×GErr)→Value→IM→HL→Prop:=
 fun(c:(Int×Int×GErr)) (v:Value) (i:IM) (d:HL)=>match c with |(e,f,g)=>(.int .i64 e)=v∧d=[[(b, .cells #[a,(.int .i64 f),(GV g)] 76 (0,0))]]
theorem f_wire_Reader_Int_ok (a0:T_wire_Reader) (a1:Int) (M:IM) (a:Value) (e:Nat) (f:RS (Kd.int .u8) M a a0.b) (g:(Int×Int×GErr)) (h:f_wire_Reader_Int a0 a1=some g):
 Tri prog 41 #[(pt e 0),(Iv a1)] M [[(e, .cells #[a,(Iv a0.at_),(GV a0.err)] 76 (0,0))]] (f_wire_Reader_Int_post a0 a1 a e g):=by
 unfold f_wire_Reader_Int at h
 refine Te func41 Z Z ?_
 intro F n l
 refine Sr (qa (Iv 0) (Ns (qM (pt e 0) (l 0) (qM (Iv a1) (l 1) (qu (Iv (if a1<0 then(0:Int)else a1)) (PO.max Z Z) (qu (Uv (u64.wrap (if a1<0 then(0:Int)else a1))) (conv us3 underlying65 Z) ?_))))))
 obtain ⟨⟨c,i,j⟩,k,h⟩:=bnd h
 refine We (Cb co58 (f_wire_Reader_Num_ok a0 (u64.wrap (if a1<0 then(0:Int)else a1)) _ _ _ f (c,i,j) k) (args2 Z Z)) Z ?_
 rintro _ m _ d ⟨_,⟨rfl,rfl⟩,rfl⟩
 exact WL.a1 (qu (Iv (i64.wrap c)) (conv us65 underlying3 Z) (qa (Iv (i64.wrap c)) (Nt (Cr (Rf h [[(e, .cells #[a,(Iv i),(GV j)] 76 (0,0))]] Z (Rs Z Z) d ⟨Z,Z⟩)))))
noncomputable def f_wire_Reader_Err (a0:T_wire_Reader):Option GErr:=
 (some a0.err)
def f_wire_Reader_Err_post (a0:T_wire_Reader) (a:Value) (b:Nat):GErr→Value→IM→HL→Prop:=
 fun(c:GErr) (v:Value) (e:IM) (d:HL)=>(GV c)=v∧d=[[(b, .cells #[a,(.int .i64 a0.at_),(GV a0.err)] 76 (0,0))]]
theorem f_wire_Reader_Err_ok (a0:T_wire_Reader) (M:IM) (a:Value) (c:Nat) (e:RS (Kd.int .u8) M a a0.b) (d:GErr) (h:f_wire_Reader_Err a0=some d):
 Tri prog 42 #[(pt c 0)] M [[(c, .cells #[a,(Iv a0.at_),(GV a0.err)] 76 (0,0))]] (f_wire_Reader_Err_post a0 a c d):=by
 unfold f_wire_Reader_Err at h
 refine Te func42 Z Z ?_
 intro F g f
 exact Sr (qa (GV GErr.nil) (Ns (qM (pt c 0) (f 0) (qu (pt c 0) (Nk Z) (qu (pt c 2) (Fa fo76_2 Z Z) (qu (GV a0.err) (Lb 0 pl40 Z Z Z) (qa (GV a0.err) (Nt (Cr (Rf h [[(c, .cells #[a,(Iv a0.at_),(GV a0.err)] 76 (0,0))]] Z (Rs Z Z) lr ⟨Z,Z⟩))))))))))
noncomputable def f_wire_Reader_Refuse (a0:T_wire_Reader) (a1:ByteArray) (a2:Int):Option GErr:=
 ((f_wire_Reader_fail a0 a1 a0.at_ a2).bind fun a=>(some a))
def f_wire_Reader_Refuse_post (a0:T_wire_Reader) (a1:ByteArray) (a2:Int) (a:Value) (b:Nat):GErr→Value→IM→HL→Prop:=
 fun(c:GErr) (v:Value) (e:IM) (d:HL)=>(.tuple #[])=v∧d=[[(b, .cells #[a,(.int .i64 a0.at_),(GV c)] 76 (0,0))]]
theorem f_wire_Reader_Refuse_ok (a0:T_wire_Reader) (a1:ByteArray) (a2:Int) (M:IM) (a:Value) (c:Nat) (e:RS (Kd.int .u8) M a a0.b) (f:GErr) (h:f_wire_Reader_Refuse a0 a1 a2=some f):
 Tri prog 43 #[(pt c 0),(Sv a1),(Iv a2)] M [[(c, .cells #[a,(Iv a0.at_),(GV a0.err)] 76 (0,0))]] (f_wire_Reader_Refuse_post a0 a1 a2 a c f):=by
 unfold f_wire_Reader_Refuse at h
 refine Te func43 Z Z ?_
 intro F l j
 refine Cg (qM (pt c 0) (j 0) (qM (Sv a1) (j 1) (qM (pt c 0) (j 0) (qu (pt c 0) (Nk Z) (qu (pt c 1) (Fa fo76_1 Z Z) (qu (Iv a0.at_) (Lb 0 pl3 Z Z Z) (qM (Iv a2) (j 2) ?_)))))))
 obtain ⟨g,i,h⟩:=bnd h
 refine We (Cb co45 (f_wire_Reader_fail_ok a0 a1 a0.at_ a2 _ _ _ e g i) (args4 Z Z Z Z)) Z ?_
 rintro _ k _ d ⟨_,⟨rfl,rfl⟩,rfl⟩
 exact WL.a1 (Wz (WQ.endsF h [[(c, .cells #[a,(Iv a0.at_),(GV g)] 76 (0,0))]] Z (results0 Z) d ⟨Z,Z⟩))
noncomputable def f_record_Read_1 (a0:Int) (a1:Int) (a2q:T_wire_Reader):Option (Int×Int×GErr):=
 (if(decide ((andI .i64 a1 a0)=(0:Int)))=true then(some ((0:Int),a2q.at_,a2q.err))else((f_wire_Reader_Int a2q (1073741824:Int)).bind fun(a,b,c)=>(some (a,b,c))))
def f_record_Read_1_post (a0:Int) (a1:Int) (a2q:T_wire_Reader) (v2q_0:Value) (a b g2q:Nat):(Int×Int×GErr)→Value→IM→HL→Prop:=
 fun(c:(Int×Int×GErr)) (v:Value) (i:IM) (d:HL)=>match c with |(e,f,g)=>(.int .i64 e)=v∧d=[[(a, .cells #[(.int .i64 a1)] 3 (0,0))],[(g2q, .cells #[v2q_0,(.int .i64 f),(GV g)] 76 (0,0))],[(b, .cells #[(.pointer (some ⟨g2q,0,none⟩))] 55 (0,0))]]
theorem f_record_Read_1_ok (a0:Int) (a1:Int) (a2q:T_wire_Reader) (M:IM) (v2q_0:Value) (c d g2q:Nat) (h2q_0:RS (Kd.int .u8) M v2q_0 a2q.b) (e:(Int×Int×GErr)) (h:f_record_Read_1 a0 a1 a2q=some e):
 Tri prog 59 #[(Iv a0),(pt c 0),(pt d 0)] M [[(c, .cells #[(Iv a1)] 3 (0,0))],[(g2q, .cells #[v2q_0,(Iv a2q.at_),(GV a2q.err)] 76 (0,0))],[(d, .cells #[(pt g2q 0)] 55 (0,0))]] (f_record_Read_1_post a0 a1 a2q v2q_0 c d g2q e):=by
 unfold f_record_Read_1 at h
 refine Te func59 Z Z ?_
 intro F n l
 refine Sr (qa (Iv 0) (Nt (Cs (Sr (qu (Iv a1) (Lb 0 pl3 (l 1) Z Z) (qM (Iv a0) (l 0) (qu (Iv (andI .i64 a1 a0)) (PO.and Z Z) (qu (Bv (decide ((andI .i64 a1 a0)=0))) (eql Z Z) (Nt (Ch h Z (fun f h=> ?_) (fun f h=> ?_)))))))))))
 exact Sr (qa (Iv 0) (Nt (Cr (Tr (Rf h [[(c, .cells #[(Iv a1)] 3 (0,0))],[(g2q, .cells #[v2q_0,(Iv a2q.at_),(GV a2q.err)] 76 (0,0))],[(d, .cells #[(pt g2q 0)] 55 (0,0))]] Z (Rs Z Z) lr ⟨Z,Z⟩)))))
 refine Ck (Tc (Sr (qu (pt g2q 0) (Lb 2 pl55 (l 2) Z Z) ?_)))
 obtain ⟨⟨g,i,j⟩,k,h⟩:=bnd h
 refine WL.f1 (We (Cb co41 (f_wire_Reader_Int_ok a2q (1073741824:Int) _ _ _ h2q_0 (g,i,j) k) (args2 Z Z)) Z ?_)
 rintro _ m _ a ⟨_,⟨rfl,rfl⟩,rfl⟩
 exact WL.a1 (qa (Iv g) (Nt (Cr (Qb (Qa (Qb (Rf h [[(c, .cells #[(Iv a1)] 3 (0,0))],[(g2q, .cells #[v2q_0,(Iv i),(GV j)] 76 (0,0))],[(d, .cells #[(pt g2q 0)] 55 (0,0))]] Z (Rs Z Z) a ⟨Z,Z⟩)))))))

end Go.Proofs.YtpmofealbmapiaaDoor.G
