/- Go functions: what they come to, and that they do. Printed by a program of the session (gen). -/
import Derived.Test.YtkflneabcannnaaGreatDoorVF
import Derived.Test.YtkflneabcannnaaGreatDoorV0
import Derived.Test.YtkflneabcannnaaGreatDoorKConv
import Derived.Test.YtkflneabcannnaaGreatDoorKShar2
import Derived.Test.YtkflneabcannnaaGreatDoorKTight2
set_option linter.unusedVariables false
set_option linter.unusedSimpArgs false
set_option maxHeartbeats 8000000
set_option maxRecDepth 100000
namespace Go.Proofs.YtkflneabcannnaaGreatDoor.G
open Go Go.KK
open PO EO IntKind Sum Tryz

noncomputable def f_rpc_Check_l0 (a0:T_api_Rpc) (s_:Int):Option (Int⊕(Unit⊕GErr)):=
 match s_ with
 |a=>
 (if(decide (a<(a0.Batches.length:Int)))=true then(grd (0≤a∧a<a0.Batches.length) ((f_batch_Check (rd a0.Batches a)).bind fun b=>(if(!b.isNil)=true then((f_fault_Wrap (⟨#[98,97,116,99,104]⟩:ByteArray) a b).bind fun c=>(some (inr (inr c))))else(some (inl (i64.wrap (a+(1:Int))))))))else(some (inr (inl ()))))
noncomputable def f_rpc_Check (a0:T_api_Rpc):Option GErr:=
 (((if(decide (a0.Kind<(1:Int)))=true then(some true)else(some (decide ((8:Int)<a0.Kind)))):Option Bool).bind fun y=>(if y=true then((f_fault_New (⟨#[107,105,110,100]⟩:ByteArray) a0.Kind (5:Int)).bind fun z=>(some z))else(((if(decide (a0.From<(1:Int)))=true then(some true)else(if(decide ((1073741824:Int)<a0.From))=true then(some true)else(if(decide (a0.To<(1:Int)))=true then(some true)else(if(decide ((1073741824:Int)<a0.To))=true then(some true)else(some (decide (a0.From=a0.To))))))):Option Bool).bind fun A=>(if A=true then((f_fault_New (⟨#[102,114,111,109]⟩:ByteArray) a0.From (2:Int)).bind fun B=>(some B))else(((if(decide (a0.Term<(0:Int)))=true then(some true)else(some (decide ((1073741824:Int)<a0.Term)))):Option Bool).bind fun C=>(if C=true then((f_fault_New (⟨#[116,101,114,109]⟩:ByteArray) a0.Term (2:Int)).bind fun D=>(some D))else((((f_rpc_Check_1 (1:Int) a0).bind fun E=>(if(!E)=true then(if a0.Pre=true then(some true)else((f_rpc_Check_1 (2:Int) a0).bind fun G=>(if(!G)=true then(some a0.Ok)else(some false))))else((f_rpc_Check_1 (2:Int) a0).bind fun I=>(if(!I)=true then(some a0.Ok)else(some false))))):Option Bool).bind fun J=>(if J=true then((f_fault_New (⟨#[102,108,97,103]⟩:ByteArray) (1:Int) (1:Int)).bind fun K=>(some K))else((f_rpc_Check_1 (4:Int) a0).bind fun L=>((f_rpc_number a0.Leader L (1073741824:Int)).bind fun N=>(if(!N)=true then((f_fault_New (⟨#[108,101,97,100,101,114]⟩:ByteArray) a0.Leader (2:Int)).bind fun O=>(some O))else((((f_rpc_Check_1 (8:Int) a0).bind fun P=>((f_rpc_number a0.At P (1073741824:Int)).bind fun a=>(if(!a)=true then(some true)else((f_rpc_Check_1 (8:Int) a0).bind fun b=>((f_rpc_number a0.AtTerm b (1073741824:Int)).bind fun c=>(some (!c))))))):Option Bool).bind fun Q=>(if Q=true then((f_fault_New (⟨#[112,108,97,99,101]⟩:ByteArray) a0.At (2:Int)).bind fun d=>(some d))else((f_rpc_Check_1 (16:Int) a0).bind fun e=>((f_rpc_number a0.High e (1073741824:Int)).bind fun f=>(if(!f)=true then((f_fault_New (⟨#[104,105,103,104]⟩:ByteArray) a0.High (2:Int)).bind fun g=>(some g))else((f_rpc_Check_1 (32:Int) a0).bind fun i=>((f_rpc_number a0.Code i (21:Int)).bind fun j=>(if(!j)=true then((f_fault_New (⟨#[99,111,100,101]⟩:ByteArray) a0.Code (2:Int)).bind fun k=>(some k))else((((f_rpc_Check_1 (128:Int) a0).bind fun l=>((f_rpc_number a0.Size l (1073741824:Int)).bind fun m=>(if(!m)=true then(some true)else((f_rpc_Check_1 (256:Int) a0).bind fun n=>((f_rpc_number a0.Pos n (1073741824:Int)).bind fun o=>(some (!o))))))):Option Bool).bind fun p=>(if p=true then((f_fault_New (⟨#[115,105,122,101]⟩:ByteArray) a0.Size (2:Int)).bind fun q=>(some q))else(((if(decide ((512:Int)<(a0.Data.length:Int)))=true then(some true)else(if(decide ((0:Int)<(a0.Data.length:Int)))=true then(some (decide (a0.Kind≠(8:Int))))else(some false))):Option Bool).bind fun s=>(if s=true then((f_fault_New (⟨#[100,97,116,97]⟩:ByteArray) (a0.Data.length:Int) (6:Int)).bind fun t=>(some t))else(((if(decide ((8:Int)<(a0.Batches.length:Int)))=true then(some true)else((f_rpc_Check_1 (64:Int) a0).bind fun u=>(if(!u)=true then(some (decide ((0:Int)<(a0.Batches.length:Int))))else(some false)))):Option Bool).bind fun v=>(if v=true then((f_fault_New (⟨#[98,97,116,99,104,101,115]⟩:ByteArray) (a0.Batches.length:Int) (6:Int)).bind fun w=>(some w))else((((iter (f_rpc_Check_l0 a0) (0:Int)).bind (Sum.elim (fun _=>(some (inl ()))) (fun(x:GErr)=>(((some x)).bind fun r=>some (inr r))))):Option (Unit⊕GErr)).bind (Sum.elim (fun _=>(some GErr.nil)) some)))))))))))))))))))))))))))
def f_rpc_Check_post (a0:T_api_Rpc) (a b:Value):GErr→Value→IM→HL→Prop:=
 fun(c:GErr) (v:Value) (M':IM) (H':HL)=>(GV c)=v∧H'=[]
theorem f_rpc_Check_ok (a0:T_api_Rpc) (M:IM) (d g:Value) (a:RS kd_api_Batch M d a0.Batches) (c:RS (Kd.int .u8) M g a0.Data) (res:GErr) (h:f_rpc_Check a0=some res):
 Tri prog 16 #[(a25_ a0 d g)] M [] (f_rpc_Check_post a0 d g res):=by
 unfold f_rpc_Check at h
 refine Te func16 Z Z ?_
 intro F ρ hρ
 refine Sr (We (box (cs:=(l25 a0 d g).toArray) (congrArg Value.cells (asE (a25_ a0 d g) (hρ 0)))) Z ?_)
 rintro _ _ _ - ⟨rfl,b,rfl,rfl⟩
 refine qa (GV GErr.nil) (Nt (Cs ?_))
 obtain ⟨h8,m9,h⟩:=bnd h
 refine Jf (fun(h8:Bool) ρ' M' H'=>M.le M'∧[(b, .cells (l25 a0 d g).toArray 25 (0,0))]::F=H'∧ρ' 1=(pt b 0)∧ρ' 14=(Bv h8)) h8 ?_ ?_
 have h:=m9
 refine Cg (qu (pt b 0) (Fa fo25_0 Z Z) (qu (Iv a0.Kind) (Lb 0 pl3 Z Z Z) (qu (Bv (decide (a0.Kind<1))) (lss Z Z) (qm (Bv (decide (a0.Kind<1))) ?_))))
 rcases Bi h with⟨L,h⟩ |⟨L,h⟩
 iterate 3 refine Of 10 Z Z L Z ?_
 refine qu (Bv true) (Pt Z L Z) (Wz ?_)
 obtain rfl:=oi h
 exact Tj ⟨lr,Z,Z,Z⟩
 refine qo 10 L (pt b 0) (Fa fo25_0 Z Z) (qo 10 L (Iv a0.Kind) (Lb 0 pl3 Z Z Z) (qo 10 L (Bv (decide ((8:Int)<a0.Kind))) (gtr Z Z) (qu (Bv (decide ((8:Int)<a0.Kind))) (Pf Z L Z) (Wz ?_))))
 obtain rfl:=oi h
 exact Tj ⟨lr,Z,Z,Z⟩
 rintro u7 q7 u9 ⟨c7,rfl,i,c8⟩
 refine Ch h c8 (fun n0 h=> ?_) (fun n0 h=> ?_)
 refine Sr (qu (pt b 0) (Fa fo25_0 i Z) (qu (Iv a0.Kind) (Lb 0 pl3 Z Z Z) ?_))
 obtain ⟨n1,n2,h⟩:=bnd h
 refine We (Ca co30 (f_fault_New_ok ⟨#[107,105,110,100]⟩ a0.Kind (5:Int) _ n1 n2) (args3 Z Z Z)) Z ?_
 rintro _ v0 _ h9 ⟨_,⟨rfl,rfl⟩,rfl⟩
 exact WL.a0 (qa (GV n1) (Nt (Cr (Tr (Dr (Rf h [] Z (Rs Z Z) (c7.trans h9) ⟨Z,Z⟩))))))
 refine Ck (Tc (Sr (qu (.func (.func 47) #[] #[(pt b 0)]) (makeFunc2 (args0) (args1 (asE (Value.pointer (some ⟨b,0,none⟩)) i))) (qa (.func (.func 47) #[] #[(pt b 0)]) (Nt (Cs (Bk ?_)))))))
 obtain ⟨i0,n3,h⟩:=bnd h
 refine Jf (fun(i0:Bool) ρ' M' H'=>q7.le M'∧[(b, .cells (l25 a0 d g).toArray 25 (0,0))]::F=H'∧ρ' 1=(pt b 0)∧ρ' 3=(.func (.func 47) #[] #[(pt b 0)])∧ρ' 19=(Bv i0)) i0 ?_ ?_
 have h:=n3
 refine Cg (qu (pt b 1) (Fa fo25_1 i Z) (qu (Iv a0.From) (Lb 0 pl3 Z Z Z) (qu (Bv (decide (a0.From<1))) (lss Z Z) (qm (Bv (decide (a0.From<1))) ?_))))
 rcases Bi h with⟨N,h⟩ |⟨N,h⟩
 iterate 3 refine Of 23 Z Z N Z ?_
 refine qu (Bv true) (Pt Z N Z) (qm (Bv true) ?_)
 iterate 3 refine Of 28 Z Z Z Z ?_
 refine qu (Bv true) (Pt Z Z Z) (qm (Bv true) ?_)
 iterate 3 refine Of 33 Z Z Z Z ?_
 refine qu (Bv true) (Pt Z Z Z) (qm (Bv true) ?_)
 iterate 5 refine Of 38 Z Z Z Z ?_
 refine qu (Bv true) (Pt Z Z Z) (qa (Bv true) (Wz ?_))
 obtain rfl:=oi h
 exact Tj ⟨lr,Z,i,Z,Z⟩
 refine qo 23 N (pt b 1) (Fa fo25_1 i Z) (qo 23 N (Iv a0.From) (Lb 0 pl3 Z Z Z) (qo 23 N (Bv (decide ((1073741824:Int)<a0.From))) (gtr Z Z) (qu (Bv (decide ((1073741824:Int)<a0.From))) (Pf Z N Z) (qm (Bv (decide ((1073741824:Int)<a0.From))) ?_))))
 rcases Bi h with⟨O,h⟩ |⟨O,h⟩
 iterate 3 refine Of 28 Z Z O Z ?_
 refine qu (Bv true) (Pt Z O Z) (qm (Bv true) ?_)
 iterate 3 refine Of 33 Z Z Z Z ?_
 refine qu (Bv true) (Pt Z Z Z) (qm (Bv true) ?_)
 iterate 5 refine Of 38 Z Z Z Z ?_
 refine qu (Bv true) (Pt Z Z Z) (qa (Bv true) (Wz ?_))
 obtain rfl:=oi h
 exact Tj ⟨lr,Z,i,Z,Z⟩
 refine qo 28 O (pt b 2) (Fa fo25_2 i Z) (qo 28 O (Iv a0.To) (Lb 0 pl3 Z Z Z) (qo 28 O (Bv (decide (a0.To<1))) (lss Z Z) (qu (Bv (decide (a0.To<1))) (Pf Z O Z) (qm (Bv (decide (a0.To<1))) ?_))))
 rcases Bi h with⟨P,h⟩ |⟨P,h⟩
 iterate 3 refine Of 33 Z Z P Z ?_
 refine qu (Bv true) (Pt Z P Z) (qm (Bv true) ?_)
 iterate 5 refine Of 38 Z Z Z Z ?_
 refine qu (Bv true) (Pt Z Z Z) (qa (Bv true) (Wz ?_))
 obtain rfl:=oi h
 exact Tj ⟨lr,Z,i,Z,Z⟩
 refine qo 33 P (pt b 2) (Fa fo25_2 i Z) (qo 33 P (Iv a0.To) (Lb 0 pl3 Z Z Z) (qo 33 P (Bv (decide ((1073741824:Int)<a0.To))) (gtr Z Z) (qu (Bv (decide ((1073741824:Int)<a0.To))) (Pf Z P Z) (qm (Bv (decide ((1073741824:Int)<a0.To))) ?_))))
 rcases Bi h with⟨B,h⟩ |⟨B,h⟩
 iterate 5 refine Of 38 Z Z B Z ?_
 refine qu (Bv true) (Pt Z B Z) (qa (Bv true) (Wz ?_))
 obtain rfl:=oi h
 exact Tj ⟨lr,Z,i,Z,Z⟩
 refine qo 38 B (pt b 1) (Fa fo25_1 i Z) (qo 38 B (Iv a0.From) (Lb 0 pl3 Z Z Z) (qo 38 B (pt b 2) (Fa fo25_2 i Z) (qo 38 B (Iv a0.To) (Lb 0 pl3 Z Z Z) (qo 38 B (Bv (decide (a0.From=a0.To))) (eql Z Z) (qu (Bv (decide (a0.From=a0.To))) (Pf Z B Z) (qa (Bv (decide (a0.From=a0.To))) (Wz ?_)))))))
 obtain rfl:=oi h
 exact Tj ⟨lr,Z,i,Z,Z⟩
 rintro v1 q8 v2 ⟨i1,rfl,C,b6,c9⟩
 have n4:=c7.trans i1
 refine Ch h c9 (fun n5 h=> ?_) (fun n5 h=> ?_)
 refine Sr (qu (pt b 1) (Fa fo25_1 C Z) (qu (Iv a0.From) (Lb 0 pl3 Z Z Z) ?_))
 obtain ⟨n6,n7,h⟩:=bnd h
 refine We (Ca co30 (f_fault_New_ok ⟨#[102,114,111,109]⟩ a0.From (2:Int) _ n6 n7) (args3 Z Z Z)) Z ?_
 rintro _ v3 _ i2 ⟨_,⟨rfl,rfl⟩,rfl⟩
 exact WL.a0 (qa (GV n6) (Nt (Cr (Br (Tr (Dr (Rf h [] Z (Rs Z Z) (n4.trans i2) ⟨Z,Z⟩)))))))
 obtain ⟨i3,n8,h⟩:=bnd h
 refine Jf (fun(i3:Bool) ρ' M' H'=>q8.le M'∧[(b, .cells (l25 a0 d g).toArray 25 (0,0))]::F=H'∧ρ' 1=(pt b 0)∧ρ' 3=(.func (.func 47) #[] #[(pt b 0)])∧ρ' 48=(Bv i3)) i3 ?_ ?_
 have h:=n8
 refine Cg (qu (pt b 3) (Fa fo25_3 C Z) (qu (Iv a0.Term) (Lb 0 pl3 Z Z Z) (qu (Bv (decide (a0.Term<0))) (lss Z Z) (qm (Bv (decide (a0.Term<0))) ?_))))
 rcases Bi h with⟨Q,h⟩ |⟨Q,h⟩
 iterate 3 refine Of 52 Z Z Q Z ?_
 refine qu (Bv true) (Pt Z Q Z) (qa (Bv true) (Wz ?_))
 obtain rfl:=oi h
 exact Tj ⟨lr,Z,C,b6,Z⟩
 refine qo 52 Q (pt b 3) (Fa fo25_3 C Z) (qo 52 Q (Iv a0.Term) (Lb 0 pl3 Z Z Z) (qo 52 Q (Bv (decide ((1073741824:Int)<a0.Term))) (gtr Z Z) (qu (Bv (decide ((1073741824:Int)<a0.Term))) (Pf Z Q Z) (qa (Bv (decide ((1073741824:Int)<a0.Term))) (Wz ?_)))))
 obtain rfl:=oi h
 exact Tj ⟨lr,Z,C,b6,Z⟩
 rintro v4 q9 v5 ⟨i4,rfl,o,s,d0⟩
 have e8:=n4.trans i4
 refine Ch h d0 (fun n9 h=> ?_) (fun n9 h=> ?_)
 refine Sr (qu (pt b 3) (Fa fo25_3 o Z) (qu (Iv a0.Term) (Lb 0 pl3 Z Z Z) ?_))
 obtain ⟨o0,o1,h⟩:=bnd h
 refine We (Ca co30 (f_fault_New_ok ⟨#[116,101,114,109]⟩ a0.Term (2:Int) _ o0 o1) (args3 Z Z Z)) Z ?_
 rintro _ v6 _ i5 ⟨_,⟨rfl,rfl⟩,rfl⟩
 exact WL.a0 (qa (GV o0) (Nt (Cr (Br (Tr (Dr (Rf h [] Z (Rs Z Z) (e8.trans i5) ⟨Z,Z⟩)))))))
 obtain ⟨i6,o2,h⟩:=bnd h
 refine Jf (fun(i6:Bool) ρ' M' H'=>q9.le M'∧[(b, .cells (l25 a0 d g).toArray 25 (0,0))]::F=H'∧ρ' 1=(pt b 0)∧ρ' 3=(.func (.func 47) #[] #[(pt b 0)])∧ρ' 60=(Bv i6)) i6 ?_ ?_
 have h:=o2
 refine Cg (qM (.func (.func 47) #[] #[(pt b 0)]) s ?_)
 obtain ⟨i7,o3,h⟩:=bnd h
 have a:=a.mono e8
 have c:=c.mono e8
 refine We (callV1 (first:=#[]) (cap:=#[(pt b 0)]) co47 Z (f_rpc_Check_1_ok (1:Int) a0 _ _ _ _ a c i7 o3) (argsV1 Z Z)) Z ?_
 rintro _ v7 _ u ⟨_,⟨rfl,rfl⟩,rfl⟩
 refine WL.a1 (qu (Bv (!i7)) (PO.not Z) (qm (Bv (!i7)) ?_))
 rcases Bi h with⟨W,h⟩ |⟨W,h⟩
 refine qo 64 W (pt b 4) (Fa fo25_4 o Z) (qo 64 W (Bv a0.Pre) (Lb 0 pl4 Z Z Z) (qu (Bv a0.Pre) (Pt Z W Z) (qm (Bv a0.Pre) ?_)))
 rcases Bi h with⟨x,h⟩ |⟨x,h⟩
 iterate 4 refine Of 68 Z Z x Z ?_
 refine WL.offU 72 Z Z Z (WL.offU 72 Z Z Z (Of 68 Z Z x Z (qu (Bv true) (Pt Z x Z) (qa (Bv true) (Wz ?_)))))
 obtain rfl:=oi h
 exact Tj ⟨u,Z,o,s,Z⟩
 refine On 68 Z Z x (qM (.func (.func 47) #[] #[(pt b 0)]) s (On 68 Z Z x ?_))
 obtain ⟨i8,o4,h⟩:=bnd h
 have a:=a.mono u
 have c:=c.mono u
 refine We (callV1 (first:=#[]) (cap:=#[(pt b 0)]) co47 Z (f_rpc_Check_1_ok (2:Int) a0 _ _ _ _ a c i8 o4) (argsV1 Z Z)) Z ?_
 rintro _ v8 _ d1 ⟨_,⟨rfl,rfl⟩,rfl⟩
 refine WL.a1 (qo 68 x (Bv (!i8)) (PO.not Z) (On 68 Z Z x (qm (Bv (!i8)) ?_)))
 rcases Bi h with⟨X,h⟩ |⟨X,h⟩
 refine qo 72 X (pt b 5) (Fa fo25_5 o Z) (qo 72 X (Bv a0.Ok) (Lb 0 pl4 Z Z Z) (qo 68 x (Bv a0.Ok) (Pt Z X Z) (qu (Bv a0.Ok) (Pf Z x Z) (qa (Bv a0.Ok) (Wz ?_)))))
 obtain rfl:=oi h
 exact Tj ⟨(u.trans d1),Z,o,s,Z⟩
 iterate 2 refine Of 72 Z Z X Z ?_
 refine qo 68 x (Bv false) (Pf Z X Z) (qu (Bv false) (Pf Z x Z) (qa (Bv false) (Wz ?_)))
 obtain rfl:=oi h
 exact Tj ⟨(u.trans d1),Z,o,s,Z⟩
 iterate 2 refine Of 64 Z Z W Z ?_
 refine qu (Bv false) (Pf Z W Z) (qm (Bv false) (On 68 Z Z Z (qM (.func (.func 47) #[] #[(pt b 0)]) s (On 68 Z Z Z ?_))))
 obtain ⟨i9,o5,h⟩:=bnd h
 have a:=a.mono u
 have c:=c.mono u
 refine We (callV1 (first:=#[]) (cap:=#[(pt b 0)]) co47 Z (f_rpc_Check_1_ok (2:Int) a0 _ _ _ _ a c i9 o5) (argsV1 Z Z)) Z ?_
 rintro _ v9 _ d2 ⟨_,⟨rfl,rfl⟩,rfl⟩
 refine WL.a1 (qo 68 Z (Bv (!i9)) (PO.not Z) (On 68 Z Z Z (qm (Bv (!i9)) ?_)))
 rcases Bi h with⟨Y,h⟩ |⟨Y,h⟩
 refine qo 72 Y (pt b 5) (Fa fo25_5 o Z) (qo 72 Y (Bv a0.Ok) (Lb 0 pl4 Z Z Z) (qo 68 Z (Bv a0.Ok) (Pt Z Y Z) (qu (Bv a0.Ok) (Pf Z Z Z) (qa (Bv a0.Ok) (Wz ?_)))))
 obtain rfl:=oi h
 exact Tj ⟨(u.trans d2),Z,o,s,Z⟩
 iterate 2 refine Of 72 Z Z Y Z ?_
 refine qo 68 Z (Bv false) (Pf Z Y Z) (qu (Bv false) (Pf Z Z Z) (qa (Bv false) (Wz ?_)))
 obtain rfl:=oi h
 exact Tj ⟨(u.trans d2),Z,o,s,Z⟩
 rintro w0 w1 w2 ⟨j0,rfl,p,D,d3⟩
 have e9:=e8.trans j0
 refine Ch h d3 (fun o6 h=> ?_) (fun o6 h=> ?_)
 refine Sr ?_
 obtain ⟨o7,o8,h⟩:=bnd h
 refine We (Ca co30 (f_fault_New_ok ⟨#[102,108,97,103]⟩ (1:Int) (1:Int) _ o7 o8) (args3 Z Z Z)) Z ?_
 rintro _ w3 _ j1 ⟨_,⟨rfl,rfl⟩,rfl⟩
 exact WL.a0 (qa (GV o7) (Nt (Cr (Br (Tr (Dr (Rf h [] Z (Rs Z Z) (e9.trans j1) ⟨Z,Z⟩)))))))
 refine Cs (WC.draw [0,1,0,4,15,31,63] (.pure 0 (.pure 1 (.pure 2 (.alt 3 (.alt 4 (.pure 5 (.pure 6 .done)) .none) .none)))) mixed (by kernel_rfl) (qt (pt b 6) Z (Fa fo25_6 p Z) (qt (Iv a0.Leader) Z (Lb 0 pl3 Z Z Z) (qt (.func (.func 47) #[] #[(pt b 0)]) Z (Mv D) ?_))))
 obtain ⟨o9,p0,h⟩:=bnd h
 have a:=a.mono e9
 have c:=c.mono e9
 refine Ta Z (callV1 (first:=#[]) (cap:=#[(pt b 0)]) co47 Z (f_rpc_Check_1_ok (4:Int) a0 _ _ _ _ a c o9 p0) (argsV1 Z Z)) Z ?_ ?_
 rintro _ w4 _ R ⟨_,⟨rfl,rfl⟩,rfl⟩
 have r0:=e9.trans R
 refine⟨(Sk 1 Z (Ss Z (Lb 0 pl3 Z Z Z) Z (Ss Z (Fa fo25_6 p Z) Z trivial))), ?_⟩
 refine WT.a1 ?_
 obtain ⟨j2,p1,h⟩:=bnd h
 refine Ta Z (Ca co48 (f_rpc_number_ok a0.Leader o9 (1073741824:Int) _ j2 p1) (args3 Z Z Z)) Z ?_ ?_
 rintro _ r1 _ S ⟨_,⟨rfl,rfl⟩,rfl⟩
 have p2:=r0.trans S
 refine⟨(Sl Z), ?_⟩
 refine WT.a0 (qt (Bv (!j2)) Z (PO.not Z) (qt (Bv (!j2)) Z (Ag Z) (Ti (Tc (Ch h Z (fun p3 h=> ?_) (fun p3 h=> ?_))))))
 refine Sr (qu (pt b 6) (Fa fo25_6 p Z) (qu (Iv a0.Leader) (Lb 0 pl3 Z Z Z) ?_))
 obtain ⟨p4,p5,h⟩:=bnd h
 refine We (Ca co30 (f_fault_New_ok ⟨#[108,101,97,100,101,114]⟩ a0.Leader (2:Int) _ p4 p5) (args3 Z Z Z)) Z ?_
 rintro _ w5 _ j3 ⟨_,⟨rfl,rfl⟩,rfl⟩
 exact WL.a0 (qa (GV p4) (Nt (Cr (Br (Tr (Dr (Rf h [] Z (Rs Z Z) (p2.trans j3) ⟨Z,Z⟩)))))))
 obtain ⟨j4,p6,h⟩:=bnd h
 refine Jf (fun(j4:Bool) ρ' M' H'=>r1.le M'∧[(b, .cells (l25 a0 d g).toArray 25 (0,0))]::F=H'∧ρ' 1=(pt b 0)∧ρ' 3=(.func (.func 47) #[] #[(pt b 0)])∧ρ' 88=(Bv j4)) j4 ?_ ?_
 have h:=p6
 refine WC.draw [0,1,0,4,15,31,63,127,255,127,639,2047,4095,8191,16383] (.pure 0 (.pure 1 (.pure 2 (.alt 3 (.alt 4 (.pure 5 (.pure 6 (.pure 7 (.pure 8 (.pure 9 (.alt 10 (.alt 11 (.pure 12 (.pure 13 (.pure 14 .done))) .none) .none)))))) .none) .none)))) mixed (by kernel_rfl) (qt (pt b 7) Z (Fa fo25_7 p Z) (qt (Iv a0.At) Z (Lb 0 pl3 Z Z Z) (qt (.func (.func 47) #[] #[(pt b 0)]) Z (Mv D) ?_)))
 obtain ⟨p7,p8,h⟩:=bnd h
 have a:=a.mono (R.trans S)
 have c:=c.mono (R.trans S)
 refine Ta Z (callV1 (first:=#[]) (cap:=#[(pt b 0)]) co47 Z (f_rpc_Check_1_ok (8:Int) a0 _ _ _ _ a c p7 p8) (argsV1 Z Z)) Z ?_ ?_
 rintro _ w6 _ E ⟨_,⟨rfl,rfl⟩,rfl⟩
 refine⟨(Sk 1 Z (Ss Z (Lb 0 pl3 Z Z Z) Z (Ss Z (Fa fo25_7 p Z) Z trivial))), ?_⟩
 refine WT.a1 ?_
 obtain ⟨d4,j5,h⟩:=bnd h
 refine Ta Z (Ca co48 (f_rpc_number_ok a0.At p7 (1073741824:Int) _ d4 j5) (args3 Z Z Z)) Z ?_ ?_
 rintro _ r3 _ G ⟨_,⟨rfl,rfl⟩,rfl⟩
 refine⟨(Sl Z), ?_⟩
 refine WT.a0 (qt (Bv (!d4)) Z (PO.not Z) (qt (Bv (!d4)) Z (Mv Z) ?_))
 rcases Bi h with⟨e,h⟩ |⟨e,h⟩
 refine Tf 95 Z Z Z e Z (Tf 95 Z Z Z e Z (Tf 95 Z Z Z e Z (Tg 95 Z Z Z e Z ⟨(Sk 1 Z (St (Sf 95 Z Z Z e Z) (St (Sf 95 Z Z Z e Z) (Sl Z)))), ?_⟩ ?_)))
 refine Tg 95 Z Z Z e Z ⟨(Sl Z), ?_⟩ ?_
 refine Tf 95 Z Z Z e Z (qt (Bv true) Z (Pt Z e Z) (qt (Bv true) Z (Ag Z) (Ti ?_)))
 obtain rfl:=oi h
 exact Tj ⟨(E.trans G),Z,p,D,Z⟩
 exact Tz
 exact Tz
 refine Tn (pt b 8) 95 Z Z Z e (Fa fo25_8 p Z) Z (Tn (Iv a0.AtTerm) 95 Z Z Z e (Lb 0 pl3 Z Z Z) Z (Tn (.func (.func 47) #[] #[(pt b 0)]) 95 Z Z Z e (Mv D) Z ?_))
 obtain ⟨g4,j6,h⟩:=bnd h
 have a:=a.mono (E.trans G)
 have c:=c.mono (E.trans G)
 refine WT.altOn 95 Z Z Z e (callV1 (first:=#[]) (cap:=#[(pt b 0)]) co47 Z (f_rpc_Check_1_ok (8:Int) a0 _ _ _ _ a c g4 j6) (argsV1 Z Z)) Z ?_ ?_
 rintro _ r4 _ f0 ⟨_,⟨rfl,rfl⟩,rfl⟩
 refine⟨(Sk 1 Z (St (StabA.on 95 Z Z Z e (Lb 0 pl3 Z Z Z) Z) (St (StabA.on 95 Z Z Z e (Fa fo25_8 p Z) Z) (Sl Z)))), ?_⟩
 refine WT.a1 ?_
 obtain ⟨b7,j7,h⟩:=bnd h
 refine WT.altOn 95 Z Z Z e (Ca co48 (f_rpc_number_ok a0.AtTerm g4 (1073741824:Int) _ b7 j7) (args3 Z Z Z)) Z ?_ ?_
 rintro _ r5 _ f1 ⟨_,⟨rfl,rfl⟩,rfl⟩
 refine⟨(Sl Z), ?_⟩
 refine WT.a0 (Tn (Bv (!b7)) 95 Z Z Z e (PO.not Z) Z (qt (Bv (!b7)) Z (Pf Z e Z) (qt (Bv (!b7)) Z (Ag Z) (Ti ?_))))
 obtain rfl:=oi h
 exact Tj ⟨(((E.trans G).trans f0).trans f1),Z,p,D,Z⟩
 exact Tz
 exact Tz
 exact Tz
 exact Tz
 rintro w7 w8 w9 ⟨b2,rfl,j,z,d5⟩
 have p9:=p2.trans b2
 refine Ch h d5 (fun j8 h=> ?_) (fun j8 h=> ?_)
 refine Sr (qu (pt b 7) (Fa fo25_7 j Z) (qu (Iv a0.At) (Lb 0 pl3 Z Z Z) ?_))
 obtain ⟨g5,j9,h⟩:=bnd h
 refine We (Ca co30 (f_fault_New_ok ⟨#[112,108,97,99,101]⟩ a0.At (2:Int) _ g5 j9) (args3 Z Z Z)) Z ?_
 rintro _ r6 _ f2 ⟨_,⟨rfl,rfl⟩,rfl⟩
 exact WL.a0 (qa (GV g5) (Nt (Cr (Br (Tr (Dr (Rf h [] Z (Rs Z Z) (p9.trans f2) ⟨Z,Z⟩)))))))
 refine Cs (WC.draw [0,1,0,4,15,31,63] (.pure 0 (.pure 1 (.pure 2 (.alt 3 (.alt 4 (.pure 5 (.pure 6 .done)) .none) .none)))) mixed (by kernel_rfl) (qt (pt b 9) Z (Fa fo25_9 j Z) (qt (Iv a0.High) Z (Lb 0 pl3 Z Z Z) (qt (.func (.func 47) #[] #[(pt b 0)]) Z (Mv z) ?_))))
 obtain ⟨g6,k0,h⟩:=bnd h
 have a:=a.mono ((R.trans S).trans b2)
 have c:=c.mono ((R.trans S).trans b2)
 refine Ta Z (callV1 (first:=#[]) (cap:=#[(pt b 0)]) co47 Z (f_rpc_Check_1_ok (16:Int) a0 _ _ _ _ a c g6 k0) (argsV1 Z Z)) Z ?_ ?_
 rintro _ r7 _ a3 ⟨_,⟨rfl,rfl⟩,rfl⟩
 have q0:=p9.trans a3
 refine⟨(Sk 1 Z (Ss Z (Lb 0 pl3 Z Z Z) Z (Ss Z (Fa fo25_9 j Z) Z trivial))), ?_⟩
 refine WT.a1 ?_
 obtain ⟨d6,k1,h⟩:=bnd h
 refine Ta Z (Ca co48 (f_rpc_number_ok a0.High g6 (1073741824:Int) _ d6 k1) (args3 Z Z Z)) Z ?_ ?_
 rintro _ r8 _ a4 ⟨_,⟨rfl,rfl⟩,rfl⟩
 have g7:=q0.trans a4
 refine⟨(Sl Z), ?_⟩
 refine WT.a0 (qt (Bv (!d6)) Z (PO.not Z) (qt (Bv (!d6)) Z (Ag Z) (Ti (Tc (Ch h Z (fun k2 h=> ?_) (fun k2 h=> ?_))))))
 refine Sr (qu (pt b 9) (Fa fo25_9 j Z) (qu (Iv a0.High) (Lb 0 pl3 Z Z Z) ?_))
 obtain ⟨g8,k3,h⟩:=bnd h
 refine We (Ca co30 (f_fault_New_ok ⟨#[104,105,103,104]⟩ a0.High (2:Int) _ g8 k3) (args3 Z Z Z)) Z ?_
 rintro _ r9 _ f3 ⟨_,⟨rfl,rfl⟩,rfl⟩
 exact WL.a0 (qa (GV g8) (Nt (Cr (Br (Tr (Dr (Rf h [] Z (Rs Z Z) (g7.trans f3) ⟨Z,Z⟩)))))))
 refine Cs (WC.draw [0,1,0,4,15,31,63] (.pure 0 (.pure 1 (.pure 2 (.alt 3 (.alt 4 (.pure 5 (.pure 6 .done)) .none) .none)))) mixed (by kernel_rfl) (qt (pt b 10) Z (Fa fo25_10 j Z) (qt (Iv a0.Code) Z (Lb 0 pl3 Z Z Z) (qt (.func (.func 47) #[] #[(pt b 0)]) Z (Mv z) ?_))))
 obtain ⟨g9,k4,h⟩:=bnd h
 have a:=a.mono (a3.trans a4)
 have c:=c.mono (a3.trans a4)
 refine Ta Z (callV1 (first:=#[]) (cap:=#[(pt b 0)]) co47 Z (f_rpc_Check_1_ok (32:Int) a0 _ _ _ _ a c g9 k4) (argsV1 Z Z)) Z ?_ ?_
 rintro _ s0 _ b8 ⟨_,⟨rfl,rfl⟩,rfl⟩
 have q1:=g7.trans b8
 refine⟨(Sk 1 Z (Ss Z (Lb 0 pl3 Z Z Z) Z (Ss Z (Fa fo25_10 j Z) Z trivial))), ?_⟩
 refine WT.a1 ?_
 obtain ⟨d7,k5,h⟩:=bnd h
 refine Ta Z (Ca co48 (f_rpc_number_ok a0.Code g9 (21:Int) _ d7 k5) (args3 Z Z Z)) Z ?_ ?_
 rintro _ q2 _ b9 ⟨_,⟨rfl,rfl⟩,rfl⟩
 have d8:=b8.trans b9
 have c0:=q1.trans b9
 refine⟨(Sl Z), ?_⟩
 refine WT.a0 (qt (Bv (!d7)) Z (PO.not Z) (qt (Bv (!d7)) Z (Ag Z) (Ti (Tc (Ch h Z (fun k6 h=> ?_) (fun k6 h=> ?_))))))
 refine Sr (qu (pt b 10) (Fa fo25_10 j Z) (qu (Iv a0.Code) (Lb 0 pl3 Z Z Z) ?_))
 obtain ⟨h0,k7,h⟩:=bnd h
 refine We (Ca co30 (f_fault_New_ok ⟨#[99,111,100,101]⟩ a0.Code (2:Int) _ h0 k7) (args3 Z Z Z)) Z ?_
 rintro _ s1 _ f4 ⟨_,⟨rfl,rfl⟩,rfl⟩
 exact WL.a0 (qa (GV h0) (Nt (Cr (Br (Tr (Dr (Rf h [] Z (Rs Z Z) (c0.trans f4) ⟨Z,Z⟩)))))))
 obtain ⟨d9,k8,h⟩:=bnd h
 refine Jf (fun(d9:Bool) ρ' M' H'=>q2.le M'∧[(b, .cells (l25 a0 d g).toArray 25 (0,0))]::F=H'∧ρ' 1=(pt b 0)∧ρ' 3=(.func (.func 47) #[] #[(pt b 0)])∧ρ' 126=(Bv d9)) d9 ?_ ?_
 have h:=k8
 refine WC.draw [0,1,0,4,15,31,63,127,255,127,639,2047,4095,8191,16383] (.pure 0 (.pure 1 (.pure 2 (.alt 3 (.alt 4 (.pure 5 (.pure 6 (.pure 7 (.pure 8 (.pure 9 (.alt 10 (.alt 11 (.pure 12 (.pure 13 (.pure 14 .done))) .none) .none)))))) .none) .none)))) mixed (by kernel_rfl) (qt (pt b 12) Z (Fa fo25_12 j Z) (qt (Iv a0.Size) Z (Lb 0 pl3 Z Z Z) (qt (.func (.func 47) #[] #[(pt b 0)]) Z (Mv z) ?_)))
 obtain ⟨h1,k9,h⟩:=bnd h
 have a:=a.mono d8
 have c:=c.mono d8
 refine Ta Z (callV1 (first:=#[]) (cap:=#[(pt b 0)]) co47 Z (f_rpc_Check_1_ok (128:Int) a0 _ _ _ _ a c h1 k9) (argsV1 Z Z)) Z ?_ ?_
 rintro _ s2 _ I ⟨_,⟨rfl,rfl⟩,rfl⟩
 refine⟨(Sk 1 Z (Ss Z (Lb 0 pl3 Z Z Z) Z (Ss Z (Fa fo25_12 j Z) Z trivial))), ?_⟩
 refine WT.a1 ?_
 obtain ⟨e0,l0,h⟩:=bnd h
 refine Ta Z (Ca co48 (f_rpc_number_ok a0.Size h1 (1073741824:Int) _ e0 l0) (args3 Z Z Z)) Z ?_ ?_
 rintro _ s3 _ J ⟨_,⟨rfl,rfl⟩,rfl⟩
 refine⟨(Sl Z), ?_⟩
 refine WT.a0 (qt (Bv (!e0)) Z (PO.not Z) (qt (Bv (!e0)) Z (Mv Z) ?_))
 rcases Bi h with⟨f,h⟩ |⟨f,h⟩
 refine Tf 133 Z Z Z f Z (Tf 133 Z Z Z f Z (Tf 133 Z Z Z f Z (Tg 133 Z Z Z f Z ⟨(Sk 1 Z (St (Sf 133 Z Z Z f Z) (St (Sf 133 Z Z Z f Z) (Sl Z)))), ?_⟩ ?_)))
 refine Tg 133 Z Z Z f Z ⟨(Sl Z), ?_⟩ ?_
 refine Tf 133 Z Z Z f Z (qt (Bv true) Z (Pt Z f Z) (qt (Bv true) Z (Ag Z) (Ti ?_)))
 obtain rfl:=oi h
 exact Tj ⟨(I.trans J),Z,j,z,Z⟩
 exact Tz
 exact Tz
 refine Tn (pt b 13) 133 Z Z Z f (Fa fo25_13 j Z) Z (Tn (Iv a0.Pos) 133 Z Z Z f (Lb 0 pl3 Z Z Z) Z (Tn (.func (.func 47) #[] #[(pt b 0)]) 133 Z Z Z f (Mv z) Z ?_))
 obtain ⟨h2,l1,h⟩:=bnd h
 have a:=a.mono (I.trans J)
 have c:=c.mono (I.trans J)
 refine WT.altOn 133 Z Z Z f (callV1 (first:=#[]) (cap:=#[(pt b 0)]) co47 Z (f_rpc_Check_1_ok (256:Int) a0 _ _ _ _ a c h2 l1) (argsV1 Z Z)) Z ?_ ?_
 rintro _ s4 _ f5 ⟨_,⟨rfl,rfl⟩,rfl⟩
 refine⟨(Sk 1 Z (St (StabA.on 133 Z Z Z f (Lb 0 pl3 Z Z Z) Z) (St (StabA.on 133 Z Z Z f (Fa fo25_13 j Z) Z) (Sl Z)))), ?_⟩
 refine WT.a1 ?_
 obtain ⟨c1,l2,h⟩:=bnd h
 refine WT.altOn 133 Z Z Z f (Ca co48 (f_rpc_number_ok a0.Pos h2 (1073741824:Int) _ c1 l2) (args3 Z Z Z)) Z ?_ ?_
 rintro _ s5 _ f6 ⟨_,⟨rfl,rfl⟩,rfl⟩
 refine⟨(Sl Z), ?_⟩
 refine WT.a0 (Tn (Bv (!c1)) 133 Z Z Z f (PO.not Z) Z (qt (Bv (!c1)) Z (Pf Z f Z) (qt (Bv (!c1)) Z (Ag Z) (Ti ?_))))
 obtain rfl:=oi h
 exact Tj ⟨(((I.trans J).trans f5).trans f6),Z,j,z,Z⟩
 exact Tz
 exact Tz
 exact Tz
 exact Tz
 rintro s6 q3 s7 ⟨c2,rfl,q,T,b3⟩
 have h3:=d8.trans c2
 have c3:=c0.trans c2
 refine Ch h b3 (fun l3 h=> ?_) (fun l3 h=> ?_)
 refine Sr (qu (pt b 12) (Fa fo25_12 q Z) (qu (Iv a0.Size) (Lb 0 pl3 Z Z Z) ?_))
 obtain ⟨h4,l4,h⟩:=bnd h
 refine We (Ca co30 (f_fault_New_ok ⟨#[115,105,122,101]⟩ a0.Size (2:Int) _ h4 l4) (args3 Z Z Z)) Z ?_
 rintro _ s8 _ f7 ⟨_,⟨rfl,rfl⟩,rfl⟩
 exact WL.a0 (qa (GV h4) (Nt (Cr (Br (Tr (Dr (Rf h [] Z (Rs Z Z) (c3.trans f7) ⟨Z,Z⟩)))))))
 obtain ⟨e1,l5,h⟩:=bnd h
 refine Jf (fun(e1:Bool) ρ' M' H'=>q3.le M'∧[(b, .cells (l25 a0 d g).toArray 25 (0,0))]::F=H'∧ρ' 1=(pt b 0)∧ρ' 3=(.func (.func 47) #[] #[(pt b 0)])∧ρ' 144=(Bv e1)) e1 ?_ ?_
 have h:=l5
 refine Cg (qu (pt b 14) (Fa fo25_14 q Z) (qu g (Lb 0 pl23 Z Z Z) ?_))
 have c:=c.mono h3
 refine qu (Iv (a0.Data.length:Int)) (lenS underlying23 Z c.len) (qu (Bv (decide ((512:Int)<(a0.Data.length:Int)))) (gtr Z Z) (qm (Bv (decide ((512:Int)<(a0.Data.length:Int)))) ?_))
 rcases Bi h with⟨l,h⟩ |⟨l,h⟩
 iterate 5 refine Of 149 Z Z l Z ?_
 refine WL.offU 154 Z Z Z (WL.offU 154 Z Z Z (WL.offU 154 Z Z Z (Of 149 Z Z l Z (qu (Bv true) (Pt Z l Z) (qa (Bv true) (Wz ?_))))))
 obtain rfl:=oi h
 exact Tj ⟨lr,Z,q,T,Z⟩
 refine qo 149 l (pt b 14) (Fa fo25_14 q Z) (qo 149 l g (Lb 0 pl23 Z Z Z) (qo 149 l (Iv (a0.Data.length:Int)) (lenS underlying23 Z c.len) (qo 149 l (Bv (decide ((0:Int)<(a0.Data.length:Int)))) (gtr Z Z) (On 149 Z Z l (qm (Bv (decide ((0:Int)<(a0.Data.length:Int)))) ?_)))))
 rcases Bi h with⟨A,h⟩ |⟨A,h⟩
 refine qo 154 A (pt b 0) (Fa fo25_0 q Z) (qo 154 A (Iv a0.Kind) (Lb 0 pl3 Z Z Z) (qo 154 A (Bv (decide (a0.Kind≠8))) (neq Z Z) (qo 149 l (Bv (decide (a0.Kind≠8))) (Pt Z A Z) (qu (Bv (decide (a0.Kind≠8))) (Pf Z l Z) (qa (Bv (decide (a0.Kind≠8))) (Wz ?_))))))
 obtain rfl:=oi h
 exact Tj ⟨lr,Z,q,T,Z⟩
 iterate 3 refine Of 154 Z Z A Z ?_
 refine qo 149 l (Bv false) (Pf Z A Z) (qu (Bv false) (Pf Z l Z) (qa (Bv false) (Wz ?_)))
 obtain rfl:=oi h
 exact Tj ⟨lr,Z,q,T,Z⟩
 rintro s9 q4 t0 ⟨c4,rfl,t,e2,b4⟩
 have a9:=h3.trans c4
 have c5:=c3.trans c4
 refine Ch h b4 (fun l6 h=> ?_) (fun l6 h=> ?_)
 refine Sr (qu (pt b 14) (Fa fo25_14 t Z) (qu g (Lb 0 pl23 Z Z Z) ?_))
 have c:=c.mono a9
 refine qu (Iv (a0.Data.length:Int)) (lenS underlying23 Z c.len) ?_
 obtain ⟨h5,l7,h⟩:=bnd h
 refine We (Ca co30 (f_fault_New_ok ⟨#[100,97,116,97]⟩ (a0.Data.length:Int) (6:Int) _ h5 l7) (args3 Z Z Z)) Z ?_
 rintro _ t1 _ f8 ⟨_,⟨rfl,rfl⟩,rfl⟩
 exact WL.a0 (qa (GV h5) (Nt (Cr (Br (Tr (Dr (Rf h [] Z (Rs Z Z) (c5.trans f8) ⟨Z,Z⟩)))))))
 obtain ⟨e3,l8,h⟩:=bnd h
 refine Jf (fun(e3:Bool) ρ' M' H'=>q4.le M'∧[(b, .cells (l25 a0 d g).toArray 25 (0,0))]::F=H'∧ρ' 1=(pt b 0)∧ρ' 164=(Bv e3)) e3 ?_ ?_
 have h:=l8
 refine Cg (qu (pt b 11) (Fa fo25_11 t Z) (qu d (Lb 0 pl22 Z Z Z) ?_))
 have a:=a.mono a9
 refine qu (Iv (a0.Batches.length:Int)) (lenS underlying22 Z a.len) (qu (Bv (decide ((8:Int)<(a0.Batches.length:Int)))) (gtr Z Z) (qm (Bv (decide ((8:Int)<(a0.Batches.length:Int)))) ?_))
 rcases Bi h with⟨m,h⟩ |⟨m,h⟩
 iterate 4 refine Of 169 Z Z m Z ?_
 refine WL.offU 173 Z Z Z (WL.offU 173 Z Z Z (WL.offU 173 Z Z Z (WL.offU 173 Z Z Z (Of 169 Z Z m Z (qu (Bv true) (Pt Z m Z) (qa (Bv true) (Wz ?_)))))))
 obtain rfl:=oi h
 exact Tj ⟨lr,Z,t,Z⟩
 refine On 169 Z Z m (qM (.func (.func 47) #[] #[(pt b 0)]) e2 (On 169 Z Z m ?_))
 obtain ⟨e4,l9,h⟩:=bnd h
 have c:=c.mono a9
 refine We (callV1 (first:=#[]) (cap:=#[(pt b 0)]) co47 Z (f_rpc_Check_1_ok (64:Int) a0 _ _ _ _ a c e4 l9) (argsV1 Z Z)) Z ?_
 rintro _ t2 _ a5 ⟨_,⟨rfl,rfl⟩,rfl⟩
 refine WL.a1 (qo 169 m (Bv (!e4)) (PO.not Z) (On 169 Z Z m (qm (Bv (!e4)) ?_)))
 rcases Bi h with⟨y,h⟩ |⟨y,h⟩
 refine qo 173 y (pt b 11) (Fa fo25_11 t Z) (qo 173 y d (Lb 0 pl22 Z Z Z) (On 173 Z Z y ?_))
 have a:=a.mono a5
 refine qu (Iv (a0.Batches.length:Int)) (lenS underlying22 Z a.len) (qo 173 y (Bv (decide ((0:Int)<(a0.Batches.length:Int)))) (gtr Z Z) (qo 169 m (Bv (decide ((0:Int)<(a0.Batches.length:Int)))) (Pt Z y Z) (qu (Bv (decide ((0:Int)<(a0.Batches.length:Int)))) (Pf Z m Z) (qa (Bv (decide ((0:Int)<(a0.Batches.length:Int)))) (Wz ?_)))))
 obtain rfl:=oi h
 exact Tj ⟨a5,Z,t,Z⟩
 iterate 4 refine Of 173 Z Z y Z ?_
 refine qo 169 m (Bv false) (Pf Z y Z) (qu (Bv false) (Pf Z m Z) (qa (Bv false) (Wz ?_)))
 obtain rfl:=oi h
 exact Tj ⟨a5,Z,t,Z⟩
 rintro t3 h6 t4 ⟨a6,rfl,b0,b5⟩
 have e5:=c5.trans a6
 refine Ch h b5 (fun m0 h=> ?_) (fun m0 h=> ?_)
 refine Sr (qu (pt b 11) (Fa fo25_11 b0 Z) (qu d (Lb 0 pl22 Z Z Z) ?_))
 have a:=a.mono (a9.trans a6)
 refine qu (Iv (a0.Batches.length:Int)) (lenS underlying22 Z a.len) ?_
 obtain ⟨h7,m1,h⟩:=bnd h
 refine We (Ca co30 (f_fault_New_ok ⟨#[98,97,116,99,104,101,115]⟩ (a0.Batches.length:Int) (6:Int) _ h7 m1) (args3 Z Z Z)) Z ?_
 rintro _ t5 _ f9 ⟨_,⟨rfl,rfl⟩,rfl⟩
 exact WL.a0 (qa (GV h7) (Nt (Cr (Br (Tr (Dr (Rf h [] Z (Rs Z Z) (e5.trans f9) ⟨Z,Z⟩)))))))
 refine Ck (Bn (Tc ?_))
 obtain ⟨q5,m2,h⟩:=bnd h
 refine WC.joinE (fun(_:Unit) ρ' M' H'=>h6.le M'∧[(b, .cells (l25 a0 d g).toArray 25 (0,0))]::F=H') q5 ?_ ?_
 have m3:=h
 have h:=m2
 refine Sr (qu (pt b 11) (Fa fo25_11 b0 Z) (qu d (Lb 0 pl22 Z Z Z) ?_))
 have a:=a.mono (a9.trans a6)
 refine qu (Iv (a0.Batches.length:Int)) (lenS underlying22 Z a.len) (qm (Iv 0) (Nt (Bk ?_)))
 obtain ⟨t6,m4,e6⟩:=bnd h
 clear h
 refine WC.loop m4 (fun(k:Int) ρ' M' H'=>h6.le M'∧[(b, .cells (l25 a0 d g).toArray 25 (0,0))]::F=H'∧ρ' 185=d∧ρ' 186=(Iv (a0.Batches.length:Int))∧ρ' 187=(Iv k)) ?_ ?_
 exact⟨lr,Z,Z,Z,Z⟩
 rintro k t7 t8 t9 u0 h ⟨K,rfl,U,V,w⟩
 unfold f_rpc_Check_l0 at h
 refine Sr (qu (Bv (decide (k<(a0.Batches.length:Int)))) (lss w V) (Nt (Cs (Ch h Z (fun m5 h=> ?_) (fun m5 h=> ?_)))))
 refine Ck (Tc (Cs (Bk (Sr (qM (Iv k) w ?_)))))
 obtain ⟨a7,h⟩:=grd_i h
 have a:=a.mono K
 obtain ⟨q6,r2,g0,g1,hhas220⟩:=a.at a7.1 a7.2 (by decide)
 obtain ⟨r,rfl,b1⟩:=kd_api_Batch_open g1
 refine qu (.pointer (some q6)) (indexAddr (n:=a0.Batches.length) underlying22 sz55 U w a7.1 a7.2 g0) (qu (a55_ (rd a0.Batches k) r) (loadMA (cs:=(l55 (rd a0.Batches k) r)) ag55 sz55 Z hhas220) (We (Al ze55 Z) Z ?_))
 rintro _ _ _ - ⟨rfl,u1,rfl,rfl⟩
 refine qa (Iv k) (We (Sg (v:=(a55_ (rd a0.Batches k) r)) (vl:=(l55 (rd a0.Batches k) r)) (arr':=(l55 (rd a0.Batches k) r)) Z sz55 Z Z (onesOf (Oc Z (Oc Z (Oc (RS.one b1) Oz)))) Z Z Z) Z ?_)
 rintro _ _ _ - ⟨rfl,rfl⟩
 refine Ns (qu (a55_ (rd a0.Batches k) r) (La (cs:=(l55 (rd a0.Batches k) r)) 0 ag55 sz55 Z Z Z) ?_)
 obtain ⟨a2,m6,h⟩:=bnd h
 refine We (Ca co49 (f_batch_Check_ok (rd a0.Batches k) _ _ b1 a2 m6) (args1 Z)) Z ?_
 rintro _ u2 _ c6 ⟨_,⟨rfl,rfl⟩,rfl⟩
 refine WL.a0 (qa (GV a2) (Ns (qm (GV a2) (qu (Bv (!a2.isNil)) (errNotNil underlying31 Z) (Nt (Ch h Z (fun m7 h=> ?_) (fun m7 h=> ?_)))))))
 refine Sr (qm (Iv k) (qm (GV a2) ?_))
 obtain ⟨e7,m8,h⟩:=bnd h
 refine We (Ca co29 (f_fault_Wrap_ok ⟨#[98,97,116,99,104]⟩ k a2 _ e7 m8) (args3 Z Z Z)) Z ?_
 rintro _ u3 _ g2 ⟨_,⟨rfl,rfl⟩,rfl⟩
 refine WL.a0 (qa (GV e7) (Nt (Cr (Br (Tr (WQ.leaveR (inr e7) (oi h).symm (fun a8=> ?_)))))))
 subst a8
 have h:=(elimR e6)
 refine Br (Tr ?_)
 have h:=KK.early h m3
 exact Dr (Dr (Rf h [] Z (Rs Z Z) (((e5.trans K).trans c6).trans g2) ⟨Z,Z⟩))
 exact Ck (Bn (Tc (Cg (qu (Iv (i64.wrap (k+1))) (add w Z) (qm (Iv (i64.wrap (k+1))) (Wz (Dr (WQ.again (i64.wrap (k+1)) (oi h).symm ⟨(K.trans c6),Z,U,V,Z⟩))))))))
 refine WC.exit (WQ.thenE (WQ.leaveE (inl ()) (oi h).symm (fun a8=> ?_)))
 subst a8
 have h:=elimL e6
 exact WQ.blockH (WQ.thenFE h ⟨K,Z⟩)
 rintro _ u4 u5 u6 rfl ⟨g3,rfl⟩
 have h:=(Sum.elim_inl _ _ _).symm.trans h
 exact Sr (qa (GV GErr.nil) (Nt (Cr (Dr (Rf h [] Z (Rs Z Z) (e5.trans g3) ⟨Z,Z⟩)))))
 exact Tz
 exact Tz
 exact Tz
 exact Tz
 exact Tz
 exact Tz
noncomputable def f_wire_Num (a0:(List Int)) (a1:Int):Option (List Int):=
 (if(decide ((if(4611686018427387903:Int)<a1 then(4611686018427387903:Int)else a1)<(64:Int)))=true then(grd (a0.length+[u8.wrap (if(4611686018427387903:Int)<a1 then(4611686018427387903:Int)else a1)].length≤274877906944) (some (a0++[u8.wrap (if(4611686018427387903:Int)<a1 then(4611686018427387903:Int)else a1)])))else(if(decide ((if(4611686018427387903:Int)<a1 then(4611686018427387903:Int)else a1)<(16384:Int)))=true then(grd (a0.length+[orI .u8 (64:Int) (u8.wrap (shrI .u64 (if(4611686018427387903:Int)<a1 then(4611686018427387903:Int)else a1) (8:Int))),u8.wrap (if(4611686018427387903:Int)<a1 then(4611686018427387903:Int)else a1)].length≤274877906944) (some (a0++[orI .u8 (64:Int) (u8.wrap (shrI .u64 (if(4611686018427387903:Int)<a1 then(4611686018427387903:Int)else a1) (8:Int))),u8.wrap (if(4611686018427387903:Int)<a1 then(4611686018427387903:Int)else a1)])))else(if(decide ((if(4611686018427387903:Int)<a1 then(4611686018427387903:Int)else a1)<(1073741824:Int)))=true then(grd (a0.length+[orI .u8 (128:Int) (u8.wrap (shrI .u64 (if(4611686018427387903:Int)<a1 then(4611686018427387903:Int)else a1) (24:Int))),u8.wrap (shrI .u64 (if(4611686018427387903:Int)<a1 then(4611686018427387903:Int)else a1) (16:Int)),u8.wrap (shrI .u64 (if(4611686018427387903:Int)<a1 then(4611686018427387903:Int)else a1) (8:Int)),u8.wrap (if(4611686018427387903:Int)<a1 then(4611686018427387903:Int)else a1)].length≤274877906944) (some (a0++[orI .u8 (128:Int) (u8.wrap (shrI .u64 (if(4611686018427387903:Int)<a1 then(4611686018427387903:Int)else a1) (24:Int))),u8.wrap (shrI .u64 (if(4611686018427387903:Int)<a1 then(4611686018427387903:Int)else a1) (16:Int)),u8.wrap (shrI .u64 (if(4611686018427387903:Int)<a1 then(4611686018427387903:Int)else a1) (8:Int)),u8.wrap (if(4611686018427387903:Int)<a1 then(4611686018427387903:Int)else a1)])))else(grd (a0.length+[orI .u8 (192:Int) (u8.wrap (shrI .u64 (if(4611686018427387903:Int)<a1 then(4611686018427387903:Int)else a1) (56:Int))),u8.wrap (shrI .u64 (if(4611686018427387903:Int)<a1 then(4611686018427387903:Int)else a1) (48:Int)),u8.wrap (shrI .u64 (if(4611686018427387903:Int)<a1 then(4611686018427387903:Int)else a1) (40:Int)),u8.wrap (shrI .u64 (if(4611686018427387903:Int)<a1 then(4611686018427387903:Int)else a1) (32:Int)),u8.wrap (shrI .u64 (if(4611686018427387903:Int)<a1 then(4611686018427387903:Int)else a1) (24:Int)),u8.wrap (shrI .u64 (if(4611686018427387903:Int)<a1 then(4611686018427387903:Int)else a1) (16:Int)),u8.wrap (shrI .u64 (if(4611686018427387903:Int)<a1 then(4611686018427387903:Int)else a1) (8:Int)),u8.wrap (if(4611686018427387903:Int)<a1 then(4611686018427387903:Int)else a1)].length≤274877906944) (some (a0++[orI .u8 (192:Int) (u8.wrap (shrI .u64 (if(4611686018427387903:Int)<a1 then(4611686018427387903:Int)else a1) (56:Int))),u8.wrap (shrI .u64 (if(4611686018427387903:Int)<a1 then(4611686018427387903:Int)else a1) (48:Int)),u8.wrap (shrI .u64 (if(4611686018427387903:Int)<a1 then(4611686018427387903:Int)else a1) (40:Int)),u8.wrap (shrI .u64 (if(4611686018427387903:Int)<a1 then(4611686018427387903:Int)else a1) (32:Int)),u8.wrap (shrI .u64 (if(4611686018427387903:Int)<a1 then(4611686018427387903:Int)else a1) (24:Int)),u8.wrap (shrI .u64 (if(4611686018427387903:Int)<a1 then(4611686018427387903:Int)else a1) (16:Int)),u8.wrap (shrI .u64 (if(4611686018427387903:Int)<a1 then(4611686018427387903:Int)else a1) (8:Int)),u8.wrap (if(4611686018427387903:Int)<a1 then(4611686018427387903:Int)else a1)]))))))
def f_wire_Num_post (a0:(List Int)) (a1:Int) (d:Value):(List Int)→Value→IM→HL→Prop:=
 fun(c:(List Int)) (v:Value) (M':IM) (H':HL)=>∃ a b,a=v∧H'=[b]∧OwnS (Kd.int .u8) M' a c b
theorem f_wire_Num_ok (a0:(List Int)) (a1:Int) (M:IM) (a:Value) (E:Chunk) (v:OwnS (Kd.int .u8) M a a0 E) (res:(List Int)) (h:f_wire_Num a0 a1=some res):
 Tri prog 66 #[a,(Uv a1)] M [E] (f_wire_Num_post a0 a1 a res):=by
 unfold f_wire_Num at h
 refine Te func66 Z Z ?_
 intro F ρ hρ
 refine Sr (qa Zs (Ns (qM (Uv a1) (hρ 1) (qu (Uv (mn 4611686018427387903 a1)) (PO.min Z Z) (qa (Uv (mn 4611686018427387903 a1)) (Nt (Cs (Bk (Sr (qm (Uv (mn 4611686018427387903 a1)) (qu (Bv (decide ((mn 4611686018427387903 a1)<64))) (lss Z Z) ?_)))))))))))
 refine qa (Bv (decide ((mn 4611686018427387903 a1)<64))) (Nt (Ch h Z (fun b h=> ?_) (fun b h=> ?_)))
 refine Sr (qM a (hρ 0) (qm (Uv (mn 4611686018427387903 a1)) (qu (Yv (u8.wrap (mn 4611686018427387903 a1))) (conv us105 underlying5 Z) (We (buildSliceL (cl:=[(Yv (u8.wrap (mn 4611686018427387903 a1)))]) underlying23 iz5 Z (Pc (Yv (u8.wrap (mn 4611686018427387903 a1))) Z Z Pz) Z) Z ?_))))
 rintro _ _ _ - ⟨rfl,c,rfl,rfl⟩
 have w:OwnS (Kd.int .u8) M (.slice (some ⟨c,0,none⟩) 1 1) [u8.wrap (mn 4611686018427387903 a1)] [(c, .cells #[(Yv (u8.wrap (mn 4611686018427387903 a1)))] 5 (0,0))]:=OwnS.rows (css:=[[(Yv (u8.wrap (mn 4611686018427387903 a1)))]]) (Rows.cons Z Rows.nil) Z Z
 obtain ⟨d,h⟩:=grd_i h
 refine WL.f1 (We (append (dd:=(Kd.int .u8)) (xs:=a0) (ys:=[u8.wrap (mn 4611686018427387903 a1)]) underlying23 underlying23 in5 Z (appB (by decide) d) (by decide) Z Z v (w.src 1 Z)) Z ?_)
 rintro e _ _ - ⟨rfl,f,rfl,x⟩
 exact qa e (Nt (Cr (Br (Tr (Qa (Dr (Rf h [f] Z (Rs Z Z) lr ⟨e,f,Z,Z,x⟩)))))))
 refine Sr (qm (Uv (mn 4611686018427387903 a1)) (qu (Bv (decide ((mn 4611686018427387903 a1)<16384))) (lss Z Z) (qa (Bv (decide ((mn 4611686018427387903 a1)<16384))) (Nt (Ch h Z (fun g h=> ?_) (fun g h=> ?_))))))
 refine Sr (qM a (hρ 0) (qm (Uv (mn 4611686018427387903 a1)) (qu (Uv (shrI .u64 (mn 4611686018427387903 a1) (8:Int))) (shr Z Z (by decide)) (qu (Yv (u8.wrap (shrI .u64 (mn 4611686018427387903 a1) (8:Int)))) (conv us105 underlying5 Z) (qu (Yv (orI .u8 64 (u8.wrap (shrI .u64 (mn 4611686018427387903 a1) (8:Int))))) (PO.or Z Z) (qm (Uv (mn 4611686018427387903 a1)) (qu (Yv (u8.wrap (mn 4611686018427387903 a1))) (conv us105 underlying5 Z) (We (buildSliceL (cl:=[(Yv (orI .u8 64 (u8.wrap (shrI .u64 (mn 4611686018427387903 a1) (8:Int))))),(Yv (u8.wrap (mn 4611686018427387903 a1)))]) underlying23 iz5 Z (Pc (Yv (orI .u8 64 (u8.wrap (shrI .u64 (mn 4611686018427387903 a1) (8:Int))))) Z Z (Pc (Yv (u8.wrap (mn 4611686018427387903 a1))) Z Z Pz)) Z) Z ?_))))))))
 rintro _ _ _ - ⟨rfl,i,rfl,rfl⟩
 have y:OwnS (Kd.int .u8) M (.slice (some ⟨i,0,none⟩) 2 2) [orI .u8 64 (u8.wrap (shrI .u64 (mn 4611686018427387903 a1) (8:Int))),u8.wrap (mn 4611686018427387903 a1)] [(i, .cells #[(Yv (orI .u8 64 (u8.wrap (shrI .u64 (mn 4611686018427387903 a1) (8:Int))))),(Yv (u8.wrap (mn 4611686018427387903 a1)))] 5 (0,0))]:=OwnS.rows (css:=[[(Yv (orI .u8 64 (u8.wrap (shrI .u64 (mn 4611686018427387903 a1) (8:Int)))))],[(Yv (u8.wrap (mn 4611686018427387903 a1)))]]) (Rows.cons Z (Rows.cons Z Rows.nil)) Z Z
 obtain ⟨j,h⟩:=grd_i h
 refine WL.f1 (We (append (dd:=(Kd.int .u8)) (xs:=a0) (ys:=[orI .u8 64 (u8.wrap (shrI .u64 (mn 4611686018427387903 a1) (8:Int))),u8.wrap (mn 4611686018427387903 a1)]) underlying23 underlying23 in5 Z (appB (by decide) j) (by decide) Z Z v (y.src 1 Z)) Z ?_)
 rintro k _ _ - ⟨rfl,l,rfl,z⟩
 exact qa k (Nt (Cr (Br (Tr (Qa (Dr (Rf h [l] Z (Rs Z Z) lr ⟨k,l,Z,Z,z⟩)))))))
 refine Sr (qm (Uv (mn 4611686018427387903 a1)) (qu (Bv (decide ((mn 4611686018427387903 a1)<1073741824))) (lss Z Z) (qa (Bv (decide ((mn 4611686018427387903 a1)<1073741824))) (Nt (Ch h Z (fun m h=> ?_) (fun m h=> ?_))))))
 refine Sr (qM a (hρ 0) (qm (Uv (mn 4611686018427387903 a1)) (qu (Uv (shrI .u64 (mn 4611686018427387903 a1) (24:Int))) (shr Z Z (by decide)) (qu (Yv (u8.wrap (shrI .u64 (mn 4611686018427387903 a1) (24:Int)))) (conv us105 underlying5 Z) (qu (Yv (orI .u8 128 (u8.wrap (shrI .u64 (mn 4611686018427387903 a1) (24:Int))))) (PO.or Z Z) (qm (Uv (mn 4611686018427387903 a1)) (qu (Uv (shrI .u64 (mn 4611686018427387903 a1) (16:Int))) (shr Z Z (by decide)) (qu (Yv (u8.wrap (shrI .u64 (mn 4611686018427387903 a1) (16:Int)))) (conv us105 underlying5 Z) (qm (Uv (mn 4611686018427387903 a1)) (qu (Uv (shrI .u64 (mn 4611686018427387903 a1) (8:Int))) (shr Z Z (by decide)) (qu (Yv (u8.wrap (shrI .u64 (mn 4611686018427387903 a1) (8:Int)))) (conv us105 underlying5 Z) ?_)))))))))))
 refine qm (Uv (mn 4611686018427387903 a1)) (qu (Yv (u8.wrap (mn 4611686018427387903 a1))) (conv us105 underlying5 Z) (We (buildSliceL (cl:=[(Yv (orI .u8 128 (u8.wrap (shrI .u64 (mn 4611686018427387903 a1) (24:Int))))),(Yv (u8.wrap (shrI .u64 (mn 4611686018427387903 a1) (16:Int)))),(Yv (u8.wrap (shrI .u64 (mn 4611686018427387903 a1) (8:Int)))),(Yv (u8.wrap (mn 4611686018427387903 a1)))]) underlying23 iz5 Z (Pc (Yv (orI .u8 128 (u8.wrap (shrI .u64 (mn 4611686018427387903 a1) (24:Int))))) Z Z (Pc (Yv (u8.wrap (shrI .u64 (mn 4611686018427387903 a1) (16:Int)))) Z Z (Pc (Yv (u8.wrap (shrI .u64 (mn 4611686018427387903 a1) (8:Int)))) Z Z (Pc (Yv (u8.wrap (mn 4611686018427387903 a1))) Z Z Pz)))) Z) Z ?_))
 rintro _ _ _ - ⟨rfl,n,rfl,rfl⟩
 have A:OwnS (Kd.int .u8) M (.slice (some ⟨n,0,none⟩) 4 4) [orI .u8 128 (u8.wrap (shrI .u64 (mn 4611686018427387903 a1) (24:Int))),u8.wrap (shrI .u64 (mn 4611686018427387903 a1) (16:Int)),u8.wrap (shrI .u64 (mn 4611686018427387903 a1) (8:Int)),u8.wrap (mn 4611686018427387903 a1)] [(n, .cells #[(Yv (orI .u8 128 (u8.wrap (shrI .u64 (mn 4611686018427387903 a1) (24:Int))))),(Yv (u8.wrap (shrI .u64 (mn 4611686018427387903 a1) (16:Int)))),(Yv (u8.wrap (shrI .u64 (mn 4611686018427387903 a1) (8:Int)))),(Yv (u8.wrap (mn 4611686018427387903 a1)))] 5 (0,0))]:=OwnS.rows (css:=[[(Yv (orI .u8 128 (u8.wrap (shrI .u64 (mn 4611686018427387903 a1) (24:Int)))))],[(Yv (u8.wrap (shrI .u64 (mn 4611686018427387903 a1) (16:Int))))],[(Yv (u8.wrap (shrI .u64 (mn 4611686018427387903 a1) (8:Int))))],[(Yv (u8.wrap (mn 4611686018427387903 a1)))]]) (Rows.cons Z (Rows.cons Z (Rows.cons Z (Rows.cons Z Rows.nil)))) Z Z
 obtain ⟨o,h⟩:=grd_i h
 refine WL.f1 (We (append (dd:=(Kd.int .u8)) (xs:=a0) (ys:=[orI .u8 128 (u8.wrap (shrI .u64 (mn 4611686018427387903 a1) (24:Int))),u8.wrap (shrI .u64 (mn 4611686018427387903 a1) (16:Int)),u8.wrap (shrI .u64 (mn 4611686018427387903 a1) (8:Int)),u8.wrap (mn 4611686018427387903 a1)]) underlying23 underlying23 in5 Z (appB (by decide) o) (by decide) Z Z v (A.src 1 Z)) Z ?_)
 rintro p _ _ - ⟨rfl,q,rfl,B⟩
 exact qa p (Nt (Cr (Br (Tr (Qa (Dr (Rf h [q] Z (Rs Z Z) lr ⟨p,q,Z,Z,B⟩)))))))
 refine Ck (Bn (Tc (Sr (qM a (hρ 0) (qm (Uv (mn 4611686018427387903 a1)) (qu (Uv (shrI .u64 (mn 4611686018427387903 a1) (56:Int))) (shr Z Z (by decide)) (qu (Yv (u8.wrap (shrI .u64 (mn 4611686018427387903 a1) (56:Int)))) (conv us105 underlying5 Z) (qu (Yv (orI .u8 192 (u8.wrap (shrI .u64 (mn 4611686018427387903 a1) (56:Int))))) (PO.or Z Z) (qm (Uv (mn 4611686018427387903 a1)) (qu (Uv (shrI .u64 (mn 4611686018427387903 a1) (48:Int))) (shr Z Z (by decide)) (qu (Yv (u8.wrap (shrI .u64 (mn 4611686018427387903 a1) (48:Int)))) (conv us105 underlying5 Z) ?_)))))))))))
 refine qm (Uv (mn 4611686018427387903 a1)) (qu (Uv (shrI .u64 (mn 4611686018427387903 a1) (40:Int))) (shr Z Z (by decide)) (qu (Yv (u8.wrap (shrI .u64 (mn 4611686018427387903 a1) (40:Int)))) (conv us105 underlying5 Z) (qm (Uv (mn 4611686018427387903 a1)) (qu (Uv (shrI .u64 (mn 4611686018427387903 a1) (32:Int))) (shr Z Z (by decide)) (qu (Yv (u8.wrap (shrI .u64 (mn 4611686018427387903 a1) (32:Int)))) (conv us105 underlying5 Z) (qm (Uv (mn 4611686018427387903 a1)) (qu (Uv (shrI .u64 (mn 4611686018427387903 a1) (24:Int))) (shr Z Z (by decide)) (qu (Yv (u8.wrap (shrI .u64 (mn 4611686018427387903 a1) (24:Int)))) (conv us105 underlying5 Z) (qm (Uv (mn 4611686018427387903 a1)) (qu (Uv (shrI .u64 (mn 4611686018427387903 a1) (16:Int))) (shr Z Z (by decide)) (qu (Yv (u8.wrap (shrI .u64 (mn 4611686018427387903 a1) (16:Int)))) (conv us105 underlying5 Z) ?_)))))))))))
 refine qm (Uv (mn 4611686018427387903 a1)) (qu (Uv (shrI .u64 (mn 4611686018427387903 a1) (8:Int))) (shr Z Z (by decide)) (qu (Yv (u8.wrap (shrI .u64 (mn 4611686018427387903 a1) (8:Int)))) (conv us105 underlying5 Z) (qm (Uv (mn 4611686018427387903 a1)) (qu (Yv (u8.wrap (mn 4611686018427387903 a1))) (conv us105 underlying5 Z) (We (buildSliceL (cl:=[(Yv (orI .u8 192 (u8.wrap (shrI .u64 (mn 4611686018427387903 a1) (56:Int))))),(Yv (u8.wrap (shrI .u64 (mn 4611686018427387903 a1) (48:Int)))),(Yv (u8.wrap (shrI .u64 (mn 4611686018427387903 a1) (40:Int)))),(Yv (u8.wrap (shrI .u64 (mn 4611686018427387903 a1) (32:Int)))),(Yv (u8.wrap (shrI .u64 (mn 4611686018427387903 a1) (24:Int)))),(Yv (u8.wrap (shrI .u64 (mn 4611686018427387903 a1) (16:Int)))),(Yv (u8.wrap (shrI .u64 (mn 4611686018427387903 a1) (8:Int)))),(Yv (u8.wrap (mn 4611686018427387903 a1)))]) underlying23 iz5 Z (Pc (Yv (orI .u8 192 (u8.wrap (shrI .u64 (mn 4611686018427387903 a1) (56:Int))))) Z Z (Pc (Yv (u8.wrap (shrI .u64 (mn 4611686018427387903 a1) (48:Int)))) Z Z (Pc (Yv (u8.wrap (shrI .u64 (mn 4611686018427387903 a1) (40:Int)))) Z Z (Pc (Yv (u8.wrap (shrI .u64 (mn 4611686018427387903 a1) (32:Int)))) Z Z (Pc (Yv (u8.wrap (shrI .u64 (mn 4611686018427387903 a1) (24:Int)))) Z Z (Pc (Yv (u8.wrap (shrI .u64 (mn 4611686018427387903 a1) (16:Int)))) Z Z (Pc (Yv (u8.wrap (shrI .u64 (mn 4611686018427387903 a1) (8:Int)))) Z Z (Pc (Yv (u8.wrap (mn 4611686018427387903 a1))) Z Z Pz)))))))) Z) Z ?_)))))
 rintro _ _ _ - ⟨rfl,r,rfl,rfl⟩
 have C:OwnS (Kd.int .u8) M (.slice (some ⟨r,0,none⟩) 8 8) [orI .u8 192 (u8.wrap (shrI .u64 (mn 4611686018427387903 a1) (56:Int))),u8.wrap (shrI .u64 (mn 4611686018427387903 a1) (48:Int)),u8.wrap (shrI .u64 (mn 4611686018427387903 a1) (40:Int)),u8.wrap (shrI .u64 (mn 4611686018427387903 a1) (32:Int)),u8.wrap (shrI .u64 (mn 4611686018427387903 a1) (24:Int)),u8.wrap (shrI .u64 (mn 4611686018427387903 a1) (16:Int)),u8.wrap (shrI .u64 (mn 4611686018427387903 a1) (8:Int)),u8.wrap (mn 4611686018427387903 a1)] [(r, .cells #[(Yv (orI .u8 192 (u8.wrap (shrI .u64 (mn 4611686018427387903 a1) (56:Int))))),(Yv (u8.wrap (shrI .u64 (mn 4611686018427387903 a1) (48:Int)))),(Yv (u8.wrap (shrI .u64 (mn 4611686018427387903 a1) (40:Int)))),(Yv (u8.wrap (shrI .u64 (mn 4611686018427387903 a1) (32:Int)))),(Yv (u8.wrap (shrI .u64 (mn 4611686018427387903 a1) (24:Int)))),(Yv (u8.wrap (shrI .u64 (mn 4611686018427387903 a1) (16:Int)))),(Yv (u8.wrap (shrI .u64 (mn 4611686018427387903 a1) (8:Int)))),(Yv (u8.wrap (mn 4611686018427387903 a1)))] 5 (0,0))]:=OwnS.rows (css:=[[(Yv (orI .u8 192 (u8.wrap (shrI .u64 (mn 4611686018427387903 a1) (56:Int)))))],[(Yv (u8.wrap (shrI .u64 (mn 4611686018427387903 a1) (48:Int))))],[(Yv (u8.wrap (shrI .u64 (mn 4611686018427387903 a1) (40:Int))))],[(Yv (u8.wrap (shrI .u64 (mn 4611686018427387903 a1) (32:Int))))],[(Yv (u8.wrap (shrI .u64 (mn 4611686018427387903 a1) (24:Int))))],[(Yv (u8.wrap (shrI .u64 (mn 4611686018427387903 a1) (16:Int))))],[(Yv (u8.wrap (shrI .u64 (mn 4611686018427387903 a1) (8:Int))))],[(Yv (u8.wrap (mn 4611686018427387903 a1)))]]) (Rows.cons Z (Rows.cons Z (Rows.cons Z (Rows.cons Z (Rows.cons Z (Rows.cons Z (Rows.cons Z (Rows.cons Z Rows.nil)))))))) Z Z
 obtain ⟨s,h⟩:=grd_i h
 refine WL.f1 (We (append (dd:=(Kd.int .u8)) (xs:=a0) (ys:=[orI .u8 192 (u8.wrap (shrI .u64 (mn 4611686018427387903 a1) (56:Int))),u8.wrap (shrI .u64 (mn 4611686018427387903 a1) (48:Int)),u8.wrap (shrI .u64 (mn 4611686018427387903 a1) (40:Int)),u8.wrap (shrI .u64 (mn 4611686018427387903 a1) (32:Int)),u8.wrap (shrI .u64 (mn 4611686018427387903 a1) (24:Int)),u8.wrap (shrI .u64 (mn 4611686018427387903 a1) (16:Int)),u8.wrap (shrI .u64 (mn 4611686018427387903 a1) (8:Int)),u8.wrap (mn 4611686018427387903 a1)]) underlying23 underlying23 in5 Z (appB (by decide) s) (by decide) Z Z v (C.src 1 Z)) Z ?_)
 rintro t _ _ - ⟨rfl,u,rfl,D⟩
 exact qa t (Nt (Cr (Qa (Dr (Rf h [u] Z (Rs Z Z) lr ⟨t,u,Z,Z,D⟩)))))
noncomputable def f_wire_Int (a0:(List Int)) (a1:Int):Option (List Int):=
 ((f_wire_Num a0 (u64.wrap (if a1<(0:Int)then(0:Int)else a1))).bind fun a=>(some a))
def f_wire_Int_post (a0:(List Int)) (a1:Int) (d:Value):(List Int)→Value→IM→HL→Prop:=
 fun(c:(List Int)) (v:Value) (M':IM) (H':HL)=>∃ a b,a=v∧H'=[b]∧OwnS (Kd.int .u8) M' a c b
theorem f_wire_Int_ok (a0:(List Int)) (a1:Int) (M:IM) (f:Value) (i:Chunk) (j:OwnS (Kd.int .u8) M f a0 i) (res:(List Int)) (h:f_wire_Int a0 a1=some res):
 Tri prog 24 #[f,(Iv a1)] M [i] (f_wire_Int_post a0 a1 f res):=by
 unfold f_wire_Int at h
 refine Te func24 Z Z ?_
 intro F ρ hρ
 refine Sr (qa Zs (Ns (qM f (hρ 0) (qM (Iv a1) (hρ 1) (qu (Iv (if a1<0 then(0:Int)else a1)) (PO.max Z Z) (qu (Uv (u64.wrap (if a1<0 then(0:Int)else a1))) (conv us3 underlying105 Z) ?_))))))
 obtain ⟨g,d,h⟩:=bnd h
 refine We (Cb co66 (f_wire_Num_ok a0 (u64.wrap (if a1<0 then(0:Int)else a1)) _ _ _ j g d) (args2 Z Z)) Z ?_
 rintro _ k _ c ⟨_,⟨a,b,rfl,rfl,e⟩,rfl⟩
 exact WL.a1 (qa a (Nt (Cr (Rf h [b] Z (Rs Z Z) c ⟨a,b,Z,Z,e⟩))))
noncomputable def f_wire_Flag (a0:(List Int)) (a1:Bool):Option (List Int):=
 (if a1=true then(grd (a0.length+[(1:Int)].length≤274877906944) (some (a0++[(1:Int)])))else(grd (a0.length+[(0:Int)].length≤274877906944) (some (a0++[(0:Int)]))))
def f_wire_Flag_post (a0:(List Int)) (a1:Bool) (d:Value):(List Int)→Value→IM→HL→Prop:=
 fun(c:(List Int)) (v:Value) (M':IM) (H':HL)=>∃ a b,a=v∧H'=[b]∧OwnS (Kd.int .u8) M' a c b
theorem f_wire_Flag_ok (a0:(List Int)) (a1:Bool) (M:IM) (a:Value) (p:Chunk) (q:OwnS (Kd.int .u8) M a a0 p) (res:(List Int)) (h:f_wire_Flag a0 a1=some res):
 Tri prog 26 #[a,(Bv a1)] M [p] (f_wire_Flag_post a0 a1 a res):=by
 unfold f_wire_Flag at h
 refine Te func26 Z Z ?_
 intro F ρ hρ
 refine Sr (qa Zs (Nt (Cs (Sr (qM (Bv a1) (hρ 1) (Nt (Ch h Z (fun b h=> ?_) (fun b h=> ?_))))))))
 refine Sr (qM a (hρ 0) (We (buildSliceL (cl:=[(Yv 1)]) underlying23 iz5 Z (Pc (Yv 1) Z Z Pz) Z) Z ?_))
 rintro _ _ _ - ⟨rfl,c,rfl,rfl⟩
 have l:OwnS (Kd.int .u8) M (.slice (some ⟨c,0,none⟩) 1 1) [(1:Int)] [(c, .cells #[(Yv 1)] 5 (0,0))]:=OwnS.rows (css:=[[(Yv 1)]]) (Rows.cons Z Rows.nil) Z Z
 obtain ⟨d,h⟩:=grd_i h
 refine WL.f1 (We (append (dd:=(Kd.int .u8)) (xs:=a0) (ys:=[(1:Int)]) underlying23 underlying23 in5 Z (appB (by decide) d) (by decide) Z Z q (l.src 1 Z)) Z ?_)
 rintro e _ _ - ⟨rfl,f,rfl,m⟩
 exact qa e (Nt (Cr (Tr (Qa (Dr (Rf h [f] Z (Rs Z Z) lr ⟨e,f,Z,Z,m⟩))))))
 refine Ck (Tc (Sr (qM a (hρ 0) (We (buildSliceL (cl:=[(Yv 0)]) underlying23 iz5 Z (Pc (Yv 0) Z Z Pz) Z) Z ?_))))
 rintro _ _ _ - ⟨rfl,g,rfl,rfl⟩
 have n:OwnS (Kd.int .u8) M (.slice (some ⟨g,0,none⟩) 1 1) [(0:Int)] [(g, .cells #[(Yv 0)] 5 (0,0))]:=OwnS.rows (css:=[[(Yv 0)]]) (Rows.cons Z Rows.nil) Z Z
 obtain ⟨i,h⟩:=grd_i h
 refine WL.f1 (We (append (dd:=(Kd.int .u8)) (xs:=a0) (ys:=[(0:Int)]) underlying23 underlying23 in5 Z (appB (by decide) i) (by decide) Z Z q (n.src 1 Z)) Z ?_)
 rintro j _ _ - ⟨rfl,k,rfl,o⟩
 exact qa j (Nt (Cr (Qa (Dr (Rf h [k] Z (Rs Z Z) lr ⟨j,k,Z,Z,o⟩)))))
noncomputable def f_rpc_Put_1 (a0:Int) (a1:Int) (a2:Int) (a3:(List Int)):Option (List Int):=
 (if(decide ((andI .i64 a2 a0)≠(0:Int)))=true then((f_wire_Int a3 a1).bind fun a=>(some a))else(some a3))
def f_rpc_Put_1_post (a0:Int) (a1:Int) (a2:Int) (a3:(List Int)) (f:Value) (c d:Nat):(List Int)→Value→IM→HL→Prop:=
 fun(e:(List Int)) (v:Value) (M':IM) (H':HL)=>∃ a b,(.tuple #[])=v∧H'=[[(c, .cells #[(.int .i64 a2)] 3 (0,0))],[(d, .cells #[a] 23 (0,0))],b]∧OwnS (Kd.int .u8) M' a e b
theorem f_rpc_Put_1_ok (a0:Int) (a1:Int) (a2:Int) (a3:(List Int)) (M:IM) (e:Value) (f g:Nat) (k:Chunk) (m:OwnS (Kd.int .u8) M e a3 k) (res:(List Int)) (h:f_rpc_Put_1 a0 a1 a2 a3=some res):
 Tri prog 25 #[(Iv a0),(Iv a1),(pt f 0),(pt g 0)] M [[(f, .cells #[(Iv a2)] 3 (0,0))],[(g, .cells #[e] 23 (0,0))],k] (f_rpc_Put_1_post a0 a1 a2 a3 e f g res):=by
 unfold f_rpc_Put_1 at h
 refine Te func25 Z Z ?_
 intro F ρ hρ
 refine Sr (qu (Iv a2) (Lb 0 pl3 (hρ 2) Z Z) (qM (Iv a0) (hρ 0) (qu (Iv (andI .i64 a2 a0)) (PO.and Z Z) (qu (Bv (decide ((andI .i64 a2 a0)≠0))) (neq Z Z) (Nt (Ch h Z (fun i h=> ?_) (fun i h=> ?_)))))))
 refine Cg (qu e (Lb 1 pl23 (hρ 3) Z Z) (qM (Iv a1) (hρ 1) ?_))
 obtain ⟨l,j,h⟩:=bnd h
 refine Wb (We (Cb co24 (f_wire_Int_ok a3 a1 _ _ _ m l j) (args2 Z Z)) Z ?_)
 rintro _ n _ d ⟨_,⟨a,c,rfl,rfl,b⟩,rfl⟩
 refine WL.a1 (Wb (We (Es a [a] b.cells sz23 (hρ 3) Z (Ow b) Z Z Z) Z ?_))
 rintro _ _ _ - ⟨rfl,rfl⟩
 exact Wz (Qa (Qa (Qb (WQ.endsF h [[(f, .cells #[(Iv a2)] 3 (0,0))],[(g, .cells #[a] 23 (0,0))],c] Z (results0 Z) d ⟨a,c,Z,Z,b⟩))))
 exact Ck (WQ.endsF h [[(f, .cells #[(Iv a2)] 3 (0,0))],[(g, .cells #[e] 23 (0,0))],k] Z (results0 Z) lr ⟨e,k,Z,Z,m⟩)
noncomputable def f_wire_Text (a0:(List Int)) (a1:(List Int)):Option (List Int):=
 ((f_wire_Int a0 (a1.length:Int)).bind fun a=>(grd (a.length+a1.length≤274877906944) (some (a++a1))))
def f_wire_Text_post (a0:(List Int)) (a1:(List Int)) (d e:Value):(List Int)→Value→IM→HL→Prop:=
 fun(c:(List Int)) (v:Value) (M':IM) (H':HL)=>∃ a b,a=v∧H'=[b]∧OwnS (Kd.int .u8) M' a c b
theorem f_wire_Text_ok (a0:(List Int)) (a1:(List Int)) (M:IM) (j b:Value) (m:Chunk) (p:OwnS (Kd.int .u8) M j a0 m) (k:RS (Kd.int .u8) M b a1) (res:(List Int)) (h:f_wire_Text a0 a1=some res):
 Tri prog 27 #[j,b] M [m] (f_wire_Text_post a0 a1 j b res):=by
 unfold f_wire_Text at h
 refine Te func27 Z Z ?_
 intro F ρ hρ
 refine Sr (qa Zs (Ns (qM j (hρ 0) (qM b (hρ 1) (qu (Iv (a1.length:Int)) (lenS underlying23 Z k.len) ?_)))))
 obtain ⟨c,d,h⟩:=bnd h
 refine We (Cb co24 (f_wire_Int_ok a0 (a1.length:Int) _ _ _ p c d) (args2 Z Z)) Z ?_
 rintro _ q _ a ⟨_,⟨n,o,rfl,rfl,e⟩,rfl⟩
 refine WL.a1 (qM b (hρ 1) ?_)
 obtain ⟨f,h⟩:=grd_i h
 have k:=k.mono a
 refine We (append (dd:=(Kd.int .u8)) (xs:=c) (ys:=a1) underlying23 underlying23 in5 Z (appB (by decide) f) (by decide) Z Z e (k.src _)) Z ?_
 rintro g _ _ - ⟨rfl,i,rfl,l⟩
 exact qa g (Nt (Cr (Rf h [i] Z (Rs Z Z) a ⟨g,i,Z,Z,l⟩)))
noncomputable def f_record_Put_1 (a0:Int) (a1:Int) (a2:Int) (a3:(List Int)):Option (List Int):=
 (if(decide ((andI .i64 a2 a0)≠(0:Int)))=true then((f_wire_Int a3 a1).bind fun a=>(some a))else(some a3))
def f_record_Put_1_post (a0:Int) (a1:Int) (a2:Int) (a3:(List Int)) (f:Value) (c d:Nat):(List Int)→Value→IM→HL→Prop:=
 fun(e:(List Int)) (v:Value) (M':IM) (H':HL)=>∃ a b,(.tuple #[])=v∧H'=[[(c, .cells #[(.int .i64 a2)] 3 (0,0))],[(d, .cells #[a] 23 (0,0))],b]∧OwnS (Kd.int .u8) M' a e b
theorem f_record_Put_1_ok (a0:Int) (a1:Int) (a2:Int) (a3:(List Int)) (M:IM) (e:Value) (f g:Nat) (k:Chunk) (m:OwnS (Kd.int .u8) M e a3 k) (res:(List Int)) (h:f_record_Put_1 a0 a1 a2 a3=some res):
 Tri prog 94 #[(Iv a0),(Iv a1),(pt f 0),(pt g 0)] M [[(f, .cells #[(Iv a2)] 3 (0,0))],[(g, .cells #[e] 23 (0,0))],k] (f_record_Put_1_post a0 a1 a2 a3 e f g res):=by
 unfold f_record_Put_1 at h
 refine Te func94 Z Z ?_
 intro F ρ hρ
 refine Sr (qu (Iv a2) (Lb 0 pl3 (hρ 2) Z Z) (qM (Iv a0) (hρ 0) (qu (Iv (andI .i64 a2 a0)) (PO.and Z Z) (qu (Bv (decide ((andI .i64 a2 a0)≠0))) (neq Z Z) (Nt (Ch h Z (fun i h=> ?_) (fun i h=> ?_)))))))
 refine Cg (qu e (Lb 1 pl23 (hρ 3) Z Z) (qM (Iv a1) (hρ 1) ?_))
 obtain ⟨l,j,h⟩:=bnd h
 refine Wb (We (Cb co24 (f_wire_Int_ok a3 a1 _ _ _ m l j) (args2 Z Z)) Z ?_)
 rintro _ n _ d ⟨_,⟨a,c,rfl,rfl,b⟩,rfl⟩
 refine WL.a1 (Wb (We (Es a [a] b.cells sz23 (hρ 3) Z (Ow b) Z Z Z) Z ?_))
 rintro _ _ _ - ⟨rfl,rfl⟩
 exact Wz (Qa (Qa (Qb (WQ.endsF h [[(f, .cells #[(Iv a2)] 3 (0,0))],[(g, .cells #[a] 23 (0,0))],c] Z (results0 Z) d ⟨a,c,Z,Z,b⟩))))
 exact Ck (WQ.endsF h [[(f, .cells #[(Iv a2)] 3 (0,0))],[(g, .cells #[e] 23 (0,0))],k] Z (results0 Z) lr ⟨e,k,Z,Z,m⟩)
noncomputable def f_record_Put_2 (a0:Int) (a1:ByteArray) (a2:Int) (a3:(List Int)):Option (List Int):=
 (if(decide ((andI .i64 a2 a0)≠(0:Int)))=true then((f_wire_Text a3 (bytesOf a1)).bind fun a=>(some a))else(some a3))
def f_record_Put_2_post (a0:Int) (a1:ByteArray) (a2:Int) (a3:(List Int)) (f:Value) (c d:Nat):(List Int)→Value→IM→HL→Prop:=
 fun(e:(List Int)) (v:Value) (M':IM) (H':HL)=>∃ a b,(.tuple #[])=v∧H'=[[(c, .cells #[(.int .i64 a2)] 3 (0,0))],[(d, .cells #[a] 23 (0,0))],b]∧OwnS (Kd.int .u8) M' a e b
theorem f_record_Put_2_ok (a0:Int) (a1:ByteArray) (a2:Int) (a3:(List Int)) (M:IM) (e:Value) (f g:Nat) (n:Chunk) (q:OwnS (Kd.int .u8) M e a3 n) (res:(List Int)) (h:f_record_Put_2 a0 a1 a2 a3=some res):
 Tri prog 95 #[(Iv a0),(Sv a1),(pt f 0),(pt g 0)] M [[(f, .cells #[(Iv a2)] 3 (0,0))],[(g, .cells #[e] 23 (0,0))],n] (f_record_Put_2_post a0 a1 a2 a3 e f g res):=by
 unfold f_record_Put_2 at h
 refine Te func95 Z Z ?_
 intro F ρ hρ
 refine Sr (qu (Iv a2) (Lb 0 pl3 (hρ 2) Z Z) (qM (Iv a0) (hρ 0) (qu (Iv (andI .i64 a2 a0)) (PO.and Z Z) (qu (Bv (decide ((andI .i64 a2 a0)≠0))) (neq Z Z) (Nt (Ch h Z (fun i h=> ?_) (fun i h=> ?_)))))))
 refine Cg (qu e (Lb 1 pl23 (hρ 3) Z Z) (qM (Sv a1) (hρ 1) (We (s2b underlying9 underlying23 underlying5 Z) Z ?_)))
 rintro s _ _ - ⟨rfl,o,rfl,j⟩
 obtain ⟨k,l,h⟩:=bnd h
 refine WL.f3 (WL.f1 (We (EO.call2 co27 (Tri.lend j.excl fun w0_ H0_ hs0_=>(f_wire_Text_ok a3 (bytesOf a1) _ _ _ _ (q.mono (IM.le_add _ _)) (j.rs hs0_) k l)) (args2 Z Z)) Z ?_))
 rintro _ _ _ d ⟨_,⟨m,r,p,rfl,rfl,⟨a,c,rfl,rfl,b⟩⟩,rfl⟩
 have b:OwnS (Kd.int .u8) (m.minus o) a k c:=b.any (Kd.int_flat _)
 refine WL.a2 (WL.f3 (We (Es a [a] b.cells sz23 (hρ 3) Z (Ow b) Z Z Z) Z ?_))
 rintro _ _ _ - ⟨rfl,rfl⟩
 exact Wz (Qa (Dr (Qa (Qa (Qb (WQ.endsF h [[(f, .cells #[(Iv a2)] 3 (0,0))],[(g, .cells #[a] 23 (0,0))],c] Z (results0 Z) d ⟨a,c,Z,Z,b⟩))))))
 exact Ck (WQ.endsF h [[(f, .cells #[(Iv a2)] 3 (0,0))],[(g, .cells #[e] 23 (0,0))],n] Z (results0 Z) lr ⟨e,n,Z,Z,q⟩)
noncomputable def f_wire_Row_l0 (a1:(List Int)) (s_:((List Int)×Int)):Option (((List Int)×Int)⊕(List Int)):=
 match s_ with
 |(b,a)=>
 (if(decide (a<(a1.length:Int)))=true then(grd (0≤a∧a<a1.length) ((f_wire_Int b (rd a1 a)).bind fun c=>(some (inl (c,i64.wrap (a+(1:Int)))))))else(some (inr b)))
noncomputable def f_wire_Row (a0:(List Int)) (a1:(List Int)):Option (List Int):=
 ((f_wire_Int a0 (a1.length:Int)).bind fun a=>((((iter (f_wire_Row_l0 a1) (a,(0:Int))).bind (fun(b:(List Int))=>(some b))):Option (List Int)).bind fun c=>(some c)))
def f_wire_Row_post (a0:(List Int)) (a1:(List Int)) (d e:Value):(List Int)→Value→IM→HL→Prop:=
 fun(c:(List Int)) (v:Value) (M':IM) (H':HL)=>∃ a b,a=v∧H'=[b]∧OwnS (Kd.int .u8) M' a c b
theorem f_wire_Row_ok (a0:(List Int)) (a1:(List Int)) (M:IM) (R A:Value) (U:Chunk) (W:OwnS (Kd.int .u8) M R a0 U) (t:RS (Kd.int .i64) M A a1) (res:(List Int)) (h:f_wire_Row a0 a1=some res):
 Tri prog 97 #[R,A] M [U] (f_wire_Row_post a0 a1 R A res):=by
 unfold f_wire_Row at h
 refine Te func97 Z Z ?_
 intro F ρ hρ
 refine Sr (qa Zs (Ns (qM R (hρ 0) (qM A (hρ 1) (qu (Iv (a1.length:Int)) (lenS underlying56 Z t.len) ?_)))))
 obtain ⟨S,B,h⟩:=bnd h
 refine We (Cb co24 (f_wire_Int_ok a0 (a1.length:Int) _ _ _ W S B) (args2 Z Z)) Z ?_
 rintro _ C _ m ⟨_,⟨q,D,rfl,rfl,E⟩,rfl⟩
 refine WL.a1 (qa q (Nt ?_))
 obtain ⟨u,G,h⟩:=bnd h
 refine Jf (fun(u:(List Int)) ρ' M' H'=>∃ c d,C.le M'∧d::F=H'∧ρ' 0=c∧OwnS (Kd.int .u8) M' c u d) u ?_ ?_
 have h:=G
 refine Sr (qM A (hρ 1) ?_)
 have t:=t.mono m
 refine qu (Iv (a1.length:Int)) (lenS underlying56 Z t.len) (qm (Iv 0) (Nt (Bk ?_)))
 obtain ⟨X,I,J⟩:=bnd h
 clear h
 refine WC.loop I (fun(p_:((List Int)×Int)) ρ' M' H'=>match p_ with |(o,b)=>∃ e j,C.le M'∧j::F=H'∧ρ' 0=e∧ρ' 11=A∧ρ' 12=(Iv (a1.length:Int))∧ρ' 13=(Iv b)∧OwnS (Kd.int .u8) M' e o j) ?_ ?_
 exact⟨q,D,lr,Z,Z,Z,Z,Z,E⟩
 rintro ⟨o,b⟩ Y a2 a3 a4 h ⟨e,j,i,rfl,k,f,g,a,r⟩
 unfold f_wire_Row_l0 at h
 refine Sr (qu (Bv (decide (b<(a1.length:Int)))) (lss a g) (Nt (Cs (Ch h Z (fun K h=> ?_) (fun K h=> ?_)))))
 refine Ck (Tc (Cs (Bk (Sr ?_))))
 obtain ⟨l,h⟩:=grd_i h
 have t:=t.mono i
 obtain ⟨T,V,v,w,hhas38⟩:=t.at l.1 l.2 (by decide)
 obtain rfl:=w
 refine qu (.pointer (some T)) (indexAddr (n:=a1.length) underlying56 sz3 f a l.1 l.2 v) (qu (Iv (rd a1 b)) (loadM pl3 Z (IM.has0 hhas38)) (qa (Iv (rd a1 b)) (Nt (Cg (qM e k (qm (Iv (rd a1 b)) ?_))))))
 obtain ⟨L,N,h⟩:=bnd h
 refine We (Cb co24 (f_wire_Int_ok o (rd a1 b) _ _ _ r L N) (args2 Z Z)) Z ?_
 rintro _ a5 _ x ⟨_,⟨s,O,rfl,rfl,P⟩,rfl⟩
 exact WL.a1 (qa s (Wz (Bn (Tc (Cg (qu (Iv (i64.wrap (b+1))) (add a Z) (qm (Iv (i64.wrap (b+1))) (Wz (WQ.again (L,i64.wrap (b+1)) (oi h).symm ⟨s,O,(i.trans x),Z,Z,f,g,Z,P⟩)))))))))
 refine WC.exit (WQ.thenE (WQ.leaveE o (oi h).symm (fun y=> ?_)))
 subst y
 have h:=J
 refine WQ.blockH ?_
 obtain rfl:=oi h
 exact Tj ⟨e,j,i,Z,k,r⟩
 rintro a6 a7 a8 ⟨c,d,z,rfl,p,Q⟩
 exact Sr (qM c p (qa c (Nt (Cr (Rf h [d] Z (Rs Z Z) (m.trans z) ⟨c,d,Z,Z,Q⟩)))))
noncomputable def f_record_Put_3 (a0:Int) (a1:(List Int)) (a2:Int) (a3:(List Int)):Option (List Int):=
 (if(decide ((andI .i64 a2 a0)≠(0:Int)))=true then((f_wire_Row a3 a1).bind fun a=>(some a))else(some a3))
def f_record_Put_3_post (a0:Int) (a1:(List Int)) (a2:Int) (a3:(List Int)) (f g:Value) (c d:Nat):(List Int)→Value→IM→HL→Prop:=
 fun(e:(List Int)) (v:Value) (M':IM) (H':HL)=>∃ a b,(.tuple #[])=v∧H'=[[(c, .cells #[(.int .i64 a2)] 3 (0,0))],[(d, .cells #[a] 23 (0,0))],b]∧OwnS (Kd.int .u8) M' a e b
theorem f_record_Put_3_ok (a0:Int) (a1:(List Int)) (a2:Int) (a3:(List Int)) (M:IM) (k e:Value) (f g:Nat) (l:Chunk) (o:RS (Kd.int .i64) M k a1) (n:OwnS (Kd.int .u8) M e a3 l) (res:(List Int)) (h:f_record_Put_3 a0 a1 a2 a3=some res):
 Tri prog 96 #[(Iv a0),k,(pt f 0),(pt g 0)] M [[(f, .cells #[(Iv a2)] 3 (0,0))],[(g, .cells #[e] 23 (0,0))],l] (f_record_Put_3_post a0 a1 a2 a3 k e f g res):=by
 unfold f_record_Put_3 at h
 refine Te func96 Z Z ?_
 intro F ρ hρ
 refine Sr (qu (Iv a2) (Lb 0 pl3 (hρ 2) Z Z) (qM (Iv a0) (hρ 0) (qu (Iv (andI .i64 a2 a0)) (PO.and Z Z) (qu (Bv (decide ((andI .i64 a2 a0)≠0))) (neq Z Z) (Nt (Ch h Z (fun i h=> ?_) (fun i h=> ?_)))))))
 refine Cg (qu e (Lb 1 pl23 (hρ 3) Z Z) (qM k (hρ 1) ?_))
 obtain ⟨m,j,h⟩:=bnd h
 refine Wb (We (Cb co97 (f_wire_Row_ok a3 a1 _ _ _ _ n o m j) (args2 Z Z)) Z ?_)
 rintro _ p _ d ⟨_,⟨a,c,rfl,rfl,b⟩,rfl⟩
 refine WL.a1 (Wb (We (Es a [a] b.cells sz23 (hρ 3) Z (Ow b) Z Z Z) Z ?_))
 rintro _ _ _ - ⟨rfl,rfl⟩
 exact Wz (Qa (Qa (Qb (WQ.endsF h [[(f, .cells #[(Iv a2)] 3 (0,0))],[(g, .cells #[a] 23 (0,0))],c] Z (results0 Z) d ⟨a,c,Z,Z,b⟩))))
 exact Ck (WQ.endsF h [[(f, .cells #[(Iv a2)] 3 (0,0))],[(g, .cells #[e] 23 (0,0))],l] Z (results0 Z) lr ⟨e,l,Z,Z,n⟩)
noncomputable def f_record_Put (a0:(List Int)) (a1:T_api_Record):Option ((List Int)×GErr):=
 ((f_record_Check a1).bind fun b=>(if(!b.isNil)=true then(some ([],b))else((f_record_about a1.Kind).bind fun a=>(grd (a0.length+[u8.wrap a1.Kind].length≤274877906944) ((f_record_Put_1 (1:Int) a1.Broker a (a0++[u8.wrap a1.Kind])).bind fun n=>((f_record_Put_1 (2:Int) a1.Epoch a n).bind fun o=>((f_record_Put_1 (4:Int) a1.Topic a o).bind fun p=>((f_record_Put_1 (8:Int) a1.Part a p).bind fun q=>((f_record_Put_1 (16:Int) a1.Leader a q).bind fun r=>((f_record_Put_1 (32:Int) a1.Client a r).bind fun s=>((f_record_Put_1 (32:Int) a1.Serial a s).bind fun t=>((f_record_Put_1 (32:Int) a1.Code a t).bind fun c=>(((if(decide ((andI .i64 a (64:Int))≠(0:Int)))=true then((f_wire_Flag c a1.Flag).bind fun d=>(some d))else(some c)):Option (List Int)).bind fun u=>((f_record_Put_2 (128:Int) a1.Name a u).bind fun e=>((f_record_Put_2 (256:Int) a1.Key a e).bind fun f=>((f_record_Put_2 (512:Int) a1.Value a f).bind fun g=>((f_record_Put_2 (1024:Int) a1.Rack a g).bind fun i=>((f_record_Put_3 (2048:Int) a1.Ids a i).bind fun j=>((f_record_Put_3 (4096:Int) a1.Isr a j).bind fun k=>((f_record_Put_3 (8192:Int) a1.Add a k).bind fun l=>((f_record_Put_3 (8192:Int) a1.Drop a l).bind fun m=>(some (m,GErr.nil)))))))))))))))))))))))
def f_record_Put_post (a0:(List Int)) (a1:T_api_Record) (j c d e f:Value):((List Int)×GErr)→Value→IM→HL→Prop:=
 fun(p_:((List Int)×GErr)) (v:Value) (M':IM) (H':HL)=>match p_ with |(g,i)=>∃ a b,(.tuple #[a,(GV i)])=v∧H'=[b]∧OwnS (Kd.int .u8) M' a g b
theorem f_record_Put_ok (a0:(List Int)) (a1:T_api_Record) (M:IM) (v0 f g i j:Value) (c0:Chunk) (h0:OwnS (Kd.int .u8) M v0 a0 c0) (l:RS (Kd.int .i64) M f a1.Ids) (m:RS (Kd.int .i64) M g a1.Isr) (n:RS (Kd.int .i64) M i a1.Add) (o:RS (Kd.int .i64) M j a1.Drop) (res:((List Int)×GErr)) (h:f_record_Put a0 a1=some res):
 Tri prog 67 #[v0,(a58_ a1 f g i j)] M [c0] (f_record_Put_post a0 a1 v0 f g i j res):=by
 unfold f_record_Put at h
 refine Te func67 Z Z ?_
 intro F ρ hρ
 refine Sr (We (box (cs:=#[v0]) ((congrArg Value.cells (asE v0 (hρ 0))).trans h0.cells)) Z ?_)
 rintro _ _ _ - ⟨rfl,a,rfl,rfl⟩
 refine We (box (cs:=(l58 a1 f g i j).toArray) (congrArg Value.cells (asE (a58_ a1 f g i j) (hρ 1)))) Z ?_
 rintro _ _ _ - ⟨rfl,e,rfl,rfl⟩
 refine qa Zs (qa (GV GErr.nil) (Nt (Cs (Sr (qu (a58_ a1 f g i j) (La (cs:=(l58 a1 f g i j)) 0 ag58 sz58 Z Z Z) ?_)))))
 obtain ⟨u,c4,h⟩:=bnd h
 refine We (Ca co77 (f_record_Check_ok a1 _ _ _ _ _ l m n o u c4) (args1 Z)) Z ?_
 rintro _ l5 _ q ⟨_,⟨rfl,rfl⟩,rfl⟩
 refine WL.a0 (qa (GV u) (Ns (qm (GV u) (qu (Bv (!u.isNil)) (errNotNil underlying31 Z) (Nt (Ch h Z (fun c5 h=> ?_) (fun c5 h=> ?_)))))))
 refine Sr (qm (GV u) (qa Zs (qa (GV u) (Nt (Cr (Tr (WQ.e0 (Qa (Dr (Qa (Dr ?_)))))))))))
 exact Qa (Dr (Rf h [[]] Z (results2 Z Z Z) q ⟨Zs,[],Z,Z,(OwnS.nil _ _)⟩))
 refine Ck (Tc (Sr (qu (pt e 0) (Fa fo58_0 Z Z) (qu (Iv a1.Kind) (Lb 0 pl3 Z Z Z) ?_))))
 obtain ⟨d,c6,h⟩:=bnd h
 refine We (Ca co93 (f_record_about_ok a1.Kind _ d c6) (args1 Z)) Z ?_
 rintro _ g8 _ v ⟨_,⟨rfl,rfl⟩,rfl⟩
 refine WL.a0 (We (Al ze3 Z) Z ?_)
 rintro _ _ _ - ⟨rfl,b,rfl,rfl⟩
 refine We (Es (Iv d) [(Iv d)] Z sz3 Z Z Z Z Z Z) Z ?_
 rintro _ _ _ - ⟨rfl,rfl⟩
 refine Ns (qu v0 (Lb 2 pl23 Z Z Z) (qu (pt e 0) (Fa fo58_0 Z Z) (qu (Iv a1.Kind) (Lb 1 pl3 Z Z Z) (qu (Yv (u8.wrap a1.Kind)) (conv us3 underlying5 Z) (We (buildSliceL (cl:=[(Yv (u8.wrap a1.Kind))]) underlying23 iz5 Z (Pc (Yv (u8.wrap a1.Kind)) Z Z Pz) Z) Z ?_)))))
 rintro _ _ _ - ⟨rfl,c7,rfl,rfl⟩
 have g9:OwnS (Kd.int .u8) g8 (.slice (some ⟨c7,0,none⟩) 1 1) [u8.wrap a1.Kind] [(c7, .cells #[(Yv (u8.wrap a1.Kind))] 5 (0,0))]:=OwnS.rows (css:=[[(Yv (u8.wrap a1.Kind))]]) (Rows.cons Z Rows.nil) Z Z
 obtain ⟨c8,h⟩:=grd_i h
 refine WL.f4 ?_
 have h0:=h0.mono (q.trans v)
 refine We (append (dd:=(Kd.int .u8)) (xs:=a0) (ys:=[u8.wrap a1.Kind]) underlying23 underlying23 in5 Z (appB (by decide) c8) (by decide) Z Z h0 (g9.src 1 Z)) Z ?_
 rintro c9 _ _ - ⟨rfl,l6,rfl,X⟩
 refine WL.f4 (We (Es c9 [c9] X.cells sz23 Z Z (Ow X) Z Z Z) Z ?_)
 rintro _ _ _ - ⟨rfl,rfl⟩
 refine Ns (qu (.func (.func 94) #[] #[(pt b 0),(pt a 0)]) (makeFunc2 (args0) (args2 (show ev _ _=(pt b 0) from Z) (show ev _ _=(pt a 0) from Z))) (qa (.func (.func 94) #[] #[(pt b 0),(pt a 0)]) (Ns (qm (.func (.func 94) #[] #[(pt b 0),(pt a 0)]) (qu (pt e 1) (Fa fo58_1 Z Z) (qu (Iv a1.Broker) (Lb 4 pl3 Z Z Z) ?_))))))
 obtain ⟨d0,d1,h⟩:=bnd h
 refine WL.f1 (WL.f1 (WL.f3 (We (callV3 (first:=#[]) (cap:=#[(pt b 0),(pt a 0)]) co94 Z (f_record_Put_1_ok (1:Int) a1.Broker d (a0++[u8.wrap a1.Kind]) _ _ _ _ _ X d0 d1) (argsV2 Z Z Z)) Z ?_)))
 rintro _ l7 _ Y ⟨_,⟨l8,l9,rfl,rfl,h1⟩,rfl⟩
 have h2:=(q.trans v).trans Y
 refine WL.a3 (Ns (qm (.func (.func 94) #[] #[(pt b 0),(pt a 0)]) (qu (pt e 2) (Fa fo58_2 Z Z) (qu (Iv a1.Epoch) (Lb 4 pl3 Z Z Z) ?_))))
 obtain ⟨d2,d3,h⟩:=bnd h
 refine Wb (Wb (Wb (We (callV3 (first:=#[]) (cap:=#[(pt b 0),(pt a 0)]) co94 Z (f_record_Put_1_ok (2:Int) a1.Epoch d d0 _ _ _ _ _ h1 d2 d3) (argsV2 Z Z Z)) Z ?_)))
 rintro _ m0 _ a2 ⟨_,⟨m1,m2,rfl,rfl,h3⟩,rfl⟩
 have h4:=h2.trans a2
 refine WL.a3 (Ns (qm (.func (.func 94) #[] #[(pt b 0),(pt a 0)]) (qu (pt e 3) (Fa fo58_3 Z Z) (qu (Iv a1.Topic) (Lb 4 pl3 Z Z Z) ?_))))
 obtain ⟨d4,d5,h⟩:=bnd h
 refine Wb (Wb (Wb (We (callV3 (first:=#[]) (cap:=#[(pt b 0),(pt a 0)]) co94 Z (f_record_Put_1_ok (4:Int) a1.Topic d d2 _ _ _ _ _ h3 d4 d5) (argsV2 Z Z Z)) Z ?_)))
 rintro _ m3 _ a4 ⟨_,⟨m4,m5,rfl,rfl,h5⟩,rfl⟩
 have h6:=h4.trans a4
 refine WL.a3 (Ns (qm (.func (.func 94) #[] #[(pt b 0),(pt a 0)]) (qu (pt e 4) (Fa fo58_4 Z Z) (qu (Iv a1.Part) (Lb 4 pl3 Z Z Z) ?_))))
 obtain ⟨d6,d7,h⟩:=bnd h
 refine Wb (Wb (Wb (We (callV3 (first:=#[]) (cap:=#[(pt b 0),(pt a 0)]) co94 Z (f_record_Put_1_ok (8:Int) a1.Part d d4 _ _ _ _ _ h5 d6 d7) (argsV2 Z Z Z)) Z ?_)))
 rintro _ m6 _ a5 ⟨_,⟨m7,m8,rfl,rfl,h7⟩,rfl⟩
 have h8:=h6.trans a5
 refine WL.a3 (Ns (qm (.func (.func 94) #[] #[(pt b 0),(pt a 0)]) (qu (pt e 5) (Fa fo58_5 Z Z) (qu (Iv a1.Leader) (Lb 4 pl3 Z Z Z) ?_))))
 obtain ⟨d8,d9,h⟩:=bnd h
 refine Wb (Wb (Wb (We (callV3 (first:=#[]) (cap:=#[(pt b 0),(pt a 0)]) co94 Z (f_record_Put_1_ok (16:Int) a1.Leader d d6 _ _ _ _ _ h7 d8 d9) (argsV2 Z Z Z)) Z ?_)))
 rintro _ m9 _ a6 ⟨_,⟨n0,n1,rfl,rfl,h9⟩,rfl⟩
 have i0:=h8.trans a6
 refine WL.a3 (Ns (qm (.func (.func 94) #[] #[(pt b 0),(pt a 0)]) (qu (pt e 6) (Fa fo58_6 Z Z) (qu (Iv a1.Client) (Lb 4 pl3 Z Z Z) ?_))))
 obtain ⟨e1,e2,h⟩:=bnd h
 refine Wb (Wb (Wb (We (callV3 (first:=#[]) (cap:=#[(pt b 0),(pt a 0)]) co94 Z (f_record_Put_1_ok (32:Int) a1.Client d d8 _ _ _ _ _ h9 e1 e2) (argsV2 Z Z Z)) Z ?_)))
 rintro _ n2 _ a7 ⟨_,⟨n3,n4,rfl,rfl,i1⟩,rfl⟩
 have i2:=i0.trans a7
 refine WL.a3 (Ns (qm (.func (.func 94) #[] #[(pt b 0),(pt a 0)]) (qu (pt e 7) (Fa fo58_7 Z Z) (qu (Iv a1.Serial) (Lb 4 pl3 Z Z Z) ?_))))
 obtain ⟨e3,e4,h⟩:=bnd h
 refine Wb (Wb (Wb (We (callV3 (first:=#[]) (cap:=#[(pt b 0),(pt a 0)]) co94 Z (f_record_Put_1_ok (32:Int) a1.Serial d e1 _ _ _ _ _ i1 e3 e4) (argsV2 Z Z Z)) Z ?_)))
 rintro _ n5 _ a8 ⟨_,⟨n6,n7,rfl,rfl,i3⟩,rfl⟩
 have i4:=i2.trans a8
 refine WL.a3 (Ns (qm (.func (.func 94) #[] #[(pt b 0),(pt a 0)]) (qu (pt e 8) (Fa fo58_8 Z Z) (qu (Iv a1.Code) (Lb 4 pl3 Z Z Z) ?_))))
 obtain ⟨e5,e6,h⟩:=bnd h
 refine Wb (Wb (Wb (We (callV3 (first:=#[]) (cap:=#[(pt b 0),(pt a 0)]) co94 Z (f_record_Put_1_ok (32:Int) a1.Code d e3 _ _ _ _ _ i3 e5 e6) (argsV2 Z Z Z)) Z ?_)))
 rintro _ i5 _ a9 ⟨_,⟨e7,i6,rfl,rfl,e8⟩,rfl⟩
 have i7:=i4.trans a9
 refine WL.a3 (Nt ?_)
 obtain ⟨A,b0,h⟩:=bnd h
 refine Jf (fun(A:(List Int)) ρ' M' H'=>∃ w x,i5.le M'∧[(b, .cells #[(Iv d)] 3 (0,0))]::[(a, .cells #[w] 23 (0,0))]::[(e, .cells (l58 a1 f g i j).toArray 58 (0,0))]::x::F=H'∧ρ' 2=(pt a 0)∧ρ' 3=(pt e 0)∧ρ' 7=(pt b 0)∧OwnS (Kd.int .u8) M' w A x) A ?_ ?_
 have h:=b0
 refine Sr (qu (Iv d) (Lb 0 pl3 Z Z Z) (qu (Iv (andI .i64 d (64:Int))) (PO.and Z Z) (qu (Bv (decide ((andI .i64 d (64:Int))≠0))) (neq Z Z) (Nt (Ch h Z (fun b1 h=> ?_) (fun b1 h=> ?_))))))
 refine Cg (qu e7 (Lb 1 pl23 Z Z Z) (qu (pt e 9) (Fa fo58_9 Z Z) (qu (Bv a1.Flag) (Lb 4 pl4 Z Z Z) ?_)))
 obtain ⟨e9,b2,h⟩:=bnd h
 refine Wb (We (Cb co26 (f_wire_Flag_ok e5 a1.Flag _ _ _ e8 e9 b2) (args2 Z Z)) Z ?_)
 rintro _ i9 _ B ⟨_,⟨r,b3,rfl,rfl,s⟩,rfl⟩
 refine WL.a1 (Wb (We (Es r [r] s.cells sz23 Z Z (Ow s) Z Z Z) Z ?_))
 rintro _ _ _ - ⟨rfl,rfl⟩
 refine Wz (WQ.f3 (Dr (Qa (WQ.f3 (Qb (WQ.f3 ?_))))))
 obtain rfl:=oi h
 exact Tj ⟨r,b3,B,Z,Z,Z,Z,s⟩
 refine Ck (WQ.f3 (Dr (Qb (WQ.f3 (WQ.f3 (WQ.f3 ?_))))))
 obtain rfl:=oi h
 exact Tj ⟨e7,i6,lr,Z,Z,Z,Z,e8⟩
 rintro j0 j1 j2 ⟨w,x,C,rfl,k,c,p,f0⟩
 have f2:=i7.trans C
 refine Sr (qu (.func (.func 95) #[] #[(pt b 0),(pt a 0)]) (makeFunc2 (args0) (args2 (asE (Value.pointer (some ⟨b,0,none⟩)) p) (asE (Value.pointer (some ⟨a,0,none⟩)) k))) (qa (.func (.func 95) #[] #[(pt b 0),(pt a 0)]) (Ns (qm (.func (.func 95) #[] #[(pt b 0),(pt a 0)]) (qu (pt e 10) (Fa fo58_10 c Z) (qu (Sv a1.Name) (Lb 2 pl9 Z Z Z) ?_))))))
 obtain ⟨N,b4,h⟩:=bnd h
 refine WL.f3 (Wb (Wb (We (callV3 (first:=#[]) (cap:=#[(pt b 0),(pt a 0)]) co95 Z (f_record_Put_2_ok (128:Int) a1.Name d A _ _ _ _ _ f0 N b4) (argsV2 Z Z Z)) Z ?_)))
 rintro _ j3 _ D ⟨_,⟨j4,j5,rfl,rfl,f5⟩,rfl⟩
 have f6:=f2.trans D
 refine WL.a3 (Ns (qm (.func (.func 95) #[] #[(pt b 0),(pt a 0)]) (qu (pt e 11) (Fa fo58_11 c Z) (qu (Sv a1.Key) (Lb 3 pl9 Z Z Z) ?_))))
 obtain ⟨O,b5,h⟩:=bnd h
 refine Wb (Wb (Wb (We (callV3 (first:=#[]) (cap:=#[(pt b 0),(pt a 0)]) co95 Z (f_record_Put_2_ok (256:Int) a1.Key d N _ _ _ _ _ f5 O b5) (argsV2 Z Z Z)) Z ?_)))
 rintro _ j6 _ E ⟨_,⟨j7,j8,rfl,rfl,f7⟩,rfl⟩
 have f8:=f6.trans E
 refine WL.a3 (Ns (qm (.func (.func 95) #[] #[(pt b 0),(pt a 0)]) (qu (pt e 12) (Fa fo58_12 c Z) (qu (Sv a1.Value) (Lb 3 pl9 Z Z Z) ?_))))
 obtain ⟨P,b6,h⟩:=bnd h
 refine Wb (Wb (Wb (We (callV3 (first:=#[]) (cap:=#[(pt b 0),(pt a 0)]) co95 Z (f_record_Put_2_ok (512:Int) a1.Value d O _ _ _ _ _ f7 P b6) (argsV2 Z Z Z)) Z ?_)))
 rintro _ j9 _ G ⟨_,⟨k0,k1,rfl,rfl,f9⟩,rfl⟩
 have g0:=f8.trans G
 refine WL.a3 (Ns (qm (.func (.func 95) #[] #[(pt b 0),(pt a 0)]) (qu (pt e 13) (Fa fo58_13 c Z) (qu (Sv a1.Rack) (Lb 3 pl9 Z Z Z) ?_))))
 obtain ⟨Q,b7,h⟩:=bnd h
 refine Wb (Wb (Wb (We (callV3 (first:=#[]) (cap:=#[(pt b 0),(pt a 0)]) co95 Z (f_record_Put_2_ok (1024:Int) a1.Rack d P _ _ _ _ _ f9 Q b7) (argsV2 Z Z Z)) Z ?_)))
 rintro _ k2 _ I ⟨_,⟨k3,k4,rfl,rfl,g1⟩,rfl⟩
 have R:=g0.trans I
 refine WL.a3 (Ns (qu (.func (.func 96) #[] #[(pt b 0),(pt a 0)]) (makeFunc2 (args0) (args2 (asE (Value.pointer (some ⟨b,0,none⟩)) p) (asE (Value.pointer (some ⟨a,0,none⟩)) k))) (qa (.func (.func 96) #[] #[(pt b 0),(pt a 0)]) (Ns (qm (.func (.func 96) #[] #[(pt b 0),(pt a 0)]) (qu (pt e 14) (Fa fo58_14 c Z) (qu f (Lb 3 pl56 Z Z Z) ?_)))))))
 obtain ⟨S,b8,h⟩:=bnd h
 refine Wb (Wb (Wb ?_))
 have l:=l.mono R
 refine We (callV3 (first:=#[]) (cap:=#[(pt b 0),(pt a 0)]) co96 Z (f_record_Put_3_ok (2048:Int) a1.Ids d Q _ _ _ _ _ _ l g1 S b8) (argsV2 Z Z Z)) Z ?_
 rintro _ k5 _ J ⟨_,⟨k6,k7,rfl,rfl,g2⟩,rfl⟩
 have T:=R.trans J
 refine WL.a3 (Ns (qm (.func (.func 96) #[] #[(pt b 0),(pt a 0)]) (qu (pt e 15) (Fa fo58_15 c Z) (qu g (Lb 3 pl56 Z Z Z) ?_))))
 obtain ⟨U,b9,h⟩:=bnd h
 refine Wb (Wb (Wb ?_))
 have m:=m.mono T
 refine We (callV3 (first:=#[]) (cap:=#[(pt b 0),(pt a 0)]) co96 Z (f_record_Put_3_ok (4096:Int) a1.Isr d S _ _ _ _ _ _ m g2 U b9) (argsV2 Z Z Z)) Z ?_
 rintro _ k8 _ K ⟨_,⟨k9,l0,rfl,rfl,g3⟩,rfl⟩
 have y:=T.trans K
 refine WL.a3 (Ns (qm (.func (.func 96) #[] #[(pt b 0),(pt a 0)]) (qu (pt e 16) (Fa fo58_16 c Z) (qu i (Lb 3 pl56 Z Z Z) ?_))))
 obtain ⟨V,c1,h⟩:=bnd h
 refine Wb (Wb (Wb ?_))
 have n:=n.mono y
 refine We (callV3 (first:=#[]) (cap:=#[(pt b 0),(pt a 0)]) co96 Z (f_record_Put_3_ok (8192:Int) a1.Add d U _ _ _ _ _ _ n g3 V c1) (argsV2 Z Z Z)) Z ?_
 rintro _ l1 _ t ⟨_,⟨l2,l3,rfl,rfl,g4⟩,rfl⟩
 refine WL.a3 (Ns (qm (.func (.func 96) #[] #[(pt b 0),(pt a 0)]) (qu (pt e 17) (Fa fo58_17 c Z) (qu j (Lb 3 pl56 Z Z Z) ?_))))
 obtain ⟨g5,c2,h⟩:=bnd h
 refine Wb (Wb (Wb ?_))
 have o:=o.mono (y.trans t)
 refine We (callV3 (first:=#[]) (cap:=#[(pt b 0),(pt a 0)]) co96 Z (f_record_Put_3_ok (8192:Int) a1.Drop d V _ _ _ _ _ _ o g4 g5 c2) (argsV2 Z Z Z)) Z ?_
 rintro _ l4 _ L ⟨_,⟨z,W,rfl,rfl,g6⟩,rfl⟩
 exact WL.a3 (Ns (qu z (Lb 1 pl23 k Z Z) (qa z (qa (GV GErr.nil) (Nt (Cr (Dr (Dr (Qa (Dr (Rf h [W] Z (results2 Z Z Z) ((y.trans t).trans L) ⟨z,W,Z,Z,g6⟩)))))))))))
noncomputable def f_batch_Put_l0 (a0:T_api_Batch) (s_:((List Int)×Int)):Option (((List Int)×Int)⊕((List Int)⊕((List Int)×GErr))):=
 match s_ with
 |(b,a)=>
 (if(decide (a<(a0.Records.length:Int)))=true then(grd (0≤a∧a<a0.Records.length) ((f_record_Put b (rd a0.Records a)).bind fun(d,c)=>(if(!c.isNil)=true then((f_fault_Wrap (⟨#[114,101,99,111,114,100]⟩:ByteArray) a c).bind fun e=>(some (inr (inr ([],e)))))else(some (inl (d,i64.wrap (a+(1:Int))))))))else(some (inr (inl b))))
noncomputable def f_batch_Put (a0:T_api_Batch):Option ((List Int)×GErr):=
 ((f_batch_Check a0).bind fun b=>(if(!b.isNil)=true then(some ([],b))else((f_wire_Int [] a0.Term).bind fun c=>((f_wire_Int c a0.Base).bind fun d=>((f_wire_Int d (a0.Records.length:Int)).bind fun e=>((((iter (f_batch_Put_l0 a0) (e,(0:Int))).bind (Sum.elim (fun(f:(List Int))=>(some (inl f))) (fun(g,i)=>(((some (g,i))).bind fun r=>some (inr r))))):Option ((List Int)⊕((List Int)×GErr))).bind (Sum.elim (fun(a:(List Int))=>(if(decide ((16384:Int)<(a.length:Int)))=true then((f_fault_New (⟨#[98,97,116,99,104]⟩:ByteArray) (a.length:Int) (6:Int)).bind fun j=>(some ([],j)))else(some (a,GErr.nil)))) some)))))))
def f_batch_Put_post (a0:T_api_Batch) (c:Value):((List Int)×GErr)→Value→IM→HL→Prop:=
 fun(p_:((List Int)×GErr)) (v:Value) (M':IM) (H':HL)=>match p_ with |(d,e)=>∃ a b,(.tuple #[a,(GV e)])=v∧H'=[b]∧OwnS (Kd.int .u8) M' a d b
theorem f_batch_Put_ok (a0:T_api_Batch) (M:IM) (f:Value) (a:RS kd_api_Record M f a0.Records) (res:((List Int)×GErr)) (h:f_batch_Put a0=some res):
 Tri prog 28 #[(a55_ a0 f)] M [] (f_batch_Put_post a0 f res):=by
 unfold f_batch_Put at h
 refine Te func28 Z Z ?_
 intro F ρ hρ
 refine Sr (We (box (cs:=(l55 a0 f).toArray) (congrArg Value.cells (asE (a55_ a0 f) (hρ 0)))) Z ?_)
 rintro _ _ _ - ⟨rfl,D,rfl,rfl⟩
 refine qa Zs (qa (GV GErr.nil) (Nt (Cs (Sr (qu (a55_ a0 f) (La (cs:=(l55 a0 f)) 0 ag55 sz55 Z Z Z) ?_)))))
 obtain ⟨E,a2,h⟩:=bnd h
 refine We (Ca co49 (f_batch_Check_ok a0 _ _ a E a2) (args1 Z)) Z ?_
 rintro _ d5 _ y ⟨_,⟨rfl,rfl⟩,rfl⟩
 refine WL.a0 (qa (GV E) (Ns (qm (GV E) (qu (Bv (!E.isNil)) (errNotNil underlying31 Z) (Nt (Ch h Z (fun a3 h=> ?_) (fun a3 h=> ?_)))))))
 exact Sr (qm (GV E) (qa Zs (qa (GV E) (Nt (Cr (Tr (WQ.e0 (Qa (Dr (Rf h [[]] Z (results2 Z Z Z) y ⟨Zs,[],Z,Z,(OwnS.nil _ _)⟩))))))))))
 refine Ck (Tc (Cs (WC.draw [0,1,3,0,8,31,0,64,192,511,1023] (.pure 0 (.pure 1 (.pure 3 (.pure 4 (.pure 6 (.pure 7 (.pure 8 (.alt 2 (.alt 5 (.alt 9 (.pure 10 .done) .none) .none) .none)))))))) mixed (by kernel_rfl) (qt (pt D 0) Z (Fa fo55_0 Z Z) (qt (Iv a0.Term) Z (Lb 0 pl3 Z Z Z) (qt (pt D 1) Z (Fa fo55_1 Z Z) (qt (Iv a0.Base) Z (Lb 0 pl3 Z Z Z) (qt (pt D 2) Z (Fa fo55_2 Z Z) (qt f Z (Lb 0 pl53 Z Z Z) ?_)))))))))
 have a:=a.mono y
 refine qt (Iv (a0.Records.length:Int)) Z (lenS underlying53 Z a.len) ?_
 obtain ⟨a4,a5,h⟩:=bnd h
 refine WT.e0 (Ta Z (Cb co24 (f_wire_Int_ok [] a0.Term _ _ _ (OwnS.nil _ _) a4 a5) (args2 Z Z)) Z ?_ ?_)
 rintro _ d6 _ I ⟨_,⟨d0,d1,rfl,rfl,a6⟩,rfl⟩
 have a:=a.mono I
 refine⟨(Ss Z (lenS underlying53 Z a.len) Z (Ss Z (Lb 1 pl53 Z Z Z) Z (Ss Z (Fa fo55_2 Z Z) Z (Ss Z (Lb 1 pl3 Z Z Z) Z (Ss Z (Fa fo55_1 Z Z) Z (Sl Z)))))), ?_⟩
 refine WT.a1 ?_
 obtain ⟨a7,a8,h⟩:=bnd h
 refine Ta Z (Cb co24 (f_wire_Int_ok a4 a0.Base _ _ _ a6 a7 a8) (args2 Z Z)) Z ?_ ?_
 rintro _ d7 _ J ⟨_,⟨d2,d3,rfl,rfl,a9⟩,rfl⟩
 have a:=a.mono J
 refine⟨(Ss Z (lenS underlying53 Z a.len) Z (Ss Z (Lb 1 pl53 Z Z Z) Z (Ss Z (Fa fo55_2 Z Z) Z (Sl Z)))), ?_⟩
 refine WT.a1 ?_
 obtain ⟨c7,b0,h⟩:=bnd h
 refine Ta Z (Cb co24 (f_wire_Int_ok a7 (a0.Records.length:Int) _ _ _ a9 c7 b0) (args2 Z Z)) Z ?_ ?_
 rintro _ b1 _ K ⟨_,⟨Q,b2,rfl,rfl,b3⟩,rfl⟩
 have T:=((y.trans I).trans J).trans K
 refine⟨(Sl Z), ?_⟩
 refine WT.a1 (qt Q Z (Ag Z) (Ti (Tc ?_)))
 obtain ⟨c8,b4,h⟩:=bnd h
 refine WC.joinE (fun(G:(List Int)) ρ' M' H'=>∃ j o,b1.le M'∧[(D, .cells (l55 a0 f).toArray 55 (0,0))]::o::F=H'∧ρ' 5=j∧OwnS (Kd.int .u8) M' j G o) c8 ?_ ?_
 have b5:=h
 have h:=b4
 refine Sr (qu (pt D 2) (Fa fo55_2 Z Z) (qu f (Lb 1 pl53 Z Z Z) ?_))
 have a:=a.mono K
 refine qu (Iv (a0.Records.length:Int)) (lenS underlying53 Z a.len) (qm (Iv 0) (Nt (Bk (WC.f1 ?_))))
 obtain ⟨d8,b6,R⟩:=bnd h
 clear h
 refine WC.loop b6 (fun(p_:((List Int)×Int)) ρ' M' H'=>match p_ with |(P,g)=>∃ p A,b1.le M'∧[(D, .cells (l55 a0 f).toArray 55 (0,0))]::A::F=H'∧ρ' 5=p∧ρ' 26=f∧ρ' 27=(Iv (a0.Records.length:Int))∧ρ' 28=(Iv g)∧OwnS (Kd.int .u8) M' p P A) ?_ ?_
 exact⟨Q,b2,lr,Z,Z,Z,Z,Z,b3⟩
 rintro ⟨P,g⟩ d9 e1 e2 e3 h ⟨p,A,l,rfl,B,q,r,i,S⟩
 unfold f_batch_Put_l0 at h
 refine Sr (qu (Bv (decide (g<(a0.Records.length:Int)))) (lss i r) (Nt (Cs (Ch h Z (fun b7 h=> ?_) (fun b7 h=> ?_)))))
 refine Ck (Tc (Cs (Bk (Sr (qM (Iv g) i ?_)))))
 obtain ⟨C,h⟩:=grd_i h
 have a:=a.mono l
 obtain ⟨c9,d4,U,V,hhas59⟩:=a.at C.1 C.2 (by decide)
 obtain ⟨b,c,d,e,rfl,s,t,u,w⟩:=kd_api_Record_open V
 refine qu (.pointer (some c9)) (indexAddr (n:=a0.Records.length) underlying53 sz58 q i C.1 C.2 U) (qu (a58_ (rd a0.Records g) b c d e) (loadMA (cs:=(l58 (rd a0.Records g) b c d e)) ag58 sz58 Z hhas59) (We (Al ze58 Z) Z ?_))
 rintro _ _ _ - ⟨rfl,e4,rfl,rfl⟩
 refine qa (Iv g) (We (Sg (v:=(a58_ (rd a0.Records g) b c d e)) (vl:=(l58 (rd a0.Records g) b c d e)) (arr':=(l58 (rd a0.Records g) b c d e)) Z sz58 Z Z (onesOf (Oc Z (Oc Z (Oc Z (Oc Z (Oc Z (Oc Z (Oc Z (Oc Z (Oc Z (Oc Z (Oc Z (Oc Z (Oc Z (Oc Z (Oc (RS.one s) (Oc (RS.one t) (Oc (RS.one u) (Oc (RS.one w) Oz))))))))))))))))))) Z Z (by kernel_rfl)) Z ?_)
 rintro _ _ _ - ⟨rfl,rfl⟩
 refine Ns (qM p B (qu (a58_ (rd a0.Records g) b c d e) (La (cs:=(l58 (rd a0.Records g) b c d e)) 0 ag58 sz58 Z Z Z) ?_))
 obtain ⟨⟨b8,x⟩,b9,h⟩:=bnd h
 refine Wb (We (Cb co67 (f_record_Put_ok P (rd a0.Records g) _ _ _ _ _ _ _ S s t u w (b8,x) b9) (args2 Z Z)) Z ?_)
 rintro _ e5 _ L ⟨_,⟨k,c0,rfl,rfl,c1⟩,rfl⟩
 refine WL.a1 (qm (.tuple #[k,(GV x)]) (qu k (Xt Z Z) (qu (GV x) (Xt Z Z) (qa k (qa (GV x) (Nt (Cs (Sr (qm (GV x) (qu (Bv (!x.isNil)) (errNotNil underlying31 Z) (Nt ?_)))))))))))
 refine Ch h Z (fun c2 h=> ?_) (fun c2 h=> ?_)
 refine Sr (qm (Iv g) (qm (GV x) ?_))
 obtain ⟨W,c3,h⟩:=bnd h
 refine We (Ca co29 (f_fault_Wrap_ok ⟨#[114,101,99,111,114,100]⟩ g x _ W c3) (args3 Z Z Z)) Z ?_
 rintro _ e6 _ X ⟨_,⟨rfl,rfl⟩,rfl⟩
 refine WL.a0 (qa Zs (qa (GV W) (Nt (Cr (Tr (Br (Tr (WQ.leaveR (inr ([],W)) (oi h).symm (fun z=> ?_)))))))))
 subst z
 have h:=(elimR R)
 refine Br (Tr ?_)
 have h:=KK.early h b5
 exact WQ.e0 (Qa (Dr (Qa (Dr (Qa (Dr (Rf h [[]] Z (results2 Z Z Z) (((T.trans l).trans L).trans X) ⟨Zs,[],Z,Z,(OwnS.nil _ _)⟩)))))))
 refine Ck (Tc (Cg (qm k (qa k (Wz (Bn (Tc (Cg (qu (Iv (i64.wrap (g+1))) (add i Z) (qm (Iv (i64.wrap (g+1))) (Wz ?_)))))))))))
 exact Qa (Dr (Qa (WQ.again (b8,i64.wrap (g+1)) (oi h).symm ⟨k,c0,(l.trans L),Z,Z,q,r,Z,c1⟩)))
 refine WC.exit (WQ.thenE (WQ.leaveE (inl P) (oi h).symm (fun z=> ?_)))
 subst z
 have h:=elimL R
 exact WQ.blockH (WQ.thenFE h ⟨p,A,l,Z,B,S⟩)
 rintro G e7 e8 e9 rfl ⟨j,o,N,rfl,m,O⟩
 have h:=(Sum.elim_inl _ _ _).symm.trans h
 refine Cs (Sr (qM j m (qu (Iv (G.length:Int)) (lenS underlying23 Z O.len) (qu (Bv (decide ((16384:Int)<(G.length:Int)))) (gtr Z Z) (Nt (Ch h Z (fun c4 h=> ?_) (fun c4 h=> ?_)))))))
 refine Sr (qM j m (qu (Iv (G.length:Int)) (lenS underlying23 Z O.len) ?_))
 obtain ⟨c5,c6,h⟩:=bnd h
 refine We (Ca co30 (f_fault_New_ok ⟨#[98,97,116,99,104]⟩ (G.length:Int) (6:Int) _ c5 c6) (args3 Z Z Z)) Z ?_
 rintro _ f0 _ Y ⟨_,⟨rfl,rfl⟩,rfl⟩
 exact WL.a0 (qa Zs (qa (GV c5) (Nt (Cr (Tr (WQ.e0 (Qa (Dr (Qa (Dr (Rf h [[]] Z (results2 Z Z Z) ((T.trans N).trans Y) ⟨Zs,[],Z,Z,(OwnS.nil _ _)⟩)))))))))))
 exact Ck (Tc (Sr (qM j m (qa j (qa (GV GErr.nil) (Nt (Cr (Dr (Rf h [o] Z (results2 Z Z Z) (T.trans N) ⟨j,o,Z,Z,O⟩)))))))))
 exact Tz
 exact Tz
 exact Tz

end Go.Proofs.YtkflneabcannnaaGreatDoor.G
