/- Go functions: what they come to, and that they do. Printed by a program of the session (gen). -/
import Derived.Test.YtkflneabcannnaaGreatDoorVF
import Derived.Test.YtkflneabcannnaaGreatDoorKConv
import Derived.Test.YtkflneabcannnaaGreatDoorKShar2
import Derived.Test.YtkflneabcannnaaGreatDoorKTight2
set_option linter.unusedVariables false
set_option linter.unusedSimpArgs false
set_option maxHeartbeats 8000000
set_option maxRecDepth 100000
namespace Go.Proofs.YtkflneabcannnaaGreatDoor.G
open Go Go.KK
open PO EO IntKind Sum Tryz

noncomputable def f_fault_New (a0:ByteArray) (a1:Int) (a2:Int):Option GErr:=
 (some (GErr.fault a0 a1 (GErr.code a2)))
def f_fault_New_post (a0:ByteArray) (a1:Int) (a2:Int):GErr→Value→IM→HL→Prop:=
 fun(a:GErr) (v:Value) (M':IM) (H':HL)=>(GV a)=v∧H'=[]
theorem f_fault_New_ok (a0:ByteArray) (a1:Int) (a2:Int) (M:IM) (res:GErr) (h:f_fault_New a0 a1 a2=some res):
 Tri prog 30 #[(Sv a0),(Iv a1),(Iv a2)] M [] (f_fault_New_post a0 a1 a2 res):=by
 unfold f_fault_New at h
 refine Te func30 Z Z ?_
 intro F ρ hρ
 refine Sr (qa (GV GErr.nil) (Ns (qM (Sv a0) (hρ 0) (qM (Iv a1) (hρ 1) (qM (Iv a2) (hρ 2) (qu (GV (GErr.code a2)) (makeInterface cc38 Z) (qu (.agg #[(Sv a0),(Iv a1),(GV (GErr.code a2))]) (Bl (cl:=[(Sv a0),(Iv a1),(GV (GErr.code a2))]) ze108 fp108 (Pc (Sv a0) Z Z (Pc (Iv a1) Z Z (Parts.cons ((congrArg Value.cells (show ev _ _=(GV (GErr.code a2)) from Z)).trans (GErr.val_cells _ _ _ _)) Pz))) Z) (qu (GV (GErr.fault a0 a1 (GErr.code a2))) (makeInterface cc108 Z) (qa (GV (GErr.fault a0 a1 (GErr.code a2))) (Nt (Cr ?_)))))))))))
 exact Rf h [] Z (Rs Z Z) lr ⟨Z,Z⟩
noncomputable def f_rpc_about (a0:Int):Option Int:=
 (((((if(decide (a0=(8:Int)))=true then(some (inl (orI .i64 (0:Int) (416:Int))))else(((if(decide (a0=(5:Int)))=true then(some (decide (a0=(5:Int))))else(some (decide (a0=(6:Int))))):Option Bool).bind fun c=>(if c=true then(some (inl (0:Int)))else(if(decide (a0=(4:Int)))=true then(((some (orI .i64 (0:Int) (116:Int)))).bind fun r=>some (inr r))else(if(decide (a0=(2:Int)))=true then(((some (orI .i64 (0:Int) (7:Int)))).bind fun r=>some (inr r))else(if(decide (a0=(1:Int)))=true then(((some (orI .i64 (0:Int) (1:Int)))).bind fun r=>some (inr r))else(((some (0:Int))).bind fun r=>some (inr r)))))))):Option (Int⊕Int)).bind (Sum.elim (fun(d:Int)=>(some (orI .i64 d (4:Int)))) some)):Option Int).bind fun a=>(((((if(decide (a0=(1:Int)))=true then(some (decide (a0=(1:Int))))else(if(decide (a0=(3:Int)))=true then(some (decide (a0=(3:Int))))else(if(decide (a0=(4:Int)))=true then(some (decide (a0=(4:Int))))else(if(decide (a0=(7:Int)))=true then(some (decide (a0=(7:Int))))else(some (decide (a0=(8:Int)))))))):Option Bool).bind fun e=>(if e=true then(some (orI .i64 a (8:Int)))else(some a))):Option Int).bind fun b=>(((if(decide (a0=(7:Int)))=true then(some (orI .i64 b (256:Int)))else(some b)):Option Int).bind fun f=>(some f))))
def f_rpc_about_post (a0:Int):Int→Value→IM→HL→Prop:=
 fun(a:Int) (v:Value) (M':IM) (H':HL)=>(.int .i64 a)=v∧H'=[]
theorem f_rpc_about_ok (a0:Int) (M:IM) (res:Int) (h:f_rpc_about a0=some res):
 Tri prog 23 #[(Iv a0)] M [] (f_rpc_about_post a0 res):=by
 unfold f_rpc_about at h
 refine Te func23 Z Z ?_
 intro F ρ hρ
 refine Sr (qa (Iv 0) (Ns (qa (Iv 0) (Nt ?_))))
 obtain ⟨g,C,h⟩:=bnd h
 refine Jf (fun(g:Int) ρ' M' H'=>M.le M'∧F=H'∧ρ' 0=(Iv a0)∧ρ' 3=(Iv g)) g ?_ ?_
 have h:=C
 refine Sr (qM (Iv a0) (hρ 0) (Nt (Bk (Cs (Bk (Cs (Bk (Cs (Bk ?_)))))))))
 obtain ⟨Y,D,h⟩:=bnd h
 refine WC.joinE (fun(n:Int) ρ' M' H'=>M.le M'∧F=H'∧ρ' 0=(Iv a0)∧ρ' 3=(Iv n)) Y ?_ ?_
 have i:=h
 have h:=D
 refine Bk (Cs (Bk (Cs (Cs (Sr (qu (Bv (decide (a0=8))) (eql Z Z) (qa (Bv (decide (a0=8))) (Nt (Ch h Z (fun E h=> ?_) (fun E h=> ?_))))))))))
 refine WC.exit (WQ.thenE (WQ.thenE (WQ.blockH (Tc (Cg (qm (Iv 0) (qu (Iv (orI .i64 0 (416:Int))) (PO.or Z Z) (qa (Iv (orI .i64 0 (416:Int))) (Wz (Bn (WQ.thenFE h ?_)))))))))))
 exact⟨lr,Z,(hρ 0),Z⟩
 refine Ck (Tc (Cs ?_))
 obtain ⟨w,G,h⟩:=bnd h
 refine Jf (fun(w:Bool) ρ' M' H'=>M.le M'∧F=H'∧ρ' 0=(Iv a0)∧ρ' 3=(Iv 0)∧ρ' 4=(Iv a0)∧ρ' 7=(Bv w)) w ?_ ?_
 have h:=G
 refine Sr (qu (Bv (decide (a0=5))) (eql Z Z) (qa (Bv (decide (a0=5))) (Nt (Ch h Z (fun I h=> ?_) (fun I h=> ?_)))))
 refine Ck ?_
 obtain rfl:=oi h
 exact Tj ⟨lr,Z,(hρ 0),Z,Z,Z⟩
 refine Cg (qu (Bv (decide (a0=6))) (eql Z Z) (qa (Bv (decide (a0=6))) (Wz ?_)))
 obtain rfl:=oi h
 exact Tj ⟨lr,Z,(hρ 0),Z,Z,Z⟩
 rintro a2 a3 a4 ⟨e,rfl,b,c,f,r⟩
 refine Ch h r (fun J h=> ?_) (fun J h=> ?_)
 exact WC.exit (WQ.thenE (WQ.thenE (WQ.blockM Z (WQ.thenE (WQ.blockH (WQ.thenFE h ⟨e,Z,b,c⟩))))))
 refine Ck (Tc (Cs (Sr (qu (Bv (decide (a0=4))) (eql f Z) (qa (Bv (decide (a0=4))) (Nt (Ch h Z (fun K h=> ?_) (fun K h=> ?_))))))))
 refine WC.exit (WQ.thenE (WQ.thenE (WQ.blockM Z (WQ.thenE (WQ.blockM Z (WQ.thenE ?_))))))
 have h:=KK.early h i
 refine WQ.blockH (Tc (Sr (qM (Iv 0) c (qu (Iv (orI .i64 0 (116:Int))) (PO.or Z Z) (qa (Iv (orI .i64 0 (116:Int))) (Nt (WC.exit (WQ.blockM Z (WQ.thenE (WQ.blockM Z (WQ.thenE ?_)))))))))))
 refine WQ.blockH ?_
 obtain rfl:=oi h
 exact Tj ⟨e,Z,b,Z⟩
 refine Ck (Tc (Cs (Sr (qu (Bv (decide (a0=2))) (eql f Z) (qa (Bv (decide (a0=2))) (Nt (Ch h Z (fun L h=> ?_) (fun L h=> ?_))))))))
 refine WC.exit (WQ.thenE (WQ.thenE (WQ.blockM Z (WQ.thenE (WQ.blockM Z (WQ.thenE ?_))))))
 have h:=KK.early h i
 refine WQ.blockM Z (WQ.thenE (WQ.blockH (Tc (Sr (qM (Iv 0) c (qu (Iv (orI .i64 0 (7:Int))) (PO.or Z Z) (qa (Iv (orI .i64 0 (7:Int))) (Nt (WC.exit (WQ.blockM Z (WQ.thenE ?_)))))))))))
 refine WQ.blockH ?_
 obtain rfl:=oi h
 exact Tj ⟨e,Z,b,Z⟩
 refine Ck (Tc (Sr (qu (Bv (decide (a0=1))) (eql f Z) (qa (Bv (decide (a0=1))) (Nt (Ch h Z (fun N h=> ?_) (fun N h=> ?_)))))))
 refine WC.exit (WQ.thenE (WQ.blockM Z (WQ.thenE (WQ.blockM Z (WQ.thenE ?_)))))
 have h:=KK.early h i
 refine WQ.blockM Z (WQ.thenE (WQ.blockM Z (WQ.thenE (WQ.blockH (Tc (Sr (qM (Iv 0) c (qu (Iv (orI .i64 0 (1:Int))) (PO.or Z Z) (qa (Iv (orI .i64 0 (1:Int))) (Nt (WC.exit ?_)))))))))))
 refine WQ.blockH ?_
 obtain rfl:=oi h
 exact Tj ⟨e,Z,b,Z⟩
 refine Ck (Tc (WC.exit (WQ.blockM Z (WQ.thenE (WQ.blockM Z (WQ.thenE ?_))))))
 have h:=KK.early h i
 refine WQ.blockM Z (WQ.thenE (WQ.blockM Z (WQ.thenE (WQ.blockM Z (WQ.thenE (WQ.blockH ?_))))))
 obtain rfl:=oi h
 exact Tj ⟨e,Z,b,c⟩
 rintro n a5 a6 a7 rfl ⟨x,rfl,s,t⟩
 have h:=(Sum.elim_inl _ _ _).symm.trans h
 refine Sr (qM (Iv n) t (qu (Iv (orI .i64 n (4:Int))) (PO.or Z Z) (qa (Iv (orI .i64 n (4:Int))) (Nt (WC.exit (WQ.blockM Z (WQ.thenE (WQ.blockM Z (WQ.thenE (WQ.blockM Z (WQ.thenE ?_)))))))))))
 refine WQ.blockH ?_
 obtain rfl:=oi h
 exact Tj ⟨x,Z,s,Z⟩
 rintro a8 O a9 ⟨y,rfl,a,d⟩
 obtain ⟨m,P,h⟩:=bnd h
 refine Jf (fun(m:Int) ρ' M' H'=>O.le M'∧F=H'∧ρ' 0=(Iv a0)∧ρ' 3=(Iv m)) m ?_ ?_
 have h:=P
 refine Sr (qM (Iv a0) a (Nt (Bk ?_)))
 obtain ⟨z,Q,h⟩:=bnd h
 refine Jf (fun(z:Bool) ρ' M' H'=>O.le M'∧F=H'∧ρ' 0=(Iv a0)∧ρ' 3=(Iv g)∧ρ' 27=(Bv z)) z ?_ ?_
 have h:=Q
 refine Sr (qu (Bv (decide (a0=1))) (eql Z Z) (qa (Bv (decide (a0=1))) (Nt (Ch h Z (fun R h=> ?_) (fun R h=> ?_)))))
 refine Ck ?_
 obtain rfl:=oi h
 exact Tj ⟨lr,Z,a,d,Z⟩
 refine Sr (qu (Bv (decide (a0=3))) (eql Z Z) (qa (Bv (decide (a0=3))) (Nt (Ch h Z (fun S h=> ?_) (fun S h=> ?_)))))
 refine Ck ?_
 obtain rfl:=oi h
 exact Tj ⟨lr,Z,a,d,Z⟩
 refine Sr (qu (Bv (decide (a0=4))) (eql Z Z) (qa (Bv (decide (a0=4))) (Nt (Ch h Z (fun T h=> ?_) (fun T h=> ?_)))))
 refine Ck ?_
 obtain rfl:=oi h
 exact Tj ⟨lr,Z,a,d,Z⟩
 refine Sr (qu (Bv (decide (a0=7))) (eql Z Z) (qa (Bv (decide (a0=7))) (Nt (Ch h Z (fun U h=> ?_) (fun U h=> ?_)))))
 refine Ck ?_
 obtain rfl:=oi h
 exact Tj ⟨lr,Z,a,d,Z⟩
 refine Cg (qu (Bv (decide (a0=8))) (eql Z Z) (qa (Bv (decide (a0=8))) (Wz ?_)))
 obtain rfl:=oi h
 exact Tj ⟨lr,Z,a,d,Z⟩
 rintro b0 b1 b2 ⟨o,rfl,j,k,p⟩
 refine Ch h p (fun V h=> ?_) (fun V h=> ?_)
 refine Cg (qM (Iv g) k (qu (Iv (orI .i64 g (8:Int))) (PO.or Z Z) (qa (Iv (orI .i64 g (8:Int))) (Wz (Bn ?_)))))
 obtain rfl:=oi h
 exact Tj ⟨o,Z,j,Z⟩
 refine Ck (Bn ?_)
 obtain rfl:=oi h
 exact Tj ⟨o,Z,j,k⟩
 rintro b3 a1 b4 ⟨A,rfl,u,l⟩
 obtain ⟨q,W,h⟩:=bnd h
 refine Jf (fun(q:Int) ρ' M' H'=>a1.le M'∧F=H'∧ρ' 3=(Iv q)) q ?_ ?_
 have h:=W
 refine Sr (qM (Iv a0) u (qu (Bv (decide (a0=7))) (eql Z Z) (Nt (Ch h Z (fun X h=> ?_) (fun X h=> ?_)))))
 refine Cg (qM (Iv m) l (qu (Iv (orI .i64 m (256:Int))) (PO.or Z Z) (qa (Iv (orI .i64 m (256:Int))) (Wz ?_))))
 obtain rfl:=oi h
 exact Tj ⟨lr,Z,Z⟩
 refine Ck ?_
 obtain rfl:=oi h
 exact Tj ⟨lr,Z,l⟩
 rintro b5 b6 b7 ⟨B,rfl,v⟩
 exact Sr (qM (Iv q) v (qa (Iv q) (Nt (Cr (Rf h [] Z (Rs Z Z) ((y.trans A).trans B) ⟨Z,Z⟩)))))
noncomputable def f_rpc_Check_1 (a0:Int) (a1:T_api_Rpc):Option Bool:=
 ((f_rpc_about a1.Kind).bind fun a=>(some (decide ((andI .i64 a a0)≠(0:Int)))))
def f_rpc_Check_1_post (a0:Int) (a1:T_api_Rpc) (a b:Value) (c:Nat):Bool→Value→IM→HL→Prop:=
 fun(d:Bool) (v:Value) (M':IM) (H':HL)=>(.bool d)=v∧H'=[[(c, .cells #[(.int .i64 a1.Kind),(.int .i64 a1.From),(.int .i64 a1.To),(.int .i64 a1.Term),(.bool a1.Pre),(.bool a1.Ok),(.int .i64 a1.Leader),(.int .i64 a1.At),(.int .i64 a1.AtTerm),(.int .i64 a1.High),(.int .i64 a1.Code),a,(.int .i64 a1.Size),(.int .i64 a1.Pos),b] 25 (0,0))]]
theorem f_rpc_Check_1_ok (a0:Int) (a1:T_api_Rpc) (M:IM) (a b:Value) (e:Nat) (g:RS kd_api_Batch M a a1.Batches) (i:RS (Kd.int .u8) M b a1.Data) (res:Bool) (h:f_rpc_Check_1 a0 a1=some res):
 Tri prog 47 #[(Iv a0),(pt e 0)] M [[(e, .cells (l25 a1 a b).toArray 25 (0,0))]] (f_rpc_Check_1_post a0 a1 a b e res):=by
 unfold f_rpc_Check_1 at h
 refine Te func47 Z Z ?_
 intro F ρ hρ
 refine Sr (qa (Bv false) (Ns (qu (pt e 0) (Fa fo25_0 (hρ 1) Z) (qu (Iv a1.Kind) (Lb 0 pl3 Z Z Z) ?_))))
 obtain ⟨c,f,h⟩:=bnd h
 refine We (Ca co23 (f_rpc_about_ok a1.Kind _ c f) (args1 Z)) Z ?_
 rintro _ j _ d ⟨_,⟨rfl,rfl⟩,rfl⟩
 exact WL.a0 (qM (Iv a0) (hρ 0) (qu (Iv (andI .i64 c a0)) (PO.and Z Z) (qu (Bv (decide ((andI .i64 c a0)≠0))) (neq Z Z) (qa (Bv (decide ((andI .i64 c a0)≠0))) (Nt (Cr (Rf h [[(e, .cells (l25 a1 a b).toArray 25 (0,0))]] Z (Rs Z Z) d ⟨Z,Z⟩)))))))
noncomputable def f_rpc_number (a0:Int) (a1:Bool) (a2:Int):Option Bool:=
 (if(!a1)=true then(some (decide (a0=(0:Int))))else(((if(decide ((0:Int)≤a0))=true then(some (decide (a0≤a2)))else(some false)):Option Bool).bind fun a=>(some a)))
def f_rpc_number_post (a0:Int) (a1:Bool) (a2:Int):Bool→Value→IM→HL→Prop:=
 fun(a:Bool) (v:Value) (M':IM) (H':HL)=>(.bool a)=v∧H'=[]
theorem f_rpc_number_ok (a0:Int) (a1:Bool) (a2:Int) (M:IM) (res:Bool) (h:f_rpc_number a0 a1 a2=some res):
 Tri prog 48 #[(Iv a0),(Bv a1),(Iv a2)] M [] (f_rpc_number_post a0 a1 a2 res):=by
 unfold f_rpc_number at h
 refine Te func48 Z Z ?_
 intro F ρ hρ
 refine Sr (qa (Bv false) (Nt (Cs (Sr (qM (Bv a1) (hρ 1) (qu (Bv (!a1)) (PO.not Z) (Nt (Ch h Z (fun e h=> ?_) (fun e h=> ?_)))))))))
 exact Sr (qM (Iv a0) (hρ 0) (qu (Bv (decide (a0=0))) (eql Z Z) (qa (Bv (decide (a0=0))) (Nt (Cr (Tr (Rf h [] Z (Rs Z Z) lr ⟨Z,Z⟩)))))))
 refine Ck (Tc ?_)
 obtain ⟨c,f,h⟩:=bnd h
 refine Jf (fun(c:Bool) ρ' M' H'=>M.le M'∧F=H'∧ρ' 6=(Bv c)) c ?_ ?_
 have h:=f
 refine Cg (qM (Iv a0) (hρ 0) (qu (Bv (decide ((0:Int)≤a0))) (geq Z Z) (qm (Bv (decide ((0:Int)≤a0))) ?_)))
 rcases Bi h with⟨a,h⟩ |⟨a,h⟩
 refine On 13 Z Z a (qM (Iv a0) (hρ 0) (On 13 Z Z a (qM (Iv a2) (hρ 2) (qo 13 a (Bv (decide (a0≤a2))) (leq Z Z) (qu (Bv (decide (a0≤a2))) (Pt Z a Z) (qa (Bv (decide (a0≤a2))) (Wz ?_)))))))
 obtain rfl:=oi h
 exact Tj ⟨lr,Z,Z⟩
 iterate 3 refine Of 13 Z Z a Z ?_
 refine qu (Bv false) (Pf Z a Z) (qa (Bv false) (Wz ?_))
 obtain rfl:=oi h
 exact Tj ⟨lr,Z,Z⟩
 rintro g i j ⟨d,rfl,b⟩
 exact Cr (Rf h [] Z (Rs Z b) d ⟨Z,Z⟩)
noncomputable def f_record_about (a0:Int):Option Int:=
 (if(decide (a0=(2:Int)))=true then(some (1027:Int))else(((if(decide (a0=(3:Int)))=true then(some (decide (a0=(3:Int))))else(if(decide (a0=(4:Int)))=true then(some (decide (a0=(4:Int))))else(if(decide (a0=(5:Int)))=true then(some (decide (a0=(5:Int))))else(some (decide (a0=(6:Int))))))):Option Bool).bind fun a=>(if a=true then(some (3:Int))else(if(decide (a0=(7:Int)))=true then(some (132:Int))else(if(decide (a0=(8:Int)))=true then(some (6172:Int))else(if(decide (a0=(9:Int)))=true then(some (14366:Int))else(if(decide (a0=(10:Int)))=true then(some (836:Int))else(if(decide (a0=(11:Int)))=true then(some (4:Int))else(if(decide (a0=(12:Int)))=true then(some (32:Int))else(some (0:Int)))))))))))
def f_record_about_post (a0:Int):Int→Value→IM→HL→Prop:=
 fun(a:Int) (v:Value) (M':IM) (H':HL)=>(.int .i64 a)=v∧H'=[]
theorem f_record_about_ok (a0:Int) (M:IM) (res:Int) (h:f_record_about a0=some res):
 Tri prog 93 #[(Iv a0)] M [] (f_record_about_post a0 res):=by
 unfold f_record_about at h
 refine Te func93 Z Z ?_
 intro F ρ hρ
 refine Sr (qa (Iv 0) (Nt (Cs (Sr (qM (Iv a0) (hρ 0) (Nt (Bk (Sr (qu (Bv (decide (a0=2))) (eql Z Z) (qa (Bv (decide (a0=2))) (Nt ?_)))))))))))
 refine Ch h Z (fun e h=> ?_) (fun e h=> ?_)
 exact Sr (qa (Iv 1027) (Nt (Cr (Br (Tr (Rf h [] Z (Rs Z Z) lr ⟨Z,Z⟩))))))
 obtain ⟨d,f,h⟩:=bnd h
 refine Jf (fun(d:Bool) ρ' M' H'=>M.le M'∧F=H'∧ρ' 3=(Iv a0)∧ρ' 6=(Bv d)) d ?_ ?_
 have h:=f
 refine Sr (qu (Bv (decide (a0=3))) (eql Z Z) (qa (Bv (decide (a0=3))) (Nt (Ch h Z (fun g h=> ?_) (fun g h=> ?_)))))
 refine Ck ?_
 obtain rfl:=oi h
 exact Tj ⟨lr,Z,Z,Z⟩
 refine Sr (qu (Bv (decide (a0=4))) (eql Z Z) (qa (Bv (decide (a0=4))) (Nt (Ch h Z (fun i h=> ?_) (fun i h=> ?_)))))
 refine Ck ?_
 obtain rfl:=oi h
 exact Tj ⟨lr,Z,Z,Z⟩
 refine Sr (qu (Bv (decide (a0=5))) (eql Z Z) (qa (Bv (decide (a0=5))) (Nt (Ch h Z (fun j h=> ?_) (fun j h=> ?_)))))
 refine Ck ?_
 obtain rfl:=oi h
 exact Tj ⟨lr,Z,Z,Z⟩
 refine Cg (qu (Bv (decide (a0=6))) (eql Z Z) (qa (Bv (decide (a0=6))) (Wz ?_)))
 obtain rfl:=oi h
 exact Tj ⟨lr,Z,Z,Z⟩
 rintro r s t ⟨a,rfl,b,c⟩
 refine Ch h c (fun k h=> ?_) (fun k h=> ?_)
 exact Sr (qa (Iv 3) (Nt (Cr (Br (Tr (Rf h [] Z (Rs Z Z) a ⟨Z,Z⟩))))))
 refine Sr (qu (Bv (decide (a0=7))) (eql b Z) (qa (Bv (decide (a0=7))) (Nt (Ch h Z (fun l h=> ?_) (fun l h=> ?_)))))
 exact Sr (qa (Iv 132) (Nt (Cr (Br (Tr (Rf h [] Z (Rs Z Z) a ⟨Z,Z⟩))))))
 refine Sr (qu (Bv (decide (a0=8))) (eql b Z) (qa (Bv (decide (a0=8))) (Nt (Ch h Z (fun m h=> ?_) (fun m h=> ?_)))))
 exact Sr (qa (Iv 6172) (Nt (Cr (Br (Tr (Rf h [] Z (Rs Z Z) a ⟨Z,Z⟩))))))
 refine Sr (qu (Bv (decide (a0=9))) (eql b Z) (qa (Bv (decide (a0=9))) (Nt (Ch h Z (fun n h=> ?_) (fun n h=> ?_)))))
 exact Sr (qa (Iv 14366) (Nt (Cr (Br (Tr (Rf h [] Z (Rs Z Z) a ⟨Z,Z⟩))))))
 refine Sr (qu (Bv (decide (a0=10))) (eql b Z) (qa (Bv (decide (a0=10))) (Nt (Ch h Z (fun o h=> ?_) (fun o h=> ?_)))))
 exact Sr (qa (Iv 836) (Nt (Cr (Br (Tr (Rf h [] Z (Rs Z Z) a ⟨Z,Z⟩))))))
 refine Sr (qu (Bv (decide (a0=11))) (eql b Z) (qa (Bv (decide (a0=11))) (Nt (Ch h Z (fun p h=> ?_) (fun p h=> ?_)))))
 exact Sr (qa (Iv 4) (Nt (Cr (Br (Tr (Rf h [] Z (Rs Z Z) a ⟨Z,Z⟩))))))
 refine Sr (qu (Bv (decide (a0=12))) (eql b Z) (qa (Bv (decide (a0=12))) (Nt (Ch h Z (fun q h=> ?_) (fun q h=> ?_)))))
 exact Sr (qa (Iv 32) (Nt (Cr (Br (Tr (Rf h [] Z (Rs Z Z) a ⟨Z,Z⟩))))))
 exact Ck (Bn (Tc (Sr (qa (Iv 0) (Nt (Cr (Rf h [] Z (Rs Z Z) a ⟨Z,Z⟩)))))))
noncomputable def f_record_Check_1 (a0:Int) (a1:T_api_Record):Option Bool:=
 ((f_record_about a1.Kind).bind fun a=>(some (decide ((andI .i64 a a0)≠(0:Int)))))
def f_record_Check_1_post (a0:Int) (a1:T_api_Record) (a b c d:Value) (e:Nat):Bool→Value→IM→HL→Prop:=
 fun(f:Bool) (v:Value) (M':IM) (H':HL)=>(.bool f)=v∧H'=[[(e, .cells #[(.int .i64 a1.Kind),(.int .i64 a1.Broker),(.int .i64 a1.Epoch),(.int .i64 a1.Topic),(.int .i64 a1.Part),(.int .i64 a1.Leader),(.int .i64 a1.Client),(.int .i64 a1.Serial),(.int .i64 a1.Code),(.bool a1.Flag),(.string a1.Name),(.string a1.Key),(.string a1.Value),(.string a1.Rack),a,b,c,d] 58 (0,0))]]
theorem f_record_Check_1_ok (a0:Int) (a1:T_api_Record) (M:IM) (a b c d:Value) (g:Nat) (j:RS (Kd.int .i64) M a a1.Ids) (k:RS (Kd.int .i64) M b a1.Isr) (l:RS (Kd.int .i64) M c a1.Add) (m:RS (Kd.int .i64) M d a1.Drop) (res:Bool) (h:f_record_Check_1 a0 a1=some res):
 Tri prog 112 #[(Iv a0),(pt g 0)] M [[(g, .cells (l58 a1 a b c d).toArray 58 (0,0))]] (f_record_Check_1_post a0 a1 a b c d g res):=by
 unfold f_record_Check_1 at h
 refine Te func112 Z Z ?_
 intro F ρ hρ
 refine Sr (qa (Bv false) (Ns (qu (pt g 0) (Fa fo58_0 (hρ 1) Z) (qu (Iv a1.Kind) (Lb 0 pl3 Z Z Z) ?_))))
 obtain ⟨e,i,h⟩:=bnd h
 refine We (Ca co93 (f_record_about_ok a1.Kind _ e i) (args1 Z)) Z ?_
 rintro _ n _ f ⟨_,⟨rfl,rfl⟩,rfl⟩
 exact WL.a0 (qM (Iv a0) (hρ 0) (qu (Iv (andI .i64 e a0)) (PO.and Z Z) (qu (Bv (decide ((andI .i64 e a0)≠0))) (neq Z Z) (qa (Bv (decide ((andI .i64 e a0)≠0))) (Nt (Cr (Rf h [[(g, .cells (l58 a1 a b c d).toArray 58 (0,0))]] Z (Rs Z Z) f ⟨Z,Z⟩)))))))
noncomputable def f_record_number (a0:Int) (a1:Bool) (a2:Int) (a3:Int):Option Bool:=
 (if(!a1)=true then(some (decide (a0=(0:Int))))else(((if(decide (a2≤a0))=true then(some (decide (a0≤a3)))else(some false)):Option Bool).bind fun a=>(some a)))
def f_record_number_post (a0:Int) (a1:Bool) (a2:Int) (a3:Int):Bool→Value→IM→HL→Prop:=
 fun(a:Bool) (v:Value) (M':IM) (H':HL)=>(.bool a)=v∧H'=[]
theorem f_record_number_ok (a0:Int) (a1:Bool) (a2:Int) (a3:Int) (M:IM) (res:Bool) (h:f_record_number a0 a1 a2 a3=some res):
 Tri prog 114 #[(Iv a0),(Bv a1),(Iv a2),(Iv a3)] M [] (f_record_number_post a0 a1 a2 a3 res):=by
 unfold f_record_number at h
 refine Te func114 Z Z ?_
 intro F ρ hρ
 refine Sr (qa (Bv false) (Nt (Cs (Sr (qM (Bv a1) (hρ 1) (qu (Bv (!a1)) (PO.not Z) (Nt (Ch h Z (fun e h=> ?_) (fun e h=> ?_)))))))))
 exact Sr (qM (Iv a0) (hρ 0) (qu (Bv (decide (a0=0))) (eql Z Z) (qa (Bv (decide (a0=0))) (Nt (Cr (Tr (Rf h [] Z (Rs Z Z) lr ⟨Z,Z⟩)))))))
 refine Ck (Tc ?_)
 obtain ⟨c,f,h⟩:=bnd h
 refine Jf (fun(c:Bool) ρ' M' H'=>M.le M'∧F=H'∧ρ' 8=(Bv c)) c ?_ ?_
 have h:=f
 refine Cg (qM (Iv a0) (hρ 0) (qM (Iv a2) (hρ 2) (qu (Bv (decide (a2≤a0))) (geq Z Z) (qm (Bv (decide (a2≤a0))) ?_))))
 rcases Bi h with⟨a,h⟩ |⟨a,h⟩
 refine On 16 Z Z a (qM (Iv a0) (hρ 0) (On 16 Z Z a (qM (Iv a3) (hρ 3) (qo 16 a (Bv (decide (a0≤a3))) (leq Z Z) (qu (Bv (decide (a0≤a3))) (Pt Z a Z) (qa (Bv (decide (a0≤a3))) (Wz ?_)))))))
 obtain rfl:=oi h
 exact Tj ⟨lr,Z,Z⟩
 iterate 3 refine Of 16 Z Z a Z ?_
 refine qu (Bv false) (Pf Z a Z) (qa (Bv false) (Wz ?_))
 obtain rfl:=oi h
 exact Tj ⟨lr,Z,Z⟩
 rintro g i j ⟨d,rfl,b⟩
 exact Cr (Rf h [] Z (Rs Z b) d ⟨Z,Z⟩)
noncomputable def f_record_Name_l0 (a0:ByteArray) (s_:Int):Option (Int⊕(Unit⊕Unit)):=
 match s_ with
 |a=>
 (if(decide (a<((bytesOf a0).length:Int)))=true then(grd (0≤a∧a<(bytesOf a0).length) (((if(decide ((97:Int)≤(rd (bytesOf a0) a)))=true then(if(decide ((48:Int)≤(rd (bytesOf a0) a)))=true then(some (decide ((rd (bytesOf a0) a)≤(122:Int)),decide ((rd (bytesOf a0) a)≤(57:Int))))else(some (decide ((rd (bytesOf a0) a)≤(122:Int)),false)))else(if(decide ((48:Int)≤(rd (bytesOf a0) a)))=true then(some (false,decide ((rd (bytesOf a0) a)≤(57:Int))))else(some (false,false)))):Option (Bool×Bool)).bind fun(b,c)=>(((if(!b)=true then(if(!c)=true then(if(decide ((rd (bytesOf a0) a)≠(46:Int)))=true then(some (decide ((rd (bytesOf a0) a)≠(45:Int))))else(some false))else(some false))else(some false)):Option Bool).bind fun d=>(if d=true then(some (inr (inr ())))else(some (inl (i64.wrap (a+(1:Int)))))))))else(some (inr (inl ()))))
noncomputable def f_record_Name (a0:ByteArray):Option Bool:=
 (((if(decide (a0=(⟨#[]⟩:ByteArray)))=true then(some true)else(if(decide ((40:Int)<(a0.size:Int)))=true then(some true)else(if(decide (a0=(⟨#[46]⟩:ByteArray)))=true then(some true)else(some (decide (a0=(⟨#[46,46]⟩:ByteArray))))))):Option Bool).bind fun a=>(if a=true then(some false)else((((iter (f_record_Name_l0 a0) (0:Int)).bind (Sum.elim (fun _=>(some (inl ()))) (fun _=>(((some false)).bind fun r=>some (inr r))))):Option (Unit⊕Bool)).bind (Sum.elim (fun _=>(some true)) some))))
def f_record_Name_post (a0:ByteArray):Bool→Value→IM→HL→Prop:=
 fun(a:Bool) (v:Value) (M':IM) (H':HL)=>(.bool a)=v∧H'=[]
theorem f_record_Name_ok (a0:ByteArray) (M:IM) (res:Bool) (h:f_record_Name a0=some res):
 Tri prog 116 #[(Sv a0)] M [] (f_record_Name_post a0 res):=by
 unfold f_record_Name at h
 refine Te func116 Z Z ?_
 intro F ρ hρ
 refine Sr (qa (Bv false) (Nt (Cs ?_)))
 obtain ⟨O,V,h⟩:=bnd h
 refine Jf (fun(O:Bool) ρ' M' H'=>M.le M'∧F=H'∧ρ' 0=(Sv a0)∧ρ' 21=(Bv O)) O ?_ ?_
 have h:=V
 refine Cg (qM (Sv a0) (hρ 0) (qu (Bv (decide (a0=(⟨#[]⟩:ByteArray)))) (seql Z Z) (qm (Bv (decide (a0=(⟨#[]⟩:ByteArray)))) ?_)))
 rcases Bi h with⟨i,h⟩ |⟨i,h⟩
 iterate 3 refine Of 9 Z Z i Z ?_
 refine qu (Bv true) (Pt Z i Z) (qm (Bv true) ?_)
 iterate 2 refine Of 14 Z Z Z Z ?_
 refine qu (Bv true) (Pt Z Z Z) (qm (Bv true) ?_)
 iterate 2 refine Of 18 Z Z Z Z ?_
 refine qu (Bv true) (Pt Z Z Z) (Wz ?_)
 obtain rfl:=oi h
 exact Tj ⟨lr,Z,(hρ 0),Z⟩
 refine On 9 Z Z i (qM (Sv a0) (hρ 0) (qo 9 i (Iv (a0.size:Int)) (lenStr underlying9 Z) (qo 9 i (Bv (decide ((40:Int)<(a0.size:Int)))) (gtr Z Z) (qu (Bv (decide ((40:Int)<(a0.size:Int)))) (Pf Z i Z) (qm (Bv (decide ((40:Int)<(a0.size:Int)))) ?_)))))
 rcases Bi h with⟨j,h⟩ |⟨j,h⟩
 iterate 2 refine Of 14 Z Z j Z ?_
 refine qu (Bv true) (Pt Z j Z) (qm (Bv true) ?_)
 iterate 2 refine Of 18 Z Z Z Z ?_
 refine qu (Bv true) (Pt Z Z Z) (Wz ?_)
 obtain rfl:=oi h
 exact Tj ⟨lr,Z,(hρ 0),Z⟩
 refine On 14 Z Z j (qM (Sv a0) (hρ 0) (qo 14 j (Bv (decide (a0=(⟨#[46]⟩:ByteArray)))) (seql Z Z) (qu (Bv (decide (a0=(⟨#[46]⟩:ByteArray)))) (Pf Z j Z) (qm (Bv (decide (a0=(⟨#[46]⟩:ByteArray)))) ?_))))
 rcases Bi h with⟨k,h⟩ |⟨k,h⟩
 iterate 2 refine Of 18 Z Z k Z ?_
 refine qu (Bv true) (Pt Z k Z) (Wz ?_)
 obtain rfl:=oi h
 exact Tj ⟨lr,Z,(hρ 0),Z⟩
 refine On 18 Z Z k (qM (Sv a0) (hρ 0) (qo 18 k (Bv (decide (a0=(⟨#[46,46]⟩:ByteArray)))) (seql Z Z) (qu (Bv (decide (a0=(⟨#[46,46]⟩:ByteArray)))) (Pf Z k Z) (Wz ?_))))
 obtain rfl:=oi h
 exact Tj ⟨lr,Z,(hρ 0),Z⟩
 rintro b3 W b4 ⟨t,rfl,I,y⟩
 refine Ch h y (fun X h=> ?_) (fun X h=> ?_)
 exact Sr (qa (Bv false) (Nt (Cr (Tr (Rf h [] Z (Rs Z Z) t ⟨Z,Z⟩)))))
 refine Ck (Tc ?_)
 obtain ⟨a8,Y,h⟩:=bnd h
 refine WC.joinE (fun(_:Unit) ρ' M' H'=>W.le M'∧F=H') a8 ?_ ?_
 have a1:=h
 have h:=Y
 refine Sr (qM (Sv a0) I (We (s2b underlying9 underlying23 underlying5 Z) Z ?_))
 rintro P _ _ - ⟨rfl,Q,rfl,J⟩
 refine qu (Iv ((bytesOf a0).length:Int)) (lenS underlying23 Z J.len) (qm (Iv 0) (Nt (Bk ?_)))
 obtain ⟨b5,a2,N⟩:=bnd h
 clear h
 refine WC.loop a2 (fun(a:Int) ρ' M' H'=>W.le M'∧Q::F=H'∧ρ' 23=P∧ρ' 24=(Iv ((bytesOf a0).length:Int))∧ρ' 25=(Iv a)) ?_ ?_
 exact⟨lr,Z,Z,Z,Z⟩
 rintro a b6 b7 a9 b8 h ⟨s,rfl,c,d,b⟩
 unfold f_record_Name_l0 at h
 refine Sr (qu (Bv (decide (a<((bytesOf a0).length:Int)))) (lss b d) (Nt (Cs (Ch h Z (fun a3 h=> ?_) (fun a3 h=> ?_)))))
 refine Ck (Tc (Cs (Bk (Sr ?_))))
 obtain ⟨v,h⟩:=grd_i h
 have J:=J.mono s
 obtain ⟨b0,b2,R,S,hhas39⟩:=J.at v.1 v.2
 obtain rfl:=S
 refine qu (.pointer (some b0)) (indexAddr (n:=(bytesOf a0).length) underlying23 sz5 c b v.1 v.2 R) (qu (Yv (rd (bytesOf a0) a)) (loadC 0 pl5 Z Z (chunkHas0 hhas39)) (qa (Yv (rd (bytesOf a0) a)) (Nt ?_)))
 obtain ⟨a4,a5,h⟩:=bnd h
 refine Jf (fun(p_:(Bool×Bool)) ρ' M' H'=>match p_ with |(z,x)=>a9.le M'∧Q::F=H'∧ρ' 4=(Yv (rd (bytesOf a0) a))∧ρ' 5=(Bv z)∧ρ' 6=(Bv x)∧ρ' 23=P∧ρ' 24=(Iv ((bytesOf a0).length:Int))∧ρ' 25=(Iv a)) a4 ?_ ?_
 have h:=a5
 refine Cg (qm (Yv (rd (bytesOf a0) a)) (qu (Bv (decide ((97:Int)≤(rd (bytesOf a0) a)))) (geq Z Z) (qm (Bv (decide ((97:Int)≤(rd (bytesOf a0) a)))) ?_)))
 rcases Bi h with⟨l,h⟩ |⟨l,h⟩
 refine On 31 Z Z l (qm (Yv (rd (bytesOf a0) a)) (qo 31 l (Bv (decide ((rd (bytesOf a0) a)≤122))) (leq Z Z) (qu (Bv (decide ((rd (bytesOf a0) a)≤122))) (Pt Z l Z) (qm (Yv (rd (bytesOf a0) a)) (qu (Bv (decide ((48:Int)≤(rd (bytesOf a0) a)))) (geq Z Z) (qm (Bv (decide ((48:Int)≤(rd (bytesOf a0) a)))) ?_))))))
 rcases Bi h with⟨m,h⟩ |⟨m,h⟩
 refine On 37 Z Z m (qm (Yv (rd (bytesOf a0) a)) (qo 37 m (Bv (decide ((rd (bytesOf a0) a)≤57))) (leq Z Z) (qu (Bv (decide ((rd (bytesOf a0) a)≤57))) (Pt Z m Z) (qa (Bv (decide ((rd (bytesOf a0) a)≤122))) (qa (Bv (decide ((rd (bytesOf a0) a)≤57))) (Wz ?_))))))
 obtain rfl:=oi h
 exact Tj ⟨lr,Z,Z,Z,Z,c,d,b⟩
 iterate 2 refine Of 37 Z Z m Z ?_
 refine qu (Bv false) (Pf Z m Z) (qa (Bv (decide ((rd (bytesOf a0) a)≤122))) (qa (Bv false) (Wz ?_)))
 obtain rfl:=oi h
 exact Tj ⟨lr,Z,Z,Z,Z,c,d,b⟩
 iterate 2 refine Of 31 Z Z l Z ?_
 refine qu (Bv false) (Pf Z l Z) (qm (Yv (rd (bytesOf a0) a)) (qu (Bv (decide ((48:Int)≤(rd (bytesOf a0) a)))) (geq Z Z) (qm (Bv (decide ((48:Int)≤(rd (bytesOf a0) a)))) ?_)))
 rcases Bi h with⟨o,h⟩ |⟨o,h⟩
 refine On 37 Z Z o (qm (Yv (rd (bytesOf a0) a)) (qo 37 o (Bv (decide ((rd (bytesOf a0) a)≤57))) (leq Z Z) (qu (Bv (decide ((rd (bytesOf a0) a)≤57))) (Pt Z o Z) (qa (Bv false) (qa (Bv (decide ((rd (bytesOf a0) a)≤57))) (Wz ?_))))))
 obtain rfl:=oi h
 exact Tj ⟨lr,Z,Z,Z,Z,c,d,b⟩
 iterate 2 refine Of 37 Z Z o Z ?_
 refine qu (Bv false) (Pf Z o Z) (qa (Bv false) (qa (Bv false) (Wz ?_)))
 obtain rfl:=oi h
 exact Tj ⟨lr,Z,Z,Z,Z,c,d,b⟩
 obtain ⟨z,x⟩:=a4
 rintro b9 b1 c0 ⟨A,rfl,w,K,L,e,f,g⟩
 obtain ⟨T,a6,h⟩:=bnd h
 refine Jf (fun(T:Bool) ρ' M' H'=>b1.le M'∧Q::F=H'∧ρ' 23=P∧ρ' 24=(Iv ((bytesOf a0).length:Int))∧ρ' 25=(Iv a)∧ρ' 54=(Bv T)) T ?_ ?_
 have h:=a6
 refine Cg (qM (Bv z) K (qu (Bv (!z)) (PO.not Z) (qm (Bv (!z)) ?_)))
 rcases Bi h with⟨p,h⟩ |⟨p,h⟩
 refine On 43 Z Z p (qM (Bv x) L (qo 43 p (Bv (!x)) (PO.not Z) (qu (Bv (!x)) (Pt Z p Z) (qm (Bv (!x)) ?_))))
 rcases Bi h with⟨q,h⟩ |⟨q,h⟩
 refine On 47 Z Z q (qM (Yv (rd (bytesOf a0) a)) w (qo 47 q (Bv (decide ((rd (bytesOf a0) a)≠46))) (neq Z Z) (qu (Bv (decide ((rd (bytesOf a0) a)≠46))) (Pt Z q Z) (qm (Bv (decide ((rd (bytesOf a0) a)≠46))) ?_))))
 rcases Bi h with⟨r,h⟩ |⟨r,h⟩
 refine On 51 Z Z r (qM (Yv (rd (bytesOf a0) a)) w (qo 51 r (Bv (decide ((rd (bytesOf a0) a)≠45))) (neq Z Z) (qu (Bv (decide ((rd (bytesOf a0) a)≠45))) (Pt Z r Z) (Wz ?_))))
 obtain rfl:=oi h
 exact Tj ⟨lr,Z,e,f,g,Z⟩
 iterate 2 refine Of 51 Z Z r Z ?_
 refine qu (Bv false) (Pf Z r Z) (Wz ?_)
 obtain rfl:=oi h
 exact Tj ⟨lr,Z,e,f,g,Z⟩
 iterate 2 refine Of 47 Z Z q Z ?_
 refine qu (Bv false) (Pf Z q Z) (qm (Bv false) ?_)
 iterate 2 refine Of 51 Z Z Z Z ?_
 refine qu (Bv false) (Pf Z Z Z) (Wz ?_)
 obtain rfl:=oi h
 exact Tj ⟨lr,Z,e,f,g,Z⟩
 iterate 2 refine Of 43 Z Z p Z ?_
 refine qu (Bv false) (Pf Z p Z) (qm (Bv false) ?_)
 iterate 2 refine Of 47 Z Z Z Z ?_
 refine qu (Bv false) (Pf Z Z Z) (qm (Bv false) ?_)
 iterate 2 refine Of 51 Z Z Z Z ?_
 refine qu (Bv false) (Pf Z Z Z) (Wz ?_)
 obtain rfl:=oi h
 exact Tj ⟨lr,Z,e,f,g,Z⟩
 rintro c1 c2 c3 ⟨B,rfl,C,D,E,G⟩
 refine Ch h G (fun a7 h=> ?_) (fun a7 h=> ?_)
 refine Sr (qa (Bv false) (Nt (Cr (Br (Tr (WQ.leaveR (inr ()) (oi h).symm (fun u=> ?_)))))))
 subst u
 have h:=(elimR N)
 refine Br (Tr ?_)
 have h:=KK.early h a1
 exact Dr (Rf h [] Z (Rs Z Z) (((t.trans s).trans A).trans B) ⟨Z,Z⟩)
 exact Ck (Bn (Tc (Cg (qu (Iv (i64.wrap (a+1))) (add E Z) (qm (Iv (i64.wrap (a+1))) (Wz (WQ.again (i64.wrap (a+1)) (oi h).symm ⟨((s.trans A).trans B),Z,C,D,Z⟩)))))))
 refine WC.exit (WQ.thenE (WQ.leaveE (inl ()) (oi h).symm (fun u=> ?_)))
 subst u
 have h:=elimL N
 exact WQ.blockH (Dr (WQ.thenFE h ⟨s,Z⟩))
 rintro _ c4 c5 c6 rfl ⟨U,rfl⟩
 have h:=(Sum.elim_inl _ _ _).symm.trans h
 exact Sr (qa (Bv true) (Nt (Cr (Rf h [] Z (Rs Z Z) (t.trans U) ⟨Z,Z⟩))))
noncomputable def f_record_text_116 (a0:ByteArray) (a1:Bool):Option Bool:=
 (if(!a1)=true then(some (decide (a0=(⟨#[]⟩:ByteArray))))else((f_record_Name a0).bind fun a=>(some a)))
def f_record_text_116_post (a0:ByteArray) (a1:Bool):Bool→Value→IM→HL→Prop:=
 fun(a:Bool) (v:Value) (M':IM) (H':HL)=>(.bool a)=v∧H'=[]
theorem f_record_text_116_ok (a0:ByteArray) (a1:Bool) (M:IM) (res:Bool) (h:f_record_text_116 a0 a1=some res):
 Tri prog 115 #[(Sv a0),(Bv a1),(.func (.func 116) #[] #[])] M [] (f_record_text_116_post a0 a1 res):=by
 unfold f_record_text_116 at h
 refine Te func115 Z Z ?_
 intro F ρ hρ
 refine Sr (qa (Bv false) (Nt (Cs (Sr (qM (Bv a1) (hρ 1) (qu (Bv (!a1)) (PO.not Z) (Nt (Ch h Z (fun b h=> ?_) (fun b h=> ?_)))))))))
 exact Sr (qM (Sv a0) (hρ 0) (qu (Bv (decide (a0=(⟨#[]⟩:ByteArray)))) (seql Z Z) (qa (Bv (decide (a0=(⟨#[]⟩:ByteArray)))) (Nt (Cr (Tr (Rf h [] Z (Rs Z Z) lr ⟨Z,Z⟩)))))))
 refine Ck (Tc (Sr (qM (.func (.func 116) #[] #[]) (hρ 2) (qM (Sv a0) (hρ 0) ?_))))
 obtain ⟨c,d,h⟩:=bnd h
 refine We (callV0 (first:=#[]) (cap:=#[]) co116 Z (f_record_Name_ok a0 _ c d) (argsV1 Z Z)) Z ?_
 rintro _ e _ a ⟨_,⟨rfl,rfl⟩,rfl⟩
 exact WL.a0 (qa (Bv c) (Nt (Cr (Rf h [] Z (Rs Z Z) a ⟨Z,Z⟩))))
noncomputable def f_record_Check_2 (a0:ByteArray):Option Bool:=
 (some (decide ((a0.size:Int)≤(256:Int))))
def f_record_Check_2_post (a0:ByteArray):Bool→Value→IM→HL→Prop:=
 fun(a:Bool) (v:Value) (M':IM) (H':HL)=>(.bool a)=v∧H'=[]
theorem f_record_Check_2_ok (a0:ByteArray) (M:IM) (res:Bool) (h:f_record_Check_2 a0=some res):
 Tri prog 113 #[(Sv a0)] M [] (f_record_Check_2_post a0 res):=by
 unfold f_record_Check_2 at h
 refine Te func113 Z Z ?_
 intro F ρ hρ
 exact Sr (qa (Bv false) (Ns (qM (Sv a0) (hρ 0) (qu (Iv (a0.size:Int)) (lenStr underlying9 Z) (qu (Bv (decide ((a0.size:Int)≤(256:Int)))) (leq Z Z) (qa (Bv (decide ((a0.size:Int)≤(256:Int)))) (Nt (Cr (Rf h [] Z (Rs Z Z) lr ⟨Z,Z⟩)))))))))
noncomputable def f_record_text_113 (a0:ByteArray) (a1:Bool):Option Bool:=
 (if(!a1)=true then(some (decide (a0=(⟨#[]⟩:ByteArray))))else((f_record_Check_2 a0).bind fun a=>(some a)))
def f_record_text_113_post (a0:ByteArray) (a1:Bool):Bool→Value→IM→HL→Prop:=
 fun(a:Bool) (v:Value) (M':IM) (H':HL)=>(.bool a)=v∧H'=[]
theorem f_record_text_113_ok (a0:ByteArray) (a1:Bool) (M:IM) (res:Bool) (h:f_record_text_113 a0 a1=some res):
 Tri prog 115 #[(Sv a0),(Bv a1),(.func (.func 113) #[] #[])] M [] (f_record_text_113_post a0 a1 res):=by
 unfold f_record_text_113 at h
 refine Te func115 Z Z ?_
 intro F ρ hρ
 refine Sr (qa (Bv false) (Nt (Cs (Sr (qM (Bv a1) (hρ 1) (qu (Bv (!a1)) (PO.not Z) (Nt (Ch h Z (fun b h=> ?_) (fun b h=> ?_)))))))))
 exact Sr (qM (Sv a0) (hρ 0) (qu (Bv (decide (a0=(⟨#[]⟩:ByteArray)))) (seql Z Z) (qa (Bv (decide (a0=(⟨#[]⟩:ByteArray)))) (Nt (Cr (Tr (Rf h [] Z (Rs Z Z) lr ⟨Z,Z⟩)))))))
 refine Ck (Tc (Sr (qM (.func (.func 113) #[] #[]) (hρ 2) (qM (Sv a0) (hρ 0) ?_))))
 obtain ⟨c,d,h⟩:=bnd h
 refine We (callV0 (first:=#[]) (cap:=#[]) co113 Z (f_record_Check_2_ok a0 _ c d) (argsV1 Z Z)) Z ?_
 rintro _ e _ a ⟨_,⟨rfl,rfl⟩,rfl⟩
 exact WL.a0 (qa (Bv c) (Nt (Cr (Rf h [] Z (Rs Z Z) a ⟨Z,Z⟩))))
noncomputable def f_slices_Index_int_int_l0 (a0:(List Int)) (a1:Int) (s_:Int):Option (Int⊕(Unit⊕Int)):=
 match s_ with
 |a=>
 (if(decide (a<(a0.length:Int)))=true then(grd (0≤a∧a<a0.length) (if(decide (a1=(rd a0 a)))=true then(some (inr (inr a)))else(some (inl (i64.wrap (a+(1:Int)))))))else(some (inr (inl ()))))
noncomputable def f_slices_Index_int_int (a0:(List Int)) (a1:Int):Option Int:=
 ((((iter (f_slices_Index_int_int_l0 a0 a1) (0:Int)).bind (Sum.elim (fun _=>(some (inl ()))) (fun(a:Int)=>(((some a)).bind fun r=>some (inr r))))):Option (Unit⊕Int)).bind (Sum.elim (fun _=>(some (-1:Int))) some))
def f_slices_Index_int_int_post (a0:(List Int)) (a1:Int) (b:Value):Int→Value→IM→HL→Prop:=
 fun(a:Int) (v:Value) (M':IM) (H':HL)=>(.int .i64 a)=v∧H'=[]
theorem f_slices_Index_int_int_ok (a0:(List Int)) (a1:Int) (M:IM) (o:Value) (u:RS (Kd.int .i64) M o a0) (res:Int) (h:f_slices_Index_int_int a0 a1=some res):
 Tri prog 148 #[o,(Iv a1)] M [] (f_slices_Index_int_int_post a0 a1 o res):=by
 unfold f_slices_Index_int_int at h
 refine Te func148 Z Z ?_
 intro F ρ hρ
 refine Sr (qa (Iv 0) (Nt ?_))
 obtain ⟨v,p,h⟩:=bnd h
 refine WC.joinE (fun(_:Unit) ρ' M' H'=>M.le M'∧F=H') v ?_ ?_
 have q:=h
 have h:=p
 refine Sr (qM o (hρ 0) (qu (Iv (a0.length:Int)) (lenS underlying56 Z u.len) (qm (Iv 0) (Nt (Bk ?_)))))
 obtain ⟨y,r,j⟩:=bnd h
 clear h
 refine WC.loop r (fun(a:Int) ρ' M' H'=>M.le M'∧F=H'∧ρ' 0=o∧ρ' 1=(Iv a1)∧ρ' 7=(Iv (a0.length:Int))∧ρ' 8=(Iv a)) ?_ ?_
 exact⟨lr,Z,(hρ 0),(hρ 1),Z,Z⟩
 rintro a z A B C h ⟨b,rfl,e,f,g,c⟩
 unfold f_slices_Index_int_int_l0 at h
 refine Sr (qu (Bv (decide (a<(a0.length:Int)))) (lss c g) (Nt (Cs (Ch h Z (fun s h=> ?_) (fun s h=> ?_)))))
 refine Ck (Tc (Cs (Bk (Sr (qM (Iv a) c (qa (Iv a) (Ns (qM (Iv a1) f (qM o e (qm (Iv a) ?_))))))))))
 obtain ⟨i,h⟩:=grd_i h
 have u:=u.mono b
 obtain ⟨w,x,k,l,hhas31⟩:=u.at i.1 i.2 (by decide)
 obtain rfl:=l
 refine qu (.pointer (some w)) (indexAddr (n:=a0.length) underlying56 sz3 Z Z i.1 i.2 k) (qu (Iv (rd a0 a)) (loadM pl3 Z (IM.has0 hhas31)) (qu (Bv (decide (a1=(rd a0 a)))) (eql Z Z) (Nt (Ch h Z (fun t h=> ?_) (fun t h=> ?_)))))
 refine Sr (qm (Iv a) (qa (Iv a) (Nt (Cr (Br (Tr (WQ.leaveR (inr a) (oi h).symm (fun d=> ?_))))))))
 subst d
 have h:=(elimR j)
 refine Br (Tr ?_)
 have h:=KK.early h q
 exact Rf h [] Z (Rs Z Z) b ⟨Z,Z⟩
 exact Ck (Bn (Tc (Cg (qu (Iv (i64.wrap (a+1))) (add c Z) (qm (Iv (i64.wrap (a+1))) (Wz (WQ.again (i64.wrap (a+1)) (oi h).symm ⟨b,Z,e,f,g,Z⟩)))))))
 refine WC.exit (WQ.thenE (WQ.leaveE (inl ()) (oi h).symm (fun d=> ?_)))
 subst d
 have h:=elimL j
 exact WQ.blockH (WQ.thenFE h ⟨b,Z⟩)
 rintro _ D E G rfl ⟨m,rfl⟩
 have h:=(Sum.elim_inl _ _ _).symm.trans h
 exact Sr (qa (Iv (-1:Int)) (Nt (Cr (Rf h [] Z (Rs Z Z) m ⟨Z,Z⟩))))
noncomputable def f_slices_Contains_int_int (a0:(List Int)) (a1:Int):Option Bool:=
 ((f_slices_Index_int_int a0 a1).bind fun a=>(some (decide ((0:Int)≤a))))
def f_slices_Contains_int_int_post (a0:(List Int)) (a1:Int) (b:Value):Bool→Value→IM→HL→Prop:=
 fun(a:Bool) (v:Value) (M':IM) (H':HL)=>(.bool a)=v∧H'=[]
theorem f_slices_Contains_int_int_ok (a0:(List Int)) (a1:Int) (M:IM) (d:Value) (e:RS (Kd.int .i64) M d a0) (res:Bool) (h:f_slices_Contains_int_int a0 a1=some res):
 Tri prog 146 #[d,(Iv a1)] M [] (f_slices_Contains_int_int_post a0 a1 d res):=by
 unfold f_slices_Contains_int_int at h
 refine Te func146 Z Z ?_
 intro F ρ hρ
 refine Sr (qa (Bv false) (Ns (qM d (hρ 0) (qM (Iv a1) (hρ 1) ?_))))
 obtain ⟨a,c,h⟩:=bnd h
 refine We (Ca co148 (f_slices_Index_int_int_ok a0 a1 _ _ e a c) (args2 Z Z)) Z ?_
 rintro _ f _ b ⟨_,⟨rfl,rfl⟩,rfl⟩
 exact WL.a0 (qu (Bv (decide ((0:Int)≤a))) (geq Z Z) (qa (Bv (decide ((0:Int)≤a))) (Nt (Cr (Rf h [] Z (Rs Z Z) b ⟨Z,Z⟩)))))
noncomputable def f_record_Brokers_l0 (a0:(List Int)) (s_:Int):Option (Int⊕(Unit⊕Unit)):=
 match s_ with
 |a=>
 (if(decide (a<(a0.length:Int)))=true then(grd (0≤a∧a<a0.length) (((if(decide ((rd a0 a)<(1:Int)))=true then(some true)else(if(decide ((64:Int)<(rd a0 a)))=true then(some true)else(grd (0≤(0:Int)∧(0:Int)≤a∧a≤(a0.length:Int)) ((f_slices_Contains_int_int (sub a0 (0:Int) a) (rd a0 a)).bind fun b=>(some b))))):Option Bool).bind fun c=>(if c=true then(some (inr (inr ())))else(some (inl (i64.wrap (a+(1:Int))))))))else(some (inr (inl ()))))
noncomputable def f_record_Brokers (a0:(List Int)):Option Bool:=
 (if(decide ((7:Int)<(a0.length:Int)))=true then(some false)else((((iter (f_record_Brokers_l0 a0) (0:Int)).bind (Sum.elim (fun _=>(some (inl ()))) (fun _=>(((some false)).bind fun r=>some (inr r))))):Option (Unit⊕Bool)).bind (Sum.elim (fun _=>(some true)) some)))
def f_record_Brokers_post (a0:(List Int)) (b:Value):Bool→Value→IM→HL→Prop:=
 fun(a:Bool) (v:Value) (M':IM) (H':HL)=>(.bool a)=v∧H'=[]
theorem f_record_Brokers_ok (a0:(List Int)) (M:IM) (o:Value) (v:RS (Kd.int .i64) M o a0) (res:Bool) (h:f_record_Brokers a0=some res):
 Tri prog 139 #[o] M [] (f_record_Brokers_post a0 o res):=by
 unfold f_record_Brokers at h
 refine Te func139 Z Z ?_
 intro F ρ hρ
 refine Sr (qa (Bv false) (Nt (Cs (Sr (qM o (hρ 0) (qu (Iv (a0.length:Int)) (lenS underlying56 Z v.len) (qu (Bv (decide ((7:Int)<(a0.length:Int)))) (gtr Z Z) (Nt (Ch h Z (fun C h=> ?_) (fun C h=> ?_))))))))))
 exact Sr (qa (Bv false) (Nt (Cr (Tr (Rf h [] Z (Rs Z Z) lr ⟨Z,Z⟩)))))
 refine Ck (Tc ?_)
 obtain ⟨O,D,h⟩:=bnd h
 refine WC.joinE (fun(_:Unit) ρ' M' H'=>M.le M'∧F=H') O ?_ ?_
 have E:=h
 have h:=D
 refine Sr (qM o (hρ 0) (qu (Iv (a0.length:Int)) (lenS underlying56 Z v.len) (qm (Iv 0) (Nt (Bk ?_)))))
 obtain ⟨T,G,w⟩:=bnd h
 clear h
 refine WC.loop G (fun(a:Int) ρ' M' H'=>M.le M'∧F=H'∧ρ' 0=o∧ρ' 8=o∧ρ' 9=(Iv (a0.length:Int))∧ρ' 10=(Iv a)) ?_ ?_
 exact⟨lr,Z,(hρ 0),Z,Z,Z⟩
 rintro a U V P W h ⟨j,rfl,d,e,f,b⟩
 unfold f_record_Brokers_l0 at h
 refine Sr (qu (Bv (decide (a<(a0.length:Int)))) (lss b f) (Nt (Cs (Ch h Z (fun I h=> ?_) (fun I h=> ?_)))))
 refine Ck (Tc (Cs (Bk (Sr (qM (Iv a) b ?_)))))
 obtain ⟨m,h⟩:=grd_i h
 have v:=v.mono j
 obtain ⟨Q,S,x,y,hhas31⟩:=v.at m.1 m.2 (by decide)
 obtain rfl:=y
 refine qu (.pointer (some Q)) (indexAddr (n:=a0.length) underlying56 sz3 e b m.1 m.2 x) (qu (Iv (rd a0 a)) (loadM pl3 Z (IM.has0 hhas31)) (qa (Iv a) (qa (Iv (rd a0 a)) (Nt ?_))))
 obtain ⟨z,J,h⟩:=bnd h
 refine Jf (fun(z:Bool) ρ' M' H'=>P.le M'∧F=H'∧ρ' 0=o∧ρ' 8=o∧ρ' 9=(Iv (a0.length:Int))∧ρ' 10=(Iv a)∧ρ' 27=(Bv z)) z ?_ ?_
 have h:=J
 refine Cg (qm (Iv (rd a0 a)) (qu (Bv (decide ((rd a0 a)<1))) (lss Z Z) (qm (Bv (decide ((rd a0 a)<1))) ?_)))
 rcases Bi h with⟨i,h⟩ |⟨i,h⟩
 iterate 2 refine Of 17 Z Z i Z ?_
 refine qu (Bv true) (Pt Z i Z) (qm (Bv true) ?_)
 iterate 5 refine Of 21 Z Z Z Z ?_
 refine qu (Bv true) (Pt Z Z Z) (Wz ?_)
 obtain rfl:=oi h
 exact Tj ⟨lr,Z,d,e,f,b,Z⟩
 refine On 17 Z Z i (qm (Iv (rd a0 a)) (qo 17 i (Bv (decide ((64:Int)<(rd a0 a)))) (gtr Z Z) (qu (Bv (decide ((64:Int)<(rd a0 a)))) (Pf Z i Z) (qm (Bv (decide ((64:Int)<(rd a0 a)))) ?_))))
 rcases Bi h with⟨c,h⟩ |⟨c,h⟩
 iterate 5 refine Of 21 Z Z c Z ?_
 refine qu (Bv true) (Pt Z c Z) (Wz ?_)
 obtain rfl:=oi h
 exact Tj ⟨lr,Z,d,e,f,b,Z⟩
 refine On 21 Z Z c (qM o d (On 21 Z Z c (qm (Iv a) (On 21 Z Z c ?_))))
 obtain ⟨g,h⟩:=grd_i h
 have R:=v.sub g.1 g.2.1 g.2.2
 refine qu (slV o 1 ((0:Int)).toNat (a).toNat) (slice (n:=a0.length) (l:=((0:Int)).toNat) (h:=(a).toNat) underlying56 sz3 Z v.len v.cap (bound0 Z) ⟨_,_,Z,(Int.le_trans g.1 g.2.1),Z⟩ (Int.toNat_le_toNat g.2.1) (toNat_le_len g.2.2)) (On 21 Z Z c (qm (Iv (rd a0 a)) (On 21 Z Z c ?_)))
 obtain ⟨K,L,h⟩:=bnd h
 refine We (Ca co146 (f_slices_Contains_int_int_ok (sub a0 (0:Int) a) (rd a0 a) _ _ R K L) (args2 Z Z)) Z ?_
 rintro _ X _ A ⟨_,⟨rfl,rfl⟩,rfl⟩
 refine WL.a0 (qu (Bv K) (Pf Z c Z) (Wz ?_))
 obtain rfl:=oi h
 exact Tj ⟨A,Z,d,e,f,b,Z⟩
 rintro Y a1 a2 ⟨p,rfl,s,t,u,q,r⟩
 refine Ch h r (fun N h=> ?_) (fun N h=> ?_)
 refine Sr (qa (Bv false) (Nt (Cr (Br (Tr (WQ.leaveR (inr ()) (oi h).symm (fun k=> ?_)))))))
 subst k
 have h:=(elimR w)
 refine Br (Tr ?_)
 have h:=KK.early h E
 exact Rf h [] Z (Rs Z Z) (j.trans p) ⟨Z,Z⟩
 exact Ck (Bn (Tc (Cg (qu (Iv (i64.wrap (a+1))) (add q Z) (qm (Iv (i64.wrap (a+1))) (Wz (WQ.again (i64.wrap (a+1)) (oi h).symm ⟨(j.trans p),Z,s,t,u,Z⟩)))))))
 refine WC.exit (WQ.thenE (WQ.leaveE (inl ()) (oi h).symm (fun k=> ?_)))
 subst k
 have h:=elimL w
 exact WQ.blockH (WQ.thenFE h ⟨j,Z⟩)
 rintro _ a3 a4 a5 rfl ⟨B,rfl⟩
 have h:=(Sum.elim_inl _ _ _).symm.trans h
 exact Sr (qa (Bv true) (Nt (Cr (Rf h [] Z (Rs Z Z) B ⟨Z,Z⟩))))
noncomputable def f_record_row (a0:(List Int)) (a1:Bool):Option Bool:=
 (if(!a1)=true then(some (decide ((a0.length:Int)=(0:Int))))else((f_record_Brokers a0).bind fun a=>(some a)))
def f_record_row_post (a0:(List Int)) (a1:Bool) (b:Value):Bool→Value→IM→HL→Prop:=
 fun(a:Bool) (v:Value) (M':IM) (H':HL)=>(.bool a)=v∧H'=[]
theorem f_record_row_ok (a0:(List Int)) (a1:Bool) (M:IM) (b:Value) (f:RS (Kd.int .i64) M b a0) (res:Bool) (h:f_record_row a0 a1=some res):
 Tri prog 117 #[b,(Bv a1)] M [] (f_record_row_post a0 a1 b res):=by
 unfold f_record_row at h
 refine Te func117 Z Z ?_
 intro F ρ hρ
 refine Sr (qa (Bv false) (Nt (Cs (Sr (qM (Bv a1) (hρ 1) (qu (Bv (!a1)) (PO.not Z) (Nt (Ch h Z (fun c h=> ?_) (fun c h=> ?_)))))))))
 exact Sr (qM b (hρ 0) (qu (Iv (a0.length:Int)) (lenS underlying56 Z f.len) (qu (Bv (decide ((a0.length:Int)=(0:Int)))) (eql Z Z) (qa (Bv (decide ((a0.length:Int)=(0:Int)))) (Nt (Cr (Tr (Rf h [] Z (Rs Z Z) lr ⟨Z,Z⟩))))))))
 refine Ck (Tc (Sr (qM b (hρ 0) ?_)))
 obtain ⟨d,e,h⟩:=bnd h
 refine We (Ca co139 (f_record_Brokers_ok a0 _ _ f d e) (args1 Z)) Z ?_
 rintro _ g _ a ⟨_,⟨rfl,rfl⟩,rfl⟩
 exact WL.a0 (qa (Bv d) (Nt (Cr (Rf h [] Z (Rs Z Z) a ⟨Z,Z⟩))))
noncomputable def f_record_Check (a0:T_api_Record):Option GErr:=
 (((if(decide (a0.Kind<(1:Int)))=true then(some true)else(some (decide ((12:Int)<a0.Kind)))):Option Bool).bind fun N=>(if N=true then((f_fault_New (⟨#[107,105,110,100]⟩:ByteArray) a0.Kind (5:Int)).bind fun O=>(some O))else(((if(decide (a0.Kind≠(10:Int)))=true then(some (1:Int))else(some (0:Int))):Option Int).bind fun P=>((f_record_Check_1 (1:Int) a0).bind fun Q=>((f_record_number a0.Broker Q (1:Int) (64:Int)).bind fun R=>(if(!R)=true then((f_fault_New (⟨#[98,114,111,107,101,114]⟩:ByteArray) a0.Broker (2:Int)).bind fun S=>(some S))else((f_record_Check_1 (2:Int) a0).bind fun T=>((f_record_number a0.Epoch T (0:Int) (1073741824:Int)).bind fun U=>(if(!U)=true then((f_fault_New (⟨#[101,112,111,99,104]⟩:ByteArray) a0.Epoch (2:Int)).bind fun V=>(some V))else((f_record_Check_1 (4:Int) a0).bind fun W=>((f_record_number a0.Topic W P (1073741824:Int)).bind fun X=>(if(!X)=true then((f_fault_New (⟨#[116,111,112,105,99]⟩:ByteArray) a0.Topic (2:Int)).bind fun Y=>(some Y))else((f_record_Check_1 (8:Int) a0).bind fun a1=>((f_record_number a0.Part a1 (0:Int) (255:Int)).bind fun a2=>(if(!a2)=true then((f_fault_New (⟨#[112,97,114,116]⟩:ByteArray) a0.Part (2:Int)).bind fun a3=>(some a3))else((f_record_Check_1 (16:Int) a0).bind fun a4=>((f_record_number a0.Leader a4 (0:Int) (64:Int)).bind fun a=>(if(!a)=true then((f_fault_New (⟨#[108,101,97,100,101,114]⟩:ByteArray) a0.Leader (2:Int)).bind fun b=>(some b))else((((f_record_Check_1 (32:Int) a0).bind fun c=>((f_record_number a0.Client c (1:Int) (1073741824:Int)).bind fun d=>(if(!d)=true then(some true)else((f_record_Check_1 (32:Int) a0).bind fun e=>((f_record_number a0.Serial e (1:Int) (1073741824:Int)).bind fun f=>(if(!f)=true then(some true)else((f_record_Check_1 (32:Int) a0).bind fun g=>((f_record_number a0.Code g (0:Int) (21:Int)).bind fun i=>(some (!i)))))))))):Option Bool).bind fun j=>(if j=true then((f_fault_New (⟨#[97,115,107,101,114]⟩:ByteArray) a0.Client (2:Int)).bind fun k=>(some k))else((((f_record_Check_1 (64:Int) a0).bind fun l=>(if(!l)=true then(some a0.Flag)else(some false))):Option Bool).bind fun m=>(if m=true then((f_fault_New (⟨#[102,108,97,103]⟩:ByteArray) (1:Int) (1:Int)).bind fun n=>(some n))else((((f_record_Check_1 (128:Int) a0).bind fun o=>((f_record_text_116 a0.Name o).bind fun p=>(if(!p)=true then(some true)else((f_record_Check_1 (256:Int) a0).bind fun q=>((f_record_text_116 a0.Key q).bind fun r=>(if(!r)=true then(some true)else((f_record_Check_1 (1024:Int) a0).bind fun s=>((f_record_text_116 a0.Rack s).bind fun t=>(some (!t)))))))))):Option Bool).bind fun u=>(if u=true then((f_fault_New (⟨#[110,97,109,101]⟩:ByteArray) (a0.Name.size:Int) (1:Int)).bind fun v=>(some v))else((((f_record_Check_1 (512:Int) a0).bind fun w=>((f_record_text_113 a0.Value w).bind fun x=>(if(!x)=true then(some true)else(if a0.Flag=true then(some (!decide (a0.Value=(⟨#[]⟩:ByteArray))))else(some false))))):Option Bool).bind fun y=>(if y=true then((f_fault_New (⟨#[118,97,108,117,101]⟩:ByteArray) (a0.Value.size:Int) (6:Int)).bind fun z=>(some z))else((((f_record_Check_1 (2048:Int) a0).bind fun A=>((f_record_row a0.Ids A).bind fun B=>(if(!B)=true then(some true)else((f_record_Check_1 (4096:Int) a0).bind fun C=>((f_record_row a0.Isr C).bind fun D=>(if(!D)=true then(some true)else((f_record_Check_1 (8192:Int) a0).bind fun E=>((f_record_row a0.Add E).bind fun G=>(if(!G)=true then(some true)else((f_record_Check_1 (8192:Int) a0).bind fun I=>((f_record_row a0.Drop I).bind fun J=>(some (!J))))))))))))):Option Bool).bind fun K=>(if K=true then((f_fault_New (⟨#[114,111,119]⟩:ByteArray) (a0.Ids.length:Int) (18:Int)).bind fun L=>(some L))else(some GErr.nil)))))))))))))))))))))))))))))
def f_record_Check_post (a0:T_api_Record) (a b c d:Value):GErr→Value→IM→HL→Prop:=
 fun(e:GErr) (v:Value) (M':IM) (H':HL)=>(GV e)=v∧H'=[]
theorem f_record_Check_ok (a0:T_api_Record) (M:IM) (p s t u:Value) (a:RS (Kd.int .i64) M p a0.Ids) (b:RS (Kd.int .i64) M s a0.Isr) (c:RS (Kd.int .i64) M t a0.Add) (d:RS (Kd.int .i64) M u a0.Drop) (res:GErr) (h:f_record_Check a0=some res):
 Tri prog 77 #[(a58_ a0 p s t u)] M [] (f_record_Check_post a0 p s t u res):=by
 unfold f_record_Check at h
 refine Te func77 Z Z ?_
 intro F ρ hρ
 refine Sr (We (box (cs:=(l58 a0 p s t u).toArray) (congrArg Value.cells (asE (a58_ a0 p s t u) (hρ 0)))) Z ?_)
 rintro _ _ _ - ⟨rfl,e,rfl,rfl⟩
 refine qa (GV GErr.nil) (Nt (Cs ?_))
 obtain ⟨j3,o5,h⟩:=bnd h
 refine Jf (fun(j3:Bool) ρ' M' H'=>M.le M'∧[(e, .cells (l58 a0 p s t u).toArray 58 (0,0))]::F=H'∧ρ' 1=(pt e 0)∧ρ' 13=(Bv j3)) j3 ?_ ?_
 have h:=o5
 refine Cg (qu (pt e 0) (Fa fo58_0 Z Z) (qu (Iv a0.Kind) (Lb 0 pl3 Z Z Z) (qu (Bv (decide (a0.Kind<1))) (lss Z Z) (qm (Bv (decide (a0.Kind<1))) ?_))))
 rcases Bi h with⟨P,h⟩ |⟨P,h⟩
 iterate 3 refine Of 9 Z Z P Z ?_
 refine qu (Bv true) (Pt Z P Z) (Wz ?_)
 obtain rfl:=oi h
 exact Tj ⟨lr,Z,Z,Z⟩
 refine qo 9 P (pt e 0) (Fa fo58_0 Z Z) (qo 9 P (Iv a0.Kind) (Lb 0 pl3 Z Z Z) (qo 9 P (Bv (decide ((12:Int)<a0.Kind))) (gtr Z Z) (qu (Bv (decide ((12:Int)<a0.Kind))) (Pf Z P Z) (Wz ?_))))
 obtain rfl:=oi h
 exact Tj ⟨lr,Z,Z,Z⟩
 rintro x3 s7 x4 ⟨e4,rfl,G,e5⟩
 refine Ch h e5 (fun o6 h=> ?_) (fun o6 h=> ?_)
 refine Sr (qu (pt e 0) (Fa fo58_0 G Z) (qu (Iv a0.Kind) (Lb 0 pl3 Z Z Z) ?_))
 obtain ⟨o7,o8,h⟩:=bnd h
 refine We (Ca co30 (f_fault_New_ok ⟨#[107,105,110,100]⟩ a0.Kind (5:Int) _ o7 o8) (args3 Z Z Z)) Z ?_
 rintro _ x5 _ j4 ⟨_,⟨rfl,rfl⟩,rfl⟩
 exact WL.a0 (qa (GV o7) (Nt (Cr (Tr (Dr (Rf h [] Z (Rs Z Z) (e4.trans j4) ⟨Z,Z⟩))))))
 refine Ck (Tc (Sr (qu (.func (.func 112) #[] #[(pt e 0)]) (makeFunc2 (args0) (args1 (asE (Value.pointer (some ⟨e,0,none⟩)) G))) (qa (.func (.func 112) #[] #[(pt e 0)]) (Ns (qa (Iv 0) (Nt ?_)))))))
 obtain ⟨e6,o9,h⟩:=bnd h
 refine Jf (fun(e6:Int) ρ' M' H'=>s7.le M'∧[(e, .cells (l58 a0 p s t u).toArray 58 (0,0))]::F=H'∧ρ' 1=(pt e 0)∧ρ' 3=(.func (.func 112) #[] #[(pt e 0)])∧ρ' 4=(Iv e6)) e6 ?_ ?_
 have h:=o9
 refine Sr (qu (pt e 0) (Fa fo58_0 G Z) (qu (Iv a0.Kind) (Lb 0 pl3 Z Z Z) (qu (Bv (decide (a0.Kind≠10))) (neq Z Z) (Nt (Ch h Z (fun p0 h=> ?_) (fun p0 h=> ?_))))))
 refine Cg (qa (Iv 1) (Wz ?_))
 obtain rfl:=oi h
 exact Tj ⟨lr,Z,G,Z,Z⟩
 refine Ck ?_
 obtain rfl:=oi h
 exact Tj ⟨lr,Z,G,Z,Z⟩
 rintro x6 x7 x8 ⟨j5,rfl,f,q,c1⟩
 have e7:=e4.trans j5
 refine Sr (qa (.func (.func 113) #[] #[]) (Nt (Cs (Bk (Cs (WC.draw [0,1,0,4,15,31,63] (.pure 0 (.pure 1 (.pure 2 (.alt 3 (.alt 4 (.pure 5 (.pure 6 .done)) .none) .none)))) mixed (by kernel_rfl) (qt (pt e 1) Z (Fa fo58_1 f Z) (qt (Iv a0.Broker) Z (Lb 0 pl3 Z Z Z) (qt (.func (.func 112) #[] #[(pt e 0)]) Z (Mv q) ?_)))))))))
 obtain ⟨p1,p2,h⟩:=bnd h
 have a:=a.mono e7
 have b:=b.mono e7
 have c:=c.mono e7
 have d:=d.mono e7
 refine Ta Z (callV1 (first:=#[]) (cap:=#[(pt e 0)]) co112 Z (f_record_Check_1_ok (1:Int) a0 _ _ _ _ _ _ a b c d p1 p2) (argsV1 Z Z)) Z ?_ ?_
 rintro _ x9 _ Q ⟨_,⟨rfl,rfl⟩,rfl⟩
 have s8:=e7.trans Q
 refine⟨(Sk 1 Z (Ss Z (Lb 0 pl3 Z Z Z) Z (Ss Z (Fa fo58_1 f Z) Z trivial))), ?_⟩
 refine WT.a1 ?_
 obtain ⟨j6,p3,h⟩:=bnd h
 refine Ta Z (Ca co114 (f_record_number_ok a0.Broker p1 (1:Int) (64:Int) _ j6 p3) (args4 Z Z Z Z)) Z ?_ ?_
 rintro _ y0 _ R ⟨_,⟨rfl,rfl⟩,rfl⟩
 have p4:=s8.trans R
 refine⟨(Sl Z), ?_⟩
 refine WT.a0 (qt (Bv (!j6)) Z (PO.not Z) (qt (Bv (!j6)) Z (Ag Z) (Ti (Tc (Ch h Z (fun p5 h=> ?_) (fun p5 h=> ?_))))))
 refine Sr (qu (pt e 1) (Fa fo58_1 f Z) (qu (Iv a0.Broker) (Lb 0 pl3 Z Z Z) ?_))
 obtain ⟨p6,p7,h⟩:=bnd h
 refine We (Ca co30 (f_fault_New_ok ⟨#[98,114,111,107,101,114]⟩ a0.Broker (2:Int) _ p6 p7) (args3 Z Z Z)) Z ?_
 rintro _ y1 _ j7 ⟨_,⟨rfl,rfl⟩,rfl⟩
 exact WL.a0 (qa (GV p6) (Nt (Cr (Br (Tr (Dr (Rf h [] Z (Rs Z Z) (p4.trans j7) ⟨Z,Z⟩)))))))
 refine Cs (WC.draw [0,1,0,4,15,31,63] (.pure 0 (.pure 1 (.pure 2 (.alt 3 (.alt 4 (.pure 5 (.pure 6 .done)) .none) .none)))) mixed (by kernel_rfl) (qt (pt e 2) Z (Fa fo58_2 f Z) (qt (Iv a0.Epoch) Z (Lb 0 pl3 Z Z Z) (qt (.func (.func 112) #[] #[(pt e 0)]) Z (Mv q) ?_))))
 obtain ⟨p8,p9,h⟩:=bnd h
 have a:=a.mono (Q.trans R)
 have b:=b.mono (Q.trans R)
 have c:=c.mono (Q.trans R)
 have d:=d.mono (Q.trans R)
 refine Ta Z (callV1 (first:=#[]) (cap:=#[(pt e 0)]) co112 Z (f_record_Check_1_ok (2:Int) a0 _ _ _ _ _ _ a b c d p8 p9) (argsV1 Z Z)) Z ?_ ?_
 rintro _ y2 _ S ⟨_,⟨rfl,rfl⟩,rfl⟩
 have s9:=p4.trans S
 refine⟨(Sk 1 Z (Ss Z (Lb 0 pl3 Z Z Z) Z (Ss Z (Fa fo58_2 f Z) Z trivial))), ?_⟩
 refine WT.a1 ?_
 obtain ⟨j8,q0,h⟩:=bnd h
 refine Ta Z (Ca co114 (f_record_number_ok a0.Epoch p8 (0:Int) (1073741824:Int) _ j8 q0) (args4 Z Z Z Z)) Z ?_ ?_
 rintro _ y3 _ T ⟨_,⟨rfl,rfl⟩,rfl⟩
 have q1:=s9.trans T
 refine⟨(Sl Z), ?_⟩
 refine WT.a0 (qt (Bv (!j8)) Z (PO.not Z) (qt (Bv (!j8)) Z (Ag Z) (Ti (Tc (Ch h Z (fun q2 h=> ?_) (fun q2 h=> ?_))))))
 refine Sr (qu (pt e 2) (Fa fo58_2 f Z) (qu (Iv a0.Epoch) (Lb 0 pl3 Z Z Z) ?_))
 obtain ⟨q3,q4,h⟩:=bnd h
 refine We (Ca co30 (f_fault_New_ok ⟨#[101,112,111,99,104]⟩ a0.Epoch (2:Int) _ q3 q4) (args3 Z Z Z)) Z ?_
 rintro _ y4 _ j9 ⟨_,⟨rfl,rfl⟩,rfl⟩
 exact WL.a0 (qa (GV q3) (Nt (Cr (Br (Tr (Dr (Rf h [] Z (Rs Z Z) (q1.trans j9) ⟨Z,Z⟩)))))))
 refine Cs (WC.draw [0,1,0,4,0,31,63,127] (.pure 0 (.pure 1 (.pure 2 (.pure 4 (.alt 3 (.alt 5 (.pure 6 (.pure 7 .done)) .none) .none))))) mixed (by kernel_rfl) (qt (pt e 3) Z (Fa fo58_3 f Z) (qt (Iv a0.Topic) Z (Lb 0 pl3 Z Z Z) (qt (.func (.func 112) #[] #[(pt e 0)]) Z (Mv q) (qt (Iv e6) Z (Mv c1) ?_)))))
 obtain ⟨q5,q6,h⟩:=bnd h
 have a:=a.mono (S.trans T)
 have b:=b.mono (S.trans T)
 have c:=c.mono (S.trans T)
 have d:=d.mono (S.trans T)
 refine Ta Z (callV1 (first:=#[]) (cap:=#[(pt e 0)]) co112 Z (f_record_Check_1_ok (4:Int) a0 _ _ _ _ _ _ a b c d q5 q6) (argsV1 Z Z)) Z ?_ ?_
 rintro _ y5 _ U ⟨_,⟨rfl,rfl⟩,rfl⟩
 have t0:=q1.trans U
 refine⟨(Ss Z (Mv c1) Z (Sk 1 Z (Ss Z (Lb 0 pl3 Z Z Z) Z (Ss Z (Fa fo58_3 f Z) Z trivial)))), ?_⟩
 refine WT.a1 ?_
 obtain ⟨k0,q7,h⟩:=bnd h
 refine Ta Z (Ca co114 (f_record_number_ok a0.Topic q5 e6 (1073741824:Int) _ k0 q7) (args4 Z Z Z Z)) Z ?_ ?_
 rintro _ y6 _ V ⟨_,⟨rfl,rfl⟩,rfl⟩
 have q8:=t0.trans V
 refine⟨(Sl Z), ?_⟩
 refine WT.a0 (qt (Bv (!k0)) Z (PO.not Z) (qt (Bv (!k0)) Z (Ag Z) (Ti (Tc (Ch h Z (fun q9 h=> ?_) (fun q9 h=> ?_))))))
 refine Sr (qu (pt e 3) (Fa fo58_3 f Z) (qu (Iv a0.Topic) (Lb 0 pl3 Z Z Z) ?_))
 obtain ⟨r0,r1,h⟩:=bnd h
 refine We (Ca co30 (f_fault_New_ok ⟨#[116,111,112,105,99]⟩ a0.Topic (2:Int) _ r0 r1) (args3 Z Z Z)) Z ?_
 rintro _ y7 _ k1 ⟨_,⟨rfl,rfl⟩,rfl⟩
 exact WL.a0 (qa (GV r0) (Nt (Cr (Br (Tr (Dr (Rf h [] Z (Rs Z Z) (q8.trans k1) ⟨Z,Z⟩)))))))
 refine Cs (WC.draw [0,1,0,4,15,31,63] (.pure 0 (.pure 1 (.pure 2 (.alt 3 (.alt 4 (.pure 5 (.pure 6 .done)) .none) .none)))) mixed (by kernel_rfl) (qt (pt e 4) Z (Fa fo58_4 f Z) (qt (Iv a0.Part) Z (Lb 0 pl3 Z Z Z) (qt (.func (.func 112) #[] #[(pt e 0)]) Z (Mv q) ?_))))
 obtain ⟨r2,r3,h⟩:=bnd h
 have a:=a.mono (U.trans V)
 have b:=b.mono (U.trans V)
 have c:=c.mono (U.trans V)
 have d:=d.mono (U.trans V)
 refine Ta Z (callV1 (first:=#[]) (cap:=#[(pt e 0)]) co112 Z (f_record_Check_1_ok (8:Int) a0 _ _ _ _ _ _ a b c d r2 r3) (argsV1 Z Z)) Z ?_ ?_
 rintro _ y8 _ W ⟨_,⟨rfl,rfl⟩,rfl⟩
 have t1:=q8.trans W
 refine⟨(Sk 1 Z (Ss Z (Lb 0 pl3 Z Z Z) Z (Ss Z (Fa fo58_4 f Z) Z trivial))), ?_⟩
 refine WT.a1 ?_
 obtain ⟨k2,r4,h⟩:=bnd h
 refine Ta Z (Ca co114 (f_record_number_ok a0.Part r2 (0:Int) (255:Int) _ k2 r4) (args4 Z Z Z Z)) Z ?_ ?_
 rintro _ y9 _ X ⟨_,⟨rfl,rfl⟩,rfl⟩
 have r5:=t1.trans X
 refine⟨(Sl Z), ?_⟩
 refine WT.a0 (qt (Bv (!k2)) Z (PO.not Z) (qt (Bv (!k2)) Z (Ag Z) (Ti (Tc (Ch h Z (fun r6 h=> ?_) (fun r6 h=> ?_))))))
 refine Sr (qu (pt e 4) (Fa fo58_4 f Z) (qu (Iv a0.Part) (Lb 0 pl3 Z Z Z) ?_))
 obtain ⟨r7,r8,h⟩:=bnd h
 refine We (Ca co30 (f_fault_New_ok ⟨#[112,97,114,116]⟩ a0.Part (2:Int) _ r7 r8) (args3 Z Z Z)) Z ?_
 rintro _ z0 _ k3 ⟨_,⟨rfl,rfl⟩,rfl⟩
 exact WL.a0 (qa (GV r7) (Nt (Cr (Br (Tr (Dr (Rf h [] Z (Rs Z Z) (r5.trans k3) ⟨Z,Z⟩)))))))
 refine Cs (WC.draw [0,1,0,4,15,31,63] (.pure 0 (.pure 1 (.pure 2 (.alt 3 (.alt 4 (.pure 5 (.pure 6 .done)) .none) .none)))) mixed (by kernel_rfl) (qt (pt e 5) Z (Fa fo58_5 f Z) (qt (Iv a0.Leader) Z (Lb 0 pl3 Z Z Z) (qt (.func (.func 112) #[] #[(pt e 0)]) Z (Mv q) ?_))))
 obtain ⟨r9,s0,h⟩:=bnd h
 have a:=a.mono (W.trans X)
 have b:=b.mono (W.trans X)
 have c:=c.mono (W.trans X)
 have d:=d.mono (W.trans X)
 refine Ta Z (callV1 (first:=#[]) (cap:=#[(pt e 0)]) co112 Z (f_record_Check_1_ok (16:Int) a0 _ _ _ _ _ _ a b c d r9 s0) (argsV1 Z Z)) Z ?_ ?_
 rintro _ t2 _ c2 ⟨_,⟨rfl,rfl⟩,rfl⟩
 have s1:=r5.trans c2
 refine⟨(Sk 1 Z (Ss Z (Lb 0 pl3 Z Z Z) Z (Ss Z (Fa fo58_5 f Z) Z trivial))), ?_⟩
 refine WT.a1 ?_
 obtain ⟨e8,k4,h⟩:=bnd h
 refine Ta Z (Ca co114 (f_record_number_ok a0.Leader r9 (0:Int) (64:Int) _ e8 k4) (args4 Z Z Z Z)) Z ?_ ?_
 rintro _ s2 _ c3 ⟨_,⟨rfl,rfl⟩,rfl⟩
 have b1:=c2.trans c3
 have c4:=s1.trans c3
 refine⟨(Sl Z), ?_⟩
 refine WT.a0 (qt (Bv (!e8)) Z (PO.not Z) (qt (Bv (!e8)) Z (Ag Z) (Ti (Tc (Ch h Z (fun k5 h=> ?_) (fun k5 h=> ?_))))))
 refine Sr (qu (pt e 5) (Fa fo58_5 f Z) (qu (Iv a0.Leader) (Lb 0 pl3 Z Z Z) ?_))
 obtain ⟨h6,k6,h⟩:=bnd h
 refine We (Ca co30 (f_fault_New_ok ⟨#[108,101,97,100,101,114]⟩ a0.Leader (2:Int) _ h6 k6) (args3 Z Z Z)) Z ?_
 rintro _ t3 _ g1 ⟨_,⟨rfl,rfl⟩,rfl⟩
 exact WL.a0 (qa (GV h6) (Nt (Cr (Br (Tr (Dr (Rf h [] Z (Rs Z Z) (c4.trans g1) ⟨Z,Z⟩)))))))
 obtain ⟨e9,k7,h⟩:=bnd h
 refine Jf (fun(e9:Bool) ρ' M' H'=>s2.le M'∧[(e, .cells (l58 a0 p s t u).toArray 58 (0,0))]::F=H'∧ρ' 1=(pt e 0)∧ρ' 3=(.func (.func 112) #[] #[(pt e 0)])∧ρ' 5=(.func (.func 113) #[] #[])∧ρ' 72=(Bv e9)) e9 ?_ ?_
 have h:=k7
 refine WC.draw [0,1,0,4,15,31,63,127,255,127,639,2047,4095,8191,16383,32767,65535,32767,163839,524287,1048575,2097151,4194303] (.pure 0 (.pure 1 (.pure 2 (.alt 3 (.alt 4 (.pure 5 (.pure 6 (.pure 7 (.pure 8 (.pure 9 (.alt 10 (.alt 11 (.pure 12 (.pure 13 (.pure 14 (.pure 15 (.pure 16 (.pure 17 (.alt 18 (.alt 19 (.pure 20 (.pure 21 (.pure 22 .done))) .none) .none))))))) .none) .none)))))) .none) .none)))) mixed (by kernel_rfl) (qt (pt e 6) Z (Fa fo58_6 f Z) (qt (Iv a0.Client) Z (Lb 0 pl3 Z Z Z) (qt (.func (.func 112) #[] #[(pt e 0)]) Z (Mv q) ?_)))
 obtain ⟨h7,k8,h⟩:=bnd h
 have a:=a.mono b1
 have b:=b.mono b1
 have c:=c.mono b1
 have d:=d.mono b1
 refine Ta Z (callV1 (first:=#[]) (cap:=#[(pt e 0)]) co112 Z (f_record_Check_1_ok (32:Int) a0 _ _ _ _ _ _ a b c d h7 k8) (argsV1 Z Z)) Z ?_ ?_
 rintro _ t4 _ g2 ⟨_,⟨rfl,rfl⟩,rfl⟩
 refine⟨(Sk 1 Z (Ss Z (Lb 0 pl3 Z Z Z) Z (Ss Z (Fa fo58_6 f Z) Z trivial))), ?_⟩
 refine WT.a1 ?_
 obtain ⟨f0,k9,h⟩:=bnd h
 refine Ta Z (Ca co114 (f_record_number_ok a0.Client h7 (1:Int) (1073741824:Int) _ f0 k9) (args4 Z Z Z Z)) Z ?_ ?_
 rintro _ t5 _ g3 ⟨_,⟨rfl,rfl⟩,rfl⟩
 have Y:=g2.trans g3
 refine⟨(Sl Z), ?_⟩
 refine WT.a0 (qt (Bv (!f0)) Z (PO.not Z) (qt (Bv (!f0)) Z (Mv Z) ?_))
 rcases Bi h with⟨i,h⟩ |⟨i,h⟩
 refine Tf 79 Z Z Z i Z (Tf 79 Z Z Z i Z (Tf 79 Z Z Z i Z (Tg 79 Z Z Z i Z ⟨(Sk 1 Z (St (Sf 79 Z Z Z i Z) (St (Sf 79 Z Z Z i Z) (Sl Z)))), ?_⟩ ?_)))
 refine Tg 79 Z Z Z i Z ⟨(Sl Z), ?_⟩ ?_
 refine Tf 79 Z Z Z i Z (qt (Bv true) Z (Pt Z i Z) (qt (Bv true) Z (Mv Z) (Tf 87 Z Z Z Z Z (Tf 87 Z Z Z Z Z (Tf 87 Z Z Z Z Z (Tg 87 Z Z Z Z Z ⟨(Sk 1 Z (St (Sf 87 Z Z Z Z Z) (St (Sf 87 Z Z Z Z Z) (Sl Z)))), ?_⟩ ?_))))))
 refine Tg 87 Z Z Z Z Z ⟨(Sl Z), ?_⟩ ?_
 refine Tf 87 Z Z Z Z Z (qt (Bv true) Z (Pt Z Z Z) (qt (Bv true) Z (Ag Z) (Ti ?_)))
 obtain rfl:=oi h
 exact Tj ⟨Y,Z,f,q,Z,Z⟩
 exact Tz
 exact Tz
 exact Tz
 exact Tz
 refine Tn (pt e 7) 79 Z Z Z i (Fa fo58_7 f Z) Z (Tn (Iv a0.Serial) 79 Z Z Z i (Lb 0 pl3 Z Z Z) Z (Tn (.func (.func 112) #[] #[(pt e 0)]) 79 Z Z Z i (Mv q) Z ?_))
 obtain ⟨h8,l0,h⟩:=bnd h
 have a:=a.mono Y
 have b:=b.mono Y
 have c:=c.mono Y
 have d:=d.mono Y
 refine WT.altOn 79 Z Z Z i (callV1 (first:=#[]) (cap:=#[(pt e 0)]) co112 Z (f_record_Check_1_ok (32:Int) a0 _ _ _ _ _ _ a b c d h8 l0) (argsV1 Z Z)) Z ?_ ?_
 rintro _ t6 _ z ⟨_,⟨rfl,rfl⟩,rfl⟩
 refine⟨(Sk 1 Z (St (StabA.on 79 Z Z Z i (Lb 0 pl3 Z Z Z) Z) (St (StabA.on 79 Z Z Z i (Fa fo58_7 f Z) Z) (Sl Z)))), ?_⟩
 refine WT.a1 ?_
 obtain ⟨c5,l1,h⟩:=bnd h
 refine WT.altOn 79 Z Z Z i (Ca co114 (f_record_number_ok a0.Serial h8 (1:Int) (1073741824:Int) _ c5 l1) (args4 Z Z Z Z)) Z ?_ ?_
 rintro _ t7 _ A ⟨_,⟨rfl,rfl⟩,rfl⟩
 refine⟨(Sl Z), ?_⟩
 refine WT.a0 (Tn (Bv (!c5)) 79 Z Z Z i (PO.not Z) Z (qt (Bv (!c5)) Z (Pf Z i Z) (qt (Bv (!c5)) Z (Mv Z) ?_)))
 rcases Bi h with⟨j,h⟩ |⟨j,h⟩
 refine Tf 87 Z Z Z j Z (Tf 87 Z Z Z j Z (Tf 87 Z Z Z j Z (Tg 87 Z Z Z j Z ⟨(Sk 1 Z (St (Sf 87 Z Z Z j Z) (St (Sf 87 Z Z Z j Z) (Sl Z)))), ?_⟩ ?_)))
 refine Tg 87 Z Z Z j Z ⟨(Sl Z), ?_⟩ ?_
 refine Tf 87 Z Z Z j Z (qt (Bv true) Z (Pt Z j Z) (qt (Bv true) Z (Ag Z) (Ti ?_)))
 obtain rfl:=oi h
 exact Tj ⟨((Y.trans z).trans A),Z,f,q,Z,Z⟩
 exact Tz
 exact Tz
 refine Tn (pt e 8) 87 Z Z Z j (Fa fo58_8 f Z) Z (Tn (Iv a0.Code) 87 Z Z Z j (Lb 0 pl3 Z Z Z) Z (Tn (.func (.func 112) #[] #[(pt e 0)]) 87 Z Z Z j (Mv q) Z ?_))
 obtain ⟨h9,l2,h⟩:=bnd h
 have a:=a.mono (z.trans A)
 have b:=b.mono (z.trans A)
 have c:=c.mono (z.trans A)
 have d:=d.mono (z.trans A)
 refine WT.altOn 87 Z Z Z j (callV1 (first:=#[]) (cap:=#[(pt e 0)]) co112 Z (f_record_Check_1_ok (32:Int) a0 _ _ _ _ _ _ a b c d h9 l2) (argsV1 Z Z)) Z ?_ ?_
 rintro _ t8 _ g4 ⟨_,⟨rfl,rfl⟩,rfl⟩
 refine⟨(Sk 1 Z (St (StabA.on 87 Z Z Z j (Lb 0 pl3 Z Z Z) Z) (St (StabA.on 87 Z Z Z j (Fa fo58_8 f Z) Z) (Sl Z)))), ?_⟩
 refine WT.a1 ?_
 obtain ⟨c6,l3,h⟩:=bnd h
 refine WT.altOn 87 Z Z Z j (Ca co114 (f_record_number_ok a0.Code h9 (0:Int) (21:Int) _ c6 l3) (args4 Z Z Z Z)) Z ?_ ?_
 rintro _ t9 _ g5 ⟨_,⟨rfl,rfl⟩,rfl⟩
 refine⟨(Sl Z), ?_⟩
 refine WT.a0 (Tn (Bv (!c6)) 87 Z Z Z j (PO.not Z) Z (qt (Bv (!c6)) Z (Pf Z j Z) (qt (Bv (!c6)) Z (Ag Z) (Ti ?_))))
 obtain rfl:=oi h
 exact Tj ⟨((((Y.trans z).trans A).trans g4).trans g5),Z,f,q,Z,Z⟩
 exact Tz
 exact Tz
 exact Tz
 exact Tz
 exact Tz
 exact Tz
 rintro u0 s3 u1 ⟨c7,rfl,I,a2,b2,e2⟩
 have b3:=b1.trans c7
 have c8:=c4.trans c7
 refine Ch h e2 (fun l4 h=> ?_) (fun l4 h=> ?_)
 refine Sr (qu (pt e 6) (Fa fo58_6 I Z) (qu (Iv a0.Client) (Lb 0 pl3 Z Z Z) ?_))
 obtain ⟨i0,l5,h⟩:=bnd h
 refine We (Ca co30 (f_fault_New_ok ⟨#[97,115,107,101,114]⟩ a0.Client (2:Int) _ i0 l5) (args3 Z Z Z)) Z ?_
 rintro _ u2 _ g6 ⟨_,⟨rfl,rfl⟩,rfl⟩
 exact WL.a0 (qa (GV i0) (Nt (Cr (Br (Tr (Dr (Rf h [] Z (Rs Z Z) (c8.trans g6) ⟨Z,Z⟩)))))))
 obtain ⟨f1,l6,h⟩:=bnd h
 refine Jf (fun(f1:Bool) ρ' M' H'=>s3.le M'∧[(e, .cells (l58 a0 p s t u).toArray 58 (0,0))]::F=H'∧ρ' 1=(pt e 0)∧ρ' 3=(.func (.func 112) #[] #[(pt e 0)])∧ρ' 5=(.func (.func 113) #[] #[])∧ρ' 98=(Bv f1)) f1 ?_ ?_
 have h:=l6
 refine Cg (qM (.func (.func 112) #[] #[(pt e 0)]) a2 ?_)
 obtain ⟨f2,l7,h⟩:=bnd h
 have a:=a.mono b3
 have b:=b.mono b3
 have c:=c.mono b3
 have d:=d.mono b3
 refine We (callV1 (first:=#[]) (cap:=#[(pt e 0)]) co112 Z (f_record_Check_1_ok (64:Int) a0 _ _ _ _ _ _ a b c d f2 l7) (argsV1 Z Z)) Z ?_
 rintro _ u3 _ c9 ⟨_,⟨rfl,rfl⟩,rfl⟩
 refine WL.a1 (qu (Bv (!f2)) (PO.not Z) (qm (Bv (!f2)) ?_))
 rcases Bi h with⟨O,h⟩ |⟨O,h⟩
 refine qo 102 O (pt e 9) (Fa fo58_9 I Z) (qo 102 O (Bv a0.Flag) (Lb 0 pl4 Z Z Z) (qu (Bv a0.Flag) (Pt Z O Z) (qa (Bv a0.Flag) (Wz ?_))))
 obtain rfl:=oi h
 exact Tj ⟨c9,Z,I,a2,b2,Z⟩
 iterate 2 refine Of 102 Z Z O Z ?_
 refine qu (Bv false) (Pf Z O Z) (qa (Bv false) (Wz ?_))
 obtain rfl:=oi h
 exact Tj ⟨c9,Z,I,a2,b2,Z⟩
 rintro u4 s4 u5 ⟨d0,rfl,r,x,a3,e3⟩
 have b4:=b3.trans d0
 have d1:=c8.trans d0
 refine Ch h e3 (fun l8 h=> ?_) (fun l8 h=> ?_)
 refine Sr ?_
 obtain ⟨i1,l9,h⟩:=bnd h
 refine We (Ca co30 (f_fault_New_ok ⟨#[102,108,97,103]⟩ (1:Int) (1:Int) _ i1 l9) (args3 Z Z Z)) Z ?_
 rintro _ u6 _ g7 ⟨_,⟨rfl,rfl⟩,rfl⟩
 exact WL.a0 (qa (GV i1) (Nt (Cr (Br (Tr (Dr (Rf h [] Z (Rs Z Z) (d1.trans g7) ⟨Z,Z⟩)))))))
 obtain ⟨f3,m0,h⟩:=bnd h
 refine Jf (fun(f3:Bool) ρ' M' H'=>s4.le M'∧[(e, .cells (l58 a0 p s t u).toArray 58 (0,0))]::F=H'∧ρ' 1=(pt e 0)∧ρ' 3=(.func (.func 112) #[] #[(pt e 0)])∧ρ' 5=(.func (.func 113) #[] #[])∧ρ' 107=(Bv f3)) f3 ?_ ?_
 have h:=m0
 refine WC.draw [0,1,0,4,15,31,63,127,255,127,639,2047,4095,8191,16383,32767,65535,32767,163839,524287,1048575,2097151,4194303] (.pure 0 (.pure 1 (.pure 2 (.alt 3 (.alt 4 (.pure 5 (.pure 6 (.pure 7 (.pure 8 (.pure 9 (.alt 10 (.alt 11 (.pure 12 (.pure 13 (.pure 14 (.pure 15 (.pure 16 (.pure 17 (.alt 18 (.alt 19 (.pure 20 (.pure 21 (.pure 22 .done))) .none) .none))))))) .none) .none)))))) .none) .none)))) mixed (by kernel_rfl) (qt (pt e 10) Z (Fa fo58_10 r Z) (qt (Sv a0.Name) Z (Lb 0 pl9 Z Z Z) (qt (.func (.func 112) #[] #[(pt e 0)]) Z (Mv x) ?_)))
 obtain ⟨i2,m1,h⟩:=bnd h
 have a:=a.mono b4
 have b:=b.mono b4
 have c:=c.mono b4
 have d:=d.mono b4
 refine Ta Z (callV1 (first:=#[]) (cap:=#[(pt e 0)]) co112 Z (f_record_Check_1_ok (128:Int) a0 _ _ _ _ _ _ a b c d i2 m1) (argsV1 Z Z)) Z ?_ ?_
 rintro _ u7 _ g8 ⟨_,⟨rfl,rfl⟩,rfl⟩
 refine⟨(Sk 1 Z (Ss Z (Lb 0 pl9 Z Z Z) Z (Ss Z (Fa fo58_10 r Z) Z trivial))), ?_⟩
 refine WT.a1 ?_
 obtain ⟨f4,m2,h⟩:=bnd h
 refine Ta Z (Ca co115 (f_record_text_116_ok a0.Name i2 _ f4 m2) (args3 Z Z Z)) Z ?_ ?_
 rintro _ u8 _ g9 ⟨_,⟨rfl,rfl⟩,rfl⟩
 have a4:=g8.trans g9
 refine⟨(Sl Z), ?_⟩
 refine WT.a0 (qt (Bv (!f4)) Z (PO.not Z) (qt (Bv (!f4)) Z (Mv Z) ?_))
 rcases Bi h with⟨k,h⟩ |⟨k,h⟩
 refine Tf 114 Z Z Z k Z (Tf 114 Z Z Z k Z (Tf 114 Z Z Z k Z (Tg 114 Z Z Z k Z ⟨(Sk 1 Z (St (Sf 114 Z Z Z k Z) (St (Sf 114 Z Z Z k Z) (Sl Z)))), ?_⟩ ?_)))
 refine Tg 114 Z Z Z k Z ⟨(Sl Z), ?_⟩ ?_
 refine Tf 114 Z Z Z k Z (qt (Bv true) Z (Pt Z k Z) (qt (Bv true) Z (Mv Z) (Tf 122 Z Z Z Z Z (Tf 122 Z Z Z Z Z (Tf 122 Z Z Z Z Z (Tg 122 Z Z Z Z Z ⟨(Sk 1 Z (St (Sf 122 Z Z Z Z Z) (St (Sf 122 Z Z Z Z Z) (Sl Z)))), ?_⟩ ?_))))))
 refine Tg 122 Z Z Z Z Z ⟨(Sl Z), ?_⟩ ?_
 refine Tf 122 Z Z Z Z Z (qt (Bv true) Z (Pt Z Z Z) (qt (Bv true) Z (Ag Z) (Ti ?_)))
 obtain rfl:=oi h
 exact Tj ⟨a4,Z,r,x,a3,Z⟩
 exact Tz
 exact Tz
 exact Tz
 exact Tz
 refine Tn (pt e 11) 114 Z Z Z k (Fa fo58_11 r Z) Z (Tn (Sv a0.Key) 114 Z Z Z k (Lb 0 pl9 Z Z Z) Z (Tn (.func (.func 112) #[] #[(pt e 0)]) 114 Z Z Z k (Mv x) Z ?_))
 obtain ⟨i3,m3,h⟩:=bnd h
 have a:=a.mono a4
 have b:=b.mono a4
 have c:=c.mono a4
 have d:=d.mono a4
 refine WT.altOn 114 Z Z Z k (callV1 (first:=#[]) (cap:=#[(pt e 0)]) co112 Z (f_record_Check_1_ok (256:Int) a0 _ _ _ _ _ _ a b c d i3 m3) (argsV1 Z Z)) Z ?_ ?_
 rintro _ u9 _ B ⟨_,⟨rfl,rfl⟩,rfl⟩
 refine⟨(Sk 1 Z (St (StabA.on 114 Z Z Z k (Lb 0 pl9 Z Z Z) Z) (St (StabA.on 114 Z Z Z k (Fa fo58_11 r Z) Z) (Sl Z)))), ?_⟩
 refine WT.a1 ?_
 obtain ⟨d2,m4,h⟩:=bnd h
 refine WT.altOn 114 Z Z Z k (Ca co115 (f_record_text_116_ok a0.Key i3 _ d2 m4) (args3 Z Z Z)) Z ?_ ?_
 rintro _ v0 _ C ⟨_,⟨rfl,rfl⟩,rfl⟩
 refine⟨(Sl Z), ?_⟩
 refine WT.a0 (Tn (Bv (!d2)) 114 Z Z Z k (PO.not Z) Z (qt (Bv (!d2)) Z (Pf Z k Z) (qt (Bv (!d2)) Z (Mv Z) ?_)))
 rcases Bi h with⟨l,h⟩ |⟨l,h⟩
 refine Tf 122 Z Z Z l Z (Tf 122 Z Z Z l Z (Tf 122 Z Z Z l Z (Tg 122 Z Z Z l Z ⟨(Sk 1 Z (St (Sf 122 Z Z Z l Z) (St (Sf 122 Z Z Z l Z) (Sl Z)))), ?_⟩ ?_)))
 refine Tg 122 Z Z Z l Z ⟨(Sl Z), ?_⟩ ?_
 refine Tf 122 Z Z Z l Z (qt (Bv true) Z (Pt Z l Z) (qt (Bv true) Z (Ag Z) (Ti ?_)))
 obtain rfl:=oi h
 exact Tj ⟨((a4.trans B).trans C),Z,r,x,a3,Z⟩
 exact Tz
 exact Tz
 refine Tn (pt e 13) 122 Z Z Z l (Fa fo58_13 r Z) Z (Tn (Sv a0.Rack) 122 Z Z Z l (Lb 0 pl9 Z Z Z) Z (Tn (.func (.func 112) #[] #[(pt e 0)]) 122 Z Z Z l (Mv x) Z ?_))
 obtain ⟨i4,m5,h⟩:=bnd h
 have a:=a.mono (B.trans C)
 have b:=b.mono (B.trans C)
 have c:=c.mono (B.trans C)
 have d:=d.mono (B.trans C)
 refine WT.altOn 122 Z Z Z l (callV1 (first:=#[]) (cap:=#[(pt e 0)]) co112 Z (f_record_Check_1_ok (1024:Int) a0 _ _ _ _ _ _ a b c d i4 m5) (argsV1 Z Z)) Z ?_ ?_
 rintro _ v1 _ h0 ⟨_,⟨rfl,rfl⟩,rfl⟩
 refine⟨(Sk 1 Z (St (StabA.on 122 Z Z Z l (Lb 0 pl9 Z Z Z) Z) (St (StabA.on 122 Z Z Z l (Fa fo58_13 r Z) Z) (Sl Z)))), ?_⟩
 refine WT.a1 ?_
 obtain ⟨d3,m6,h⟩:=bnd h
 refine WT.altOn 122 Z Z Z l (Ca co115 (f_record_text_116_ok a0.Rack i4 _ d3 m6) (args3 Z Z Z)) Z ?_ ?_
 rintro _ v2 _ h1 ⟨_,⟨rfl,rfl⟩,rfl⟩
 refine⟨(Sl Z), ?_⟩
 refine WT.a0 (Tn (Bv (!d3)) 122 Z Z Z l (PO.not Z) Z (qt (Bv (!d3)) Z (Pf Z l Z) (qt (Bv (!d3)) Z (Ag Z) (Ti ?_))))
 obtain rfl:=oi h
 exact Tj ⟨((((a4.trans B).trans C).trans h0).trans h1),Z,r,x,a3,Z⟩
 exact Tz
 exact Tz
 exact Tz
 exact Tz
 exact Tz
 exact Tz
 rintro v3 s5 v4 ⟨d4,rfl,w,J,b5,b8⟩
 have b6:=b4.trans d4
 have d5:=d1.trans d4
 refine Ch h b8 (fun m7 h=> ?_) (fun m7 h=> ?_)
 refine Sr (qu (pt e 10) (Fa fo58_10 w Z) (qu (Sv a0.Name) (Lb 0 pl9 Z Z Z) (qu (Iv (a0.Name.size:Int)) (lenStr underlying9 Z) ?_)))
 obtain ⟨i5,m8,h⟩:=bnd h
 refine We (Ca co30 (f_fault_New_ok ⟨#[110,97,109,101]⟩ (a0.Name.size:Int) (1:Int) _ i5 m8) (args3 Z Z Z)) Z ?_
 rintro _ v5 _ h2 ⟨_,⟨rfl,rfl⟩,rfl⟩
 exact WL.a0 (qa (GV i5) (Nt (Cr (Br (Tr (Dr (Rf h [] Z (Rs Z Z) (d5.trans h2) ⟨Z,Z⟩)))))))
 obtain ⟨f5,m9,h⟩:=bnd h
 refine Jf (fun(f5:Bool) ρ' M' H'=>s5.le M'∧[(e, .cells (l58 a0 p s t u).toArray 58 (0,0))]::F=H'∧ρ' 1=(pt e 0)∧ρ' 3=(.func (.func 112) #[] #[(pt e 0)])∧ρ' 134=(Bv f5)) f5 ?_ ?_
 have h:=m9
 refine WC.draw [0,1,0,4,0,31,63,127,255,511,1023,2047,4095,8191,16383,32767,65535] (.pure 0 (.pure 1 (.pure 2 (.pure 4 (.alt 3 (.alt 5 (.pure 6 (.pure 7 (.pure 8 (.pure 9 (.pure 10 (.pure 11 (.pure 12 (.pure 13 (.pure 14 (.pure 15 (.pure 16 .done))))))))))) .none) .none))))) mixed (by kernel_rfl) (qt (pt e 12) Z (Fa fo58_12 w Z) (qt (Sv a0.Value) Z (Lb 0 pl9 Z Z Z) (qt (.func (.func 112) #[] #[(pt e 0)]) Z (Mv J) (qt (.func (.func 113) #[] #[]) Z (Mv b5) ?_))))
 obtain ⟨i6,n0,h⟩:=bnd h
 have a:=a.mono b6
 have b:=b.mono b6
 have c:=c.mono b6
 have d:=d.mono b6
 refine Ta Z (callV1 (first:=#[]) (cap:=#[(pt e 0)]) co112 Z (f_record_Check_1_ok (512:Int) a0 _ _ _ _ _ _ a b c d i6 n0) (argsV1 Z Z)) Z ?_ ?_
 rintro _ v6 _ a5 ⟨_,⟨rfl,rfl⟩,rfl⟩
 refine⟨(Ss Z (Mv b5) Z (Sk 1 Z (Ss Z (Lb 0 pl9 Z Z Z) Z (Ss Z (Fa fo58_12 w Z) Z trivial)))), ?_⟩
 refine WT.a1 ?_
 obtain ⟨f6,n1,h⟩:=bnd h
 refine Ta Z (Ca co115 (f_record_text_113_ok a0.Value i6 _ f6 n1) (args3 Z Z Z)) Z ?_ ?_
 rintro _ v7 _ a6 ⟨_,⟨rfl,rfl⟩,rfl⟩
 refine⟨(Sl Z), ?_⟩
 refine WT.a0 (qt (Bv (!f6)) Z (PO.not Z) (qt (Bv (!f6)) Z (Mv Z) ?_))
 rcases Bi h with⟨v,h⟩ |⟨v,h⟩
 refine Tf 142 Z Z Z v Z (Tf 142 Z Z Z v Z (Tf 142 Z Z Z v Z (WT.pureOffU 145 Z Z Z Z (WT.pureOffU 145 Z Z Z Z (WT.pureOffU 145 Z Z Z Z (Tf 142 Z Z Z v Z (qt (Bv true) Z (Pt Z v Z) (qt (Bv true) Z (Ag Z) (Ti ?_)))))))))
 obtain rfl:=oi h
 exact Tj ⟨(a5.trans a6),Z,w,J,Z⟩
 refine Tn (pt e 9) 142 Z Z Z v (Fa fo58_9 w Z) Z (Tn (Bv a0.Flag) 142 Z Z Z v (Lb 0 pl4 Z Z Z) Z (Tn (Bv a0.Flag) 142 Z Z Z v (Mv Z) Z ?_))
 rcases Bi h with⟨y,h⟩ |⟨y,h⟩
 refine Tn (pt e 12) 145 Z Z Z y (Fa fo58_12 w Z) Z (Tn (Sv a0.Value) 145 Z Z Z y (Lb 0 pl9 Z Z Z) Z (Tn (Bv (!decide (a0.Value=(⟨#[]⟩:ByteArray)))) 145 Z Z Z y (sneq Z Z) Z (Tn (Bv (!decide (a0.Value=(⟨#[]⟩:ByteArray)))) 142 Z Z Z v (Pt Z y Z) Z (qt (Bv (!decide (a0.Value=(⟨#[]⟩:ByteArray)))) Z (Pf Z v Z) (qt (Bv (!decide (a0.Value=(⟨#[]⟩:ByteArray)))) Z (Ag Z) (Ti ?_))))))
 obtain rfl:=oi h
 exact Tj ⟨(a5.trans a6),Z,w,J,Z⟩
 refine Tf 145 Z Z Z y Z (Tf 145 Z Z Z y Z (Tf 145 Z Z Z y Z (Tn (Bv false) 142 Z Z Z v (Pf Z y Z) Z (qt (Bv false) Z (Pf Z v Z) (qt (Bv false) Z (Ag Z) (Ti ?_))))))
 obtain rfl:=oi h
 exact Tj ⟨(a5.trans a6),Z,w,J,Z⟩
 exact Tz
 exact Tz
 rintro v8 s6 v9 ⟨d6,rfl,g,K,b9⟩
 have b7:=b6.trans d6
 have a7:=d5.trans d6
 refine Ch h b9 (fun n2 h=> ?_) (fun n2 h=> ?_)
 refine Sr (qu (pt e 12) (Fa fo58_12 g Z) (qu (Sv a0.Value) (Lb 0 pl9 Z Z Z) (qu (Iv (a0.Value.size:Int)) (lenStr underlying9 Z) ?_)))
 obtain ⟨i7,n3,h⟩:=bnd h
 refine We (Ca co30 (f_fault_New_ok ⟨#[118,97,108,117,101]⟩ (a0.Value.size:Int) (6:Int) _ i7 n3) (args3 Z Z Z)) Z ?_
 rintro _ w0 _ h3 ⟨_,⟨rfl,rfl⟩,rfl⟩
 exact WL.a0 (qa (GV i7) (Nt (Cr (Br (Tr (Dr (Rf h [] Z (Rs Z Z) (a7.trans h3) ⟨Z,Z⟩)))))))
 obtain ⟨f7,n4,h⟩:=bnd h
 refine Jf (fun(f7:Bool) ρ' M' H'=>s6.le M'∧[(e, .cells (l58 a0 p s t u).toArray 58 (0,0))]::F=H'∧ρ' 1=(pt e 0)∧ρ' 155=(Bv f7)) f7 ?_ ?_
 have h:=n4
 refine WC.draw [0,1,0,4,15,31,63,127,255,127,639,2047,4095,8191,16383,32767,65535,32767,163839,524287,1048575,2097151,4194303,8388607,16777215,8388607,41943039,134217727,268435455,536870911,1073741823] (.pure 0 (.pure 1 (.pure 2 (.alt 3 (.alt 4 (.pure 5 (.pure 6 (.pure 7 (.pure 8 (.pure 9 (.alt 10 (.alt 11 (.pure 12 (.pure 13 (.pure 14 (.pure 15 (.pure 16 (.pure 17 (.alt 18 (.alt 19 (.pure 20 (.pure 21 (.pure 22 (.pure 23 (.pure 24 (.pure 25 (.alt 26 (.alt 27 (.pure 28 (.pure 29 (.pure 30 .done))) .none) .none))))))) .none) .none))))))) .none) .none)))))) .none) .none)))) mixed (by kernel_rfl) (qt (pt e 14) Z (Fa fo58_14 g Z) (qt p Z (Lb 0 pl56 Z Z Z) (qt (.func (.func 112) #[] #[(pt e 0)]) Z (Mv K) ?_)))
 obtain ⟨i8,n5,h⟩:=bnd h
 have a:=a.mono b7
 have b:=b.mono b7
 have c:=c.mono b7
 have d:=d.mono b7
 refine Ta Z (callV1 (first:=#[]) (cap:=#[(pt e 0)]) co112 Z (f_record_Check_1_ok (2048:Int) a0 _ _ _ _ _ _ a b c d i8 n5) (argsV1 Z Z)) Z ?_ ?_
 rintro _ w1 _ a8 ⟨_,⟨rfl,rfl⟩,rfl⟩
 refine⟨(Sk 1 Z (Ss Z (Lb 0 pl56 Z Z Z) Z (Ss Z (Fa fo58_14 g Z) Z trivial))), ?_⟩
 refine WT.a1 ?_
 obtain ⟨f8,n6,h⟩:=bnd h
 have a:=a.mono a8
 refine Ta Z (Ca co117 (f_record_row_ok a0.Ids i8 _ _ a f8 n6) (args2 Z Z)) Z ?_ ?_
 rintro _ w2 _ a9 ⟨_,⟨rfl,rfl⟩,rfl⟩
 have d7:=a8.trans a9
 refine⟨(Sl Z), ?_⟩
 refine WT.a0 (qt (Bv (!f8)) Z (PO.not Z) (qt (Bv (!f8)) Z (Mv Z) ?_))
 rcases Bi h with⟨m,h⟩ |⟨m,h⟩
 refine Tf 162 Z Z Z m Z (Tf 162 Z Z Z m Z (Tf 162 Z Z Z m Z (Tg 162 Z Z Z m Z ⟨(Sk 1 Z (St (Sf 162 Z Z Z m Z) (St (Sf 162 Z Z Z m Z) (Sl Z)))), ?_⟩ ?_)))
 refine Tg 162 Z Z Z m Z ⟨(Sl Z), ?_⟩ ?_
 refine Tf 162 Z Z Z m Z (qt (Bv true) Z (Pt Z m Z) (qt (Bv true) Z (Mv Z) (Tf 170 Z Z Z Z Z (Tf 170 Z Z Z Z Z (Tf 170 Z Z Z Z Z (Tg 170 Z Z Z Z Z ⟨(Sk 1 Z (St (Sf 170 Z Z Z Z Z) (St (Sf 170 Z Z Z Z Z) (Sl Z)))), ?_⟩ ?_))))))
 refine Tg 170 Z Z Z Z Z ⟨(Sl Z), ?_⟩ ?_
 refine Tf 170 Z Z Z Z Z (qt (Bv true) Z (Pt Z Z Z) (qt (Bv true) Z (Mv Z) (Tf 178 Z Z Z Z Z (Tf 178 Z Z Z Z Z (Tf 178 Z Z Z Z Z (Tg 178 Z Z Z Z Z ⟨(Sk 1 Z (St (Sf 178 Z Z Z Z Z) (St (Sf 178 Z Z Z Z Z) (Sl Z)))), ?_⟩ ?_))))))
 refine Tg 178 Z Z Z Z Z ⟨(Sl Z), ?_⟩ ?_
 refine Tf 178 Z Z Z Z Z (qt (Bv true) Z (Pt Z Z Z) (qt (Bv true) Z (Ag Z) (Ti ?_)))
 obtain rfl:=oi h
 exact Tj ⟨d7,Z,g,Z⟩
 exact Tz
 exact Tz
 exact Tz
 exact Tz
 exact Tz
 exact Tz
 refine Tn (pt e 15) 162 Z Z Z m (Fa fo58_15 g Z) Z (Tn s 162 Z Z Z m (Lb 0 pl56 Z Z Z) Z (Tn (.func (.func 112) #[] #[(pt e 0)]) 162 Z Z Z m (Mv K) Z ?_))
 obtain ⟨i9,n7,h⟩:=bnd h
 have a:=a.mono a9
 have b:=b.mono d7
 have c:=c.mono d7
 have d:=d.mono d7
 refine WT.altOn 162 Z Z Z m (callV1 (first:=#[]) (cap:=#[(pt e 0)]) co112 Z (f_record_Check_1_ok (4096:Int) a0 _ _ _ _ _ _ a b c d i9 n7) (argsV1 Z Z)) Z ?_ ?_
 rintro _ w3 _ L ⟨_,⟨rfl,rfl⟩,rfl⟩
 refine⟨(Sk 1 Z (St (StabA.on 162 Z Z Z m (Lb 0 pl56 Z Z Z) Z) (St (StabA.on 162 Z Z Z m (Fa fo58_15 g Z) Z) (Sl Z)))), ?_⟩
 refine WT.a1 ?_
 obtain ⟨d8,n8,h⟩:=bnd h
 have b:=b.mono L
 refine WT.altOn 162 Z Z Z m (Ca co117 (f_record_row_ok a0.Isr i9 _ _ b d8 n8) (args2 Z Z)) Z ?_ ?_
 rintro _ w4 _ N ⟨_,⟨rfl,rfl⟩,rfl⟩
 have f9:=((a8.trans a9).trans L).trans N
 refine⟨(Sl Z), ?_⟩
 refine WT.a0 (Tn (Bv (!d8)) 162 Z Z Z m (PO.not Z) Z (qt (Bv (!d8)) Z (Pf Z m Z) (qt (Bv (!d8)) Z (Mv Z) ?_)))
 rcases Bi h with⟨n,h⟩ |⟨n,h⟩
 refine Tf 170 Z Z Z n Z (Tf 170 Z Z Z n Z (Tf 170 Z Z Z n Z (Tg 170 Z Z Z n Z ⟨(Sk 1 Z (St (Sf 170 Z Z Z n Z) (St (Sf 170 Z Z Z n Z) (Sl Z)))), ?_⟩ ?_)))
 refine Tg 170 Z Z Z n Z ⟨(Sl Z), ?_⟩ ?_
 refine Tf 170 Z Z Z n Z (qt (Bv true) Z (Pt Z n Z) (qt (Bv true) Z (Mv Z) (Tf 178 Z Z Z Z Z (Tf 178 Z Z Z Z Z (Tf 178 Z Z Z Z Z (Tg 178 Z Z Z Z Z ⟨(Sk 1 Z (St (Sf 178 Z Z Z Z Z) (St (Sf 178 Z Z Z Z Z) (Sl Z)))), ?_⟩ ?_))))))
 refine Tg 178 Z Z Z Z Z ⟨(Sl Z), ?_⟩ ?_
 refine Tf 178 Z Z Z Z Z (qt (Bv true) Z (Pt Z Z Z) (qt (Bv true) Z (Ag Z) (Ti ?_)))
 obtain rfl:=oi h
 exact Tj ⟨f9,Z,g,Z⟩
 exact Tz
 exact Tz
 exact Tz
 exact Tz
 refine Tn (pt e 16) 170 Z Z Z n (Fa fo58_16 g Z) Z (Tn t 170 Z Z Z n (Lb 0 pl56 Z Z Z) Z (Tn (.func (.func 112) #[] #[(pt e 0)]) 170 Z Z Z n (Mv K) Z ?_))
 obtain ⟨j0,n9,h⟩:=bnd h
 have a:=a.mono (L.trans N)
 have b:=b.mono N
 have c:=c.mono (L.trans N)
 have d:=d.mono (L.trans N)
 refine WT.altOn 170 Z Z Z n (callV1 (first:=#[]) (cap:=#[(pt e 0)]) co112 Z (f_record_Check_1_ok (8192:Int) a0 _ _ _ _ _ _ a b c d j0 n9) (argsV1 Z Z)) Z ?_ ?_
 rintro _ w5 _ D ⟨_,⟨rfl,rfl⟩,rfl⟩
 refine⟨(Sk 1 Z (St (StabA.on 170 Z Z Z n (Lb 0 pl56 Z Z Z) Z) (St (StabA.on 170 Z Z Z n (Fa fo58_16 g Z) Z) (Sl Z)))), ?_⟩
 refine WT.a1 ?_
 obtain ⟨d9,o0,h⟩:=bnd h
 have c:=c.mono D
 refine WT.altOn 170 Z Z Z n (Ca co117 (f_record_row_ok a0.Add j0 _ _ c d9 o0) (args2 Z Z)) Z ?_ ?_
 rintro _ w6 _ E ⟨_,⟨rfl,rfl⟩,rfl⟩
 refine⟨(Sl Z), ?_⟩
 refine WT.a0 (Tn (Bv (!d9)) 170 Z Z Z n (PO.not Z) Z (qt (Bv (!d9)) Z (Pf Z n Z) (qt (Bv (!d9)) Z (Mv Z) ?_)))
 rcases Bi h with⟨o,h⟩ |⟨o,h⟩
 refine Tf 178 Z Z Z o Z (Tf 178 Z Z Z o Z (Tf 178 Z Z Z o Z (Tg 178 Z Z Z o Z ⟨(Sk 1 Z (St (Sf 178 Z Z Z o Z) (St (Sf 178 Z Z Z o Z) (Sl Z)))), ?_⟩ ?_)))
 refine Tg 178 Z Z Z o Z ⟨(Sl Z), ?_⟩ ?_
 refine Tf 178 Z Z Z o Z (qt (Bv true) Z (Pt Z o Z) (qt (Bv true) Z (Ag Z) (Ti ?_)))
 obtain rfl:=oi h
 exact Tj ⟨((f9.trans D).trans E),Z,g,Z⟩
 exact Tz
 exact Tz
 refine Tn (pt e 17) 178 Z Z Z o (Fa fo58_17 g Z) Z (Tn u 178 Z Z Z o (Lb 0 pl56 Z Z Z) Z (Tn (.func (.func 112) #[] #[(pt e 0)]) 178 Z Z Z o (Mv K) Z ?_))
 obtain ⟨j1,o1,h⟩:=bnd h
 have a:=a.mono (D.trans E)
 have b:=b.mono (D.trans E)
 have c:=c.mono E
 have d:=d.mono (D.trans E)
 refine WT.altOn 178 Z Z Z o (callV1 (first:=#[]) (cap:=#[(pt e 0)]) co112 Z (f_record_Check_1_ok (8192:Int) a0 _ _ _ _ _ _ a b c d j1 o1) (argsV1 Z Z)) Z ?_ ?_
 rintro _ w7 _ e0 ⟨_,⟨rfl,rfl⟩,rfl⟩
 refine⟨(Sk 1 Z (St (StabA.on 178 Z Z Z o (Lb 0 pl56 Z Z Z) Z) (St (StabA.on 178 Z Z Z o (Fa fo58_17 g Z) Z) (Sl Z)))), ?_⟩
 refine WT.a1 ?_
 obtain ⟨e1,o2,h⟩:=bnd h
 have d:=d.mono e0
 refine WT.altOn 178 Z Z Z o (Ca co117 (f_record_row_ok a0.Drop j1 _ _ d e1 o2) (args2 Z Z)) Z ?_ ?_
 rintro _ w8 _ h4 ⟨_,⟨rfl,rfl⟩,rfl⟩
 refine⟨(Sl Z), ?_⟩
 refine WT.a0 (Tn (Bv (!e1)) 178 Z Z Z o (PO.not Z) Z (qt (Bv (!e1)) Z (Pf Z o Z) (qt (Bv (!e1)) Z (Ag Z) (Ti ?_))))
 obtain rfl:=oi h
 exact Tj ⟨((((f9.trans D).trans E).trans e0).trans h4),Z,g,Z⟩
 exact Tz
 exact Tz
 exact Tz
 exact Tz
 exact Tz
 exact Tz
 exact Tz
 exact Tz
 rintro w9 x0 x1 ⟨b0,rfl,g0,c0⟩
 refine Ch h c0 (fun o3 h=> ?_) (fun o3 h=> ?_)
 refine Sr (qu (pt e 14) (Fa fo58_14 g0 Z) (qu p (Lb 0 pl56 Z Z Z) ?_))
 have a:=a.mono (b7.trans b0)
 refine qu (Iv (a0.Ids.length:Int)) (lenS underlying56 Z a.len) ?_
 obtain ⟨j2,o4,h⟩:=bnd h
 refine We (Ca co30 (f_fault_New_ok ⟨#[114,111,119]⟩ (a0.Ids.length:Int) (18:Int) _ j2 o4) (args3 Z Z Z)) Z ?_
 rintro _ x2 _ h5 ⟨_,⟨rfl,rfl⟩,rfl⟩
 exact WL.a0 (qa (GV j2) (Nt (Cr (Br (Tr (Dr (Rf h [] Z (Rs Z Z) ((a7.trans b0).trans h5) ⟨Z,Z⟩)))))))
 exact Ck (Bn (Tc (Sr (qa (GV GErr.nil) (Nt (Cr (Dr (Rf h [] Z (Rs Z Z) (a7.trans b0) ⟨Z,Z⟩))))))))
 exact Tz
 exact Tz
 exact Tz
 exact Tz
 exact Tz
 exact Tz
 exact Tz
 exact Tz
 exact Tz
 exact Tz
noncomputable def f_fault_Wrap (a0:ByteArray) (a1:Int) (a2:GErr):Option GErr:=
 (if a2.isNil=true then(some GErr.nil)else(some (GErr.fault a0 a1 a2)))
def f_fault_Wrap_post (a0:ByteArray) (a1:Int) (a2:GErr):GErr→Value→IM→HL→Prop:=
 fun(a:GErr) (v:Value) (M':IM) (H':HL)=>(GV a)=v∧H'=[]
theorem f_fault_Wrap_ok (a0:ByteArray) (a1:Int) (a2:GErr) (M:IM) (res:GErr) (h:f_fault_Wrap a0 a1 a2=some res):
 Tri prog 29 #[(Sv a0),(Iv a1),(GV a2)] M [] (f_fault_Wrap_post a0 a1 a2 res):=by
 unfold f_fault_Wrap at h
 refine Te func29 Z Z ?_
 intro F ρ hρ
 refine Sr (qa (GV GErr.nil) (Nt (Cs (Sr (qM (GV a2) (hρ 2) (qu (Bv a2.isNil) (errNil underlying31 Z) (Nt (Ch h Z (fun a h=> ?_) (fun a h=> ?_)))))))))
 exact Sr (qa (GV GErr.nil) (Nt (Cr (Tr (Rf h [] Z (Rs Z Z) lr ⟨Z,Z⟩)))))
 exact Ck (Tc (Sr (qM (Sv a0) (hρ 0) (qM (Iv a1) (hρ 1) (qM (GV a2) (hρ 2) (qu (.agg #[(Sv a0),(Iv a1),(GV a2)]) (Bl (cl:=[(Sv a0),(Iv a1),(GV a2)]) ze108 fp108 (Pc (Sv a0) Z Z (Pc (Iv a1) Z Z (Parts.cons ((congrArg Value.cells (show ev _ _=(GV a2) from Z)).trans (GErr.val_cells _ _ _ _)) Pz))) Z) (qu (GV (GErr.fault a0 a1 a2)) (makeInterface cc108 Z) (qa (GV (GErr.fault a0 a1 a2)) (Nt (Cr (Rf h [] Z (Rs Z Z) lr ⟨Z,Z⟩)))))))))))
noncomputable def f_batch_Check_l0 (a0:T_api_Batch) (s_:Int):Option (Int⊕(Unit⊕GErr)):=
 match s_ with
 |a=>
 (if(decide (a<(a0.Records.length:Int)))=true then(grd (0≤a∧a<a0.Records.length) ((f_record_Check (rd a0.Records a)).bind fun b=>(if(!b.isNil)=true then((f_fault_Wrap (⟨#[114,101,99,111,114,100]⟩:ByteArray) a b).bind fun c=>(some (inr (inr c))))else(some (inl (i64.wrap (a+(1:Int))))))))else(some (inr (inl ()))))
noncomputable def f_batch_Check (a0:T_api_Batch):Option GErr:=
 (((if(decide (a0.Term<(1:Int)))=true then(some true)else(some (decide ((1073741824:Int)<a0.Term)))):Option Bool).bind fun a=>(if a=true then((f_fault_New (⟨#[116,101,114,109]⟩:ByteArray) a0.Term (2:Int)).bind fun b=>(some b))else(((if(decide (a0.Base<(0:Int)))=true then(some true)else(some (decide ((1073741824:Int)<a0.Base)))):Option Bool).bind fun c=>(if c=true then((f_fault_New (⟨#[98,97,115,101]⟩:ByteArray) a0.Base (2:Int)).bind fun d=>(some d))else(((if(decide ((a0.Records.length:Int)<(1:Int)))=true then(some true)else(some (decide ((64:Int)<(a0.Records.length:Int))))):Option Bool).bind fun e=>(if e=true then((f_fault_New (⟨#[114,101,99,111,114,100,115]⟩:ByteArray) (a0.Records.length:Int) (6:Int)).bind fun f=>(some f))else((((iter (f_batch_Check_l0 a0) (0:Int)).bind (Sum.elim (fun _=>(some (inl ()))) (fun(g:GErr)=>(((some g)).bind fun r=>some (inr r))))):Option (Unit⊕GErr)).bind (Sum.elim (fun _=>(some GErr.nil)) some))))))))
def f_batch_Check_post (a0:T_api_Batch) (a:Value):GErr→Value→IM→HL→Prop:=
 fun(b:GErr) (v:Value) (M':IM) (H':HL)=>(GV b)=v∧H'=[]
theorem f_batch_Check_ok (a0:T_api_Batch) (M:IM) (a:Value) (f:RS kd_api_Record M a a0.Records) (res:GErr) (h:f_batch_Check a0=some res):
 Tri prog 49 #[(a55_ a0 a)] M [] (f_batch_Check_post a0 a res):=by
 unfold f_batch_Check at h
 refine Te func49 Z Z ?_
 intro F ρ hρ
 refine Sr (We (box (cs:=(l55 a0 a).toArray) (congrArg Value.cells (asE (a55_ a0 a) (hρ 0)))) Z ?_)
 rintro _ _ _ - ⟨rfl,g,rfl,rfl⟩
 refine qa (GV GErr.nil) (Nt (Cs (Bk ?_)))
 obtain ⟨L,a2,h⟩:=bnd h
 refine Jf (fun(L:Bool) ρ' M' H'=>M.le M'∧[(g, .cells (l55 a0 a).toArray 55 (0,0))]::F=H'∧ρ' 1=(pt g 0)∧ρ' 6=(Bv L)) L ?_ ?_
 have h:=a2
 refine Cg (qu (pt g 0) (Fa fo55_0 Z Z) (qu (Iv a0.Term) (Lb 0 pl3 Z Z Z) (qu (Bv (decide (a0.Term<1))) (lss Z Z) (qm (Bv (decide (a0.Term<1))) ?_))))
 rcases Bi h with⟨o,h⟩ |⟨o,h⟩
 iterate 3 refine Of 10 Z Z o Z ?_
 refine qu (Bv true) (Pt Z o Z) (qa (Bv true) (Wz ?_))
 obtain rfl:=oi h
 exact Tj ⟨lr,Z,Z,Z⟩
 refine qo 10 o (pt g 0) (Fa fo55_0 Z Z) (qo 10 o (Iv a0.Term) (Lb 0 pl3 Z Z Z) (qo 10 o (Bv (decide ((1073741824:Int)<a0.Term))) (gtr Z Z) (qu (Bv (decide ((1073741824:Int)<a0.Term))) (Pf Z o Z) (qa (Bv (decide ((1073741824:Int)<a0.Term))) (Wz ?_)))))
 obtain rfl:=oi h
 exact Tj ⟨lr,Z,Z,Z⟩
 rintro c7 c2 c8 ⟨C,rfl,j,J⟩
 refine Ch h J (fun a3 h=> ?_) (fun a3 h=> ?_)
 refine Sr (qu (pt g 0) (Fa fo55_0 j Z) (qu (Iv a0.Term) (Lb 0 pl3 Z Z Z) ?_))
 obtain ⟨a4,a5,h⟩:=bnd h
 refine We (Ca co30 (f_fault_New_ok ⟨#[116,101,114,109]⟩ a0.Term (2:Int) _ a4 a5) (args3 Z Z Z)) Z ?_
 rintro _ c9 _ N ⟨_,⟨rfl,rfl⟩,rfl⟩
 exact WL.a0 (qa (GV a4) (Nt (Cr (Br (Tr (Dr (Rf h [] Z (Rs Z Z) (C.trans N) ⟨Z,Z⟩)))))))
 obtain ⟨O,a6,h⟩:=bnd h
 refine Jf (fun(O:Bool) ρ' M' H'=>c2.le M'∧[(g, .cells (l55 a0 a).toArray 55 (0,0))]::F=H'∧ρ' 1=(pt g 0)∧ρ' 18=(Bv O)) O ?_ ?_
 have h:=a6
 refine Cg (qu (pt g 1) (Fa fo55_1 j Z) (qu (Iv a0.Base) (Lb 0 pl3 Z Z Z) (qu (Bv (decide (a0.Base<0))) (lss Z Z) (qm (Bv (decide (a0.Base<0))) ?_))))
 rcases Bi h with⟨p,h⟩ |⟨p,h⟩
 iterate 3 refine Of 22 Z Z p Z ?_
 refine qu (Bv true) (Pt Z p Z) (qa (Bv true) (Wz ?_))
 obtain rfl:=oi h
 exact Tj ⟨lr,Z,j,Z⟩
 refine qo 22 p (pt g 1) (Fa fo55_1 j Z) (qo 22 p (Iv a0.Base) (Lb 0 pl3 Z Z Z) (qo 22 p (Bv (decide ((1073741824:Int)<a0.Base))) (gtr Z Z) (qu (Bv (decide ((1073741824:Int)<a0.Base))) (Pf Z p Z) (qa (Bv (decide ((1073741824:Int)<a0.Base))) (Wz ?_)))))
 obtain rfl:=oi h
 exact Tj ⟨lr,Z,j,Z⟩
 rintro d0 c3 d1 ⟨P,rfl,k,D⟩
 have Q:=C.trans P
 refine Ch h D (fun a7 h=> ?_) (fun a7 h=> ?_)
 refine Sr (qu (pt g 1) (Fa fo55_1 k Z) (qu (Iv a0.Base) (Lb 0 pl3 Z Z Z) ?_))
 obtain ⟨a8,a9,h⟩:=bnd h
 refine We (Ca co30 (f_fault_New_ok ⟨#[98,97,115,101]⟩ a0.Base (2:Int) _ a8 a9) (args3 Z Z Z)) Z ?_
 rintro _ d2 _ R ⟨_,⟨rfl,rfl⟩,rfl⟩
 exact WL.a0 (qa (GV a8) (Nt (Cr (Br (Tr (Dr (Rf h [] Z (Rs Z Z) (Q.trans R) ⟨Z,Z⟩)))))))
 obtain ⟨S,b0,h⟩:=bnd h
 refine Jf (fun(S:Bool) ρ' M' H'=>c3.le M'∧[(g, .cells (l55 a0 a).toArray 55 (0,0))]::F=H'∧ρ' 1=(pt g 0)∧ρ' 30=(Bv S)) S ?_ ?_
 have h:=b0
 refine Cg (qu (pt g 2) (Fa fo55_2 k Z) (qu a (Lb 0 pl53 Z Z Z) ?_))
 have f:=f.mono Q
 refine qu (Iv (a0.Records.length:Int)) (lenS underlying53 Z f.len) (qu (Bv (decide ((a0.Records.length:Int)<(1:Int)))) (lss Z Z) (qm (Bv (decide ((a0.Records.length:Int)<(1:Int)))) ?_))
 rcases Bi h with⟨m,h⟩ |⟨m,h⟩
 iterate 4 refine Of 35 Z Z m Z ?_
 refine qu (Bv true) (Pt Z m Z) (qa (Bv true) (Wz ?_))
 obtain rfl:=oi h
 exact Tj ⟨lr,Z,k,Z⟩
 refine qo 35 m (pt g 2) (Fa fo55_2 k Z) (qo 35 m a (Lb 0 pl53 Z Z Z) (qo 35 m (Iv (a0.Records.length:Int)) (lenS underlying53 Z f.len) (qo 35 m (Bv (decide ((64:Int)<(a0.Records.length:Int)))) (gtr Z Z) (qu (Bv (decide ((64:Int)<(a0.Records.length:Int)))) (Pf Z m Z) (qa (Bv (decide ((64:Int)<(a0.Records.length:Int)))) (Wz ?_))))))
 obtain rfl:=oi h
 exact Tj ⟨lr,Z,k,Z⟩
 rintro d3 b1 d4 ⟨T,rfl,z,E⟩
 have G:=Q.trans T
 refine Ch h E (fun b2 h=> ?_) (fun b2 h=> ?_)
 refine Sr (qu (pt g 2) (Fa fo55_2 z Z) (qu a (Lb 0 pl53 Z Z Z) ?_))
 have f:=f.mono G
 refine qu (Iv (a0.Records.length:Int)) (lenS underlying53 Z f.len) ?_
 obtain ⟨b3,b4,h⟩:=bnd h
 refine We (Ca co30 (f_fault_New_ok ⟨#[114,101,99,111,114,100,115]⟩ (a0.Records.length:Int) (6:Int) _ b3 b4) (args3 Z Z Z)) Z ?_
 rintro _ d5 _ U ⟨_,⟨rfl,rfl⟩,rfl⟩
 exact WL.a0 (qa (GV b3) (Nt (Cr (Br (Tr (Dr (Rf h [] Z (Rs Z Z) (G.trans U) ⟨Z,Z⟩)))))))
 refine Ck (Bn (Tc ?_))
 obtain ⟨c4,b5,h⟩:=bnd h
 refine WC.joinE (fun(_:Unit) ρ' M' H'=>b1.le M'∧[(g, .cells (l55 a0 a).toArray 55 (0,0))]::F=H') c4 ?_ ?_
 have b6:=h
 have h:=b5
 refine Sr (qu (pt g 2) (Fa fo55_2 z Z) (qu a (Lb 0 pl53 Z Z Z) ?_))
 have f:=f.mono G
 refine qu (Iv (a0.Records.length:Int)) (lenS underlying53 Z f.len) (qm (Iv 0) (Nt (Bk ?_)))
 obtain ⟨d6,b7,K⟩:=bnd h
 clear h
 refine WC.loop b7 (fun(i:Int) ρ' M' H'=>b1.le M'∧[(g, .cells (l55 a0 a).toArray 55 (0,0))]::F=H'∧ρ' 46=a∧ρ' 47=(Iv (a0.Records.length:Int))∧ρ' 48=(Iv i)) ?_ ?_
 exact⟨lr,Z,Z,Z,Z⟩
 rintro i d7 d8 d9 e0 h ⟨q,rfl,r,s,l⟩
 unfold f_batch_Check_l0 at h
 refine Sr (qu (Bv (decide (i<(a0.Records.length:Int)))) (lss l s) (Nt (Cs (Ch h Z (fun b8 h=> ?_) (fun b8 h=> ?_)))))
 refine Ck (Tc (Cs (Bk (Sr (qM (Iv i) l ?_)))))
 obtain ⟨A,h⟩:=grd_i h
 have f:=f.mono q
 obtain ⟨c5,c6,V,W,hhas59⟩:=f.at A.1 A.2 (by decide)
 obtain ⟨b,c,d,e,rfl,t,u,w,x⟩:=kd_api_Record_open W
 refine qu (.pointer (some c5)) (indexAddr (n:=a0.Records.length) underlying53 sz58 r l A.1 A.2 V) (qu (a58_ (rd a0.Records i) b c d e) (loadMA (cs:=(l58 (rd a0.Records i) b c d e)) ag58 sz58 Z hhas59) (We (Al ze58 Z) Z ?_))
 rintro _ _ _ - ⟨rfl,e1,rfl,rfl⟩
 refine qa (Iv i) (We (Sg (v:=(a58_ (rd a0.Records i) b c d e)) (vl:=(l58 (rd a0.Records i) b c d e)) (arr':=(l58 (rd a0.Records i) b c d e)) Z sz58 Z Z (onesOf (Oc Z (Oc Z (Oc Z (Oc Z (Oc Z (Oc Z (Oc Z (Oc Z (Oc Z (Oc Z (Oc Z (Oc Z (Oc Z (Oc Z (Oc (RS.one t) (Oc (RS.one u) (Oc (RS.one w) (Oc (RS.one x) Oz))))))))))))))))))) Z Z (by kernel_rfl)) Z ?_)
 rintro _ _ _ - ⟨rfl,rfl⟩
 refine Ns (qu (a58_ (rd a0.Records i) b c d e) (La (cs:=(l58 (rd a0.Records i) b c d e)) 0 ag58 sz58 Z Z Z) ?_)
 obtain ⟨B,b9,h⟩:=bnd h
 refine We (Ca co77 (f_record_Check_ok (rd a0.Records i) _ _ _ _ _ t u w x B b9) (args1 Z)) Z ?_
 rintro _ e2 _ I ⟨_,⟨rfl,rfl⟩,rfl⟩
 refine WL.a0 (qa (GV B) (Ns (qm (GV B) (qu (Bv (!B.isNil)) (errNotNil underlying31 Z) (Nt (Ch h Z (fun c0 h=> ?_) (fun c0 h=> ?_)))))))
 refine Sr (qm (Iv i) (qm (GV B) ?_))
 obtain ⟨X,c1,h⟩:=bnd h
 refine We (Ca co29 (f_fault_Wrap_ok ⟨#[114,101,99,111,114,100]⟩ i B _ X c1) (args3 Z Z Z)) Z ?_
 rintro _ e3 _ Y ⟨_,⟨rfl,rfl⟩,rfl⟩
 refine WL.a0 (qa (GV X) (Nt (Cr (Br (Tr (WQ.leaveR (inr X) (oi h).symm (fun y=> ?_)))))))
 subst y
 have h:=(elimR K)
 refine Br (Tr ?_)
 have h:=KK.early h b6
 exact Dr (Dr (Rf h [] Z (Rs Z Z) (((G.trans q).trans I).trans Y) ⟨Z,Z⟩))
 exact Ck (Bn (Tc (Cg (qu (Iv (i64.wrap (i+1))) (add l Z) (qm (Iv (i64.wrap (i+1))) (Wz (Dr (WQ.again (i64.wrap (i+1)) (oi h).symm ⟨(q.trans I),Z,r,s,Z⟩))))))))
 refine WC.exit (WQ.thenE (WQ.leaveE (inl ()) (oi h).symm (fun y=> ?_)))
 subst y
 have h:=elimL K
 exact WQ.blockH (WQ.thenFE h ⟨q,Z⟩)
 rintro _ e4 e5 e6 rfl ⟨a1,rfl⟩
 have h:=(Sum.elim_inl _ _ _).symm.trans h
 exact Sr (qa (GV GErr.nil) (Nt (Cr (Dr (Rf h [] Z (Rs Z Z) (G.trans a1) ⟨Z,Z⟩)))))

end Go.Proofs.YtkflneabcannnaaGreatDoor.G
