/- Go functions: what they come to, and that they do. Printed by a program of the session (gen). -/
import Derived.Test.YtpmofealbmapiaaDoorSF
import Derived.Test.YtpmofealbmapiaaDoorKShar2
import Derived.Test.YtpmofealbmapiaaDoorKConv
import Derived.Test.YtpmofealbmapiaaDoorKShar
import Derived.Test.YtpmofealbmapiaaDoorKArith
import Derived.Test.YtpmofealbmapiaaDoorKTight2
set_option linter.unusedVariables false
set_option linter.unusedSimpArgs false
set_option maxHeartbeats 8000000
set_option maxRecDepth 100000
namespace Go.Proofs.YtpmofealbmapiaaDoor.G
open Go Go.KK
open PO EO IntKind Sum Tryd

noncomputable def f_ref05_Short (a0:T_api_Record):Option Bool:=
 (((if(decide ((a0.Name.size:Int)≤(400:Int)))=true then(if(decide ((a0.Key.size:Int)≤(400:Int)))=true then(if(decide ((a0.Value.size:Int)≤(400:Int)))=true then(some (decide ((a0.Rack.size:Int)≤(400:Int))))else(some false))else(some false))else(some false)):Option Bool).bind fun a=>(((if a=true then(if(decide ((a0.Ids.length:Int)≤(60:Int)))=true then(if(decide ((a0.Isr.length:Int)≤(60:Int)))=true then(if(decide ((a0.Add.length:Int)≤(60:Int)))=true then(some (decide ((a0.Drop.length:Int)≤(60:Int))))else(some false))else(some false))else(some false))else(some false)):Option Bool).bind fun b=>(some b)))
def f_ref05_Short_post (a0:T_api_Record) (a b c d:Value):Bool→Value→IM→HL→Prop:=
 fun(e:Bool) (v:Value) (g:IM) (f:HL)=>(.bool e)=v∧f=[]
theorem f_ref05_Short_ok (a0:T_api_Record) (M:IM) (a b c d:Value) (p:RS (Kd.int .i64) M a a0.Ids) (q:RS (Kd.int .i64) M b a0.Isr) (r:RS (Kd.int .i64) M c a0.Add) (s:RS (Kd.int .i64) M d a0.Drop) (y:Bool) (h:f_ref05_Short a0=some y):
 Tri prog 9 #[(a36_ a0 a b c d)] M [] (f_ref05_Short_post a0 a b c d y):=by
 unfold f_ref05_Short at h
 refine Te func9 Z Z ?_
 intro F O G
 refine Sr (We (box (cs:=(l36 a0 a b c d).toArray) (congrArg Value.cells (asE (a36_ a0 a b c d) (G 0)))) Z ?_)
 rintro _ _ _ - ⟨rfl,n,rfl,rfl⟩
 refine qa (Bv false) (Nt ?_)
 obtain ⟨t,z,h⟩:=bnd h
 refine Jf (fun(t:Bool) B C D=>M.le C∧[(n, .cells (l36 a0 a b c d).toArray 36 (0,0))]::F=D∧B 1=(pt n 0)∧B 3=(Bv t)) t ?_ ?_
 have h:=z
 refine Cg (qu (pt n 10) (Fa fo36_10 Z Z) (qu (Sv a0.Name) (Lb 0 pl9 Z Z Z) (qu (Iv (a0.Name.size:Int)) (lenStr underlying9 Z) (qu (Bv (decide ((a0.Name.size:Int)≤(400:Int)))) (leq Z Z) (qm (Bv (decide ((a0.Name.size:Int)≤(400:Int)))) ?_)))))
 rcases Bi h with⟨e,h⟩ |⟨e,h⟩
 refine qo 8 e (pt n 11) (Fa fo36_11 Z Z) (qo 8 e (Sv a0.Key) (Lb 0 pl9 Z Z Z) (qo 8 e (Iv (a0.Key.size:Int)) (lenStr underlying9 Z) (qo 8 e (Bv (decide ((a0.Key.size:Int)≤(400:Int)))) (leq Z Z) (qu (Bv (decide ((a0.Key.size:Int)≤(400:Int)))) (Pt Z e Z) (qm (Bv (decide ((a0.Key.size:Int)≤(400:Int)))) ?_)))))
 rcases Bi h with⟨f,h⟩ |⟨f,h⟩
 refine qo 14 f (pt n 12) (Fa fo36_12 Z Z) (qo 14 f (Sv a0.Value) (Lb 0 pl9 Z Z Z) (qo 14 f (Iv (a0.Value.size:Int)) (lenStr underlying9 Z) (qo 14 f (Bv (decide ((a0.Value.size:Int)≤(400:Int)))) (leq Z Z) (qu (Bv (decide ((a0.Value.size:Int)≤(400:Int)))) (Pt Z f Z) (qm (Bv (decide ((a0.Value.size:Int)≤(400:Int)))) ?_)))))
 rcases Bi h with⟨g,h⟩ |⟨g,h⟩
 refine qo 20 g (pt n 13) (Fa fo36_13 Z Z) (qo 20 g (Sv a0.Rack) (Lb 0 pl9 Z Z Z) (qo 20 g (Iv (a0.Rack.size:Int)) (lenStr underlying9 Z) (qo 20 g (Bv (decide ((a0.Rack.size:Int)≤(400:Int)))) (leq Z Z) (qu (Bv (decide ((a0.Rack.size:Int)≤(400:Int)))) (Pt Z g Z) (qa (Bv (decide ((a0.Rack.size:Int)≤(400:Int)))) (Wz ?_))))))
 obtain rfl:=oi h
 exact Tj ⟨lr,Z,Z,Z⟩
 iterate 4 refine Of 20 Z Z g Z ?_
 refine qu (Bv false) (Pf Z g Z) (qa (Bv false) (Wz ?_))
 obtain rfl:=oi h
 exact Tj ⟨lr,Z,Z,Z⟩
 iterate 4 refine Of 14 Z Z f Z ?_
 refine qu (Bv false) (Pf Z f Z) (qm (Bv false) ?_)
 iterate 4 refine Of 20 Z Z Z Z ?_
 refine qu (Bv false) (Pf Z Z Z) (qa (Bv false) (Wz ?_))
 obtain rfl:=oi h
 exact Tj ⟨lr,Z,Z,Z⟩
 iterate 4 refine Of 8 Z Z e Z ?_
 refine qu (Bv false) (Pf Z e Z) (qm (Bv false) ?_)
 iterate 4 refine Of 14 Z Z Z Z ?_
 refine qu (Bv false) (Pf Z Z Z) (qm (Bv false) ?_)
 iterate 4 refine Of 20 Z Z Z Z ?_
 refine qu (Bv false) (Pf Z Z Z) (qa (Bv false) (Wz ?_))
 obtain rfl:=oi h
 exact Tj ⟨lr,Z,Z,Z⟩
 rintro I E J ⟨o,rfl,m,u⟩
 obtain ⟨w,A,h⟩:=bnd h
 refine Jf (fun(w:Bool) B C D=>E.le C∧[(n, .cells (l36 a0 a b c d).toArray 36 (0,0))]::F=D∧B 2=(Bv w)) w ?_ ?_
 have h:=A
 refine Cg (qM (Bv t) u (qm (Bv t) ?_))
 rcases Bi h with⟨i,h⟩ |⟨i,h⟩
 refine qo 27 i (pt n 14) (Fa fo36_14 m Z) (qo 27 i a (Lb 0 pl34 Z Z Z) (On 27 Z Z i ?_))
 have p:=p.mono o
 refine qu (Iv (a0.Ids.length:Int)) (lenS underlying34 Z p.len) (qo 27 i (Bv (decide ((a0.Ids.length:Int)≤(60:Int)))) (leq Z Z) (qu (Bv (decide ((a0.Ids.length:Int)≤(60:Int)))) (Pt Z i Z) (qm (Bv (decide ((a0.Ids.length:Int)≤(60:Int)))) ?_)))
 rcases Bi h with⟨j,h⟩ |⟨j,h⟩
 refine qo 33 j (pt n 15) (Fa fo36_15 m Z) (qo 33 j b (Lb 0 pl34 Z Z Z) (On 33 Z Z j ?_))
 have q:=q.mono o
 refine qu (Iv (a0.Isr.length:Int)) (lenS underlying34 Z q.len) (qo 33 j (Bv (decide ((a0.Isr.length:Int)≤(60:Int)))) (leq Z Z) (qu (Bv (decide ((a0.Isr.length:Int)≤(60:Int)))) (Pt Z j Z) (qm (Bv (decide ((a0.Isr.length:Int)≤(60:Int)))) ?_)))
 rcases Bi h with⟨k,h⟩ |⟨k,h⟩
 refine qo 39 k (pt n 16) (Fa fo36_16 m Z) (qo 39 k c (Lb 0 pl34 Z Z Z) (On 39 Z Z k ?_))
 have r:=r.mono o
 refine qu (Iv (a0.Add.length:Int)) (lenS underlying34 Z r.len) (qo 39 k (Bv (decide ((a0.Add.length:Int)≤(60:Int)))) (leq Z Z) (qu (Bv (decide ((a0.Add.length:Int)≤(60:Int)))) (Pt Z k Z) (qm (Bv (decide ((a0.Add.length:Int)≤(60:Int)))) ?_)))
 rcases Bi h with⟨l,h⟩ |⟨l,h⟩
 refine qo 45 l (pt n 17) (Fa fo36_17 m Z) (qo 45 l d (Lb 0 pl34 Z Z Z) (On 45 Z Z l ?_))
 have s:=s.mono o
 refine qu (Iv (a0.Drop.length:Int)) (lenS underlying34 Z s.len) (qo 45 l (Bv (decide ((a0.Drop.length:Int)≤(60:Int)))) (leq Z Z) (qu (Bv (decide ((a0.Drop.length:Int)≤(60:Int)))) (Pt Z l Z) (qa (Bv (decide ((a0.Drop.length:Int)≤(60:Int)))) (Wz ?_))))
 obtain rfl:=oi h
 exact Tj ⟨lr,Z,Z⟩
 iterate 4 refine Of 45 Z Z l Z ?_
 refine qu (Bv false) (Pf Z l Z) (qa (Bv false) (Wz ?_))
 obtain rfl:=oi h
 exact Tj ⟨lr,Z,Z⟩
 iterate 4 refine Of 39 Z Z k Z ?_
 refine qu (Bv false) (Pf Z k Z) (qm (Bv false) ?_)
 iterate 4 refine Of 45 Z Z Z Z ?_
 refine qu (Bv false) (Pf Z Z Z) (qa (Bv false) (Wz ?_))
 obtain rfl:=oi h
 exact Tj ⟨lr,Z,Z⟩
 iterate 4 refine Of 33 Z Z j Z ?_
 refine qu (Bv false) (Pf Z j Z) (qm (Bv false) ?_)
 iterate 4 refine Of 39 Z Z Z Z ?_
 refine qu (Bv false) (Pf Z Z Z) (qm (Bv false) ?_)
 iterate 4 refine Of 45 Z Z Z Z ?_
 refine qu (Bv false) (Pf Z Z Z) (qa (Bv false) (Wz ?_))
 obtain rfl:=oi h
 exact Tj ⟨lr,Z,Z⟩
 iterate 4 refine Of 27 Z Z i Z ?_
 refine qu (Bv false) (Pf Z i Z) (qm (Bv false) ?_)
 iterate 4 refine Of 33 Z Z Z Z ?_
 refine qu (Bv false) (Pf Z Z Z) (qm (Bv false) ?_)
 iterate 4 refine Of 39 Z Z Z Z ?_
 refine qu (Bv false) (Pf Z Z Z) (qm (Bv false) ?_)
 iterate 4 refine Of 45 Z Z Z Z ?_
 refine qu (Bv false) (Pf Z Z Z) (qa (Bv false) (Wz ?_))
 obtain rfl:=oi h
 exact Tj ⟨lr,Z,Z⟩
 rintro K L N ⟨x,rfl,v⟩
 exact Cr (Dr (Rf h [] Z (Rs Z v) (o.trans x) ⟨Z,Z⟩))
noncomputable def f_ref06_Short_l0 (a0:(List T_api_Record)) (c:Int):Option (Int⊕(Unit⊕Unit)):=
 match c with
 |a=>
 (if(decide (a<(a0.length:Int)))=true then(grd (0≤a∧a<a0.length) ((f_ref05_Short (rd a0 a)).bind fun b=>(if(!b)=true then(some (inr (inr ())))else(some (inl (i64.wrap (a+(1:Int))))))))else(some (inr (inl ()))))
noncomputable def f_ref06_Short (a0:(List T_api_Record)):Option Bool:=
 (if(decide ((80:Int)<(a0.length:Int)))=true then(some false)else((((iter (f_ref06_Short_l0 a0) (0:Int)).bind (Sum.elim (fun _=>(some (inl ()))) (fun _=>(((some false)).bind fun r=>some (inr r))))):Option (Unit⊕Bool)).bind (Sum.elim (fun _=>(some true)) some)))
def f_ref06_Short_post (a0:(List T_api_Record)) (c:Value):Bool→Value→IM→HL→Prop:=
 fun(a:Bool) (v:Value) (d:IM) (b:HL)=>(.bool a)=v∧b=[]
theorem f_ref06_Short_ok (a0:(List T_api_Record)) (M:IM) (s:Value) (w:RS kd_api_Record M s a0) (x:Bool) (h:f_ref06_Short a0=some x):
 Tri prog 4 #[s] M [] (f_ref06_Short_post a0 s x):=by
 unfold f_ref06_Short at h
 refine Te func4 Z Z ?_
 intro F ρ O
 refine Sr (qa (Bv false) (Nt (Cs (Sr (qM s (O 0) (qu (Iv (a0.length:Int)) (lenS underlying23 Z w.len) (qu (Bv (decide ((80:Int)<(a0.length:Int)))) (gtr Z Z) (Nt (Ch h Z (fun y h=> ?_) (fun y h=> ?_))))))))))
 exact Sr (qa (Bv false) (Nt (Cr (Tr (Rf h [] Z (Rs Z Z) lr ⟨Z,Z⟩)))))
 refine Ck (Tc ?_)
 obtain ⟨I,z,h⟩:=bnd h
 refine WC.joinE (fun(_:Unit) J K L=>M.le K∧F=L) I ?_ ?_
 have A:=h
 have h:=z
 refine Sr (qa (Iv 0) (Nt (Bk ?_)))
 obtain ⟨Q,B,r⟩:=bnd h
 clear h
 refine WC.loop B (fun(a:Int) J K L=>M.le K∧F=L∧J 0=s∧J 3=(Iv a)) ?_ ?_
 exact⟨lr,Z,(O 0),Z⟩
 rintro a R S T U h ⟨b,rfl,c,d⟩
 unfold f_ref06_Short_l0 at h
 refine Cs (Sr (qM (Iv a) d (qM s c ?_)))
 have w:=w.mono b
 refine qu (Iv (a0.length:Int)) (lenS underlying23 Z w.len) (qu (Bv (decide (a<(a0.length:Int)))) (lss Z Z) (Nt (Ch h Z (fun C h=> ?_) (fun C h=> ?_))))
 refine Ck (Tc (Cs (Bk (Sr (qM s c (qM (Iv a) d ?_))))))
 obtain ⟨k,h⟩:=grd_i h
 obtain ⟨N,P,t,u,hhas31⟩:=w.at k.1 k.2 (by decide)
 obtain ⟨e,f,g,i,rfl,l,m,o,p⟩:=kd_api_Record_open u
 refine qu (.pointer (some N)) (indexAddr (n:=a0.length) underlying23 sz36 Z Z k.1 k.2 t) (qu (a36_ (rd a0 a) e f g i) (loadMA (cs:=(l36 (rd a0 a) e f g i)) ag36 sz36 Z hhas31) ?_)
 obtain ⟨D,E,h⟩:=bnd h
 refine We (Ca co9 (f_ref05_Short_ok (rd a0 a) _ _ _ _ _ l m o p D E) (args1 Z)) Z ?_
 rintro _ V _ q ⟨_,⟨rfl,rfl⟩,rfl⟩
 refine WL.a0 (qu (Bv (!D)) (PO.not Z) (Nt (Ch h Z (fun G h=> ?_) (fun G h=> ?_))))
 refine Sr (qa (Bv false) (Nt (Cr (Br (Tr (WQ.leaveR (inr ()) (oi h).symm (fun j=> ?_)))))))
 subst j
 have h:=(elimR r)
 refine Br (Tr ?_)
 have h:=KK.early h A
 exact Rf h [] Z (Rs Z Z) (b.trans q) ⟨Z,Z⟩
 exact Ck (Bn (Tc (Cg (qM (Iv a) d (qu (Iv (i64.wrap (a+1))) (add Z Z) (qa (Iv (i64.wrap (a+1))) (Wz (WQ.again (i64.wrap (a+1)) (oi h).symm ⟨(b.trans q),Z,c,Z⟩))))))))
 refine WC.exit (WQ.thenE (WQ.leaveE (inl ()) (oi h).symm (fun j=> ?_)))
 subst j
 have h:=elimL r
 exact WQ.blockH (WQ.thenFE h ⟨b,Z⟩)
 rintro _ W X Y rfl ⟨v,rfl⟩
 have h:=(Sum.elim_inl _ _ _).symm.trans h
 exact Sr (qa (Bv true) (Nt (Cr (Rf h [] Z (Rs Z Z) v ⟨Z,Z⟩))))
noncomputable def f_slices_Clone_int_int (a0:(List Int)):Option (List Int):=
 (grd (([]:List Int).length+a0.length≤274877906944) (some (([]:List Int)++a0)))
def f_slices_Clone_int_int_post (a0:(List Int)) (f:Value):(List Int)→Value→IM→HL→Prop:=
 fun(c:(List Int)) (v:Value) (d:IM) (e:HL)=>∃ a b,a=v∧e=[b]∧OwnS (Kd.int .i64) d a c b
theorem f_slices_Clone_int_int_ok (a0:(List Int)) (M:IM) (d:Value) (k:RS (Kd.int .i64) M d a0) (e:(List Int)) (h:f_slices_Clone_int_int a0=some e):
 Tri prog 31 #[d] M [] (f_slices_Clone_int_int_post a0 d e):=by
 unfold f_slices_Clone_int_int at h
 refine Te func31 Z Z ?_
 intro F o n
 refine Sr (qa Zs (Nt (Cs (Sr (qM d (n 0) (qu (Bv (nilS d)) (sliceNil underlying34 Z k.len Z) (Nt (Cd (b:=nilS d) Z (fun c=> ?_) (fun c=> ?_)))))))))
 obtain rfl:=k.nilxs (by decide) c
 have h:=Eq.trans (a:=((some []):Option (List Int))) (by simp [grd]) h
 exact Sr (qa Zs (Nt (Cr (Tr (WQ.e0 (Rf h [[]] Z (Rs Z Z) lr ⟨Zs,[],Z,Z,(OwnS.nil _ _)⟩))))))
 refine Ck (Tc (Sr (We (buildSliceL (cl:=[]) underlying34 iz3 Z Pz Z) Z ?_)))
 rintro _ _ _ - ⟨rfl,f,rfl,rfl⟩
 have l:OwnS (Kd.int .i64) M (.slice (some ⟨f,0,none⟩) 0 0) [] [(f, .cells #[] 3 (0,0))]:=OwnS.rows (css:=[]) Rows.nil Z Z
 refine qM d (n 0) ?_
 obtain ⟨g,h⟩:=grd_i h
 refine We (append (dd:=(Kd.int .i64)) (xs:=[]) (ys:=a0) underlying34 underlying34 in3 Z (appB (by decide) g) (by decide) Z Z l (k.src _)) Z ?_
 rintro i _ _ - ⟨rfl,j,rfl,m⟩
 exact qa i (Nt (Cr (Rf h [j] Z (Rs Z Z) lr ⟨i,j,Z,Z,m⟩)))
noncomputable def f_batch_one (a0:T_api_Record):Option T_api_Record:=
 ((f_slices_Clone_int_int a0.Ids).bind fun a=>((f_slices_Clone_int_int a0.Isr).bind fun b=>((f_slices_Clone_int_int a0.Add).bind fun c=>((f_slices_Clone_int_int a0.Drop).bind fun d=>(some (⟨a0.Kind,a0.Broker,a0.Epoch,a0.Topic,a0.Part,a0.Leader,a0.Client,a0.Serial,a0.Code,a0.Flag,a0.Name,a0.Key,a0.Value,a0.Rack,a,b,c,d⟩:T_api_Record))))))
def f_batch_one_post (a0:T_api_Record) (l m n o:Value):T_api_Record→Value→IM→HL→Prop:=
 fun(a:T_api_Record) (v:Value) (k:IM) (p:HL)=>∃ b c d e f g i j,(.agg #[(.int .i64 a.Kind),(.int .i64 a.Broker),(.int .i64 a.Epoch),(.int .i64 a.Topic),(.int .i64 a.Part),(.int .i64 a.Leader),(.int .i64 a.Client),(.int .i64 a.Serial),(.int .i64 a.Code),(.bool a.Flag),(.string a.Name),(.string a.Key),(.string a.Value),(.string a.Rack),b,d,f,i])=v∧p=[c,e,g,j]∧OwnS (Kd.int .i64) k b a.Ids c∧OwnS (Kd.int .i64) k d a.Isr e∧OwnS (Kd.int .i64) k f a.Add g∧OwnS (Kd.int .i64) k i a.Drop j
theorem f_batch_one_ok (a0:T_api_Record) (M:IM) (i f c a:Value) (A:RS (Kd.int .i64) M i a0.Ids) (r:RS (Kd.int .i64) M f a0.Isr) (s:RS (Kd.int .i64) M c a0.Add) (t:RS (Kd.int .i64) M a a0.Drop) (B:T_api_Record) (h:f_batch_one a0=some B):
 Tri prog 18 #[(a36_ a0 i f c a)] M [] (f_batch_one_post a0 i f c a B):=by
 unfold f_batch_one at h
 refine Te func18 Z Z ?_
 intro F T N
 refine Sr (We (box (cs:=(l36 a0 i f c a).toArray) (congrArg Value.cells (asE (a36_ a0 i f c a) (N 0)))) Z ?_)
 rintro _ _ _ - ⟨rfl,q,rfl,rfl⟩
 refine We (Al ze36 Z) Z ?_
 rintro _ _ _ - ⟨rfl,O,rfl,rfl⟩
 refine Nt (Cs (WC.draw [0,1,3,0,8,31,31,127,255,511] (.pure 0 (.pure 1 (.pure 3 (.pure 4 (.alt 2 (.pure 6 (.alt 5 (.alt 7 (.pure 8 (.alt 9 .done .none)) .none) .none)) .none))))) mixed (by kernel_rfl) (qt (pt q 14) Z (Fa fo36_14 Z Z) (qt i Z (Lb 1 pl34 Z Z Z) (qt (pt q 15) Z (Fa fo36_15 Z Z) (qt f Z (Lb 1 pl34 Z Z Z) ?_))))))
 obtain ⟨I,C,h⟩:=bnd h
 refine Ta Z (Ca co31 (f_slices_Clone_int_int_ok a0.Ids _ _ A I C) (args1 Z)) Z ?_ ?_
 rintro _ P _ m ⟨_,⟨b,w,rfl,rfl,j⟩,rfl⟩
 refine⟨(Ss Z (Lb 2 pl34 Z Z Z) Z (Ss Z (Fa fo36_15 Z Z) Z (Sl Z))), ?_⟩
 refine WT.a1 (qt (pt q 14) Z (Fa fo36_14 Z Z) ?_)
 obtain ⟨J,D,h⟩:=bnd h
 have r:=r.mono m
 refine Ta Z (Ca co31 (f_slices_Clone_int_int_ok a0.Isr _ _ r J D) (args1 Z)) Z ?_ ?_
 rintro _ Q _ n ⟨_,⟨d,x,rfl,rfl,k⟩,rfl⟩
 refine⟨(Ss Z (Fa fo36_14 Z Z) Z (Sl Z)), ?_⟩
 refine WT.a1 (WT.f3 ?_)
 have j:=j.mono n
 refine Ta Z (Es b ((l36 a0 b f c a)) j.cells sz34 Z Z (Ow j) Z Z (by kernel_rfl)) Z ?_ ?_
 rintro _ _ _ - ⟨rfl,rfl⟩
 refine⟨(Sl Z), ?_⟩
 refine qt (pt q 15) Z (Fa fo36_15 Z Z) (Ta Z (Es d ((l36 a0 b d c a)) k.cells sz34 Z Z (Ow k) Z Z (by kernel_rfl)) Z ?_ ?_)
 rintro _ _ _ - ⟨rfl,rfl⟩
 refine⟨(Sl Z), ?_⟩
 refine Ti (Tc (Cs (WC.draw [0,1,3,0,8,31,31,127,255,511] (.pure 0 (.pure 1 (.pure 3 (.pure 4 (.alt 2 (.pure 6 (.alt 5 (.alt 7 (.pure 8 (.alt 9 .done .none)) .none) .none)) .none))))) mixed (by kernel_rfl) (qt (pt q 16) Z (Fa fo36_16 Z Z) (qt c Z (Lb 0 pl34 Z Z Z) (qt (pt q 17) Z (Fa fo36_17 Z Z) (qt a Z (Lb 0 pl34 Z Z Z) ?_)))))))
 obtain ⟨K,E,h⟩:=bnd h
 have s:=s.mono (m.trans n)
 refine Ta Z (Ca co31 (f_slices_Clone_int_int_ok a0.Add _ _ s K E) (args1 Z)) Z ?_ ?_
 rintro _ R _ o ⟨_,⟨e,y,rfl,rfl,l⟩,rfl⟩
 refine⟨(Ss Z (Lb 1 pl34 Z Z Z) Z (Ss Z (Fa fo36_17 Z Z) Z (Sl Z))), ?_⟩
 refine WT.a1 (qt (pt q 16) Z (Fa fo36_16 Z Z) ?_)
 obtain ⟨L,G,h⟩:=bnd h
 have t:=t.mono ((m.trans n).trans o)
 refine Ta Z (Ca co31 (f_slices_Clone_int_int_ok a0.Drop _ _ t L G) (args1 Z)) Z ?_ ?_
 rintro _ S _ p ⟨_,⟨g,z,rfl,rfl,u⟩,rfl⟩
 refine⟨(Ss Z (Fa fo36_16 Z Z) Z (Sl Z)), ?_⟩
 refine WT.a1 (WT.f2 ?_)
 have l:=l.mono p
 refine Ta Z (Es e ((l36 a0 b d e a)) l.cells sz34 Z Z (Ow l) Z Z (by kernel_rfl)) Z ?_ ?_
 rintro _ _ _ - ⟨rfl,rfl⟩
 refine⟨(Sl Z), ?_⟩
 refine qt (pt q 17) Z (Fa fo36_17 Z Z) (Ta Z (Es g ((l36 a0 b d e g)) u.cells sz34 Z Z (Ow u) Z Z (by kernel_rfl)) Z ?_ ?_)
 rintro _ _ _ - ⟨rfl,rfl⟩
 refine⟨(Sl Z), ?_⟩
 refine Ti (Tc (Sr (qu (a36_ a0 b d e g) (La (cs:=(l36 a0 b d e g)) 0 ag36 sz36 Z Z Z) (WL.f5 ?_))))
 have j:=j.mono (o.trans p)
 have k:=k.mono (o.trans p)
 refine We (Sg (v:=(a36_ a0 b d e g)) (vl:=(l36 a0 b d e g)) (arr':=(l36 a0 b d e g)) Z sz36 Z Z (onesOf (Oc Z (Oc Z (Oc Z (Oc Z (Oc Z (Oc Z (Oc Z (Oc Z (Oc Z (Oc Z (Oc Z (Oc Z (Oc Z (Oc Z (Oc (Ow j) (Oc (Ow k) (Oc (Ow l) (Oc (Ow u) Oz))))))))))))))))))) Z Z (by kernel_rfl)) Z ?_
 rintro _ _ _ - ⟨rfl,rfl⟩
 exact Nt (Cr (Qa (Dr (Qa (Qb (WQ.f3 (WQ.f4 (WQ.f4 (Rd h [w,x,y,z] (fun _ hs=>hs.drop) (resultsL1 Z (Rc (cs:=(l36 a0 b d e g)) 0 ag36 sz36 Z Z Z)) (((m.trans n).trans o).trans p) ⟨b,w,d,x,e,y,g,z,Z,Z,j,k,l,u⟩)))))))))
 exact Tz
 exact Tz
 exact Tz
 exact Tz
 exact Tz
 exact Tz
 exact Tz
 exact Tz
noncomputable def f_batch_Of_l0 (a2:(List T_api_Record)) (d:(Int×(List T_api_Record))):Option ((Int×(List T_api_Record))⊕(List T_api_Record)):=
 match d with
 |(a,b)=>
 (if(decide (a<(a2.length:Int)))=true then(grd (0≤a∧a<a2.length) ((f_batch_one (rd a2 a)).bind fun c=>(grd (b.length+[c].length≤274877906944) (some (inl (i64.wrap (a+(1:Int)),b++[c]))))))else(some (inr b)))
noncomputable def f_batch_Of (a0:Int) (a1:Int) (a2:(List T_api_Record)):Option T_api_Batch:=
 ((((iter (f_batch_Of_l0 a2) ((0:Int),[])).bind (fun(a:(List T_api_Record))=>(some a))):Option (List T_api_Record)).bind fun b=>(some (⟨a0,a1,b⟩:T_api_Batch)))
def f_batch_Of_post (a0:Int) (a1:Int) (a2:(List T_api_Record)) (f:Value):T_api_Batch→Value→IM→HL→Prop:=
 fun(c:T_api_Batch) (v:Value) (d:IM) (e:HL)=>∃ a b,(.agg #[(.int .i64 c.Term),(.int .i64 c.Base),a])=v∧e=[b]∧OwnS kd_api_Record d a c.Records b
theorem f_batch_Of_ok (a0:Int) (a1:Int) (a2:(List T_api_Record)) (M:IM) (v2:Value) (h2:RS kd_api_Record M v2 a2) (b7:T_api_Batch) (h:f_batch_Of a0 a1 a2=some b7):
 Tri prog 10 #[(Iv a0),(Iv a1),v2] M [] (f_batch_Of_post a0 a1 a2 v2 b7):=by
 unfold f_batch_Of at h
 refine Te func10 Z Z ?_
 intro F ρ c8
 refine Sr (We (Al ze31 Z) Z ?_)
 rintro _ _ _ - ⟨rfl,a5,rfl,rfl⟩
 refine Ns (qM (Iv a0) (c8 0) (qM (Iv a1) (c8 1) (qu (.agg #[(Iv a0),(Iv a1),Zs]) (Bl (cl:=[(Iv a0),(Iv a1),Zs]) ze31 fp31 (Pc (Iv a0) Z Z (Pc (Iv a1) Z Z Pz)) Z) (We (Al ze31 Z) Z ?_))))
 rintro _ _ _ - ⟨rfl,P,rfl,rfl⟩
 refine We (Sg (v:=(.agg #[(Iv a0),(Iv a1),Zs])) (vl:=[(Iv a0),(Iv a1),Zs]) (arr':=[(Iv a0),(Iv a1),Zs]) Z sz31 Z Z (onb Z) Z Z Z) Z ?_
 rintro _ _ _ - ⟨rfl,rfl⟩
 refine Nt ?_
 obtain ⟨a9,b8,h⟩:=bnd h
 refine Jf (fun(a9:(List T_api_Record)) a7 M' H'=>∃ f y,M.le M'∧[(P, .cells #[(Iv a0),(Iv a1),f] 31 (0,0))]::[(a5, .cells #[(Iv 0),(Iv 0),Zs] 31 (0,0))]::y::F=H'∧a7 6=(pt a5 0)∧a7 7=(pt P 0)∧OwnS kd_api_Record M' f a9 y) a9 ?_ ?_
 have h:=b8
 refine Sr (qM v2 (c8 2) (qu (Iv (a2.length:Int)) (lenS underlying23 Z h2.len) (qm (Iv 0) (Nt (Bk (WC.e0 (WC.f2 (WC.f2 ?_))))))))
 obtain ⟨d5,c0,c1⟩:=bnd h
 clear h
 refine WC.loop c0 (fun(p_:(Int×(List T_api_Record))) a7 M' H'=>match p_ with |(g,Q)=>∃ z J,M.le M'∧[(P, .cells #[(Iv a0),(Iv a1),z] 31 (0,0))]::[(a5, .cells #[(Iv 0),(Iv 0),Zs] 31 (0,0))]::J::F=H'∧a7 6=(pt a5 0)∧a7 7=(pt P 0)∧a7 13=v2∧a7 14=(Iv (a2.length:Int))∧a7 15=(Iv g)∧OwnS kd_api_Record M' z Q J) ?_ ?_
 exact⟨Zs,[],lr,Z,Z,Z,Z,Z,Z,(OwnS.nil _ _)⟩
 rintro ⟨g,Q⟩ d7 d8 d9 e1 h ⟨z,J,I,rfl,K,e,A,B,m,L⟩
 unfold f_batch_Of_l0 at h
 refine Sr (qu (Bv (decide (g<(a2.length:Int)))) (lss m B) (Nt (Cs (Ch h Z (fun c2 h=> ?_) (fun c2 h=> ?_)))))
 refine Ck (Tc (Cs (Bk (Sr ?_))))
 obtain ⟨N,h⟩:=grd_i h
 have h2:=h2.mono I
 obtain ⟨d0,d4,b0,b1,hhas36⟩:=h2.at N.1 N.2 (by decide)
 obtain ⟨a,b,c,d,rfl,C,D,E,G⟩:=kd_api_Record_open b1
 refine qu (.pointer (some d0)) (indexAddr (n:=a2.length) underlying23 sz36 A m N.1 N.2 b0) (qu (a36_ (rd a2 g) a b c d) (loadMA (cs:=(l36 (rd a2 g) a b c d)) ag36 sz36 Z hhas36) (We (Al ze36 Z) Z ?_))
 rintro _ _ _ - ⟨rfl,e2,rfl,rfl⟩
 refine We (Sg (v:=(a36_ (rd a2 g) a b c d)) (vl:=(l36 (rd a2 g) a b c d)) (arr':=(l36 (rd a2 g) a b c d)) Z sz36 Z Z (onesOf (Oc Z (Oc Z (Oc Z (Oc Z (Oc Z (Oc Z (Oc Z (Oc Z (Oc Z (Oc Z (Oc Z (Oc Z (Oc Z (Oc Z (Oc (RS.one C) (Oc (RS.one D) (Oc (RS.one E) (Oc (RS.one G) Oz))))))))))))))))))) Z Z (by kernel_rfl)) Z ?_
 rintro _ _ _ - ⟨rfl,rfl⟩
 refine Nt (WC.draw [0,1,0,4,12,31,63,127] (.pure 0 (.pure 1 (.pure 2 (.alt 3 (.alt 4 (.alt 5 (.pure 6 (.alt 7 .done .none)) .none) .none) .none)))) mixed (by kernel_rfl) (qt (pt P 2) Z (Fa fo31_2 e Z) (qt z Z (Lb 1 pl23 Z Z Z) (qt (a36_ (rd a2 g) a b c d) Z (La (cs:=(l36 (rd a2 g) a b c d)) 0 ag36 sz36 Z Z Z) ?_))))
 obtain ⟨w,c3,h⟩:=bnd h
 refine Ta Z (Ca co18 (f_batch_one_ok (rd a2 g) _ _ _ _ _ C D E G w c3) (args1 Z)) Z ?_ ?_
 rintro _ d1 _ R ⟨_,⟨i,S,j,T,k,U,l,V,rfl,rfl,W,o,p,q⟩,rfl⟩
 refine⟨(Sk 1 Z (Ss Z (Lb 5 pl23 Z Z Z) Z (Ss Z (Fa fo31_2 e Z) Z trivial))), ?_⟩
 refine WT.a4 (WT.know (fun _ hs=>W.rs hs) (fun X=> ?_))
 refine WT.freeze (fun r=> ?_)
 have o:=o.mono r
 refine WT.know (fun _ hs=>o.rs hs) (fun Y=> ?_)
 refine WT.freeze (fun s=> ?_)
 have p:=p.mono (r.trans s)
 refine WT.know (fun _ hs=>p.rs hs) (fun a3=> ?_)
 refine WT.freeze (fun t=> ?_)
 have q:=q.mono ((r.trans s).trans t)
 refine WT.know (fun _ hs=>q.rs hs) (fun c4=> ?_)
 refine WT.freeze (fun u=> ?_)
 refine Ta Z (buildSliceL (cl:=(l36 w i j k l)) underlying23 iz36 Z (Pc (a36_ w i j k l) Z Z Pz) Z) Z ?_ ?_
 rintro _ _ _ - ⟨rfl,c5,rfl,rfl⟩
 have X:=X.mono ((s.trans t).trans u)
 have Y:=Y.mono (t.trans u)
 have a3:=a3.mono u
 have d2:OwnS kd_api_Record ((((d1.add S).add T).add U).add V) (.slice (some ⟨c5,0,none⟩) 1 1) [w] [(c5, .cells (l36 w i j k l).toArray 36 (0,0))]:=OwnS.rows (css:=[(l36 w i j k l)]) (Rows.cons (kd_api_Record_mk (x:=w) X Y a3 c4) Rows.nil) Z Z
 refine⟨(Sk 1 Z (Ss Z (Lb 2 pl23 Z Z Z) Z (Ss Z (Fa fo31_2 e Z) Z trivial))), ?_⟩
 obtain ⟨c6,h⟩:=grd_i h
 refine WT.f4 ?_
 have L:=L.mono ((((R.trans r).trans s).trans t).trans u)
 refine Ta Z (append (dd:=kd_api_Record) (xs:=Q) (ys:=[w]) underlying23 underlying23 in36 Z (appB (by decide) c6) (by decide) Z Z L (d2.src 1 Z)) Z ?_ ?_
 rintro b2 _ _ - ⟨rfl,d3,rfl,b3⟩
 refine⟨(Sl Z), ?_⟩
 refine qt (pt P 2) Z (Fa fo31_2 e Z) (WT.f3 (Ta Z (Es b2 [(Iv a0),(Iv a1),b2] b3.cells sz23 Z Z (Ow b3) Z Z Z) Z ?_ ?_))
 rintro _ _ _ - ⟨rfl,rfl⟩
 refine⟨(Sl Z), ?_⟩
 refine Ti (Bn (Tc (Cg (qu (Iv (i64.wrap (g+1))) (add m Z) (qm (Iv (i64.wrap (g+1))) (Wz (Qb (Dr (Qb (Dr (Qa ?_)))))))))))
 exact Qb (Qb (WQ.again (i64.wrap (g+1),Q++[w]) (oi h).symm ⟨b2,d3,(((((I.trans R).trans r).trans s).trans t).trans u),Z,K,e,A,B,Z,b3⟩))
 exact Tz
 exact Tz
 exact Tz
 exact Tz
 refine WC.exit (WQ.thenE (WQ.leaveE Q (oi h).symm (fun b4=> ?_)))
 subst b4
 have h:=c1
 refine WQ.blockH ?_
 obtain rfl:=oi h
 exact Tj ⟨z,J,I,Z,K,e,L⟩
 rintro e3 e4 e5 ⟨f,y,b5,rfl,O,a6,a8⟩
 refine Sr (qu (.agg #[(Iv a0),(Iv a1),f]) (La (cs:=[(Iv a0),(Iv a1),f]) 0 ag31 sz31 a6 Z Z) (WL.f1 (We (Sg (v:=(.agg #[(Iv a0),(Iv a1),f])) (vl:=[(Iv a0),(Iv a1),f]) (arr':=[(Iv a0),(Iv a1),f]) Z sz31 O Z (onesOf (Oc Z (Oc Z (Oc (Ow a8) Oz)))) Z Z Z) Z ?_)))
 rintro _ _ _ - ⟨rfl,rfl⟩
 exact Nt (Cr (Qa (Dr (Rd h [y] (fun _ hs=>hs.drop) (resultsL1 Z (Rc (cs:=[(Iv a0),(Iv a1),f]) 0 ag31 sz31 O Z Z)) b5 ⟨f,y,Z,Z,a8⟩))))
noncomputable def f_fault_New (a0:ByteArray) (a1:Int) (a2:Int):Option GErr:=
 (some (GErr.fault a0 a1 (GErr.code a2)))
def f_fault_New_post (a0:ByteArray) (a1:Int) (a2:Int):GErr→Value→IM→HL→Prop:=
 fun(a:GErr) (v:Value) (c:IM) (b:HL)=>(GV a)=v∧b=[]
theorem f_fault_New_ok (a0:ByteArray) (a1:Int) (a2:Int) (M:IM) (a:GErr) (h:f_fault_New a0 a1 a2=some a):
 Tri prog 22 #[(Sv a0),(Iv a1),(Iv a2)] M [] (f_fault_New_post a0 a1 a2 a):=by
 unfold f_fault_New at h
 refine Te func22 Z Z ?_
 intro F c b
 refine Sr (qa (GV GErr.nil) (Ns (qM (Sv a0) (b 0) (qM (Iv a1) (b 1) (qM (Iv a2) (b 2) (qu (GV (GErr.code a2)) (makeInterface cc47 Z) (qu (.agg #[(Sv a0),(Iv a1),(GV (GErr.code a2))]) (Bl (cl:=[(Sv a0),(Iv a1),(GV (GErr.code a2))]) ze74 fp74 (Pc (Sv a0) Z Z (Pc (Iv a1) Z Z (Parts.cons ((congrArg Value.cells (show ev _ _=(GV (GErr.code a2)) from Z)).trans (GErr.val_cells _ _ _ _)) Pz))) Z) (qu (GV (GErr.fault a0 a1 (GErr.code a2))) (makeInterface cc74 Z) (qa (GV (GErr.fault a0 a1 (GErr.code a2))) (Nt (Cr ?_)))))))))))
 exact Rf h [] Z (Rs Z Z) lr ⟨Z,Z⟩
noncomputable def f_record_about (a0:Int):Option Int:=
 (if(decide (a0=(2:Int)))=true then(some (1027:Int))else(((if(decide (a0=(3:Int)))=true then(some (decide (a0=(3:Int))))else(if(decide (a0=(4:Int)))=true then(some (decide (a0=(4:Int))))else(if(decide (a0=(5:Int)))=true then(some (decide (a0=(5:Int))))else(some (decide (a0=(6:Int))))))):Option Bool).bind fun a=>(if a=true then(some (3:Int))else(if(decide (a0=(7:Int)))=true then(some (132:Int))else(if(decide (a0=(8:Int)))=true then(some (6172:Int))else(if(decide (a0=(9:Int)))=true then(some (14366:Int))else(if(decide (a0=(10:Int)))=true then(some (836:Int))else(if(decide (a0=(11:Int)))=true then(some (4:Int))else(if(decide (a0=(12:Int)))=true then(some (32:Int))else(some (0:Int)))))))))))
def f_record_about_post (a0:Int):Int→Value→IM→HL→Prop:=
 fun(a:Int) (v:Value) (c:IM) (b:HL)=>(.int .i64 a)=v∧b=[]
theorem f_record_about_ok (a0:Int) (M:IM) (e:Int) (h:f_record_about a0=some e):
 Tri prog 33 #[(Iv a0)] M [] (f_record_about_post a0 e):=by
 unfold f_record_about at h
 refine Te func33 Z Z ?_
 intro F z t
 refine Sr (qa (Iv 0) (Nt (Cs (Sr (qM (Iv a0) (t 0) (Nt (Bk (Sr (qu (Bv (decide (a0=2))) (eql Z Z) (qa (Bv (decide (a0=2))) (Nt ?_)))))))))))
 refine Ch h Z (fun f h=> ?_) (fun f h=> ?_)
 exact Sr (qa (Iv 1027) (Nt (Cr (Br (Tr (Rf h [] Z (Rs Z Z) lr ⟨Z,Z⟩))))))
 obtain ⟨d,g,h⟩:=bnd h
 refine Jf (fun(d:Bool) s u v=>M.le u∧F=v∧s 3=(Iv a0)∧s 6=(Bv d)) d ?_ ?_
 have h:=g
 refine Sr (qu (Bv (decide (a0=3))) (eql Z Z) (qa (Bv (decide (a0=3))) (Nt (Ch h Z (fun i h=> ?_) (fun i h=> ?_)))))
 refine Ck ?_
 obtain rfl:=oi h
 exact Tj ⟨lr,Z,Z,Z⟩
 refine Sr (qu (Bv (decide (a0=4))) (eql Z Z) (qa (Bv (decide (a0=4))) (Nt (Ch h Z (fun j h=> ?_) (fun j h=> ?_)))))
 refine Ck ?_
 obtain rfl:=oi h
 exact Tj ⟨lr,Z,Z,Z⟩
 refine Sr (qu (Bv (decide (a0=5))) (eql Z Z) (qa (Bv (decide (a0=5))) (Nt (Ch h Z (fun k h=> ?_) (fun k h=> ?_)))))
 refine Ck ?_
 obtain rfl:=oi h
 exact Tj ⟨lr,Z,Z,Z⟩
 refine Cg (qu (Bv (decide (a0=6))) (eql Z Z) (qa (Bv (decide (a0=6))) (Wz ?_)))
 obtain rfl:=oi h
 exact Tj ⟨lr,Z,Z,Z⟩
 rintro w x y ⟨a,rfl,b,c⟩
 refine Ch h c (fun l h=> ?_) (fun l h=> ?_)
 exact Sr (qa (Iv 3) (Nt (Cr (Br (Tr (Rf h [] Z (Rs Z Z) a ⟨Z,Z⟩))))))
 refine Sr (qu (Bv (decide (a0=7))) (eql b Z) (qa (Bv (decide (a0=7))) (Nt (Ch h Z (fun m h=> ?_) (fun m h=> ?_)))))
 exact Sr (qa (Iv 132) (Nt (Cr (Br (Tr (Rf h [] Z (Rs Z Z) a ⟨Z,Z⟩))))))
 refine Sr (qu (Bv (decide (a0=8))) (eql b Z) (qa (Bv (decide (a0=8))) (Nt (Ch h Z (fun n h=> ?_) (fun n h=> ?_)))))
 exact Sr (qa (Iv 6172) (Nt (Cr (Br (Tr (Rf h [] Z (Rs Z Z) a ⟨Z,Z⟩))))))
 refine Sr (qu (Bv (decide (a0=9))) (eql b Z) (qa (Bv (decide (a0=9))) (Nt (Ch h Z (fun o h=> ?_) (fun o h=> ?_)))))
 exact Sr (qa (Iv 14366) (Nt (Cr (Br (Tr (Rf h [] Z (Rs Z Z) a ⟨Z,Z⟩))))))
 refine Sr (qu (Bv (decide (a0=10))) (eql b Z) (qa (Bv (decide (a0=10))) (Nt (Ch h Z (fun p h=> ?_) (fun p h=> ?_)))))
 exact Sr (qa (Iv 836) (Nt (Cr (Br (Tr (Rf h [] Z (Rs Z Z) a ⟨Z,Z⟩))))))
 refine Sr (qu (Bv (decide (a0=11))) (eql b Z) (qa (Bv (decide (a0=11))) (Nt (Ch h Z (fun q h=> ?_) (fun q h=> ?_)))))
 exact Sr (qa (Iv 4) (Nt (Cr (Br (Tr (Rf h [] Z (Rs Z Z) a ⟨Z,Z⟩))))))
 refine Sr (qu (Bv (decide (a0=12))) (eql b Z) (qa (Bv (decide (a0=12))) (Nt (Ch h Z (fun r h=> ?_) (fun r h=> ?_)))))
 exact Sr (qa (Iv 32) (Nt (Cr (Br (Tr (Rf h [] Z (Rs Z Z) a ⟨Z,Z⟩))))))
 exact Ck (Bn (Tc (Sr (qa (Iv 0) (Nt (Cr (Rf h [] Z (Rs Z Z) a ⟨Z,Z⟩)))))))
noncomputable def f_record_Check_1 (a0:Int) (a1:T_api_Record):Option Bool:=
 ((f_record_about a1.Kind).bind fun a=>(some (decide ((andI .i64 a a0)≠(0:Int)))))
def f_record_Check_1_post (a0:Int) (a1:T_api_Record) (a b c d:Value) (e:Nat):Bool→Value→IM→HL→Prop:=
 fun(f:Bool) (v:Value) (i:IM) (g:HL)=>(.bool f)=v∧g=[[(e, .cells #[(.int .i64 a1.Kind),(.int .i64 a1.Broker),(.int .i64 a1.Epoch),(.int .i64 a1.Topic),(.int .i64 a1.Part),(.int .i64 a1.Leader),(.int .i64 a1.Client),(.int .i64 a1.Serial),(.int .i64 a1.Code),(.bool a1.Flag),(.string a1.Name),(.string a1.Key),(.string a1.Value),(.string a1.Rack),a,b,c,d] 36 (0,0))]]
theorem f_record_Check_1_ok (a0:Int) (a1:T_api_Record) (M:IM) (a b c d:Value) (g:Nat) (k:RS (Kd.int .i64) M a a1.Ids) (l:RS (Kd.int .i64) M b a1.Isr) (m:RS (Kd.int .i64) M c a1.Add) (n:RS (Kd.int .i64) M d a1.Drop) (i:Bool) (h:f_record_Check_1 a0 a1=some i):
 Tri prog 51 #[(Iv a0),(pt g 0)] M [[(g, .cells (l36 a1 a b c d).toArray 36 (0,0))]] (f_record_Check_1_post a0 a1 a b c d g i):=by
 unfold f_record_Check_1 at h
 refine Te func51 Z Z ?_
 intro F q o
 refine Sr (qa (Bv false) (Ns (qu (pt g 0) (Fa fo36_0 (o 1) Z) (qu (Iv a1.Kind) (Lb 0 pl3 Z Z Z) ?_))))
 obtain ⟨e,j,h⟩:=bnd h
 refine We (Ca co33 (f_record_about_ok a1.Kind _ e j) (args1 Z)) Z ?_
 rintro _ p _ f ⟨_,⟨rfl,rfl⟩,rfl⟩
 exact WL.a0 (qM (Iv a0) (o 0) (qu (Iv (andI .i64 e a0)) (PO.and Z Z) (qu (Bv (decide ((andI .i64 e a0)≠0))) (neq Z Z) (qa (Bv (decide ((andI .i64 e a0)≠0))) (Nt (Cr (Rf h [[(g, .cells (l36 a1 a b c d).toArray 36 (0,0))]] Z (Rs Z Z) f ⟨Z,Z⟩)))))))
noncomputable def f_record_number (a0:Int) (a1:Bool) (a2:Int) (a3:Int):Option Bool:=
 (if(!a1)=true then(some (decide (a0=(0:Int))))else(((if(decide (a2≤a0))=true then(some (decide (a0≤a3)))else(some false)):Option Bool).bind fun a=>(some a)))
def f_record_number_post (a0:Int) (a1:Bool) (a2:Int) (a3:Int):Bool→Value→IM→HL→Prop:=
 fun(a:Bool) (v:Value) (c:IM) (b:HL)=>(.bool a)=v∧b=[]
theorem f_record_number_ok (a0:Int) (a1:Bool) (a2:Int) (a3:Int) (M:IM) (f:Bool) (h:f_record_number a0 a1 a2 a3=some f):
 Tri prog 53 #[(Iv a0),(Bv a1),(Iv a2),(Iv a3)] M [] (f_record_number_post a0 a1 a2 a3 f):=by
 unfold f_record_number at h
 refine Te func53 Z Z ?_
 intro F p e
 refine Sr (qa (Bv false) (Nt (Cs (Sr (qM (Bv a1) (e 1) (qu (Bv (!a1)) (PO.not Z) (Nt (Ch h Z (fun g h=> ?_) (fun g h=> ?_)))))))))
 exact Sr (qM (Iv a0) (e 0) (qu (Bv (decide (a0=0))) (eql Z Z) (qa (Bv (decide (a0=0))) (Nt (Cr (Tr (Rf h [] Z (Rs Z Z) lr ⟨Z,Z⟩)))))))
 refine Ck (Tc ?_)
 obtain ⟨c,i,h⟩:=bnd h
 refine Jf (fun(c:Bool) j k l=>M.le k∧F=l∧j 8=(Bv c)) c ?_ ?_
 have h:=i
 refine Cg (qM (Iv a0) (e 0) (qM (Iv a2) (e 2) (qu (Bv (decide (a2≤a0))) (geq Z Z) (qm (Bv (decide (a2≤a0))) ?_))))
 rcases Bi h with⟨a,h⟩ |⟨a,h⟩
 refine On 16 Z Z a (qM (Iv a0) (e 0) (On 16 Z Z a (qM (Iv a3) (e 3) (qo 16 a (Bv (decide (a0≤a3))) (leq Z Z) (qu (Bv (decide (a0≤a3))) (Pt Z a Z) (qa (Bv (decide (a0≤a3))) (Wz ?_)))))))
 obtain rfl:=oi h
 exact Tj ⟨lr,Z,Z⟩
 iterate 3 refine Of 16 Z Z a Z ?_
 refine qu (Bv false) (Pf Z a Z) (qa (Bv false) (Wz ?_))
 obtain rfl:=oi h
 exact Tj ⟨lr,Z,Z⟩
 rintro m n o ⟨d,rfl,b⟩
 exact Cr (Rf h [] Z (Rs Z b) d ⟨Z,Z⟩)
noncomputable def f_record_Name_l0 (a0:ByteArray) (e:Int):Option (Int⊕(Unit⊕Unit)):=
 match e with
 |a=>
 (if(decide (a<((bytesOf a0).length:Int)))=true then(grd (0≤a∧a<(bytesOf a0).length) (((if(decide ((97:Int)≤(rd (bytesOf a0) a)))=true then(if(decide ((48:Int)≤(rd (bytesOf a0) a)))=true then(some (decide ((rd (bytesOf a0) a)≤(122:Int)),decide ((rd (bytesOf a0) a)≤(57:Int))))else(some (decide ((rd (bytesOf a0) a)≤(122:Int)),false)))else(if(decide ((48:Int)≤(rd (bytesOf a0) a)))=true then(some (false,decide ((rd (bytesOf a0) a)≤(57:Int))))else(some (false,false)))):Option (Bool×Bool)).bind fun(b,c)=>(((if(!b)=true then(if(!c)=true then(if(decide ((rd (bytesOf a0) a)≠(46:Int)))=true then(some (decide ((rd (bytesOf a0) a)≠(45:Int))))else(some false))else(some false))else(some false)):Option Bool).bind fun d=>(if d=true then(some (inr (inr ())))else(some (inl (i64.wrap (a+(1:Int)))))))))else(some (inr (inl ()))))
noncomputable def f_record_Name (a0:ByteArray):Option Bool:=
 (((if(decide (a0=(⟨#[]⟩:ByteArray)))=true then(some true)else(if(decide ((40:Int)<(a0.size:Int)))=true then(some true)else(if(decide (a0=(⟨#[46]⟩:ByteArray)))=true then(some true)else(some (decide (a0=(⟨#[46,46]⟩:ByteArray))))))):Option Bool).bind fun a=>(if a=true then(some false)else((((iter (f_record_Name_l0 a0) (0:Int)).bind (Sum.elim (fun _=>(some (inl ()))) (fun _=>(((some false)).bind fun r=>some (inr r))))):Option (Unit⊕Bool)).bind (Sum.elim (fun _=>(some true)) some))))
def f_record_Name_post (a0:ByteArray):Bool→Value→IM→HL→Prop:=
 fun(a:Bool) (v:Value) (c:IM) (b:HL)=>(.bool a)=v∧b=[]
theorem f_record_Name_ok (a0:ByteArray) (M:IM) (a1:Bool) (h:f_record_Name a0=some a1):
 Tri prog 55 #[(Sv a0)] M [] (f_record_Name_post a0 a1):=by
 unfold f_record_Name at h
 refine Te func55 Z Z ?_
 intro F ρ Q
 refine Sr (qa (Bv false) (Nt (Cs ?_)))
 obtain ⟨S,a2,h⟩:=bnd h
 refine Jf (fun(S:Bool) s J K=>M.le J∧F=K∧s 0=(Sv a0)∧s 21=(Bv S)) S ?_ ?_
 have h:=a2
 refine Cg (qM (Sv a0) (Q 0) (qu (Bv (decide (a0=(⟨#[]⟩:ByteArray)))) (seql Z Z) (qm (Bv (decide (a0=(⟨#[]⟩:ByteArray)))) ?_)))
 rcases Bi h with⟨i,h⟩ |⟨i,h⟩
 iterate 3 refine Of 9 Z Z i Z ?_
 refine qu (Bv true) (Pt Z i Z) (qm (Bv true) ?_)
 iterate 2 refine Of 14 Z Z Z Z ?_
 refine qu (Bv true) (Pt Z Z Z) (qm (Bv true) ?_)
 iterate 2 refine Of 18 Z Z Z Z ?_
 refine qu (Bv true) (Pt Z Z Z) (Wz ?_)
 obtain rfl:=oi h
 exact Tj ⟨lr,Z,(Q 0),Z⟩
 refine On 9 Z Z i (qM (Sv a0) (Q 0) (qo 9 i (Iv (a0.size:Int)) (lenStr underlying9 Z) (qo 9 i (Bv (decide ((40:Int)<(a0.size:Int)))) (gtr Z Z) (qu (Bv (decide ((40:Int)<(a0.size:Int)))) (Pf Z i Z) (qm (Bv (decide ((40:Int)<(a0.size:Int)))) ?_)))))
 rcases Bi h with⟨j,h⟩ |⟨j,h⟩
 iterate 2 refine Of 14 Z Z j Z ?_
 refine qu (Bv true) (Pt Z j Z) (qm (Bv true) ?_)
 iterate 2 refine Of 18 Z Z Z Z ?_
 refine qu (Bv true) (Pt Z Z Z) (Wz ?_)
 obtain rfl:=oi h
 exact Tj ⟨lr,Z,(Q 0),Z⟩
 refine On 14 Z Z j (qM (Sv a0) (Q 0) (qo 14 j (Bv (decide (a0=(⟨#[46]⟩:ByteArray)))) (seql Z Z) (qu (Bv (decide (a0=(⟨#[46]⟩:ByteArray)))) (Pf Z j Z) (qm (Bv (decide (a0=(⟨#[46]⟩:ByteArray)))) ?_))))
 rcases Bi h with⟨k,h⟩ |⟨k,h⟩
 iterate 2 refine Of 18 Z Z k Z ?_
 refine qu (Bv true) (Pt Z k Z) (Wz ?_)
 obtain rfl:=oi h
 exact Tj ⟨lr,Z,(Q 0),Z⟩
 refine On 18 Z Z k (qM (Sv a0) (Q 0) (qo 18 k (Bv (decide (a0=(⟨#[46,46]⟩:ByteArray)))) (seql Z Z) (qu (Bv (decide (a0=(⟨#[46,46]⟩:ByteArray)))) (Pf Z k Z) (Wz ?_))))
 obtain rfl:=oi h
 exact Tj ⟨lr,Z,(Q 0),Z⟩
 rintro b8 a3 b9 ⟨u,rfl,L,z⟩
 refine Ch h z (fun a4 h=> ?_) (fun a4 h=> ?_)
 exact Sr (qa (Bv false) (Nt (Cr (Tr (Rf h [] Z (Rs Z Z) u ⟨Z,Z⟩)))))
 refine Ck (Tc ?_)
 obtain ⟨b3,a5,h⟩:=bnd h
 refine WC.joinE (fun(_:Unit) s J K=>a3.le J∧F=K) b3 ?_ ?_
 have a6:=h
 have h:=a5
 refine Sr (qM (Sv a0) L (We (s2b underlying9 underlying38 underlying5 Z) Z ?_))
 rintro T _ _ - ⟨rfl,U,rfl,N⟩
 refine qu (Iv ((bytesOf a0).length:Int)) (lenS underlying38 Z N.len) (qm (Iv 0) (Nt (Bk ?_)))
 obtain ⟨c0,a7,R⟩:=bnd h
 clear h
 refine WC.loop a7 (fun(a:Int) s J K=>a3.le J∧U::F=K∧s 23=T∧s 24=(Iv ((bytesOf a0).length:Int))∧s 25=(Iv a)) ?_ ?_
 exact⟨lr,Z,Z,Z,Z⟩
 rintro a c1 c2 b4 c3 h ⟨t,rfl,c,d,b⟩
 unfold f_record_Name_l0 at h
 refine Sr (qu (Bv (decide (a<((bytesOf a0).length:Int)))) (lss b d) (Nt (Cs (Ch h Z (fun a8 h=> ?_) (fun a8 h=> ?_)))))
 refine Ck (Tc (Cs (Bk (Sr ?_))))
 obtain ⟨w,h⟩:=grd_i h
 have N:=N.mono t
 obtain ⟨b5,b7,V,W,hhas39⟩:=N.at w.1 w.2
 obtain rfl:=W
 refine qu (.pointer (some b5)) (indexAddr (n:=(bytesOf a0).length) underlying38 sz5 c b w.1 w.2 V) (qu (Yv (rd (bytesOf a0) a)) (loadC 0 pl5 Z Z (chunkHas0 hhas39)) (qa (Yv (rd (bytesOf a0) a)) (Nt ?_)))
 obtain ⟨a9,b0,h⟩:=bnd h
 refine Jf (fun(p_:(Bool×Bool)) s J K=>match p_ with |(A,y)=>b4.le J∧U::F=K∧s 4=(Yv (rd (bytesOf a0) a))∧s 5=(Bv A)∧s 6=(Bv y)∧s 23=T∧s 24=(Iv ((bytesOf a0).length:Int))∧s 25=(Iv a)) a9 ?_ ?_
 have h:=b0
 refine Cg (qm (Yv (rd (bytesOf a0) a)) (qu (Bv (decide ((97:Int)≤(rd (bytesOf a0) a)))) (geq Z Z) (qm (Bv (decide ((97:Int)≤(rd (bytesOf a0) a)))) ?_)))
 rcases Bi h with⟨l,h⟩ |⟨l,h⟩
 refine On 31 Z Z l (qm (Yv (rd (bytesOf a0) a)) (qo 31 l (Bv (decide ((rd (bytesOf a0) a)≤122))) (leq Z Z) (qu (Bv (decide ((rd (bytesOf a0) a)≤122))) (Pt Z l Z) (qm (Yv (rd (bytesOf a0) a)) (qu (Bv (decide ((48:Int)≤(rd (bytesOf a0) a)))) (geq Z Z) (qm (Bv (decide ((48:Int)≤(rd (bytesOf a0) a)))) ?_))))))
 rcases Bi h with⟨m,h⟩ |⟨m,h⟩
 refine On 37 Z Z m (qm (Yv (rd (bytesOf a0) a)) (qo 37 m (Bv (decide ((rd (bytesOf a0) a)≤57))) (leq Z Z) (qu (Bv (decide ((rd (bytesOf a0) a)≤57))) (Pt Z m Z) (qa (Bv (decide ((rd (bytesOf a0) a)≤122))) (qa (Bv (decide ((rd (bytesOf a0) a)≤57))) (Wz ?_))))))
 obtain rfl:=oi h
 exact Tj ⟨lr,Z,Z,Z,Z,c,d,b⟩
 iterate 2 refine Of 37 Z Z m Z ?_
 refine qu (Bv false) (Pf Z m Z) (qa (Bv (decide ((rd (bytesOf a0) a)≤122))) (qa (Bv false) (Wz ?_)))
 obtain rfl:=oi h
 exact Tj ⟨lr,Z,Z,Z,Z,c,d,b⟩
 iterate 2 refine Of 31 Z Z l Z ?_
 refine qu (Bv false) (Pf Z l Z) (qm (Yv (rd (bytesOf a0) a)) (qu (Bv (decide ((48:Int)≤(rd (bytesOf a0) a)))) (geq Z Z) (qm (Bv (decide ((48:Int)≤(rd (bytesOf a0) a)))) ?_)))
 rcases Bi h with⟨o,h⟩ |⟨o,h⟩
 refine On 37 Z Z o (qm (Yv (rd (bytesOf a0) a)) (qo 37 o (Bv (decide ((rd (bytesOf a0) a)≤57))) (leq Z Z) (qu (Bv (decide ((rd (bytesOf a0) a)≤57))) (Pt Z o Z) (qa (Bv false) (qa (Bv (decide ((rd (bytesOf a0) a)≤57))) (Wz ?_))))))
 obtain rfl:=oi h
 exact Tj ⟨lr,Z,Z,Z,Z,c,d,b⟩
 iterate 2 refine Of 37 Z Z o Z ?_
 refine qu (Bv false) (Pf Z o Z) (qa (Bv false) (qa (Bv false) (Wz ?_)))
 obtain rfl:=oi h
 exact Tj ⟨lr,Z,Z,Z,Z,c,d,b⟩
 obtain ⟨A,y⟩:=a9
 rintro c5 b6 c6 ⟨B,rfl,x,O,P,e,f,g⟩
 obtain ⟨X,b1,h⟩:=bnd h
 refine Jf (fun(X:Bool) s J K=>b6.le J∧U::F=K∧s 23=T∧s 24=(Iv ((bytesOf a0).length:Int))∧s 25=(Iv a)∧s 54=(Bv X)) X ?_ ?_
 have h:=b1
 refine Cg (qM (Bv A) O (qu (Bv (!A)) (PO.not Z) (qm (Bv (!A)) ?_)))
 rcases Bi h with⟨p,h⟩ |⟨p,h⟩
 refine On 43 Z Z p (qM (Bv y) P (qo 43 p (Bv (!y)) (PO.not Z) (qu (Bv (!y)) (Pt Z p Z) (qm (Bv (!y)) ?_))))
 rcases Bi h with⟨q,h⟩ |⟨q,h⟩
 refine On 47 Z Z q (qM (Yv (rd (bytesOf a0) a)) x (qo 47 q (Bv (decide ((rd (bytesOf a0) a)≠46))) (neq Z Z) (qu (Bv (decide ((rd (bytesOf a0) a)≠46))) (Pt Z q Z) (qm (Bv (decide ((rd (bytesOf a0) a)≠46))) ?_))))
 rcases Bi h with⟨r,h⟩ |⟨r,h⟩
 refine On 51 Z Z r (qM (Yv (rd (bytesOf a0) a)) x (qo 51 r (Bv (decide ((rd (bytesOf a0) a)≠45))) (neq Z Z) (qu (Bv (decide ((rd (bytesOf a0) a)≠45))) (Pt Z r Z) (Wz ?_))))
 obtain rfl:=oi h
 exact Tj ⟨lr,Z,e,f,g,Z⟩
 iterate 2 refine Of 51 Z Z r Z ?_
 refine qu (Bv false) (Pf Z r Z) (Wz ?_)
 obtain rfl:=oi h
 exact Tj ⟨lr,Z,e,f,g,Z⟩
 iterate 2 refine Of 47 Z Z q Z ?_
 refine qu (Bv false) (Pf Z q Z) (qm (Bv false) ?_)
 iterate 2 refine Of 51 Z Z Z Z ?_
 refine qu (Bv false) (Pf Z Z Z) (Wz ?_)
 obtain rfl:=oi h
 exact Tj ⟨lr,Z,e,f,g,Z⟩
 iterate 2 refine Of 43 Z Z p Z ?_
 refine qu (Bv false) (Pf Z p Z) (qm (Bv false) ?_)
 iterate 2 refine Of 47 Z Z Z Z ?_
 refine qu (Bv false) (Pf Z Z Z) (qm (Bv false) ?_)
 iterate 2 refine Of 51 Z Z Z Z ?_
 refine qu (Bv false) (Pf Z Z Z) (Wz ?_)
 obtain rfl:=oi h
 exact Tj ⟨lr,Z,e,f,g,Z⟩
 rintro c7 c8 c9 ⟨C,rfl,D,E,G,I⟩
 refine Ch h I (fun b2 h=> ?_) (fun b2 h=> ?_)
 refine Sr (qa (Bv false) (Nt (Cr (Br (Tr (WQ.leaveR (inr ()) (oi h).symm (fun v=> ?_)))))))
 subst v
 have h:=(elimR R)
 refine Br (Tr ?_)
 have h:=KK.early h a6
 exact Dr (Rf h [] Z (Rs Z Z) (((u.trans t).trans B).trans C) ⟨Z,Z⟩)
 exact Ck (Bn (Tc (Cg (qu (Iv (i64.wrap (a+1))) (add G Z) (qm (Iv (i64.wrap (a+1))) (Wz (WQ.again (i64.wrap (a+1)) (oi h).symm ⟨((t.trans B).trans C),Z,D,E,Z⟩)))))))
 refine WC.exit (WQ.thenE (WQ.leaveE (inl ()) (oi h).symm (fun v=> ?_)))
 subst v
 have h:=elimL R
 exact WQ.blockH (Dr (WQ.thenFE h ⟨t,Z⟩))
 rintro _ d0 d1 d2 rfl ⟨Y,rfl⟩
 have h:=(Sum.elim_inl _ _ _).symm.trans h
 exact Sr (qa (Bv true) (Nt (Cr (Rf h [] Z (Rs Z Z) (u.trans Y) ⟨Z,Z⟩))))
noncomputable def f_record_text_Name (a0:ByteArray) (a1:Bool):Option Bool:=
 (if(!a1)=true then(some (decide (a0=(⟨#[]⟩:ByteArray))))else((f_record_Name a0).bind fun a=>(some a)))
def f_record_text_Name_post (a0:ByteArray) (a1:Bool):Bool→Value→IM→HL→Prop:=
 fun(a:Bool) (v:Value) (c:IM) (b:HL)=>(.bool a)=v∧b=[]
theorem f_record_text_Name_ok (a0:ByteArray) (a1:Bool) (M:IM) (b:Bool) (h:f_record_text_Name a0 a1=some b):
 Tri prog 54 #[(Sv a0),(Bv a1),(.func (.func 55) #[] #[])] M [] (f_record_text_Name_post a0 a1 b):=by
 unfold f_record_text_Name at h
 refine Te func54 Z Z ?_
 intro F i f
 refine Sr (qa (Bv false) (Nt (Cs (Sr (qM (Bv a1) (f 1) (qu (Bv (!a1)) (PO.not Z) (Nt (Ch h Z (fun c h=> ?_) (fun c h=> ?_)))))))))
 exact Sr (qM (Sv a0) (f 0) (qu (Bv (decide (a0=(⟨#[]⟩:ByteArray)))) (seql Z Z) (qa (Bv (decide (a0=(⟨#[]⟩:ByteArray)))) (Nt (Cr (Tr (Rf h [] Z (Rs Z Z) lr ⟨Z,Z⟩)))))))
 refine Ck (Tc (Sr (qM (.func (.func 55) #[] #[]) (f 2) (qM (Sv a0) (f 0) ?_))))
 obtain ⟨d,e,h⟩:=bnd h
 refine We (callV0 (first:=#[]) (cap:=#[]) co55 Z (f_record_Name_ok a0 _ d e) (argsV1 Z Z)) Z ?_
 rintro _ g _ a ⟨_,⟨rfl,rfl⟩,rfl⟩
 exact WL.a0 (qa (Bv d) (Nt (Cr (Rf h [] Z (Rs Z Z) a ⟨Z,Z⟩))))
noncomputable def f_record_Check_2 (a0:ByteArray):Option Bool:=
 (some (decide ((a0.size:Int)≤(256:Int))))
def f_record_Check_2_post (a0:ByteArray):Bool→Value→IM→HL→Prop:=
 fun(a:Bool) (v:Value) (c:IM) (b:HL)=>(.bool a)=v∧b=[]
theorem f_record_Check_2_ok (a0:ByteArray) (M:IM) (a:Bool) (h:f_record_Check_2 a0=some a):
 Tri prog 52 #[(Sv a0)] M [] (f_record_Check_2_post a0 a):=by
 unfold f_record_Check_2 at h
 refine Te func52 Z Z ?_
 intro F c b
 exact Sr (qa (Bv false) (Ns (qM (Sv a0) (b 0) (qu (Iv (a0.size:Int)) (lenStr underlying9 Z) (qu (Bv (decide ((a0.size:Int)≤(256:Int)))) (leq Z Z) (qa (Bv (decide ((a0.size:Int)≤(256:Int)))) (Nt (Cr (Rf h [] Z (Rs Z Z) lr ⟨Z,Z⟩)))))))))
noncomputable def f_record_text_Check_2 (a0:ByteArray) (a1:Bool):Option Bool:=
 (if(!a1)=true then(some (decide (a0=(⟨#[]⟩:ByteArray))))else((f_record_Check_2 a0).bind fun a=>(some a)))
def f_record_text_Check_2_post (a0:ByteArray) (a1:Bool):Bool→Value→IM→HL→Prop:=
 fun(a:Bool) (v:Value) (c:IM) (b:HL)=>(.bool a)=v∧b=[]
theorem f_record_text_Check_2_ok (a0:ByteArray) (a1:Bool) (M:IM) (b:Bool) (h:f_record_text_Check_2 a0 a1=some b):
 Tri prog 54 #[(Sv a0),(Bv a1),(.func (.func 52) #[] #[])] M [] (f_record_text_Check_2_post a0 a1 b):=by
 unfold f_record_text_Check_2 at h
 refine Te func54 Z Z ?_
 intro F i f
 refine Sr (qa (Bv false) (Nt (Cs (Sr (qM (Bv a1) (f 1) (qu (Bv (!a1)) (PO.not Z) (Nt (Ch h Z (fun c h=> ?_) (fun c h=> ?_)))))))))
 exact Sr (qM (Sv a0) (f 0) (qu (Bv (decide (a0=(⟨#[]⟩:ByteArray)))) (seql Z Z) (qa (Bv (decide (a0=(⟨#[]⟩:ByteArray)))) (Nt (Cr (Tr (Rf h [] Z (Rs Z Z) lr ⟨Z,Z⟩)))))))
 refine Ck (Tc (Sr (qM (.func (.func 52) #[] #[]) (f 2) (qM (Sv a0) (f 0) ?_))))
 obtain ⟨d,e,h⟩:=bnd h
 refine We (callV0 (first:=#[]) (cap:=#[]) co52 Z (f_record_Check_2_ok a0 _ d e) (argsV1 Z Z)) Z ?_
 rintro _ g _ a ⟨_,⟨rfl,rfl⟩,rfl⟩
 exact WL.a0 (qa (Bv d) (Nt (Cr (Rf h [] Z (Rs Z Z) a ⟨Z,Z⟩))))
noncomputable def f_slices_Index_int_int_l0 (a0:(List Int)) (a1:Int) (b:Int):Option (Int⊕(Unit⊕Int)):=
 match b with
 |a=>
 (if(decide (a<(a0.length:Int)))=true then(grd (0≤a∧a<a0.length) (if(decide (a1=(rd a0 a)))=true then(some (inr (inr a)))else(some (inl (i64.wrap (a+(1:Int)))))))else(some (inr (inl ()))))
noncomputable def f_slices_Index_int_int (a0:(List Int)) (a1:Int):Option Int:=
 ((((iter (f_slices_Index_int_int_l0 a0 a1) (0:Int)).bind (Sum.elim (fun _=>(some (inl ()))) (fun(a:Int)=>(((some a)).bind fun r=>some (inr r))))):Option (Unit⊕Int)).bind (Sum.elim (fun _=>(some (-1:Int))) some))
def f_slices_Index_int_int_post (a0:(List Int)) (a1:Int) (c:Value):Int→Value→IM→HL→Prop:=
 fun(a:Int) (v:Value) (d:IM) (b:HL)=>(.int .i64 a)=v∧b=[]
theorem f_slices_Index_int_int_ok (a0:(List Int)) (a1:Int) (M:IM) (o:Value) (w:RS (Kd.int .i64) M o a0) (p:Int) (h:f_slices_Index_int_int a0 a1=some p):
 Tri prog 75 #[o,(Iv a1)] M [] (f_slices_Index_int_int_post a0 a1 o p):=by
 unfold f_slices_Index_int_int at h
 refine Te func75 Z Z ?_
 intro F O x
 refine Sr (qa (Iv 0) (Nt ?_))
 obtain ⟨y,q,h⟩:=bnd h
 refine WC.joinE (fun(_:Unit) r z A=>M.le z∧F=A) y ?_ ?_
 have s:=h
 have h:=q
 refine Sr (qM o (x 0) (qu (Iv (a0.length:Int)) (lenS underlying34 Z w.len) (qm (Iv 0) (Nt (Bk ?_)))))
 obtain ⟨D,t,j⟩:=bnd h
 clear h
 refine WC.loop t (fun(a:Int) r z A=>M.le z∧F=A∧r 0=o∧r 1=(Iv a1)∧r 7=(Iv (a0.length:Int))∧r 8=(Iv a)) ?_ ?_
 exact⟨lr,Z,(x 0),(x 1),Z,Z⟩
 rintro a E G I J h ⟨b,rfl,e,f,g,c⟩
 unfold f_slices_Index_int_int_l0 at h
 refine Sr (qu (Bv (decide (a<(a0.length:Int)))) (lss c g) (Nt (Cs (Ch h Z (fun u h=> ?_) (fun u h=> ?_)))))
 refine Ck (Tc (Cs (Bk (Sr (qM (Iv a) c (qa (Iv a) (Ns (qM (Iv a1) f (qM o e (qm (Iv a) ?_))))))))))
 obtain ⟨i,h⟩:=grd_i h
 have w:=w.mono b
 obtain ⟨B,C,k,l,hhas31⟩:=w.at i.1 i.2 (by decide)
 obtain rfl:=l
 refine qu (.pointer (some B)) (indexAddr (n:=a0.length) underlying34 sz3 Z Z i.1 i.2 k) (qu (Iv (rd a0 a)) (loadM pl3 Z (IM.has0 hhas31)) (qu (Bv (decide (a1=(rd a0 a)))) (eql Z Z) (Nt (Ch h Z (fun v h=> ?_) (fun v h=> ?_)))))
 refine Sr (qm (Iv a) (qa (Iv a) (Nt (Cr (Br (Tr (WQ.leaveR (inr a) (oi h).symm (fun d=> ?_))))))))
 subst d
 have h:=(elimR j)
 refine Br (Tr ?_)
 have h:=KK.early h s
 exact Rf h [] Z (Rs Z Z) b ⟨Z,Z⟩
 exact Ck (Bn (Tc (Cg (qu (Iv (i64.wrap (a+1))) (add c Z) (qm (Iv (i64.wrap (a+1))) (Wz (WQ.again (i64.wrap (a+1)) (oi h).symm ⟨b,Z,e,f,g,Z⟩)))))))
 refine WC.exit (WQ.thenE (WQ.leaveE (inl ()) (oi h).symm (fun d=> ?_)))
 subst d
 have h:=elimL j
 exact WQ.blockH (WQ.thenFE h ⟨b,Z⟩)
 rintro _ K L N rfl ⟨m,rfl⟩
 have h:=(Sum.elim_inl _ _ _).symm.trans h
 exact Sr (qa (Iv (-1:Int)) (Nt (Cr (Rf h [] Z (Rs Z Z) m ⟨Z,Z⟩))))
noncomputable def f_slices_Contains_int_int (a0:(List Int)) (a1:Int):Option Bool:=
 ((f_slices_Index_int_int a0 a1).bind fun a=>(some (decide ((0:Int)≤a))))
def f_slices_Contains_int_int_post (a0:(List Int)) (a1:Int) (c:Value):Bool→Value→IM→HL→Prop:=
 fun(a:Bool) (v:Value) (d:IM) (b:HL)=>(.bool a)=v∧b=[]
theorem f_slices_Contains_int_int_ok (a0:(List Int)) (a1:Int) (M:IM) (e:Value) (g:RS (Kd.int .i64) M e a0) (c:Bool) (h:f_slices_Contains_int_int a0 a1=some c):
 Tri prog 70 #[e,(Iv a1)] M [] (f_slices_Contains_int_int_post a0 a1 e c):=by
 unfold f_slices_Contains_int_int at h
 refine Te func70 Z Z ?_
 intro F j f
 refine Sr (qa (Bv false) (Ns (qM e (f 0) (qM (Iv a1) (f 1) ?_))))
 obtain ⟨a,d,h⟩:=bnd h
 refine We (Ca co75 (f_slices_Index_int_int_ok a0 a1 _ _ g a d) (args2 Z Z)) Z ?_
 rintro _ i _ b ⟨_,⟨rfl,rfl⟩,rfl⟩
 exact WL.a0 (qu (Bv (decide ((0:Int)≤a))) (geq Z Z) (qa (Bv (decide ((0:Int)≤a))) (Nt (Cr (Rf h [] Z (Rs Z Z) b ⟨Z,Z⟩)))))
noncomputable def f_record_Brokers_l0 (a0:(List Int)) (d:Int):Option (Int⊕(Unit⊕Unit)):=
 match d with
 |a=>
 (if(decide (a<(a0.length:Int)))=true then(grd (0≤a∧a<a0.length) (((if(decide ((rd a0 a)<(1:Int)))=true then(some true)else(if(decide ((64:Int)<(rd a0 a)))=true then(some true)else(grd (0≤(0:Int)∧(0:Int)≤a∧a≤(a0.length:Int)) ((f_slices_Contains_int_int (sub a0 (0:Int) a) (rd a0 a)).bind fun b=>(some b))))):Option Bool).bind fun c=>(if c=true then(some (inr (inr ())))else(some (inl (i64.wrap (a+(1:Int))))))))else(some (inr (inl ()))))
noncomputable def f_record_Brokers (a0:(List Int)):Option Bool:=
 (if(decide ((7:Int)<(a0.length:Int)))=true then(some false)else((((iter (f_record_Brokers_l0 a0) (0:Int)).bind (Sum.elim (fun _=>(some (inl ()))) (fun _=>(((some false)).bind fun r=>some (inr r))))):Option (Unit⊕Bool)).bind (Sum.elim (fun _=>(some true)) some)))
def f_record_Brokers_post (a0:(List Int)) (c:Value):Bool→Value→IM→HL→Prop:=
 fun(a:Bool) (v:Value) (d:IM) (b:HL)=>(.bool a)=v∧b=[]
theorem f_record_Brokers_ok (a0:(List Int)) (M:IM) (o:Value) (w:RS (Kd.int .i64) M o a0) (D:Bool) (h:f_record_Brokers a0=some D):
 Tri prog 66 #[o] M [] (f_record_Brokers_post a0 o D):=by
 unfold f_record_Brokers at h
 refine Te func66 Z Z ?_
 intro F ρ S
 refine Sr (qa (Bv false) (Nt (Cs (Sr (qM o (S 0) (qu (Iv (a0.length:Int)) (lenS underlying34 Z w.len) (qu (Bv (decide ((7:Int)<(a0.length:Int)))) (gtr Z Z) (Nt (Ch h Z (fun E h=> ?_) (fun E h=> ?_))))))))))
 exact Sr (qa (Bv false) (Nt (Cr (Tr (Rf h [] Z (Rs Z Z) lr ⟨Z,Z⟩)))))
 refine Ck (Tc ?_)
 obtain ⟨T,G,h⟩:=bnd h
 refine WC.joinE (fun(_:Unit) p I J=>M.le I∧F=J) T ?_ ?_
 have K:=h
 have h:=G
 refine Sr (qM o (S 0) (qu (Iv (a0.length:Int)) (lenS underlying34 Z w.len) (qm (Iv 0) (Nt (Bk ?_)))))
 obtain ⟨Y,L,x⟩:=bnd h
 clear h
 refine WC.loop L (fun(a:Int) p I J=>M.le I∧F=J∧p 0=o∧p 8=o∧p 9=(Iv (a0.length:Int))∧p 10=(Iv a)) ?_ ?_
 exact⟨lr,Z,(S 0),Z,Z,Z⟩
 rintro a a1 a2 U a3 h ⟨j,rfl,d,e,f,b⟩
 unfold f_record_Brokers_l0 at h
 refine Sr (qu (Bv (decide (a<(a0.length:Int)))) (lss b f) (Nt (Cs (Ch h Z (fun N h=> ?_) (fun N h=> ?_)))))
 refine Ck (Tc (Cs (Bk (Sr (qM (Iv a) b ?_)))))
 obtain ⟨m,h⟩:=grd_i h
 have w:=w.mono j
 obtain ⟨V,X,y,z,hhas31⟩:=w.at m.1 m.2 (by decide)
 obtain rfl:=z
 refine qu (.pointer (some V)) (indexAddr (n:=a0.length) underlying34 sz3 e b m.1 m.2 y) (qu (Iv (rd a0 a)) (loadM pl3 Z (IM.has0 hhas31)) (qa (Iv a) (qa (Iv (rd a0 a)) (Nt ?_))))
 obtain ⟨A,O,h⟩:=bnd h
 refine Jf (fun(A:Bool) p I J=>U.le I∧F=J∧p 0=o∧p 8=o∧p 9=(Iv (a0.length:Int))∧p 10=(Iv a)∧p 27=(Bv A)) A ?_ ?_
 have h:=O
 refine Cg (qm (Iv (rd a0 a)) (qu (Bv (decide ((rd a0 a)<1))) (lss Z Z) (qm (Bv (decide ((rd a0 a)<1))) ?_)))
 rcases Bi h with⟨i,h⟩ |⟨i,h⟩
 iterate 2 refine Of 17 Z Z i Z ?_
 refine qu (Bv true) (Pt Z i Z) (qm (Bv true) ?_)
 iterate 5 refine Of 21 Z Z Z Z ?_
 refine qu (Bv true) (Pt Z Z Z) (Wz ?_)
 obtain rfl:=oi h
 exact Tj ⟨lr,Z,d,e,f,b,Z⟩
 refine On 17 Z Z i (qm (Iv (rd a0 a)) (qo 17 i (Bv (decide ((64:Int)<(rd a0 a)))) (gtr Z Z) (qu (Bv (decide ((64:Int)<(rd a0 a)))) (Pf Z i Z) (qm (Bv (decide ((64:Int)<(rd a0 a)))) ?_))))
 rcases Bi h with⟨c,h⟩ |⟨c,h⟩
 iterate 5 refine Of 21 Z Z c Z ?_
 refine qu (Bv true) (Pt Z c Z) (Wz ?_)
 obtain rfl:=oi h
 exact Tj ⟨lr,Z,d,e,f,b,Z⟩
 refine On 21 Z Z c (qM o d (On 21 Z Z c (qm (Iv a) (On 21 Z Z c ?_))))
 obtain ⟨g,h⟩:=grd_i h
 have W:=w.sub g.1 g.2.1 g.2.2
 refine qu (slV o 1 ((0:Int)).toNat (a).toNat) (slice (n:=a0.length) (l:=((0:Int)).toNat) (h:=(a).toNat) underlying34 sz3 Z w.len w.cap (bound0 Z) ⟨_,_,Z,(Int.le_trans g.1 g.2.1),Z⟩ (Int.toNat_le_toNat g.2.1) (toNat_le_len g.2.2)) (On 21 Z Z c (qm (Iv (rd a0 a)) (On 21 Z Z c ?_)))
 obtain ⟨P,Q,h⟩:=bnd h
 refine We (Ca co70 (f_slices_Contains_int_int_ok (sub a0 (0:Int) a) (rd a0 a) _ _ W P Q) (args2 Z Z)) Z ?_
 rintro _ a4 _ B ⟨_,⟨rfl,rfl⟩,rfl⟩
 refine WL.a0 (qu (Bv P) (Pf Z c Z) (Wz ?_))
 obtain rfl:=oi h
 exact Tj ⟨B,Z,d,e,f,b,Z⟩
 rintro a5 a6 a7 ⟨q,rfl,t,u,v,r,s⟩
 refine Ch h s (fun R h=> ?_) (fun R h=> ?_)
 refine Sr (qa (Bv false) (Nt (Cr (Br (Tr (WQ.leaveR (inr ()) (oi h).symm (fun k=> ?_)))))))
 subst k
 have h:=(elimR x)
 refine Br (Tr ?_)
 have h:=KK.early h K
 exact Rf h [] Z (Rs Z Z) (j.trans q) ⟨Z,Z⟩
 exact Ck (Bn (Tc (Cg (qu (Iv (i64.wrap (a+1))) (add r Z) (qm (Iv (i64.wrap (a+1))) (Wz (WQ.again (i64.wrap (a+1)) (oi h).symm ⟨(j.trans q),Z,t,u,v,Z⟩)))))))
 refine WC.exit (WQ.thenE (WQ.leaveE (inl ()) (oi h).symm (fun k=> ?_)))
 subst k
 have h:=elimL x
 exact WQ.blockH (WQ.thenFE h ⟨j,Z⟩)
 rintro _ a8 a9 b0 rfl ⟨C,rfl⟩
 have h:=(Sum.elim_inl _ _ _).symm.trans h
 exact Sr (qa (Bv true) (Nt (Cr (Rf h [] Z (Rs Z Z) C ⟨Z,Z⟩))))
noncomputable def f_record_row (a0:(List Int)) (a1:Bool):Option Bool:=
 (if(!a1)=true then(some (decide ((a0.length:Int)=(0:Int))))else((f_record_Brokers a0).bind fun a=>(some a)))
def f_record_row_post (a0:(List Int)) (a1:Bool) (c:Value):Bool→Value→IM→HL→Prop:=
 fun(a:Bool) (v:Value) (d:IM) (b:HL)=>(.bool a)=v∧b=[]
theorem f_record_row_ok (a0:(List Int)) (a1:Bool) (M:IM) (b:Value) (i:RS (Kd.int .i64) M b a0) (c:Bool) (h:f_record_row a0 a1=some c):
 Tri prog 56 #[b,(Bv a1)] M [] (f_record_row_post a0 a1 b c):=by
 unfold f_record_row at h
 refine Te func56 Z Z ?_
 intro F k g
 refine Sr (qa (Bv false) (Nt (Cs (Sr (qM (Bv a1) (g 1) (qu (Bv (!a1)) (PO.not Z) (Nt (Ch h Z (fun d h=> ?_) (fun d h=> ?_)))))))))
 exact Sr (qM b (g 0) (qu (Iv (a0.length:Int)) (lenS underlying34 Z i.len) (qu (Bv (decide ((a0.length:Int)=(0:Int)))) (eql Z Z) (qa (Bv (decide ((a0.length:Int)=(0:Int)))) (Nt (Cr (Tr (Rf h [] Z (Rs Z Z) lr ⟨Z,Z⟩))))))))
 refine Ck (Tc (Sr (qM b (g 0) ?_)))
 obtain ⟨e,f,h⟩:=bnd h
 refine We (Ca co66 (f_record_Brokers_ok a0 _ _ i e f) (args1 Z)) Z ?_
 rintro _ j _ a ⟨_,⟨rfl,rfl⟩,rfl⟩
 exact WL.a0 (qa (Bv e) (Nt (Cr (Rf h [] Z (Rs Z Z) a ⟨Z,Z⟩))))
noncomputable def f_record_Check (a0:T_api_Record):Option GErr:=
 (((if(decide (a0.Kind<(1:Int)))=true then(some true)else(some (decide ((12:Int)<a0.Kind)))):Option Bool).bind fun N=>(if N=true then((f_fault_New (⟨#[107,105,110,100]⟩:ByteArray) a0.Kind (5:Int)).bind fun O=>(some O))else(((if(decide (a0.Kind≠(10:Int)))=true then(some (1:Int))else(some (0:Int))):Option Int).bind fun P=>((f_record_Check_1 (1:Int) a0).bind fun Q=>((f_record_number a0.Broker Q (1:Int) (64:Int)).bind fun R=>(if(!R)=true then((f_fault_New (⟨#[98,114,111,107,101,114]⟩:ByteArray) a0.Broker (2:Int)).bind fun S=>(some S))else((f_record_Check_1 (2:Int) a0).bind fun T=>((f_record_number a0.Epoch T (0:Int) (1073741824:Int)).bind fun U=>(if(!U)=true then((f_fault_New (⟨#[101,112,111,99,104]⟩:ByteArray) a0.Epoch (2:Int)).bind fun V=>(some V))else((f_record_Check_1 (4:Int) a0).bind fun W=>((f_record_number a0.Topic W P (1073741824:Int)).bind fun X=>(if(!X)=true then((f_fault_New (⟨#[116,111,112,105,99]⟩:ByteArray) a0.Topic (2:Int)).bind fun Y=>(some Y))else((f_record_Check_1 (8:Int) a0).bind fun a1=>((f_record_number a0.Part a1 (0:Int) (255:Int)).bind fun a2=>(if(!a2)=true then((f_fault_New (⟨#[112,97,114,116]⟩:ByteArray) a0.Part (2:Int)).bind fun a3=>(some a3))else((f_record_Check_1 (16:Int) a0).bind fun a4=>((f_record_number a0.Leader a4 (0:Int) (64:Int)).bind fun a=>(if(!a)=true then((f_fault_New (⟨#[108,101,97,100,101,114]⟩:ByteArray) a0.Leader (2:Int)).bind fun b=>(some b))else((((f_record_Check_1 (32:Int) a0).bind fun c=>((f_record_number a0.Client c (1:Int) (1073741824:Int)).bind fun d=>(if(!d)=true then(some true)else((f_record_Check_1 (32:Int) a0).bind fun e=>((f_record_number a0.Serial e (1:Int) (1073741824:Int)).bind fun f=>(if(!f)=true then(some true)else((f_record_Check_1 (32:Int) a0).bind fun g=>((f_record_number a0.Code g (0:Int) (21:Int)).bind fun i=>(some (!i)))))))))):Option Bool).bind fun j=>(if j=true then((f_fault_New (⟨#[97,115,107,101,114]⟩:ByteArray) a0.Client (2:Int)).bind fun k=>(some k))else((((f_record_Check_1 (64:Int) a0).bind fun l=>(if(!l)=true then(some a0.Flag)else(some false))):Option Bool).bind fun m=>(if m=true then((f_fault_New (⟨#[102,108,97,103]⟩:ByteArray) (1:Int) (1:Int)).bind fun n=>(some n))else((((f_record_Check_1 (128:Int) a0).bind fun o=>((f_record_text_Name a0.Name o).bind fun p=>(if(!p)=true then(some true)else((f_record_Check_1 (256:Int) a0).bind fun q=>((f_record_text_Name a0.Key q).bind fun r=>(if(!r)=true then(some true)else((f_record_Check_1 (1024:Int) a0).bind fun s=>((f_record_text_Name a0.Rack s).bind fun t=>(some (!t)))))))))):Option Bool).bind fun u=>(if u=true then((f_fault_New (⟨#[110,97,109,101]⟩:ByteArray) (a0.Name.size:Int) (1:Int)).bind fun v=>(some v))else((((f_record_Check_1 (512:Int) a0).bind fun w=>((f_record_text_Check_2 a0.Value w).bind fun x=>(if(!x)=true then(some true)else(if a0.Flag=true then(some (!decide (a0.Value=(⟨#[]⟩:ByteArray))))else(some false))))):Option Bool).bind fun y=>(if y=true then((f_fault_New (⟨#[118,97,108,117,101]⟩:ByteArray) (a0.Value.size:Int) (6:Int)).bind fun z=>(some z))else((((f_record_Check_1 (2048:Int) a0).bind fun A=>((f_record_row a0.Ids A).bind fun B=>(if(!B)=true then(some true)else((f_record_Check_1 (4096:Int) a0).bind fun C=>((f_record_row a0.Isr C).bind fun D=>(if(!D)=true then(some true)else((f_record_Check_1 (8192:Int) a0).bind fun E=>((f_record_row a0.Add E).bind fun G=>(if(!G)=true then(some true)else((f_record_Check_1 (8192:Int) a0).bind fun I=>((f_record_row a0.Drop I).bind fun J=>(some (!J))))))))))))):Option Bool).bind fun K=>(if K=true then((f_fault_New (⟨#[114,111,119]⟩:ByteArray) (a0.Ids.length:Int) (18:Int)).bind fun L=>(some L))else(some GErr.nil)))))))))))))))))))))))))))))
def f_record_Check_post (a0:T_api_Record) (a b c d:Value):GErr→Value→IM→HL→Prop:=
 fun(e:GErr) (v:Value) (g:IM) (f:HL)=>(GV e)=v∧f=[]
theorem f_record_Check_ok (a0:T_api_Record) (M:IM) (p s t u:Value) (a:RS (Kd.int .i64) M p a0.Ids) (b:RS (Kd.int .i64) M s a0.Isr) (c:RS (Kd.int .i64) M t a0.Add) (d:RS (Kd.int .i64) M u a0.Drop) (o8:GErr) (h:f_record_Check a0=some o8):
 Tri prog 29 #[(a36_ a0 p s t u)] M [] (f_record_Check_post a0 p s t u o8):=by
 unfold f_record_Check at h
 refine Te func29 Z Z ?_
 intro F ρ x7
 refine Sr (We (box (cs:=(l36 a0 p s t u).toArray) (congrArg Value.cells (asE (a36_ a0 p s t u) (x7 0)))) Z ?_)
 rintro _ _ _ - ⟨rfl,e,rfl,rfl⟩
 refine qa (GV GErr.nil) (Nt (Cs ?_))
 obtain ⟨j6,o9,h⟩:=bnd h
 refine Jf (fun(j6:Bool) O M' H'=>M.le M'∧[(e, .cells (l36 a0 p s t u).toArray 36 (0,0))]::F=H'∧O 1=(pt e 0)∧O 13=(Bv j6)) j6 ?_ ?_
 have h:=o9
 refine Cg (qu (pt e 0) (Fa fo36_0 Z Z) (qu (Iv a0.Kind) (Lb 0 pl3 Z Z Z) (qu (Bv (decide (a0.Kind<1))) (lss Z Z) (qm (Bv (decide (a0.Kind<1))) ?_))))
 rcases Bi h with⟨Q,h⟩ |⟨Q,h⟩
 iterate 3 refine Of 9 Z Z Q Z ?_
 refine qu (Bv true) (Pt Z Q Z) (Wz ?_)
 obtain rfl:=oi h
 exact Tj ⟨lr,Z,Z,Z⟩
 refine qo 9 Q (pt e 0) (Fa fo36_0 Z Z) (qo 9 Q (Iv a0.Kind) (Lb 0 pl3 Z Z Z) (qo 9 Q (Bv (decide ((12:Int)<a0.Kind))) (gtr Z Z) (qu (Bv (decide ((12:Int)<a0.Kind))) (Pf Z Q Z) (Wz ?_))))
 obtain rfl:=oi h
 exact Tj ⟨lr,Z,Z,Z⟩
 rintro x8 t1 x9 ⟨e7,rfl,G,e8⟩
 refine Ch h e8 (fun p0 h=> ?_) (fun p0 h=> ?_)
 refine Sr (qu (pt e 0) (Fa fo36_0 G Z) (qu (Iv a0.Kind) (Lb 0 pl3 Z Z Z) ?_))
 obtain ⟨p1,p2,h⟩:=bnd h
 refine We (Ca co22 (f_fault_New_ok ⟨#[107,105,110,100]⟩ a0.Kind (5:Int) _ p1 p2) (args3 Z Z Z)) Z ?_
 rintro _ y0 _ j7 ⟨_,⟨rfl,rfl⟩,rfl⟩
 exact WL.a0 (qa (GV p1) (Nt (Cr (Tr (Dr (Rf h [] Z (Rs Z Z) (e7.trans j7) ⟨Z,Z⟩))))))
 refine Ck (Tc (Sr (qu (.func (.func 51) #[] #[(pt e 0)]) (makeFunc2 (args0) (args1 (asE (Value.pointer (some ⟨e,0,none⟩)) G))) (qa (.func (.func 51) #[] #[(pt e 0)]) (Ns (qa (Iv 0) (Nt ?_)))))))
 obtain ⟨e9,p3,h⟩:=bnd h
 refine Jf (fun(e9:Int) O M' H'=>t1.le M'∧[(e, .cells (l36 a0 p s t u).toArray 36 (0,0))]::F=H'∧O 1=(pt e 0)∧O 3=(.func (.func 51) #[] #[(pt e 0)])∧O 4=(Iv e9)) e9 ?_ ?_
 have h:=p3
 refine Sr (qu (pt e 0) (Fa fo36_0 G Z) (qu (Iv a0.Kind) (Lb 0 pl3 Z Z Z) (qu (Bv (decide (a0.Kind≠10))) (neq Z Z) (Nt (Ch h Z (fun p4 h=> ?_) (fun p4 h=> ?_))))))
 refine Cg (qa (Iv 1) (Wz ?_))
 obtain rfl:=oi h
 exact Tj ⟨lr,Z,G,Z,Z⟩
 refine Ck ?_
 obtain rfl:=oi h
 exact Tj ⟨lr,Z,G,Z,Z⟩
 rintro y1 y2 y3 ⟨j8,rfl,f,q,c2⟩
 have f0:=e7.trans j8
 refine Sr (qa (.func (.func 52) #[] #[]) (Nt (Cs (Bk (Cs (WC.draw [0,1,0,4,15,31,63] (.pure 0 (.pure 1 (.pure 2 (.alt 3 (.alt 4 (.pure 5 (.pure 6 .done)) .none) .none)))) mixed (by kernel_rfl) (qt (pt e 1) Z (Fa fo36_1 f Z) (qt (Iv a0.Broker) Z (Lb 0 pl3 Z Z Z) (qt (.func (.func 51) #[] #[(pt e 0)]) Z (Mv q) ?_)))))))))
 obtain ⟨p5,p6,h⟩:=bnd h
 have a:=a.mono f0
 have b:=b.mono f0
 have c:=c.mono f0
 have d:=d.mono f0
 refine Ta Z (callV1 (first:=#[]) (cap:=#[(pt e 0)]) co51 Z (f_record_Check_1_ok (1:Int) a0 _ _ _ _ _ _ a b c d p5 p6) (argsV1 Z Z)) Z ?_ ?_
 rintro _ y4 _ R ⟨_,⟨rfl,rfl⟩,rfl⟩
 have t2:=f0.trans R
 refine⟨(Sk 1 Z (Ss Z (Lb 0 pl3 Z Z Z) Z (Ss Z (Fa fo36_1 f Z) Z trivial))), ?_⟩
 refine WT.a1 ?_
 obtain ⟨j9,p7,h⟩:=bnd h
 refine Ta Z (Ca co53 (f_record_number_ok a0.Broker p5 (1:Int) (64:Int) _ j9 p7) (args4 Z Z Z Z)) Z ?_ ?_
 rintro _ y5 _ S ⟨_,⟨rfl,rfl⟩,rfl⟩
 have p8:=t2.trans S
 refine⟨(Sl Z), ?_⟩
 refine WT.a0 (qt (Bv (!j9)) Z (PO.not Z) (qt (Bv (!j9)) Z (Ag Z) (Ti (Tc (Ch h Z (fun p9 h=> ?_) (fun p9 h=> ?_))))))
 refine Sr (qu (pt e 1) (Fa fo36_1 f Z) (qu (Iv a0.Broker) (Lb 0 pl3 Z Z Z) ?_))
 obtain ⟨q0,q1,h⟩:=bnd h
 refine We (Ca co22 (f_fault_New_ok ⟨#[98,114,111,107,101,114]⟩ a0.Broker (2:Int) _ q0 q1) (args3 Z Z Z)) Z ?_
 rintro _ y6 _ k0 ⟨_,⟨rfl,rfl⟩,rfl⟩
 exact WL.a0 (qa (GV q0) (Nt (Cr (Br (Tr (Dr (Rf h [] Z (Rs Z Z) (p8.trans k0) ⟨Z,Z⟩)))))))
 refine Cs (WC.draw [0,1,0,4,15,31,63] (.pure 0 (.pure 1 (.pure 2 (.alt 3 (.alt 4 (.pure 5 (.pure 6 .done)) .none) .none)))) mixed (by kernel_rfl) (qt (pt e 2) Z (Fa fo36_2 f Z) (qt (Iv a0.Epoch) Z (Lb 0 pl3 Z Z Z) (qt (.func (.func 51) #[] #[(pt e 0)]) Z (Mv q) ?_))))
 obtain ⟨q2,q3,h⟩:=bnd h
 have a:=a.mono (R.trans S)
 have b:=b.mono (R.trans S)
 have c:=c.mono (R.trans S)
 have d:=d.mono (R.trans S)
 refine Ta Z (callV1 (first:=#[]) (cap:=#[(pt e 0)]) co51 Z (f_record_Check_1_ok (2:Int) a0 _ _ _ _ _ _ a b c d q2 q3) (argsV1 Z Z)) Z ?_ ?_
 rintro _ y7 _ T ⟨_,⟨rfl,rfl⟩,rfl⟩
 have t3:=p8.trans T
 refine⟨(Sk 1 Z (Ss Z (Lb 0 pl3 Z Z Z) Z (Ss Z (Fa fo36_2 f Z) Z trivial))), ?_⟩
 refine WT.a1 ?_
 obtain ⟨k1,q4,h⟩:=bnd h
 refine Ta Z (Ca co53 (f_record_number_ok a0.Epoch q2 (0:Int) (1073741824:Int) _ k1 q4) (args4 Z Z Z Z)) Z ?_ ?_
 rintro _ y8 _ U ⟨_,⟨rfl,rfl⟩,rfl⟩
 have q5:=t3.trans U
 refine⟨(Sl Z), ?_⟩
 refine WT.a0 (qt (Bv (!k1)) Z (PO.not Z) (qt (Bv (!k1)) Z (Ag Z) (Ti (Tc (Ch h Z (fun q6 h=> ?_) (fun q6 h=> ?_))))))
 refine Sr (qu (pt e 2) (Fa fo36_2 f Z) (qu (Iv a0.Epoch) (Lb 0 pl3 Z Z Z) ?_))
 obtain ⟨q7,q8,h⟩:=bnd h
 refine We (Ca co22 (f_fault_New_ok ⟨#[101,112,111,99,104]⟩ a0.Epoch (2:Int) _ q7 q8) (args3 Z Z Z)) Z ?_
 rintro _ y9 _ k2 ⟨_,⟨rfl,rfl⟩,rfl⟩
 exact WL.a0 (qa (GV q7) (Nt (Cr (Br (Tr (Dr (Rf h [] Z (Rs Z Z) (q5.trans k2) ⟨Z,Z⟩)))))))
 refine Cs (WC.draw [0,1,0,4,0,31,63,127] (.pure 0 (.pure 1 (.pure 2 (.pure 4 (.alt 3 (.alt 5 (.pure 6 (.pure 7 .done)) .none) .none))))) mixed (by kernel_rfl) (qt (pt e 3) Z (Fa fo36_3 f Z) (qt (Iv a0.Topic) Z (Lb 0 pl3 Z Z Z) (qt (.func (.func 51) #[] #[(pt e 0)]) Z (Mv q) (qt (Iv e9) Z (Mv c2) ?_)))))
 obtain ⟨q9,r0,h⟩:=bnd h
 have a:=a.mono (T.trans U)
 have b:=b.mono (T.trans U)
 have c:=c.mono (T.trans U)
 have d:=d.mono (T.trans U)
 refine Ta Z (callV1 (first:=#[]) (cap:=#[(pt e 0)]) co51 Z (f_record_Check_1_ok (4:Int) a0 _ _ _ _ _ _ a b c d q9 r0) (argsV1 Z Z)) Z ?_ ?_
 rintro _ z0 _ V ⟨_,⟨rfl,rfl⟩,rfl⟩
 have t4:=q5.trans V
 refine⟨(Ss Z (Mv c2) Z (Sk 1 Z (Ss Z (Lb 0 pl3 Z Z Z) Z (Ss Z (Fa fo36_3 f Z) Z trivial)))), ?_⟩
 refine WT.a1 ?_
 obtain ⟨k3,r1,h⟩:=bnd h
 refine Ta Z (Ca co53 (f_record_number_ok a0.Topic q9 e9 (1073741824:Int) _ k3 r1) (args4 Z Z Z Z)) Z ?_ ?_
 rintro _ z1 _ W ⟨_,⟨rfl,rfl⟩,rfl⟩
 have r2:=t4.trans W
 refine⟨(Sl Z), ?_⟩
 refine WT.a0 (qt (Bv (!k3)) Z (PO.not Z) (qt (Bv (!k3)) Z (Ag Z) (Ti (Tc (Ch h Z (fun r3 h=> ?_) (fun r3 h=> ?_))))))
 refine Sr (qu (pt e 3) (Fa fo36_3 f Z) (qu (Iv a0.Topic) (Lb 0 pl3 Z Z Z) ?_))
 obtain ⟨r4,r5,h⟩:=bnd h
 refine We (Ca co22 (f_fault_New_ok ⟨#[116,111,112,105,99]⟩ a0.Topic (2:Int) _ r4 r5) (args3 Z Z Z)) Z ?_
 rintro _ z2 _ k4 ⟨_,⟨rfl,rfl⟩,rfl⟩
 exact WL.a0 (qa (GV r4) (Nt (Cr (Br (Tr (Dr (Rf h [] Z (Rs Z Z) (r2.trans k4) ⟨Z,Z⟩)))))))
 refine Cs (WC.draw [0,1,0,4,15,31,63] (.pure 0 (.pure 1 (.pure 2 (.alt 3 (.alt 4 (.pure 5 (.pure 6 .done)) .none) .none)))) mixed (by kernel_rfl) (qt (pt e 4) Z (Fa fo36_4 f Z) (qt (Iv a0.Part) Z (Lb 0 pl3 Z Z Z) (qt (.func (.func 51) #[] #[(pt e 0)]) Z (Mv q) ?_))))
 obtain ⟨r6,r7,h⟩:=bnd h
 have a:=a.mono (V.trans W)
 have b:=b.mono (V.trans W)
 have c:=c.mono (V.trans W)
 have d:=d.mono (V.trans W)
 refine Ta Z (callV1 (first:=#[]) (cap:=#[(pt e 0)]) co51 Z (f_record_Check_1_ok (8:Int) a0 _ _ _ _ _ _ a b c d r6 r7) (argsV1 Z Z)) Z ?_ ?_
 rintro _ z3 _ X ⟨_,⟨rfl,rfl⟩,rfl⟩
 have t5:=r2.trans X
 refine⟨(Sk 1 Z (Ss Z (Lb 0 pl3 Z Z Z) Z (Ss Z (Fa fo36_4 f Z) Z trivial))), ?_⟩
 refine WT.a1 ?_
 obtain ⟨k5,r8,h⟩:=bnd h
 refine Ta Z (Ca co53 (f_record_number_ok a0.Part r6 (0:Int) (255:Int) _ k5 r8) (args4 Z Z Z Z)) Z ?_ ?_
 rintro _ z4 _ Y ⟨_,⟨rfl,rfl⟩,rfl⟩
 have r9:=t5.trans Y
 refine⟨(Sl Z), ?_⟩
 refine WT.a0 (qt (Bv (!k5)) Z (PO.not Z) (qt (Bv (!k5)) Z (Ag Z) (Ti (Tc (Ch h Z (fun s0 h=> ?_) (fun s0 h=> ?_))))))
 refine Sr (qu (pt e 4) (Fa fo36_4 f Z) (qu (Iv a0.Part) (Lb 0 pl3 Z Z Z) ?_))
 obtain ⟨s1,s2,h⟩:=bnd h
 refine We (Ca co22 (f_fault_New_ok ⟨#[112,97,114,116]⟩ a0.Part (2:Int) _ s1 s2) (args3 Z Z Z)) Z ?_
 rintro _ z5 _ k6 ⟨_,⟨rfl,rfl⟩,rfl⟩
 exact WL.a0 (qa (GV s1) (Nt (Cr (Br (Tr (Dr (Rf h [] Z (Rs Z Z) (r9.trans k6) ⟨Z,Z⟩)))))))
 refine Cs (WC.draw [0,1,0,4,15,31,63] (.pure 0 (.pure 1 (.pure 2 (.alt 3 (.alt 4 (.pure 5 (.pure 6 .done)) .none) .none)))) mixed (by kernel_rfl) (qt (pt e 5) Z (Fa fo36_5 f Z) (qt (Iv a0.Leader) Z (Lb 0 pl3 Z Z Z) (qt (.func (.func 51) #[] #[(pt e 0)]) Z (Mv q) ?_))))
 obtain ⟨s3,s4,h⟩:=bnd h
 have a:=a.mono (X.trans Y)
 have b:=b.mono (X.trans Y)
 have c:=c.mono (X.trans Y)
 have d:=d.mono (X.trans Y)
 refine Ta Z (callV1 (first:=#[]) (cap:=#[(pt e 0)]) co51 Z (f_record_Check_1_ok (16:Int) a0 _ _ _ _ _ _ a b c d s3 s4) (argsV1 Z Z)) Z ?_ ?_
 rintro _ t6 _ c3 ⟨_,⟨rfl,rfl⟩,rfl⟩
 have s5:=r9.trans c3
 refine⟨(Sk 1 Z (Ss Z (Lb 0 pl3 Z Z Z) Z (Ss Z (Fa fo36_5 f Z) Z trivial))), ?_⟩
 refine WT.a1 ?_
 obtain ⟨f1,k7,h⟩:=bnd h
 refine Ta Z (Ca co53 (f_record_number_ok a0.Leader s3 (0:Int) (64:Int) _ f1 k7) (args4 Z Z Z Z)) Z ?_ ?_
 rintro _ s6 _ c4 ⟨_,⟨rfl,rfl⟩,rfl⟩
 have b2:=c3.trans c4
 have c5:=s5.trans c4
 refine⟨(Sl Z), ?_⟩
 refine WT.a0 (qt (Bv (!f1)) Z (PO.not Z) (qt (Bv (!f1)) Z (Ag Z) (Ti (Tc (Ch h Z (fun k8 h=> ?_) (fun k8 h=> ?_))))))
 refine Sr (qu (pt e 5) (Fa fo36_5 f Z) (qu (Iv a0.Leader) (Lb 0 pl3 Z Z Z) ?_))
 obtain ⟨h9,k9,h⟩:=bnd h
 refine We (Ca co22 (f_fault_New_ok ⟨#[108,101,97,100,101,114]⟩ a0.Leader (2:Int) _ h9 k9) (args3 Z Z Z)) Z ?_
 rintro _ t7 _ g4 ⟨_,⟨rfl,rfl⟩,rfl⟩
 exact WL.a0 (qa (GV h9) (Nt (Cr (Br (Tr (Dr (Rf h [] Z (Rs Z Z) (c5.trans g4) ⟨Z,Z⟩)))))))
 obtain ⟨f2,l0,h⟩:=bnd h
 refine Jf (fun(f2:Bool) O M' H'=>s6.le M'∧[(e, .cells (l36 a0 p s t u).toArray 36 (0,0))]::F=H'∧O 1=(pt e 0)∧O 3=(.func (.func 51) #[] #[(pt e 0)])∧O 5=(.func (.func 52) #[] #[])∧O 72=(Bv f2)) f2 ?_ ?_
 have h:=l0
 refine WC.draw [0,1,0,4,15,31,63,127,255,127,639,2047,4095,8191,16383,32767,65535,32767,163839,524287,1048575,2097151,4194303] (.pure 0 (.pure 1 (.pure 2 (.alt 3 (.alt 4 (.pure 5 (.pure 6 (.pure 7 (.pure 8 (.pure 9 (.alt 10 (.alt 11 (.pure 12 (.pure 13 (.pure 14 (.pure 15 (.pure 16 (.pure 17 (.alt 18 (.alt 19 (.pure 20 (.pure 21 (.pure 22 .done))) .none) .none))))))) .none) .none)))))) .none) .none)))) mixed (by kernel_rfl) (qt (pt e 6) Z (Fa fo36_6 f Z) (qt (Iv a0.Client) Z (Lb 0 pl3 Z Z Z) (qt (.func (.func 51) #[] #[(pt e 0)]) Z (Mv q) ?_)))
 obtain ⟨i0,l1,h⟩:=bnd h
 have a:=a.mono b2
 have b:=b.mono b2
 have c:=c.mono b2
 have d:=d.mono b2
 refine Ta Z (callV1 (first:=#[]) (cap:=#[(pt e 0)]) co51 Z (f_record_Check_1_ok (32:Int) a0 _ _ _ _ _ _ a b c d i0 l1) (argsV1 Z Z)) Z ?_ ?_
 rintro _ t8 _ g5 ⟨_,⟨rfl,rfl⟩,rfl⟩
 refine⟨(Sk 1 Z (Ss Z (Lb 0 pl3 Z Z Z) Z (Ss Z (Fa fo36_6 f Z) Z trivial))), ?_⟩
 refine WT.a1 ?_
 obtain ⟨f3,l2,h⟩:=bnd h
 refine Ta Z (Ca co53 (f_record_number_ok a0.Client i0 (1:Int) (1073741824:Int) _ f3 l2) (args4 Z Z Z Z)) Z ?_ ?_
 rintro _ t9 _ g6 ⟨_,⟨rfl,rfl⟩,rfl⟩
 have a2:=g5.trans g6
 refine⟨(Sl Z), ?_⟩
 refine WT.a0 (qt (Bv (!f3)) Z (PO.not Z) (qt (Bv (!f3)) Z (Mv Z) ?_))
 rcases Bi h with⟨i,h⟩ |⟨i,h⟩
 refine Tf 79 Z Z Z i Z (Tf 79 Z Z Z i Z (Tf 79 Z Z Z i Z (Tg 79 Z Z Z i Z ⟨(Sk 1 Z (St (Sf 79 Z Z Z i Z) (St (Sf 79 Z Z Z i Z) (Sl Z)))), ?_⟩ ?_)))
 refine Tg 79 Z Z Z i Z ⟨(Sl Z), ?_⟩ ?_
 refine Tf 79 Z Z Z i Z (qt (Bv true) Z (Pt Z i Z) (qt (Bv true) Z (Mv Z) (Tf 87 Z Z Z Z Z (Tf 87 Z Z Z Z Z (Tf 87 Z Z Z Z Z (Tg 87 Z Z Z Z Z ⟨(Sk 1 Z (St (Sf 87 Z Z Z Z Z) (St (Sf 87 Z Z Z Z Z) (Sl Z)))), ?_⟩ ?_))))))
 refine Tg 87 Z Z Z Z Z ⟨(Sl Z), ?_⟩ ?_
 refine Tf 87 Z Z Z Z Z (qt (Bv true) Z (Pt Z Z Z) (qt (Bv true) Z (Ag Z) (Ti ?_)))
 obtain rfl:=oi h
 exact Tj ⟨a2,Z,f,q,Z,Z⟩
 exact Tz
 exact Tz
 exact Tz
 exact Tz
 refine Tn (pt e 7) 79 Z Z Z i (Fa fo36_7 f Z) Z (Tn (Iv a0.Serial) 79 Z Z Z i (Lb 0 pl3 Z Z Z) Z (Tn (.func (.func 51) #[] #[(pt e 0)]) 79 Z Z Z i (Mv q) Z ?_))
 obtain ⟨i1,l3,h⟩:=bnd h
 have a:=a.mono a2
 have b:=b.mono a2
 have c:=c.mono a2
 have d:=d.mono a2
 refine WT.altOn 79 Z Z Z i (callV1 (first:=#[]) (cap:=#[(pt e 0)]) co51 Z (f_record_Check_1_ok (32:Int) a0 _ _ _ _ _ _ a b c d i1 l3) (argsV1 Z Z)) Z ?_ ?_
 rintro _ u0 _ z ⟨_,⟨rfl,rfl⟩,rfl⟩
 refine⟨(Sk 1 Z (St (StabA.on 79 Z Z Z i (Lb 0 pl3 Z Z Z) Z) (St (StabA.on 79 Z Z Z i (Fa fo36_7 f Z) Z) (Sl Z)))), ?_⟩
 refine WT.a1 ?_
 obtain ⟨c6,l4,h⟩:=bnd h
 refine WT.altOn 79 Z Z Z i (Ca co53 (f_record_number_ok a0.Serial i1 (1:Int) (1073741824:Int) _ c6 l4) (args4 Z Z Z Z)) Z ?_ ?_
 rintro _ u1 _ A ⟨_,⟨rfl,rfl⟩,rfl⟩
 refine⟨(Sl Z), ?_⟩
 refine WT.a0 (Tn (Bv (!c6)) 79 Z Z Z i (PO.not Z) Z (qt (Bv (!c6)) Z (Pf Z i Z) (qt (Bv (!c6)) Z (Mv Z) ?_)))
 rcases Bi h with⟨j,h⟩ |⟨j,h⟩
 refine Tf 87 Z Z Z j Z (Tf 87 Z Z Z j Z (Tf 87 Z Z Z j Z (Tg 87 Z Z Z j Z ⟨(Sk 1 Z (St (Sf 87 Z Z Z j Z) (St (Sf 87 Z Z Z j Z) (Sl Z)))), ?_⟩ ?_)))
 refine Tg 87 Z Z Z j Z ⟨(Sl Z), ?_⟩ ?_
 refine Tf 87 Z Z Z j Z (qt (Bv true) Z (Pt Z j Z) (qt (Bv true) Z (Ag Z) (Ti ?_)))
 obtain rfl:=oi h
 exact Tj ⟨((a2.trans z).trans A),Z,f,q,Z,Z⟩
 exact Tz
 exact Tz
 refine Tn (pt e 8) 87 Z Z Z j (Fa fo36_8 f Z) Z (Tn (Iv a0.Code) 87 Z Z Z j (Lb 0 pl3 Z Z Z) Z (Tn (.func (.func 51) #[] #[(pt e 0)]) 87 Z Z Z j (Mv q) Z ?_))
 obtain ⟨i2,l5,h⟩:=bnd h
 have a:=a.mono (z.trans A)
 have b:=b.mono (z.trans A)
 have c:=c.mono (z.trans A)
 have d:=d.mono (z.trans A)
 refine WT.altOn 87 Z Z Z j (callV1 (first:=#[]) (cap:=#[(pt e 0)]) co51 Z (f_record_Check_1_ok (32:Int) a0 _ _ _ _ _ _ a b c d i2 l5) (argsV1 Z Z)) Z ?_ ?_
 rintro _ u2 _ g7 ⟨_,⟨rfl,rfl⟩,rfl⟩
 refine⟨(Sk 1 Z (St (StabA.on 87 Z Z Z j (Lb 0 pl3 Z Z Z) Z) (St (StabA.on 87 Z Z Z j (Fa fo36_8 f Z) Z) (Sl Z)))), ?_⟩
 refine WT.a1 ?_
 obtain ⟨c7,l6,h⟩:=bnd h
 refine WT.altOn 87 Z Z Z j (Ca co53 (f_record_number_ok a0.Code i2 (0:Int) (21:Int) _ c7 l6) (args4 Z Z Z Z)) Z ?_ ?_
 rintro _ u3 _ g8 ⟨_,⟨rfl,rfl⟩,rfl⟩
 refine⟨(Sl Z), ?_⟩
 refine WT.a0 (Tn (Bv (!c7)) 87 Z Z Z j (PO.not Z) Z (qt (Bv (!c7)) Z (Pf Z j Z) (qt (Bv (!c7)) Z (Ag Z) (Ti ?_))))
 obtain rfl:=oi h
 exact Tj ⟨((((a2.trans z).trans A).trans g7).trans g8),Z,f,q,Z,Z⟩
 exact Tz
 exact Tz
 exact Tz
 exact Tz
 exact Tz
 exact Tz
 rintro u4 s7 u5 ⟨c8,rfl,I,a3,b3,e5⟩
 have b4:=b2.trans c8
 have c9:=c5.trans c8
 refine Ch h e5 (fun l7 h=> ?_) (fun l7 h=> ?_)
 refine Sr (qu (pt e 6) (Fa fo36_6 I Z) (qu (Iv a0.Client) (Lb 0 pl3 Z Z Z) ?_))
 obtain ⟨i3,l8,h⟩:=bnd h
 refine We (Ca co22 (f_fault_New_ok ⟨#[97,115,107,101,114]⟩ a0.Client (2:Int) _ i3 l8) (args3 Z Z Z)) Z ?_
 rintro _ u6 _ g9 ⟨_,⟨rfl,rfl⟩,rfl⟩
 exact WL.a0 (qa (GV i3) (Nt (Cr (Br (Tr (Dr (Rf h [] Z (Rs Z Z) (c9.trans g9) ⟨Z,Z⟩)))))))
 obtain ⟨f4,l9,h⟩:=bnd h
 refine Jf (fun(f4:Bool) O M' H'=>s7.le M'∧[(e, .cells (l36 a0 p s t u).toArray 36 (0,0))]::F=H'∧O 1=(pt e 0)∧O 3=(.func (.func 51) #[] #[(pt e 0)])∧O 5=(.func (.func 52) #[] #[])∧O 98=(Bv f4)) f4 ?_ ?_
 have h:=l9
 refine Cg (qM (.func (.func 51) #[] #[(pt e 0)]) a3 ?_)
 obtain ⟨f5,m0,h⟩:=bnd h
 have a:=a.mono b4
 have b:=b.mono b4
 have c:=c.mono b4
 have d:=d.mono b4
 refine We (callV1 (first:=#[]) (cap:=#[(pt e 0)]) co51 Z (f_record_Check_1_ok (64:Int) a0 _ _ _ _ _ _ a b c d f5 m0) (argsV1 Z Z)) Z ?_
 rintro _ u7 _ d0 ⟨_,⟨rfl,rfl⟩,rfl⟩
 refine WL.a1 (qu (Bv (!f5)) (PO.not Z) (qm (Bv (!f5)) ?_))
 rcases Bi h with⟨P,h⟩ |⟨P,h⟩
 refine qo 102 P (pt e 9) (Fa fo36_9 I Z) (qo 102 P (Bv a0.Flag) (Lb 0 pl4 Z Z Z) (qu (Bv a0.Flag) (Pt Z P Z) (qa (Bv a0.Flag) (Wz ?_))))
 obtain rfl:=oi h
 exact Tj ⟨d0,Z,I,a3,b3,Z⟩
 iterate 2 refine Of 102 Z Z P Z ?_
 refine qu (Bv false) (Pf Z P Z) (qa (Bv false) (Wz ?_))
 obtain rfl:=oi h
 exact Tj ⟨d0,Z,I,a3,b3,Z⟩
 rintro u8 s8 u9 ⟨d1,rfl,r,x,a4,e6⟩
 have b5:=b4.trans d1
 have d2:=c9.trans d1
 refine Ch h e6 (fun m1 h=> ?_) (fun m1 h=> ?_)
 refine Sr ?_
 obtain ⟨i4,m2,h⟩:=bnd h
 refine We (Ca co22 (f_fault_New_ok ⟨#[102,108,97,103]⟩ (1:Int) (1:Int) _ i4 m2) (args3 Z Z Z)) Z ?_
 rintro _ v0 _ h0 ⟨_,⟨rfl,rfl⟩,rfl⟩
 exact WL.a0 (qa (GV i4) (Nt (Cr (Br (Tr (Dr (Rf h [] Z (Rs Z Z) (d2.trans h0) ⟨Z,Z⟩)))))))
 obtain ⟨f6,m3,h⟩:=bnd h
 refine Jf (fun(f6:Bool) O M' H'=>s8.le M'∧[(e, .cells (l36 a0 p s t u).toArray 36 (0,0))]::F=H'∧O 1=(pt e 0)∧O 3=(.func (.func 51) #[] #[(pt e 0)])∧O 5=(.func (.func 52) #[] #[])∧O 107=(Bv f6)) f6 ?_ ?_
 have h:=m3
 refine WC.draw [0,1,0,4,15,31,63,127,255,127,639,2047,4095,8191,16383,32767,65535,32767,163839,524287,1048575,2097151,4194303] (.pure 0 (.pure 1 (.pure 2 (.alt 3 (.alt 4 (.pure 5 (.pure 6 (.pure 7 (.pure 8 (.pure 9 (.alt 10 (.alt 11 (.pure 12 (.pure 13 (.pure 14 (.pure 15 (.pure 16 (.pure 17 (.alt 18 (.alt 19 (.pure 20 (.pure 21 (.pure 22 .done))) .none) .none))))))) .none) .none)))))) .none) .none)))) mixed (by kernel_rfl) (qt (pt e 10) Z (Fa fo36_10 r Z) (qt (Sv a0.Name) Z (Lb 0 pl9 Z Z Z) (qt (.func (.func 51) #[] #[(pt e 0)]) Z (Mv x) ?_)))
 obtain ⟨i5,m4,h⟩:=bnd h
 have a:=a.mono b5
 have b:=b.mono b5
 have c:=c.mono b5
 have d:=d.mono b5
 refine Ta Z (callV1 (first:=#[]) (cap:=#[(pt e 0)]) co51 Z (f_record_Check_1_ok (128:Int) a0 _ _ _ _ _ _ a b c d i5 m4) (argsV1 Z Z)) Z ?_ ?_
 rintro _ v1 _ h1 ⟨_,⟨rfl,rfl⟩,rfl⟩
 refine⟨(Sk 1 Z (Ss Z (Lb 0 pl9 Z Z Z) Z (Ss Z (Fa fo36_10 r Z) Z trivial))), ?_⟩
 refine WT.a1 ?_
 obtain ⟨f7,m5,h⟩:=bnd h
 refine Ta Z (Ca co54 (f_record_text_Name_ok a0.Name i5 _ f7 m5) (args3 Z Z Z)) Z ?_ ?_
 rintro _ v2 _ h2 ⟨_,⟨rfl,rfl⟩,rfl⟩
 have a5:=h1.trans h2
 refine⟨(Sl Z), ?_⟩
 refine WT.a0 (qt (Bv (!f7)) Z (PO.not Z) (qt (Bv (!f7)) Z (Mv Z) ?_))
 rcases Bi h with⟨k,h⟩ |⟨k,h⟩
 refine Tf 114 Z Z Z k Z (Tf 114 Z Z Z k Z (Tf 114 Z Z Z k Z (Tg 114 Z Z Z k Z ⟨(Sk 1 Z (St (Sf 114 Z Z Z k Z) (St (Sf 114 Z Z Z k Z) (Sl Z)))), ?_⟩ ?_)))
 refine Tg 114 Z Z Z k Z ⟨(Sl Z), ?_⟩ ?_
 refine Tf 114 Z Z Z k Z (qt (Bv true) Z (Pt Z k Z) (qt (Bv true) Z (Mv Z) (Tf 122 Z Z Z Z Z (Tf 122 Z Z Z Z Z (Tf 122 Z Z Z Z Z (Tg 122 Z Z Z Z Z ⟨(Sk 1 Z (St (Sf 122 Z Z Z Z Z) (St (Sf 122 Z Z Z Z Z) (Sl Z)))), ?_⟩ ?_))))))
 refine Tg 122 Z Z Z Z Z ⟨(Sl Z), ?_⟩ ?_
 refine Tf 122 Z Z Z Z Z (qt (Bv true) Z (Pt Z Z Z) (qt (Bv true) Z (Ag Z) (Ti ?_)))
 obtain rfl:=oi h
 exact Tj ⟨a5,Z,r,x,a4,Z⟩
 exact Tz
 exact Tz
 exact Tz
 exact Tz
 refine Tn (pt e 11) 114 Z Z Z k (Fa fo36_11 r Z) Z (Tn (Sv a0.Key) 114 Z Z Z k (Lb 0 pl9 Z Z Z) Z (Tn (.func (.func 51) #[] #[(pt e 0)]) 114 Z Z Z k (Mv x) Z ?_))
 obtain ⟨i6,m6,h⟩:=bnd h
 have a:=a.mono a5
 have b:=b.mono a5
 have c:=c.mono a5
 have d:=d.mono a5
 refine WT.altOn 114 Z Z Z k (callV1 (first:=#[]) (cap:=#[(pt e 0)]) co51 Z (f_record_Check_1_ok (256:Int) a0 _ _ _ _ _ _ a b c d i6 m6) (argsV1 Z Z)) Z ?_ ?_
 rintro _ v3 _ B ⟨_,⟨rfl,rfl⟩,rfl⟩
 refine⟨(Sk 1 Z (St (StabA.on 114 Z Z Z k (Lb 0 pl9 Z Z Z) Z) (St (StabA.on 114 Z Z Z k (Fa fo36_11 r Z) Z) (Sl Z)))), ?_⟩
 refine WT.a1 ?_
 obtain ⟨d3,m7,h⟩:=bnd h
 refine WT.altOn 114 Z Z Z k (Ca co54 (f_record_text_Name_ok a0.Key i6 _ d3 m7) (args3 Z Z Z)) Z ?_ ?_
 rintro _ v4 _ C ⟨_,⟨rfl,rfl⟩,rfl⟩
 refine⟨(Sl Z), ?_⟩
 refine WT.a0 (Tn (Bv (!d3)) 114 Z Z Z k (PO.not Z) Z (qt (Bv (!d3)) Z (Pf Z k Z) (qt (Bv (!d3)) Z (Mv Z) ?_)))
 rcases Bi h with⟨l,h⟩ |⟨l,h⟩
 refine Tf 122 Z Z Z l Z (Tf 122 Z Z Z l Z (Tf 122 Z Z Z l Z (Tg 122 Z Z Z l Z ⟨(Sk 1 Z (St (Sf 122 Z Z Z l Z) (St (Sf 122 Z Z Z l Z) (Sl Z)))), ?_⟩ ?_)))
 refine Tg 122 Z Z Z l Z ⟨(Sl Z), ?_⟩ ?_
 refine Tf 122 Z Z Z l Z (qt (Bv true) Z (Pt Z l Z) (qt (Bv true) Z (Ag Z) (Ti ?_)))
 obtain rfl:=oi h
 exact Tj ⟨((a5.trans B).trans C),Z,r,x,a4,Z⟩
 exact Tz
 exact Tz
 refine Tn (pt e 13) 122 Z Z Z l (Fa fo36_13 r Z) Z (Tn (Sv a0.Rack) 122 Z Z Z l (Lb 0 pl9 Z Z Z) Z (Tn (.func (.func 51) #[] #[(pt e 0)]) 122 Z Z Z l (Mv x) Z ?_))
 obtain ⟨i7,m8,h⟩:=bnd h
 have a:=a.mono (B.trans C)
 have b:=b.mono (B.trans C)
 have c:=c.mono (B.trans C)
 have d:=d.mono (B.trans C)
 refine WT.altOn 122 Z Z Z l (callV1 (first:=#[]) (cap:=#[(pt e 0)]) co51 Z (f_record_Check_1_ok (1024:Int) a0 _ _ _ _ _ _ a b c d i7 m8) (argsV1 Z Z)) Z ?_ ?_
 rintro _ v5 _ h3 ⟨_,⟨rfl,rfl⟩,rfl⟩
 refine⟨(Sk 1 Z (St (StabA.on 122 Z Z Z l (Lb 0 pl9 Z Z Z) Z) (St (StabA.on 122 Z Z Z l (Fa fo36_13 r Z) Z) (Sl Z)))), ?_⟩
 refine WT.a1 ?_
 obtain ⟨d4,m9,h⟩:=bnd h
 refine WT.altOn 122 Z Z Z l (Ca co54 (f_record_text_Name_ok a0.Rack i7 _ d4 m9) (args3 Z Z Z)) Z ?_ ?_
 rintro _ v6 _ h4 ⟨_,⟨rfl,rfl⟩,rfl⟩
 refine⟨(Sl Z), ?_⟩
 refine WT.a0 (Tn (Bv (!d4)) 122 Z Z Z l (PO.not Z) Z (qt (Bv (!d4)) Z (Pf Z l Z) (qt (Bv (!d4)) Z (Ag Z) (Ti ?_))))
 obtain rfl:=oi h
 exact Tj ⟨((((a5.trans B).trans C).trans h3).trans h4),Z,r,x,a4,Z⟩
 exact Tz
 exact Tz
 exact Tz
 exact Tz
 exact Tz
 exact Tz
 rintro v7 s9 v8 ⟨d5,rfl,w,J,b6,b9⟩
 have b7:=b5.trans d5
 have d6:=d2.trans d5
 refine Ch h b9 (fun n0 h=> ?_) (fun n0 h=> ?_)
 refine Sr (qu (pt e 10) (Fa fo36_10 w Z) (qu (Sv a0.Name) (Lb 0 pl9 Z Z Z) (qu (Iv (a0.Name.size:Int)) (lenStr underlying9 Z) ?_)))
 obtain ⟨i8,n1,h⟩:=bnd h
 refine We (Ca co22 (f_fault_New_ok ⟨#[110,97,109,101]⟩ (a0.Name.size:Int) (1:Int) _ i8 n1) (args3 Z Z Z)) Z ?_
 rintro _ v9 _ h5 ⟨_,⟨rfl,rfl⟩,rfl⟩
 exact WL.a0 (qa (GV i8) (Nt (Cr (Br (Tr (Dr (Rf h [] Z (Rs Z Z) (d6.trans h5) ⟨Z,Z⟩)))))))
 obtain ⟨f8,n2,h⟩:=bnd h
 refine Jf (fun(f8:Bool) O M' H'=>s9.le M'∧[(e, .cells (l36 a0 p s t u).toArray 36 (0,0))]::F=H'∧O 1=(pt e 0)∧O 3=(.func (.func 51) #[] #[(pt e 0)])∧O 134=(Bv f8)) f8 ?_ ?_
 have h:=n2
 refine WC.draw [0,1,0,4,0,31,63,127,255,511,1023,2047,4095,8191,16383,32767,65535] (.pure 0 (.pure 1 (.pure 2 (.pure 4 (.alt 3 (.alt 5 (.pure 6 (.pure 7 (.pure 8 (.pure 9 (.pure 10 (.pure 11 (.pure 12 (.pure 13 (.pure 14 (.pure 15 (.pure 16 .done))))))))))) .none) .none))))) mixed (by kernel_rfl) (qt (pt e 12) Z (Fa fo36_12 w Z) (qt (Sv a0.Value) Z (Lb 0 pl9 Z Z Z) (qt (.func (.func 51) #[] #[(pt e 0)]) Z (Mv J) (qt (.func (.func 52) #[] #[]) Z (Mv b6) ?_))))
 obtain ⟨i9,n3,h⟩:=bnd h
 have a:=a.mono b7
 have b:=b.mono b7
 have c:=c.mono b7
 have d:=d.mono b7
 refine Ta Z (callV1 (first:=#[]) (cap:=#[(pt e 0)]) co51 Z (f_record_Check_1_ok (512:Int) a0 _ _ _ _ _ _ a b c d i9 n3) (argsV1 Z Z)) Z ?_ ?_
 rintro _ w0 _ a6 ⟨_,⟨rfl,rfl⟩,rfl⟩
 refine⟨(Ss Z (Mv b6) Z (Sk 1 Z (Ss Z (Lb 0 pl9 Z Z Z) Z (Ss Z (Fa fo36_12 w Z) Z trivial)))), ?_⟩
 refine WT.a1 ?_
 obtain ⟨f9,n4,h⟩:=bnd h
 refine Ta Z (Ca co54 (f_record_text_Check_2_ok a0.Value i9 _ f9 n4) (args3 Z Z Z)) Z ?_ ?_
 rintro _ w1 _ a7 ⟨_,⟨rfl,rfl⟩,rfl⟩
 refine⟨(Sl Z), ?_⟩
 refine WT.a0 (qt (Bv (!f9)) Z (PO.not Z) (qt (Bv (!f9)) Z (Mv Z) ?_))
 rcases Bi h with⟨v,h⟩ |⟨v,h⟩
 refine Tf 142 Z Z Z v Z (Tf 142 Z Z Z v Z (Tf 142 Z Z Z v Z (WT.pureOffU 145 Z Z Z Z (WT.pureOffU 145 Z Z Z Z (WT.pureOffU 145 Z Z Z Z (Tf 142 Z Z Z v Z (qt (Bv true) Z (Pt Z v Z) (qt (Bv true) Z (Ag Z) (Ti ?_)))))))))
 obtain rfl:=oi h
 exact Tj ⟨(a6.trans a7),Z,w,J,Z⟩
 refine Tn (pt e 9) 142 Z Z Z v (Fa fo36_9 w Z) Z (Tn (Bv a0.Flag) 142 Z Z Z v (Lb 0 pl4 Z Z Z) Z (Tn (Bv a0.Flag) 142 Z Z Z v (Mv Z) Z ?_))
 rcases Bi h with⟨y,h⟩ |⟨y,h⟩
 refine Tn (pt e 12) 145 Z Z Z y (Fa fo36_12 w Z) Z (Tn (Sv a0.Value) 145 Z Z Z y (Lb 0 pl9 Z Z Z) Z (Tn (Bv (!decide (a0.Value=(⟨#[]⟩:ByteArray)))) 145 Z Z Z y (sneq Z Z) Z (Tn (Bv (!decide (a0.Value=(⟨#[]⟩:ByteArray)))) 142 Z Z Z v (Pt Z y Z) Z (qt (Bv (!decide (a0.Value=(⟨#[]⟩:ByteArray)))) Z (Pf Z v Z) (qt (Bv (!decide (a0.Value=(⟨#[]⟩:ByteArray)))) Z (Ag Z) (Ti ?_))))))
 obtain rfl:=oi h
 exact Tj ⟨(a6.trans a7),Z,w,J,Z⟩
 refine Tf 145 Z Z Z y Z (Tf 145 Z Z Z y Z (Tf 145 Z Z Z y Z (Tn (Bv false) 142 Z Z Z v (Pf Z y Z) Z (qt (Bv false) Z (Pf Z v Z) (qt (Bv false) Z (Ag Z) (Ti ?_))))))
 obtain rfl:=oi h
 exact Tj ⟨(a6.trans a7),Z,w,J,Z⟩
 exact Tz
 exact Tz
 rintro w2 t0 w3 ⟨d7,rfl,g,K,c0⟩
 have b8:=b7.trans d7
 have a8:=d6.trans d7
 refine Ch h c0 (fun n5 h=> ?_) (fun n5 h=> ?_)
 refine Sr (qu (pt e 12) (Fa fo36_12 g Z) (qu (Sv a0.Value) (Lb 0 pl9 Z Z Z) (qu (Iv (a0.Value.size:Int)) (lenStr underlying9 Z) ?_)))
 obtain ⟨j0,n6,h⟩:=bnd h
 refine We (Ca co22 (f_fault_New_ok ⟨#[118,97,108,117,101]⟩ (a0.Value.size:Int) (6:Int) _ j0 n6) (args3 Z Z Z)) Z ?_
 rintro _ w4 _ h6 ⟨_,⟨rfl,rfl⟩,rfl⟩
 exact WL.a0 (qa (GV j0) (Nt (Cr (Br (Tr (Dr (Rf h [] Z (Rs Z Z) (a8.trans h6) ⟨Z,Z⟩)))))))
 obtain ⟨g0,n7,h⟩:=bnd h
 refine Jf (fun(g0:Bool) O M' H'=>t0.le M'∧[(e, .cells (l36 a0 p s t u).toArray 36 (0,0))]::F=H'∧O 1=(pt e 0)∧O 155=(Bv g0)) g0 ?_ ?_
 have h:=n7
 refine WC.draw [0,1,0,4,15,31,63,127,255,127,639,2047,4095,8191,16383,32767,65535,32767,163839,524287,1048575,2097151,4194303,8388607,16777215,8388607,41943039,134217727,268435455,536870911,1073741823] (.pure 0 (.pure 1 (.pure 2 (.alt 3 (.alt 4 (.pure 5 (.pure 6 (.pure 7 (.pure 8 (.pure 9 (.alt 10 (.alt 11 (.pure 12 (.pure 13 (.pure 14 (.pure 15 (.pure 16 (.pure 17 (.alt 18 (.alt 19 (.pure 20 (.pure 21 (.pure 22 (.pure 23 (.pure 24 (.pure 25 (.alt 26 (.alt 27 (.pure 28 (.pure 29 (.pure 30 .done))) .none) .none))))))) .none) .none))))))) .none) .none)))))) .none) .none)))) mixed (by kernel_rfl) (qt (pt e 14) Z (Fa fo36_14 g Z) (qt p Z (Lb 0 pl34 Z Z Z) (qt (.func (.func 51) #[] #[(pt e 0)]) Z (Mv K) ?_)))
 obtain ⟨j1,n8,h⟩:=bnd h
 have a:=a.mono b8
 have b:=b.mono b8
 have c:=c.mono b8
 have d:=d.mono b8
 refine Ta Z (callV1 (first:=#[]) (cap:=#[(pt e 0)]) co51 Z (f_record_Check_1_ok (2048:Int) a0 _ _ _ _ _ _ a b c d j1 n8) (argsV1 Z Z)) Z ?_ ?_
 rintro _ w5 _ a9 ⟨_,⟨rfl,rfl⟩,rfl⟩
 refine⟨(Sk 1 Z (Ss Z (Lb 0 pl34 Z Z Z) Z (Ss Z (Fa fo36_14 g Z) Z trivial))), ?_⟩
 refine WT.a1 ?_
 obtain ⟨g1,n9,h⟩:=bnd h
 have a:=a.mono a9
 refine Ta Z (Ca co56 (f_record_row_ok a0.Ids j1 _ _ a g1 n9) (args2 Z Z)) Z ?_ ?_
 rintro _ w6 _ b0 ⟨_,⟨rfl,rfl⟩,rfl⟩
 have d8:=a9.trans b0
 refine⟨(Sl Z), ?_⟩
 refine WT.a0 (qt (Bv (!g1)) Z (PO.not Z) (qt (Bv (!g1)) Z (Mv Z) ?_))
 rcases Bi h with⟨m,h⟩ |⟨m,h⟩
 refine Tf 162 Z Z Z m Z (Tf 162 Z Z Z m Z (Tf 162 Z Z Z m Z (Tg 162 Z Z Z m Z ⟨(Sk 1 Z (St (Sf 162 Z Z Z m Z) (St (Sf 162 Z Z Z m Z) (Sl Z)))), ?_⟩ ?_)))
 refine Tg 162 Z Z Z m Z ⟨(Sl Z), ?_⟩ ?_
 refine Tf 162 Z Z Z m Z (qt (Bv true) Z (Pt Z m Z) (qt (Bv true) Z (Mv Z) (Tf 170 Z Z Z Z Z (Tf 170 Z Z Z Z Z (Tf 170 Z Z Z Z Z (Tg 170 Z Z Z Z Z ⟨(Sk 1 Z (St (Sf 170 Z Z Z Z Z) (St (Sf 170 Z Z Z Z Z) (Sl Z)))), ?_⟩ ?_))))))
 refine Tg 170 Z Z Z Z Z ⟨(Sl Z), ?_⟩ ?_
 refine Tf 170 Z Z Z Z Z (qt (Bv true) Z (Pt Z Z Z) (qt (Bv true) Z (Mv Z) (Tf 178 Z Z Z Z Z (Tf 178 Z Z Z Z Z (Tf 178 Z Z Z Z Z (Tg 178 Z Z Z Z Z ⟨(Sk 1 Z (St (Sf 178 Z Z Z Z Z) (St (Sf 178 Z Z Z Z Z) (Sl Z)))), ?_⟩ ?_))))))
 refine Tg 178 Z Z Z Z Z ⟨(Sl Z), ?_⟩ ?_
 refine Tf 178 Z Z Z Z Z (qt (Bv true) Z (Pt Z Z Z) (qt (Bv true) Z (Ag Z) (Ti ?_)))
 obtain rfl:=oi h
 exact Tj ⟨d8,Z,g,Z⟩
 exact Tz
 exact Tz
 exact Tz
 exact Tz
 exact Tz
 exact Tz
 refine Tn (pt e 15) 162 Z Z Z m (Fa fo36_15 g Z) Z (Tn s 162 Z Z Z m (Lb 0 pl34 Z Z Z) Z (Tn (.func (.func 51) #[] #[(pt e 0)]) 162 Z Z Z m (Mv K) Z ?_))
 obtain ⟨j2,o0,h⟩:=bnd h
 have a:=a.mono b0
 have b:=b.mono d8
 have c:=c.mono d8
 have d:=d.mono d8
 refine WT.altOn 162 Z Z Z m (callV1 (first:=#[]) (cap:=#[(pt e 0)]) co51 Z (f_record_Check_1_ok (4096:Int) a0 _ _ _ _ _ _ a b c d j2 o0) (argsV1 Z Z)) Z ?_ ?_
 rintro _ w7 _ L ⟨_,⟨rfl,rfl⟩,rfl⟩
 refine⟨(Sk 1 Z (St (StabA.on 162 Z Z Z m (Lb 0 pl34 Z Z Z) Z) (St (StabA.on 162 Z Z Z m (Fa fo36_15 g Z) Z) (Sl Z)))), ?_⟩
 refine WT.a1 ?_
 obtain ⟨d9,o1,h⟩:=bnd h
 have b:=b.mono L
 refine WT.altOn 162 Z Z Z m (Ca co56 (f_record_row_ok a0.Isr j2 _ _ b d9 o1) (args2 Z Z)) Z ?_ ?_
 rintro _ w8 _ N ⟨_,⟨rfl,rfl⟩,rfl⟩
 have g2:=((a9.trans b0).trans L).trans N
 refine⟨(Sl Z), ?_⟩
 refine WT.a0 (Tn (Bv (!d9)) 162 Z Z Z m (PO.not Z) Z (qt (Bv (!d9)) Z (Pf Z m Z) (qt (Bv (!d9)) Z (Mv Z) ?_)))
 rcases Bi h with⟨n,h⟩ |⟨n,h⟩
 refine Tf 170 Z Z Z n Z (Tf 170 Z Z Z n Z (Tf 170 Z Z Z n Z (Tg 170 Z Z Z n Z ⟨(Sk 1 Z (St (Sf 170 Z Z Z n Z) (St (Sf 170 Z Z Z n Z) (Sl Z)))), ?_⟩ ?_)))
 refine Tg 170 Z Z Z n Z ⟨(Sl Z), ?_⟩ ?_
 refine Tf 170 Z Z Z n Z (qt (Bv true) Z (Pt Z n Z) (qt (Bv true) Z (Mv Z) (Tf 178 Z Z Z Z Z (Tf 178 Z Z Z Z Z (Tf 178 Z Z Z Z Z (Tg 178 Z Z Z Z Z ⟨(Sk 1 Z (St (Sf 178 Z Z Z Z Z) (St (Sf 178 Z Z Z Z Z) (Sl Z)))), ?_⟩ ?_))))))
 refine Tg 178 Z Z Z Z Z ⟨(Sl Z), ?_⟩ ?_
 refine Tf 178 Z Z Z Z Z (qt (Bv true) Z (Pt Z Z Z) (qt (Bv true) Z (Ag Z) (Ti ?_)))
 obtain rfl:=oi h
 exact Tj ⟨g2,Z,g,Z⟩
 exact Tz
 exact Tz
 exact Tz
 exact Tz
 refine Tn (pt e 16) 170 Z Z Z n (Fa fo36_16 g Z) Z (Tn t 170 Z Z Z n (Lb 0 pl34 Z Z Z) Z (Tn (.func (.func 51) #[] #[(pt e 0)]) 170 Z Z Z n (Mv K) Z ?_))
 obtain ⟨j3,o2,h⟩:=bnd h
 have a:=a.mono (L.trans N)
 have b:=b.mono N
 have c:=c.mono (L.trans N)
 have d:=d.mono (L.trans N)
 refine WT.altOn 170 Z Z Z n (callV1 (first:=#[]) (cap:=#[(pt e 0)]) co51 Z (f_record_Check_1_ok (8192:Int) a0 _ _ _ _ _ _ a b c d j3 o2) (argsV1 Z Z)) Z ?_ ?_
 rintro _ w9 _ D ⟨_,⟨rfl,rfl⟩,rfl⟩
 refine⟨(Sk 1 Z (St (StabA.on 170 Z Z Z n (Lb 0 pl34 Z Z Z) Z) (St (StabA.on 170 Z Z Z n (Fa fo36_16 g Z) Z) (Sl Z)))), ?_⟩
 refine WT.a1 ?_
 obtain ⟨e0,o3,h⟩:=bnd h
 have c:=c.mono D
 refine WT.altOn 170 Z Z Z n (Ca co56 (f_record_row_ok a0.Add j3 _ _ c e0 o3) (args2 Z Z)) Z ?_ ?_
 rintro _ x0 _ E ⟨_,⟨rfl,rfl⟩,rfl⟩
 refine⟨(Sl Z), ?_⟩
 refine WT.a0 (Tn (Bv (!e0)) 170 Z Z Z n (PO.not Z) Z (qt (Bv (!e0)) Z (Pf Z n Z) (qt (Bv (!e0)) Z (Mv Z) ?_)))
 rcases Bi h with⟨o,h⟩ |⟨o,h⟩
 refine Tf 178 Z Z Z o Z (Tf 178 Z Z Z o Z (Tf 178 Z Z Z o Z (Tg 178 Z Z Z o Z ⟨(Sk 1 Z (St (Sf 178 Z Z Z o Z) (St (Sf 178 Z Z Z o Z) (Sl Z)))), ?_⟩ ?_)))
 refine Tg 178 Z Z Z o Z ⟨(Sl Z), ?_⟩ ?_
 refine Tf 178 Z Z Z o Z (qt (Bv true) Z (Pt Z o Z) (qt (Bv true) Z (Ag Z) (Ti ?_)))
 obtain rfl:=oi h
 exact Tj ⟨((g2.trans D).trans E),Z,g,Z⟩
 exact Tz
 exact Tz
 refine Tn (pt e 17) 178 Z Z Z o (Fa fo36_17 g Z) Z (Tn u 178 Z Z Z o (Lb 0 pl34 Z Z Z) Z (Tn (.func (.func 51) #[] #[(pt e 0)]) 178 Z Z Z o (Mv K) Z ?_))
 obtain ⟨j4,o4,h⟩:=bnd h
 have a:=a.mono (D.trans E)
 have b:=b.mono (D.trans E)
 have c:=c.mono E
 have d:=d.mono (D.trans E)
 refine WT.altOn 178 Z Z Z o (callV1 (first:=#[]) (cap:=#[(pt e 0)]) co51 Z (f_record_Check_1_ok (8192:Int) a0 _ _ _ _ _ _ a b c d j4 o4) (argsV1 Z Z)) Z ?_ ?_
 rintro _ x1 _ e1 ⟨_,⟨rfl,rfl⟩,rfl⟩
 refine⟨(Sk 1 Z (St (StabA.on 178 Z Z Z o (Lb 0 pl34 Z Z Z) Z) (St (StabA.on 178 Z Z Z o (Fa fo36_17 g Z) Z) (Sl Z)))), ?_⟩
 refine WT.a1 ?_
 obtain ⟨e2,o5,h⟩:=bnd h
 have d:=d.mono e1
 refine WT.altOn 178 Z Z Z o (Ca co56 (f_record_row_ok a0.Drop j4 _ _ d e2 o5) (args2 Z Z)) Z ?_ ?_
 rintro _ x2 _ h7 ⟨_,⟨rfl,rfl⟩,rfl⟩
 refine⟨(Sl Z), ?_⟩
 refine WT.a0 (Tn (Bv (!e2)) 178 Z Z Z o (PO.not Z) Z (qt (Bv (!e2)) Z (Pf Z o Z) (qt (Bv (!e2)) Z (Ag Z) (Ti ?_))))
 obtain rfl:=oi h
 exact Tj ⟨((((g2.trans D).trans E).trans e1).trans h7),Z,g,Z⟩
 exact Tz
 exact Tz
 exact Tz
 exact Tz
 exact Tz
 exact Tz
 exact Tz
 exact Tz
 rintro x3 x4 x5 ⟨b1,rfl,g3,c1⟩
 refine Ch h c1 (fun o6 h=> ?_) (fun o6 h=> ?_)
 refine Sr (qu (pt e 14) (Fa fo36_14 g3 Z) (qu p (Lb 0 pl34 Z Z Z) ?_))
 have a:=a.mono (b8.trans b1)
 refine qu (Iv (a0.Ids.length:Int)) (lenS underlying34 Z a.len) ?_
 obtain ⟨j5,o7,h⟩:=bnd h
 refine We (Ca co22 (f_fault_New_ok ⟨#[114,111,119]⟩ (a0.Ids.length:Int) (18:Int) _ j5 o7) (args3 Z Z Z)) Z ?_
 rintro _ x6 _ h8 ⟨_,⟨rfl,rfl⟩,rfl⟩
 exact WL.a0 (qa (GV j5) (Nt (Cr (Br (Tr (Dr (Rf h [] Z (Rs Z Z) ((a8.trans b1).trans h8) ⟨Z,Z⟩)))))))
 exact Ck (Bn (Tc (Sr (qa (GV GErr.nil) (Nt (Cr (Dr (Rf h [] Z (Rs Z Z) (a8.trans b1) ⟨Z,Z⟩))))))))
 exact Tz
 exact Tz
 exact Tz
 exact Tz
 exact Tz
 exact Tz
 exact Tz
 exact Tz
 exact Tz
 exact Tz
noncomputable def f_fault_Wrap (a0:ByteArray) (a1:Int) (a2:GErr):Option GErr:=
 (if a2.isNil=true then(some GErr.nil)else(some (GErr.fault a0 a1 a2)))
def f_fault_Wrap_post (a0:ByteArray) (a1:Int) (a2:GErr):GErr→Value→IM→HL→Prop:=
 fun(a:GErr) (v:Value) (c:IM) (b:HL)=>(GV a)=v∧b=[]
theorem f_fault_Wrap_ok (a0:ByteArray) (a1:Int) (a2:GErr) (M:IM) (a:GErr) (h:f_fault_Wrap a0 a1 a2=some a):
 Tri prog 21 #[(Sv a0),(Iv a1),(GV a2)] M [] (f_fault_Wrap_post a0 a1 a2 a):=by
 unfold f_fault_Wrap at h
 refine Te func21 Z Z ?_
 intro F d c
 refine Sr (qa (GV GErr.nil) (Nt (Cs (Sr (qM (GV a2) (c 2) (qu (Bv a2.isNil) (errNil underlying40 Z) (Nt (Ch h Z (fun b h=> ?_) (fun b h=> ?_)))))))))
 exact Sr (qa (GV GErr.nil) (Nt (Cr (Tr (Rf h [] Z (Rs Z Z) lr ⟨Z,Z⟩)))))
 exact Ck (Tc (Sr (qM (Sv a0) (c 0) (qM (Iv a1) (c 1) (qM (GV a2) (c 2) (qu (.agg #[(Sv a0),(Iv a1),(GV a2)]) (Bl (cl:=[(Sv a0),(Iv a1),(GV a2)]) ze74 fp74 (Pc (Sv a0) Z Z (Pc (Iv a1) Z Z (Parts.cons ((congrArg Value.cells (show ev _ _=(GV a2) from Z)).trans (GErr.val_cells _ _ _ _)) Pz))) Z) (qu (GV (GErr.fault a0 a1 a2)) (makeInterface cc74 Z) (qa (GV (GErr.fault a0 a1 a2)) (Nt (Cr (Rf h [] Z (Rs Z Z) lr ⟨Z,Z⟩)))))))))))

end Go.Proofs.YtpmofealbmapiaaDoor.G
