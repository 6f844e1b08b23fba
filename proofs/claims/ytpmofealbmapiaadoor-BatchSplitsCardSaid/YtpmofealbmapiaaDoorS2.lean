/- Go functions: what they come to, and that they do. Printed by a program of the session (gen). -/
import Derived.Test.YtpmofealbmapiaaDoorSF
import Derived.Test.YtpmofealbmapiaaDoorS0
import Derived.Test.YtpmofealbmapiaaDoorS1
import Derived.Test.YtpmofealbmapiaaDoorKShar2
import Derived.Test.YtpmofealbmapiaaDoorKConv
import Derived.Test.YtpmofealbmapiaaDoorKShar
import Derived.Test.YtpmofealbmapiaaDoorKArith
import Derived.Test.YtpmofealbmapiaaDoorKTight2
set_option linter.unusedVariables false
set_option linter.unusedSimpArgs false
set_option maxHeartbeats 8000000
set_option maxRecDepth 100000
namespace Go.Proofs.YtpmofealbmapiaaDoor.G
open Go Go.KK
open PO EO IntKind Sum Tryd

noncomputable def f_wire_Reader_Flag (a0:T_wire_Reader):Option (Bool×Int×GErr):=
 (((if(!a0.err.isNil)=true then(some (inl a0.err))else(if(decide ((a0.b.length:Int)≤a0.at_))=true then((f_wire_Reader_fail a0 (⟨#[102,108,97,103]⟩:ByteArray) a0.at_ (3:Int)).bind fun a=>(some (inl a)))else(grd (0≤a0.at_∧a0.at_<a0.b.length) (if(decide ((1:Int)<(rd a0.b a0.at_)))=true then((f_wire_Reader_fail a0 (⟨#[102,108,97,103]⟩:ByteArray) a0.at_ (5:Int)).bind fun c=>(some (inl c)))else(grd (0≤i64.wrap ((i64.wrap (a0.at_+(1:Int)))- (1:Int))∧i64.wrap ((i64.wrap (a0.at_+(1:Int)))- (1:Int))<a0.b.length) (((some (decide ((rd a0.b (i64.wrap ((i64.wrap (a0.at_+(1:Int)))- (1:Int))))=(1:Int)),i64.wrap (a0.at_+(1:Int)),a0.err))).bind fun r=>some (inr r))))))):Option (GErr⊕(Bool×Int×GErr))).bind (Sum.elim (fun(d:GErr)=>(some (false,a0.at_,d))) some))
def f_wire_Reader_Flag_post (a0:T_wire_Reader) (a:Value) (b:Nat):(Bool×Int×GErr)→Value→IM→HL→Prop:=
 fun(c:(Bool×Int×GErr)) (v:Value) (i:IM) (d:HL)=>match c with |(e,f,g)=>(.bool e)=v∧d=[[(b, .cells #[a,(.int .i64 f),(GV g)] 76 (0,0))]]
theorem f_wire_Reader_Flag_ok (a0:T_wire_Reader) (M:IM) (c:Value) (a:Nat) (d:RS (Kd.int .u8) M c a0.b) (r:(Bool×Int×GErr)) (h:f_wire_Reader_Flag a0=some r):
 Tri prog 60 #[(pt a 0)] M [[(a, .cells #[c,(Iv a0.at_),(GV a0.err)] 76 (0,0))]] (f_wire_Reader_Flag_post a0 c a r):=by
 unfold f_wire_Reader_Flag at h
 refine Te func60 Z Z ?_
 intro F R g
 refine Sr (qa (Bv false) (Nt ?_))
 obtain ⟨z,s,h⟩:=bnd h
 refine WC.joinE (fun(i:GErr) Q I J=>M.le I∧[(a, .cells #[c,(Iv a0.at_),(GV i)] 76 (0,0))]::F=J) z ?_ ?_
 have t:=h
 have h:=s
 refine Bk (Sr (qM (pt a 0) (g 0) (qu (pt a 0) (Nk Z) (qu (pt a 2) (Fa fo76_2 Z Z) (qu (GV a0.err) (Lb 0 pl40 Z Z Z) (qu (Bv (!a0.err.isNil)) (errNotNil underlying40 Z) (qa (Bv (!a0.err.isNil)) (Nt (Ch h Z (fun u h=> ?_) (fun u h=> ?_))))))))))
 exact Ck (Bn (WQ.thenFE h ⟨lr,Z⟩))
 refine Cs (WC.draw [0,1,3,7,0,16,48,112,240,511,1023] (.pure 0 (.pure 1 (.pure 2 (.pure 3 (.pure 4 (.pure 5 (.pure 6 (.pure 7 (.pure 8 (.pure 9 (.pure 10 .done))))))))))) mixed (by kernel_rfl) (qt (pt a 0) Z (Mv (g 0)) (qt (pt a 0) Z (Nk Z) (qt (pt a 1) Z (Fa fo76_1 Z Z) (qt (Iv a0.at_) Z (Lb 0 pl3 Z Z Z) (qt (pt a 0) Z (Mv (g 0)) (qt (pt a 0) Z (Nk Z) (qt (pt a 0) Z (Fa fo76_0 Z Z) (qt c Z (Lb 0 pl38 Z Z Z) (qt (Iv (a0.b.length:Int)) Z (lenS underlying38 Z d.len) (qt (Bv (decide ((a0.b.length:Int)≤a0.at_))) Z (geq Z Z) ?_)))))))))))
 refine qt (Bv (decide ((a0.b.length:Int)≤a0.at_))) Z (Ag Z) (Ti (Tc (Ch h Z (fun v h=> ?_) (fun v h=> ?_))))
 refine Cg (qM (pt a 0) (g 0) (qM (pt a 0) (g 0) (qu (pt a 0) (Nk Z) (qu (pt a 1) (Fa fo76_1 Z Z) (qu (Iv a0.at_) (Lb 0 pl3 Z Z Z) ?_)))))
 obtain ⟨A,w,h⟩:=bnd h
 refine We (Cb co45 (f_wire_Reader_fail_ok a0 (⟨#[102,108,97,103]⟩:ByteArray) a0.at_ (3:Int) _ _ _ d A w) (args4 Z Z Z Z)) Z ?_
 rintro _ K _ j ⟨_,⟨rfl,rfl⟩,rfl⟩
 exact WL.a1 (Wz (Bn (WQ.thenFE h ⟨j,Z⟩)))
 refine Cs (WC.draw [0,1,3,7,0,16,48,112,255,511,1023,2047] (.pure 0 (.pure 1 (.pure 2 (.pure 3 (.pure 4 (.pure 5 (.pure 6 (.pure 7 (.pure 8 (.pure 9 (.pure 10 (.pure 11 .done)))))))))))) mixed (by kernel_rfl) (qt (pt a 0) Z (Mv (g 0)) (qt (pt a 0) Z (Nk Z) (qt (pt a 0) Z (Fa fo76_0 Z Z) (qt c Z (Lb 0 pl38 Z Z Z) (qt (pt a 0) Z (Mv (g 0)) (qt (pt a 0) Z (Nk Z) (qt (pt a 1) Z (Fa fo76_1 Z Z) (qt (Iv a0.at_) Z (Lb 0 pl3 Z Z Z) ?_)))))))))
 obtain ⟨e,h⟩:=grd_i h
 obtain ⟨B,E,k,l,hhas34⟩:=d.at e.1 e.2 (by decide)
 obtain rfl:=l
 refine qt (.pointer (some B)) Z (indexAddr (n:=a0.b.length) underlying38 sz5 Z Z e.1 e.2 k) (qt (Yv (rd a0.b a0.at_)) Z (loadM pl5 Z (IM.has0 hhas34)) (qt (Bv (decide ((1:Int)<(rd a0.b a0.at_)))) Z (gtr Z Z) (qt (Bv (decide ((1:Int)<(rd a0.b a0.at_)))) Z (Ag Z) (Ti (Tc (Ch h Z (fun x h=> ?_) (fun x h=> ?_)))))))
 refine Cg (qM (pt a 0) (g 0) (qM (pt a 0) (g 0) (qu (pt a 0) (Nk Z) (qu (pt a 1) (Fa fo76_1 Z Z) (qu (Iv a0.at_) (Lb 0 pl3 Z Z Z) ?_)))))
 obtain ⟨C,y,h⟩:=bnd h
 refine We (Cb co45 (f_wire_Reader_fail_ok a0 (⟨#[102,108,97,103]⟩:ByteArray) a0.at_ (5:Int) _ _ _ d C y) (args4 Z Z Z Z)) Z ?_
 rintro _ L _ m ⟨_,⟨rfl,rfl⟩,rfl⟩
 exact WL.a1 (Wz (Bn (WQ.thenFE h ⟨m,Z⟩)))
 refine Sr (qM (pt a 0) (g 0) (qu (pt a 0) (Nk Z) (qu (pt a 1) (Fa fo76_1 Z Z) (qu (Iv a0.at_) (Lb 0 pl3 Z Z Z) (qu (Iv (i64.wrap (a0.at_+1))) (add Z Z) (qu (pt a 0) (Nk Z) (qu (pt a 1) (Fa fo76_1 Z Z) (We (Es (Iv (i64.wrap (a0.at_+1))) [c,(Iv (i64.wrap (a0.at_+1))),(GV a0.err)] Z sz3 Z Z Z Z Z Z) Z ?_))))))))
 rintro _ _ _ - ⟨rfl,rfl⟩
 refine Nt (Cs (WC.draw [0,1,3,7,0,16,48,112,240,511,1023,2047,4095] (.pure 0 (.pure 1 (.pure 2 (.pure 3 (.pure 4 (.pure 5 (.pure 6 (.pure 7 (.pure 8 (.pure 9 (.pure 10 (.pure 11 (.pure 12 .done))))))))))))) mixed (by kernel_rfl) (qt (pt a 0) Z (Mv (g 0)) (qt (pt a 0) Z (Nk Z) (qt (pt a 0) Z (Fa fo76_0 Z Z) (qt c Z (Lb 0 pl38 Z Z Z) (qt (pt a 0) Z (Mv (g 0)) (qt (pt a 0) Z (Nk Z) (qt (pt a 1) Z (Fa fo76_1 Z Z) (qt (Iv (i64.wrap (a0.at_+1))) Z (Lb 0 pl3 Z Z Z) (qt (Iv (i64.wrap ((i64.wrap (a0.at_+1))- 1))) Z (PO.sub Z Z) ?_)))))))))))
 obtain ⟨f,h⟩:=grd_i h
 obtain ⟨D,G,o,p,hhas46⟩:=d.at f.1 f.2 (by decide)
 obtain rfl:=p
 refine qt (.pointer (some D)) Z (indexAddr (n:=a0.b.length) underlying38 sz5 Z Z f.1 f.2 o) (qt (Yv (rd a0.b (i64.wrap ((i64.wrap (a0.at_+1))- 1)))) Z (loadM pl5 Z (IM.has0 hhas46)) (qt (Bv (decide ((rd a0.b (i64.wrap ((i64.wrap (a0.at_+1))- 1)))=1))) Z (eql Z Z) (qt (Bv (decide ((rd a0.b (i64.wrap ((i64.wrap (a0.at_+1))- 1)))=1))) Z (Ag Z) (Ti (Tc (Cr (Br (Tr ?_))))))))
 have h:=KK.early h t
 exact Rf h [[(a, .cells #[c,(Iv (i64.wrap (a0.at_+1))),(GV a0.err)] 76 (0,0))]] Z (Rs Z Z) lr ⟨Z,Z⟩
 rintro i N O P rfl ⟨q,rfl⟩
 have h:=(Sum.elim_inl _ _ _).symm.trans h
 exact Sr (qa (Bv false) (Nt (Cr (Rf h [[(a, .cells #[c,(Iv a0.at_),(GV i)] 76 (0,0))]] Z (Rs Z Z) q ⟨Z,Z⟩))))
noncomputable def f_slices_Clone_byte_byte (a0:(List Int)):Option (List Int):=
 (grd (([]:List Int).length+a0.length≤274877906944) (some (([]:List Int)++a0)))
def f_slices_Clone_byte_byte_post (a0:(List Int)) (f:Value):(List Int)→Value→IM→HL→Prop:=
 fun(c:(List Int)) (v:Value) (d:IM) (e:HL)=>∃ a b,a=v∧e=[b]∧OwnS (Kd.int .u8) d a c b
theorem f_slices_Clone_byte_byte_ok (a0:(List Int)) (M:IM) (d:Value) (k:RS (Kd.int .u8) M d a0) (e:(List Int)) (h:f_slices_Clone_byte_byte a0=some e):
 Tri prog 68 #[d] M [] (f_slices_Clone_byte_byte_post a0 d e):=by
 unfold f_slices_Clone_byte_byte at h
 refine Te func68 Z Z ?_
 intro F o n
 refine Sr (qa Zs (Nt (Cs (Sr (qM d (n 0) (qu (Bv (nilS d)) (sliceNil underlying38 Z k.len Z) (Nt (Cd (b:=nilS d) Z (fun c=> ?_) (fun c=> ?_)))))))))
 obtain rfl:=k.nilxs (by decide) c
 have h:=Eq.trans (a:=((some []):Option (List Int))) (by simp [grd]) h
 exact Sr (qa Zs (Nt (Cr (Tr (WQ.e0 (Rf h [[]] Z (Rs Z Z) lr ⟨Zs,[],Z,Z,(OwnS.nil _ _)⟩))))))
 refine Ck (Tc (Sr (We (buildSliceL (cl:=[]) underlying38 iz5 Z Pz Z) Z ?_)))
 rintro _ _ _ - ⟨rfl,f,rfl,rfl⟩
 have l:OwnS (Kd.int .u8) M (.slice (some ⟨f,0,none⟩) 0 0) [] [(f, .cells #[] 5 (0,0))]:=OwnS.rows (css:=[]) Rows.nil Z Z
 refine qM d (n 0) ?_
 obtain ⟨g,h⟩:=grd_i h
 refine We (append (dd:=(Kd.int .u8)) (xs:=[]) (ys:=a0) underlying38 underlying38 in5 Z (appB (by decide) g) (by decide) Z Z l (k.src _)) Z ?_
 rintro i _ _ - ⟨rfl,j,rfl,m⟩
 exact qa i (Nt (Cr (Rf h [j] Z (Rs Z Z) lr ⟨i,j,Z,Z,m⟩)))
noncomputable def f_wire_Reader_Text (a0:T_wire_Reader) (a1:Int):Option ((List Int)×Int×GErr):=
 ((f_wire_Reader_Int a0 a1).bind fun(a,c,d)=>(if(!d.isNil)=true then(some ([],c,d))else(if(decide ((i64.wrap ((a0.b.length:Int)- c))<a))=true then((f_wire_Reader_fail (⟨a0.b,a0.at_,d⟩:T_wire_Reader) (⟨#[116,101,120,116]⟩:ByteArray) a0.at_ (3:Int)).bind fun e=>(some ([],a0.at_,e)))else(grd (0≤i64.wrap ((i64.wrap (c+a))- a)∧i64.wrap ((i64.wrap (c+a))- a)≤i64.wrap (c+a)∧i64.wrap (c+a)≤(a0.b.length:Int)) ((f_slices_Clone_byte_byte (sub a0.b (i64.wrap ((i64.wrap (c+a))- a)) (i64.wrap (c+a)))).bind fun f=>(some (f,i64.wrap (c+a),d)))))))
def f_wire_Reader_Text_post (a0:T_wire_Reader) (a1:Int) (a:Value) (d:Nat):((List Int)×Int×GErr)→Value→IM→HL→Prop:=
 fun(e:((List Int)×Int×GErr)) (v:Value) (f:IM) (g:HL)=>match e with |(i,j,k)=>∃ b c,b=v∧g=[[(d, .cells #[a,(.int .i64 j),(GV k)] 76 (0,0))],c]∧OwnS (Kd.int .u8) f b i c
theorem f_wire_Reader_Text_ok (a0:T_wire_Reader) (a1:Int) (M:IM) (e:Value) (d:Nat) (f:RS (Kd.int .u8) M e a0.b) (r:((List Int)×Int×GErr)) (h:f_wire_Reader_Text a0 a1=some r):
 Tri prog 62 #[(pt d 0),(Iv a1)] M [[(d, .cells #[e,(Iv a0.at_),(GV a0.err)] 76 (0,0))]] (f_wire_Reader_Text_post a0 a1 e d r):=by
 unfold f_wire_Reader_Text at h
 refine Te func62 Z Z ?_
 intro F E k
 refine Sr (qa Zs (Ns (qM (pt d 0) (k 0) (qu (pt d 0) (Nk Z) (qu (pt d 1) (Fa fo76_1 Z Z) (qu (Iv a0.at_) (Lb 0 pl3 Z Z Z) (qa (Iv a0.at_) (Ns (qM (pt d 0) (k 0) (qM (Iv a1) (k 1) ?_))))))))))
 obtain ⟨⟨a,c,j⟩,s,h⟩:=bnd h
 refine We (Cb co41 (f_wire_Reader_Int_ok a0 a1 _ _ _ f (a,c,j) s) (args2 Z Z)) Z ?_
 rintro _ B _ i ⟨_,⟨rfl,rfl⟩,rfl⟩
 refine WL.a1 (qa (Iv a) (Nt (Cs (Sr (qM (pt d 0) (k 0) (qu (pt d 0) (Nk Z) (qu (pt d 2) (Fa fo76_2 Z Z) (qu (GV j) (Lb 0 pl40 Z Z Z) (qu (Bv (!j.isNil)) (errNotNil underlying40 Z) (Nt (Ch h Z (fun t h=> ?_) (fun t h=> ?_))))))))))))
 exact Sr (qa Zs (Nt (Cr (Tr (WQ.e0 (Qa (Rf h [[(d, .cells #[e,(Iv c),(GV j)] 76 (0,0))],[]] Z (Rs Z Z) i ⟨Zs,[],Z,Z,(OwnS.nil _ _)⟩)))))))
 refine Ck (Tc (Cs (Cs (WC.draw [0,0,2,6,14,30,0,64,192,448,1022,2047] (.pure 0 (.pure 1 (.pure 2 (.pure 3 (.pure 4 (.pure 5 (.pure 6 (.pure 7 (.pure 8 (.pure 9 (.pure 10 (.pure 11 .done)))))))))))) mixed (by kernel_rfl) (qt (Iv a) Z (Mv Z) (qt (pt d 0) Z (Mv (k 0)) (qt (pt d 0) Z (Nk Z) (qt (pt d 0) Z (Fa fo76_0 Z Z) (qt e Z (Lb 0 pl38 Z Z Z) ?_)))))))))
 have f:=f.mono i
 refine qt (Iv (a0.b.length:Int)) Z (lenS underlying38 Z f.len) (qt (pt d 0) Z (Mv (k 0)) (qt (pt d 0) Z (Nk Z) (qt (pt d 1) Z (Fa fo76_1 Z Z) (qt (Iv c) Z (Lb 0 pl3 Z Z Z) (qt (Iv (i64.wrap ((a0.b.length:Int)- c))) Z (PO.sub Z Z) (qt (Bv (decide ((i64.wrap ((a0.b.length:Int)- c))<a))) Z (gtr Z Z) (Ti (Tc (Ch h Z (fun u h=> ?_) (fun u h=> ?_))))))))))
 refine Sr (qM (pt d 0) (k 0) (qm (Iv a0.at_) (qu (pt d 0) (Nk Z) (qu (pt d 1) (Fa fo76_1 Z Z) (We (Es (Iv a0.at_) [e,(Iv a0.at_),(GV j)] Z sz3 Z Z Z Z Z Z) Z ?_)))))
 rintro _ _ _ - ⟨rfl,rfl⟩
 refine Ns (qM (pt d 0) (k 0) (qm (Iv a0.at_) ?_))
 obtain ⟨v,w,h⟩:=bnd h
 refine We (Cb co45 (f_wire_Reader_fail_ok (⟨a0.b,a0.at_,j⟩:T_wire_Reader) (⟨#[116,101,120,116]⟩:ByteArray) a0.at_ (3:Int) _ _ _ f v w) (args4 Z Z Z Z)) Z ?_
 rintro _ C _ p ⟨_,⟨rfl,rfl⟩,rfl⟩
 exact WL.a1 (Ns (qa Zs (Nt (Cr (Tr (WQ.e0 (Qa (Rf h [[(d, .cells #[e,(Iv a0.at_),(GV v)] 76 (0,0))],[]] Z (Rs Z Z) (i.trans p) ⟨Zs,[],Z,Z,(OwnS.nil _ _)⟩))))))))
 refine Ck (Tc (Sr (qM (pt d 0) (k 0) (qu (pt d 0) (Nk Z) (qu (pt d 1) (Fa fo76_1 Z Z) (qu (Iv c) (Lb 0 pl3 Z Z Z) (qm (Iv a) (qu (Iv (i64.wrap (c+a))) (add Z Z) (qu (pt d 0) (Nk Z) (qu (pt d 1) (Fa fo76_1 Z Z) (We (Es (Iv (i64.wrap (c+a))) [e,(Iv (i64.wrap (c+a))),(GV j)] Z sz3 Z Z Z Z Z Z) Z ?_)))))))))))
 rintro _ _ _ - ⟨rfl,rfl⟩
 refine Nt (Cs (WC.draw [0,1,3,7,0,16,48,112,0,496,0,1024,3072,7168,16383,32767,65535] (.pure 0 (.pure 1 (.pure 2 (.pure 3 (.pure 4 (.pure 5 (.pure 6 (.pure 7 (.pure 8 (.pure 9 (.pure 10 (.pure 11 (.pure 12 (.pure 13 (.pure 14 (.alt 15 (.pure 16 .done) .none)))))))))))))))) mixed (by kernel_rfl) (qt (pt d 0) Z (Mv (k 0)) (qt (pt d 0) Z (Nk Z) (qt (pt d 0) Z (Fa fo76_0 Z Z) (qt e Z (Lb 0 pl38 Z Z Z) (qt (pt d 0) Z (Mv (k 0)) (qt (pt d 0) Z (Nk Z) (qt (pt d 1) Z (Fa fo76_1 Z Z) (qt (Iv (i64.wrap (c+a))) Z (Lb 0 pl3 Z Z Z) (qt (Iv a) Z (Mv Z) ?_)))))))))))
 refine qt (Iv (i64.wrap ((i64.wrap (c+a))- a))) Z (PO.sub Z Z) (qt (pt d 0) Z (Mv (k 0)) (qt (pt d 0) Z (Nk Z) (qt (pt d 1) Z (Fa fo76_1 Z Z) (qt (Iv (i64.wrap (c+a))) Z (Lb 0 pl3 Z Z Z) ?_))))
 obtain ⟨g,h⟩:=grd_i h
 have z:=f.sub g.1 g.2.1 g.2.2
 refine qt (slV e 1 (i64.wrap ((i64.wrap (c+a))- a)).toNat (i64.wrap (c+a)).toNat) Z (slice (n:=a0.b.length) (l:=(i64.wrap ((i64.wrap (c+a))- a)).toNat) (h:=(i64.wrap (c+a)).toNat) underlying38 sz5 Z f.len f.cap ⟨_,_,Z,g.1,Z⟩ ⟨_,_,Z,(Int.le_trans g.1 g.2.1),Z⟩ (Int.toNat_le_toNat g.2.1) (toNat_le_len g.2.2)) ?_
 obtain ⟨A,x,h⟩:=bnd h
 refine Ta Z (Ca co68 (f_slices_Clone_byte_byte_ok (sub a0.b (i64.wrap ((i64.wrap (c+a))- a)) (i64.wrap (c+a))) _ _ z A x) (args1 Z)) Z ?_ ?_
 rintro _ D _ q ⟨_,⟨m,o,rfl,rfl,y⟩,rfl⟩
 refine⟨(Sl Z), ?_⟩
 exact WT.a1 (qt m Z (Ag Z) (Ti (Tc (Cr (Qa (Rf h [[(d, .cells #[e,(Iv (i64.wrap (c+a))),(GV j)] 76 (0,0))],o] Z (Rs Z Z) (i.trans q) ⟨m,o,Z,Z,y⟩))))))
 exact Tz
noncomputable def f_record_Read_2 (a0:Int) (a1:Int) (a2q:T_wire_Reader):Option (ByteArray×Int×GErr):=
 (if(decide ((andI .i64 a1 a0)=(0:Int)))=true then(some ((⟨#[]⟩:ByteArray),a2q.at_,a2q.err))else((f_wire_Reader_Text a2q (256:Int)).bind fun(a,b,c)=>(some (strOfNums a,b,c))))
def f_record_Read_2_post (a0:Int) (a1:Int) (a2q:T_wire_Reader) (v2q_0:Value) (a b g2q:Nat):(ByteArray×Int×GErr)→Value→IM→HL→Prop:=
 fun(c:(ByteArray×Int×GErr)) (v:Value) (i:IM) (d:HL)=>match c with |(e,f,g)=>(.string e)=v∧d=[[(a, .cells #[(.int .i64 a1)] 3 (0,0))],[(g2q, .cells #[v2q_0,(.int .i64 f),(GV g)] 76 (0,0))],[(b, .cells #[(.pointer (some ⟨g2q,0,none⟩))] 55 (0,0))]]
theorem f_record_Read_2_ok (a0:Int) (a1:Int) (a2q:T_wire_Reader) (M:IM) (v2q_0:Value) (d e g2q:Nat) (h2q_0:RS (Kd.int .u8) M v2q_0 a2q.b) (f:(ByteArray×Int×GErr)) (h:f_record_Read_2 a0 a1 a2q=some f):
 Tri prog 61 #[(Iv a0),(pt d 0),(pt e 0)] M [[(d, .cells #[(Iv a1)] 3 (0,0))],[(g2q, .cells #[v2q_0,(Iv a2q.at_),(GV a2q.err)] 76 (0,0))],[(e, .cells #[(pt g2q 0)] 55 (0,0))]] (f_record_Read_2_post a0 a1 a2q v2q_0 d e g2q f):=by
 unfold f_record_Read_2 at h
 refine Te func61 Z Z ?_
 intro F q m
 refine Sr (qa (Sv ⟨#[]⟩) (Nt (Cs (Sr (qu (Iv a1) (Lb 0 pl3 (m 1) Z Z) (qM (Iv a0) (m 0) (qu (Iv (andI .i64 a1 a0)) (PO.and Z Z) (qu (Bv (decide ((andI .i64 a1 a0)=0))) (eql Z Z) (Nt (Ch h Z (fun g h=> ?_) (fun g h=> ?_)))))))))))
 exact Sr (qa (Sv ⟨#[]⟩) (Nt (Cr (Tr (Rf h [[(d, .cells #[(Iv a1)] 3 (0,0))],[(g2q, .cells #[v2q_0,(Iv a2q.at_),(GV a2q.err)] 76 (0,0))],[(e, .cells #[(pt g2q 0)] 55 (0,0))]] Z (Rs Z Z) lr ⟨Z,Z⟩)))))
 refine Ck (Tc (Sr (qu (pt g2q 0) (Lb 2 pl55 (m 2) Z Z) ?_)))
 obtain ⟨⟨a,i,j⟩,k,h⟩:=bnd h
 refine WL.f1 (We (Cb co62 (f_wire_Reader_Text_ok a2q (256:Int) _ _ _ h2q_0 (a,i,j) k) (args2 Z Z)) Z ?_)
 rintro _ p _ c ⟨_,⟨n,o,rfl,rfl,l⟩,rfl⟩
 exact WL.a2 (qu (Sv (strOfNums a)) (b2s (ys:=a) underlying38 underlying5 underlying9 Z (l.src 1 Z)) (qa (Sv (strOfNums a)) (Nt (Cr (Qa (Dr (Qb (Qa (Qb (Rf h [[(d, .cells #[(Iv a1)] 3 (0,0))],[(g2q, .cells #[v2q_0,(Iv i),(GV j)] 76 (0,0))],[(e, .cells #[(pt g2q 0)] 55 (0,0))]] Z (Rs Z Z) c ⟨Z,Z⟩))))))))))
noncomputable def f_wire_Reader_Row_l0 (a0:T_wire_Reader) (a2:Int) (g:Int) (l:((List Int)×Int×Int×GErr)):Option (((List Int)×Int×Int×GErr)⊕((List Int)×Int×GErr)):=
 match l with
 |(a,d,e,c)=>
 (((if(decide (d<g))=true then(some c.isNil)else(some false)):Option Bool).bind fun i=>(if i=true then((f_wire_Reader_Int (⟨a0.b,e,c⟩:T_wire_Reader) a2).bind fun(f,j,k)=>(grd (a.length+[f].length≤274877906944) (some (inl (a++[f],i64.wrap (d+(1:Int)),j,k)))))else(some (inr (a,e,c)))))
noncomputable def f_wire_Reader_Row (a0:T_wire_Reader) (a1:Int) (a2:Int):Option ((List Int)×Int×GErr):=
 ((f_wire_Reader_Int a0 a1).bind fun(c,d,e)=>((((iter (f_wire_Reader_Row_l0 a0 a2 c) ([],(0:Int),d,e)).bind (fun(f,g,i)=>(some (f,g,i)))):Option ((List Int)×Int×GErr)).bind fun(j,b,a)=>(if(!a.isNil)=true then(some ([],b,a))else(some (j,b,a)))))
def f_wire_Reader_Row_post (a0:T_wire_Reader) (a1:Int) (a2:Int) (a:Value) (d:Nat):((List Int)×Int×GErr)→Value→IM→HL→Prop:=
 fun(e:((List Int)×Int×GErr)) (v:Value) (f:IM) (g:HL)=>match e with |(i,j,k)=>∃ b c,b=v∧g=[[(d, .cells #[a,(.int .i64 j),(GV k)] 76 (0,0))],c]∧OwnS (Kd.int .i64) f b i c
theorem f_wire_Reader_Row_ok (a0:T_wire_Reader) (a1:Int) (a2:Int) (M:IM) (c:Value) (j:Nat) (w:RS (Kd.int .u8) M c a0.b) (S:((List Int)×Int×GErr)) (h:f_wire_Reader_Row a0 a1 a2=some S):
 Tri prog 64 #[(pt j 0),(Iv a1),(Iv a2)] M [[(j, .cells #[c,(Iv a0.at_),(GV a0.err)] 76 (0,0))]] (f_wire_Reader_Row_post a0 a1 a2 c j S):=by
 unfold f_wire_Reader_Row at h
 refine Te func64 Z Z ?_
 intro F ρ b5
 refine Sr (qa Zs (Ns (qM (pt j 0) (b5 0) (qM (Iv a1) (b5 1) ?_))))
 obtain ⟨⟨s,b6,b7⟩,T,h⟩:=bnd h
 refine We (Cb co41 (f_wire_Reader_Int_ok a0 a1 _ _ _ w (s,b6,b7) T) (args2 Z Z)) Z ?_
 rintro _ U _ t ⟨_,⟨rfl,rfl⟩,rfl⟩
 refine WL.a1 (qa (Iv s) (Ns (qa Zs (Nt ?_))))
 obtain ⟨V,W,h⟩:=bnd h
 refine Jf (fun(p_:((List Int)×Int×GErr)) u P X=>match p_ with |(Y,J,B)=>∃ f o,U.le P∧[(j, .cells #[c,(Iv J),(GV B)] 76 (0,0))]::o::F=X∧u 0=(pt j 0)∧u 8=f∧OwnS (Kd.int .i64) P f Y o) V ?_ ?_
 have h:=W
 refine Sr (qa (Iv 0) (Nt (Bk (WC.e0 (WC.f1 ?_)))))
 obtain ⟨c4,a3,a4⟩:=bnd h
 clear h
 refine WC.loop a3 (fun(p_:((List Int)×Int×Int×GErr)) u P X=>match p_ with |(C,e,D,p)=>∃ g q,U.le P∧[(j, .cells #[c,(Iv D),(GV p)] 76 (0,0))]::q::F=X∧u 0=(pt j 0)∧u 2=(Iv a2)∧u 7=(Iv s)∧u 8=g∧u 9=(Iv e)∧OwnS (Kd.int .i64) P g C q) ?_ ?_
 exact⟨Zs,[],lr,Z,(b5 0),(b5 2),Z,Z,Z,(OwnS.nil _ _)⟩
 rintro ⟨C,e,D,p⟩ c5 c6 b9 c7 h ⟨g,q,v,rfl,k,x,l,y,m,i⟩
 unfold f_wire_Reader_Row_l0 at h
 refine Cs ?_
 obtain ⟨Q,a5,h⟩:=bnd h
 refine Jf (fun(Q:Bool) u P X=>b9.le P∧[(j, .cells #[c,(Iv D),(GV p)] 76 (0,0))]::q::F=X∧u 0=(pt j 0)∧u 2=(Iv a2)∧u 7=(Iv s)∧u 8=g∧u 9=(Iv e)∧u 22=(Bv Q)) Q ?_ ?_
 have h:=a5
 refine Cg (qM (Iv e) m (qM (Iv s) l (qu (Bv (decide (e<s))) (lss Z Z) (qm (Bv (decide (e<s))) ?_))))
 rcases Bi h with⟨a,h⟩ |⟨a,h⟩
 refine On 16 Z Z a (qM (pt j 0) k (qo 16 a (pt j 0) (Nk Z) (qo 16 a (pt j 2) (Fa fo76_2 Z Z) (qo 16 a (GV p) (Lb 0 pl40 Z Z Z) (qo 16 a (Bv p.isNil) (errNil underlying40 Z) (qu (Bv p.isNil) (Pt Z a Z) (Wz ?_)))))))
 obtain rfl:=oi h
 exact Tj ⟨lr,Z,k,x,l,y,m,Z⟩
 iterate 5 refine Of 16 Z Z a Z ?_
 refine qu (Bv false) (Pf Z a Z) (Wz ?_)
 obtain rfl:=oi h
 exact Tj ⟨lr,Z,k,x,l,y,m,Z⟩
 rintro c8 c9 d0 ⟨d,rfl,n,z,K,A,L,E⟩
 refine Ch h E (fun a6 h=> ?_) (fun a6 h=> ?_)
 refine Ck (Tc (Cs (Bk (Cg (qM g A (qM (pt j 0) n (qM (Iv a2) z ?_)))))))
 obtain ⟨⟨r,a7,a8⟩,a9,h⟩:=bnd h
 have w:=w.mono ((t.trans v).trans d)
 refine We (Cb co41 (f_wire_Reader_Int_ok (⟨a0.b,D,p⟩:T_wire_Reader) a2 _ _ _ w (r,a7,a8) a9) (args2 Z Z)) Z ?_
 rintro _ c0 _ G ⟨_,⟨rfl,rfl⟩,rfl⟩
 refine WL.a1 (We (buildSliceL (cl:=[(Iv r)]) underlying34 iz3 Z (Pc (Iv r) Z Z Pz) Z) Z ?_)
 rintro _ _ _ - ⟨rfl,b0,rfl,rfl⟩
 have c1:OwnS (Kd.int .i64) c0 (.slice (some ⟨b0,0,none⟩) 1 1) [r] [(b0, .cells #[(Iv r)] 3 (0,0))]:=OwnS.rows (css:=[[(Iv r)]]) (Rows.cons Z Rows.nil) Z Z
 obtain ⟨b1,h⟩:=grd_i h
 refine Wb ?_
 have i:=i.mono (d.trans G)
 refine We (append (dd:=(Kd.int .i64)) (xs:=C) (ys:=[r]) underlying34 underlying34 in3 Z (appB (by decide) b1) (by decide) Z Z i (c1.src 1 Z)) Z ?_
 rintro b2 _ _ - ⟨rfl,c2,rfl,c3⟩
 refine qa b2 (Wz (Bn (Tc (Cg (qM (Iv e) L (qu (Iv (i64.wrap (e+1))) (add Z Z) (qa (Iv (i64.wrap (e+1))) (Wz (Qa (Dr (Qa ?_)))))))))))
 exact WQ.again (C++[r],i64.wrap (e+1),a7,a8) (oi h).symm ⟨b2,c2,((v.trans d).trans G),Z,n,z,K,Z,Z,c3⟩
 refine WC.exit (WQ.thenE (WQ.leaveE (C,D,p) (oi h).symm (fun R=> ?_)))
 subst R
 have h:=a4
 refine WQ.blockH ?_
 obtain rfl:=oi h
 refine Tj ?_
 have i:=i.mono d
 exact⟨g,q,(v.trans d),Z,n,A,i⟩
 obtain ⟨Y,J,B⟩:=V
 rintro d1 d2 d3 ⟨f,o,I,rfl,N,O,b3⟩
 refine Cs (Sr (qM (pt j 0) N (qu (pt j 0) (Nk Z) (qu (pt j 2) (Fa fo76_2 Z Z) (qu (GV B) (Lb 0 pl40 Z Z Z) (qu (Bv (!B.isNil)) (errNotNil underlying40 Z) (Nt (Ch h Z (fun b4 h=> ?_) (fun b4 h=> ?_)))))))))
 exact Sr (qa Zs (Nt (Cr (Tr (WQ.e0 (Qb (Dr (Qa (Rf h [[(j, .cells #[c,(Iv J),(GV B)] 76 (0,0))],[]] Z (Rs Z Z) (t.trans I) ⟨Zs,[],Z,Z,(OwnS.nil _ _)⟩)))))))))
 exact Ck (Tc (Sr (qM f O (qa f (Nt (Cr (Rf h [[(j, .cells #[c,(Iv J),(GV B)] 76 (0,0))],o] Z (Rs Z Z) (t.trans I) ⟨f,o,Z,Z,b3⟩)))))))
noncomputable def f_record_Read_3 (a0:Int) (a1:Int) (a2q:T_wire_Reader):Option ((List Int)×Int×GErr):=
 (if(decide ((andI .i64 a1 a0)=(0:Int)))=true then(some ([],a2q.at_,a2q.err))else((f_wire_Reader_Row a2q (7:Int) (64:Int)).bind fun(a,b,c)=>(some (a,b,c))))
def f_record_Read_3_post (a0:Int) (a1:Int) (a2q:T_wire_Reader) (v2q_0:Value) (c d g2q:Nat):((List Int)×Int×GErr)→Value→IM→HL→Prop:=
 fun(e:((List Int)×Int×GErr)) (v:Value) (f:IM) (g:HL)=>match e with |(i,j,k)=>∃ a b,a=v∧g=[[(c, .cells #[(.int .i64 a1)] 3 (0,0))],[(g2q, .cells #[v2q_0,(.int .i64 j),(GV k)] 76 (0,0))],[(d, .cells #[(.pointer (some ⟨g2q,0,none⟩))] 55 (0,0))],b]∧OwnS (Kd.int .i64) f a i b
theorem f_record_Read_3_ok (a0:Int) (a1:Int) (a2q:T_wire_Reader) (M:IM) (v2q_0:Value) (e f g2q:Nat) (h2q_0:RS (Kd.int .u8) M v2q_0 a2q.b) (g:((List Int)×Int×GErr)) (h:f_record_Read_3 a0 a1 a2q=some g):
 Tri prog 63 #[(Iv a0),(pt e 0),(pt f 0)] M [[(e, .cells #[(Iv a1)] 3 (0,0))],[(g2q, .cells #[v2q_0,(Iv a2q.at_),(GV a2q.err)] 76 (0,0))],[(f, .cells #[(pt g2q 0)] 55 (0,0))]] (f_record_Read_3_post a0 a1 a2q v2q_0 e f g2q g):=by
 unfold f_record_Read_3 at h
 refine Te func63 Z Z ?_
 intro F q n
 refine Sr (qa Zs (Nt (Cs (Sr (qu (Iv a1) (Lb 0 pl3 (n 1) Z Z) (qM (Iv a0) (n 0) (qu (Iv (andI .i64 a1 a0)) (PO.and Z Z) (qu (Bv (decide ((andI .i64 a1 a0)=0))) (eql Z Z) (Nt (Ch h Z (fun i h=> ?_) (fun i h=> ?_)))))))))))
 exact Sr (qa Zs (Nt (Cr (Tr (WQ.e0 (WQ.f3 (WQ.f3 (WQ.f3 (Rf h [[(e, .cells #[(Iv a1)] 3 (0,0))],[(g2q, .cells #[v2q_0,(Iv a2q.at_),(GV a2q.err)] 76 (0,0))],[(f, .cells #[(pt g2q 0)] 55 (0,0))],[]] Z (Rs Z Z) lr ⟨Zs,[],Z,Z,(OwnS.nil _ _)⟩)))))))))
 refine Ck (Tc (Sr (qu (pt g2q 0) (Lb 2 pl55 (n 2) Z Z) ?_)))
 obtain ⟨⟨o,j,k⟩,l,h⟩:=bnd h
 refine WL.f1 (We (Cb co64 (f_wire_Reader_Row_ok a2q (7:Int) (64:Int) _ _ _ h2q_0 (o,j,k) l) (args3 Z Z Z)) Z ?_)
 rintro _ p _ d ⟨_,⟨a,c,rfl,rfl,m⟩,rfl⟩
 exact WL.a2 (qa a (Nt (Cr (Qa (WQ.f3 (Qb (WQ.f3 (Rf h [[(e, .cells #[(Iv a1)] 3 (0,0))],[(g2q, .cells #[v2q_0,(Iv j),(GV k)] 76 (0,0))],[(f, .cells #[(pt g2q 0)] 55 (0,0))],c] Z (Rs Z Z) d ⟨a,c,Z,Z,m⟩))))))))
noncomputable def f_api_Fault_Unwrap (a0:T_api_Fault):Option GErr:=
 (some a0.Err)
def f_api_Fault_Unwrap_post (a0:T_api_Fault):GErr→Value→IM→HL→Prop:=
 fun(a:GErr) (v:Value) (c:IM) (b:HL)=>(GV a)=v∧b=[]
theorem f_api_Fault_Unwrap_ok (a0:T_api_Fault) (M:IM) (a:GErr) (h:f_api_Fault_Unwrap a0=some a):
 Tri prog 97 #[(a74_ a0)] M [] (f_api_Fault_Unwrap_post a0 a):=by
 unfold f_api_Fault_Unwrap at h
 refine Te func97 Z Z ?_
 intro F d c
 refine Sr (We (box (cs:=(l74 a0).toArray) (congrArg Value.cells (asE (a74_ a0) (c 0)))) Z ?_)
 rintro _ _ _ - ⟨rfl,b,rfl,rfl⟩
 exact qa (GV GErr.nil) (Ns (qu (pt b 2) (Fa fo74_2 Z Z) (qu (GV a0.Err) (Lb 0 pl40 Z Z Z) (qa (GV a0.Err) (Nt (Cr (Dr (Rf h [] Z (Rs Z Z) lr ⟨Z,Z⟩))))))))
noncomputable def f_errors_as_code_l0 (a1:Int) (f:GErr):Option (GErr⊕(Bool×Int)):=
 match f with
 |b=>
 (match b with | .nil=>none | .code c=>(some (inr (true,c))) | .fault d a28 e=>((f_api_Fault_Unwrap (⟨d,a28,e⟩:T_api_Fault)).bind fun a=>(if a.isNil=true then(some (inr (false,a1)))else(some (inl a)))) | .other g=>(some (inr (false,a1))))
noncomputable def f_errors_as_code (a0:GErr) (a1:Int):Option (Bool×Int):=
 ((iter (f_errors_as_code_l0 a1) a0).bind (fun(a,b)=>(some (a,b))))
def f_errors_as_code_post (a0:GErr) (a1:Int) (a b:Nat):(Bool×Int)→Value→IM→HL→Prop:=
 fun(c:(Bool×Int)) (v:Value) (g:IM) (d:HL)=>match c with |(e,f)=>(.bool e)=v∧d=[[(a, .cells #[(.int .i64 f)] 47 (0,0))],[(b, .cells #[(.pointer (some ⟨a,0,none⟩))] 115 (0,0))]]
theorem f_errors_as_code_ok (a0:GErr) (a1:Int) (M:IM) (k m:Nat) (u:(Bool×Int)) (h:f_errors_as_code a0 a1=some u):
 Tri prog 74 #[(GV a0),(.iface 115 (pt k 0)),(.agg #[(pt 1 115),(pt m 0),(Uv 150)]),(.iface 103 (.agg #[.pointer (some ⟨1,47,none⟩)]))] M [[(k, .cells #[(Iv a1)] 47 (0,0))],[(m, .cells #[(pt k 0)] 115 (0,0))]] (f_errors_as_code_post a0 a1 k m u):=by
 unfold f_errors_as_code at h
 refine Te func74 Z Z ?_
 intro F O A
 refine Sr (We (box (cs:=#[(pt 1 115),(pt m 0),(Uv 150)]) (congrArg Value.cells (asE (.agg #[(pt 1 115),(pt m 0),(Uv 150)]) (A 2)))) Z ?_)
 rintro _ _ _ - ⟨rfl,w,rfl,rfl⟩
 refine qa (Bv false) (Nt (Bk ?_))
 obtain ⟨D,x,n⟩:=bnd h
 clear h
 refine WC.loop x (fun(s:GErr) B E G=>M.le E∧[(w, .cells #[(pt 1 115),(pt m 0),(Uv 150)] 120 (0,0))]::[(k, .cells #[(Iv a1)] 47 (0,0))]::[(m, .cells #[(pt k 0)] 115 (0,0))]::F=G∧B 0=(GV s)∧B 1=(.iface 115 (pt k 0))∧B 3=(.iface 103 (.agg #[.pointer (some ⟨1,47,none⟩)]))∧B 6=(pt w 0)) ?_ ?_
 exact⟨lr,Z,(A 0),(A 1),(A 3),Z⟩
 rintro s I J K L h ⟨g,rfl,a,t,c,l⟩
 unfold f_errors_as_code_l0 at h
 refine Bk (Cs (Sr (qM (GV s) a ?_)))
 rcases s with _ |i |⟨d,a28,e⟩ |j
 refine We (extP xt49 (args1 (show ev _ _= .nilIface from Z)) tyNil) Z ?_
 rintro _ _ _ - ⟨rfl,rfl,rfl⟩
 exact qM (.iface 103 (.agg #[.pointer (some ⟨1,47,none⟩)])) c (nones h)
 refine We (extP xt49 (args1 (show ev _ _=(.iface 47 (Iv i)) from Z)) (ty47 _)) Z ?_
 rintro _ _ _ - ⟨rfl,rfl,rfl⟩
 refine qM (.iface 103 (.agg #[.pointer (some ⟨1,47,none⟩)])) c (We (invE (show ev _ _=(.iface 103 (.agg #[.pointer (some ⟨1,47,none⟩)])) from Z) (mm_AssignableTo (pt 1 47)) xt99 (inv1 Z) mr_AssignableTo_47_47) Z ?_)
 rintro _ _ _ - ⟨rfl,rfl,rfl⟩
 refine Nt (WC.condT (b:=true) Z Z (Sr (qu (.agg #[(pt 1 115),(pt m 0),(Uv 150)]) (La (cs:=[(pt 1 115),(pt m 0),(Uv 150)]) 0 ag120 sz120 l Z Z) (We (rvElem (r:=fun p=> .agg #[(pt 1 47), .pointer (some p), .int .u64 386]) 2 xt76 pp115_150 Z pl115 el115 mk47 (args1 (show ev _ _=(.agg #[(pt 1 115),(pt m 0),(Uv 150)]) from Z)) Z) Z ?_))))
 rintro _ _ _ - ⟨rfl,rfl,rfl⟩
 refine qM (GV (GErr.code i)) a (We (valueOf xt71 (args1 (show ev _ _=(.iface 47 (Iv i)) from Z)) (vo47 i)) Z ?_)
 rintro _ _ _ - ⟨rfl,C,rfl,rfl⟩
 refine Wb (We (rvSet (arr:=[(Iv a1)]) (vl:=[(Iv i)]) (v:=(Iv i)) xt77 pp47_386 pp47_130 Z da47 (args2 (show ev _ _=(.agg #[(pt 1 47),(pt k 0),(Uv 386)]) from Z) (show ev _ _=(.agg #[(pt 1 47),(pt C 0),(Uv 130)]) from Z)) (fun _ hs=>run_loadPlain pl47 (hs.cellC 1 Z (chunkCell_lit.trans Z))) Z sz47 Z (onb Z)) Z ?_)
 rintro _ _ _ - ⟨rfl,rfl,rfl⟩
 refine Ns (qa (Bv true) (Nt (Cr (Tr (Br (WQ.leaveR (true,i) (oi h).symm (fun f=> ?_)))))))
 subst f
 have h:=n
 exact Br (Qa (Dr (Qa (Dr (Rf h [[(k, .cells #[(Iv i)] 47 (0,0))],[(m, .cells #[(pt k 0)] 115 (0,0))]] Z (Rs Z Z) g ⟨Z,Z⟩)))))
 refine We (extP xt49 (args1 (show ev _ _=(.iface 74 (.agg #[.string d, .int .i64 a28,GV e])) from Z)) (ty74 _)) Z ?_
 rintro _ _ _ - ⟨rfl,rfl,rfl⟩
 refine qM (.iface 103 (.agg #[.pointer (some ⟨1,47,none⟩)])) c (We (invE (show ev _ _=(.iface 103 (.agg #[.pointer (some ⟨1,74,none⟩)])) from Z) (mm_AssignableTo (pt 1 74)) xt99 (inv1 Z) mr_AssignableTo_74_47) Z ?_)
 rintro _ _ _ - ⟨rfl,rfl,rfl⟩
 refine Nt (WC.condF (b:=false) Z Z (Ck (Tc (Cs (Sr (qM (GV (GErr.fault d a28 e)) a (qu (.tuple #[.nilIface,(Bv false)]) (asserts (show ev _ _=(.iface 74 (.agg #[.string d, .int .i64 a28,GV e])) from Z) (la74_130 _ _)) (qm (.tuple #[.nilIface,(Bv false)]) (qu .nilIface (Xt Z Z) (qu (Bv false) (Xt Z Z) (qa .nilIface ?_)))))))))))
 refine qa (Bv false) (Ns (qm (Bv false) (qm (Bv false) ?_)))
 iterate 3 refine Of 31 Z Z Z Z ?_
 refine qu (Bv false) (Pf Z Z Z) (Nt (WC.condF (b:=false) Z Z (Ck (Tc (Sr (qM (GV (GErr.fault d a28 e)) a (Nt (Bk (Sr (qu (.tuple #[(GV (GErr.fault d a28 e)),(Bv true)]) (asserts (show ev _ _=(.iface 74 (.agg #[.string d, .int .i64 a28,GV e])) from Z) (ha74_108 _ _)) (qu (Bv true) (Xt Z Z) ?_)))))))))))
 refine qu (GV (GErr.fault d a28 e)) (Xt Z Z) (Nt (WC.condT (b:=true) Z Z (Sr (qa (GV (GErr.fault d a28 e)) (Ns (qm (GV (GErr.fault d a28 e)) ?_))))))
 obtain ⟨o,y,h⟩:=bnd h
 refine We (invT (show ev _ _=(.iface 74 (.agg #[.string d, .int .i64 a28,GV e])) from Z) (me74_Unwrap _) co97 inv0 (f_api_Fault_Unwrap_ok (⟨d,a28,e⟩:T_api_Fault) _ o y)) Z ?_
 rintro _ N _ q ⟨_,⟨rfl,rfl⟩,rfl⟩
 refine WL.a0 (qa (GV o) (Ns (qm (GV o) (qu (Bv o.isNil) (errNil underlying40 Z) (Nt (Ch h Z (fun z h=> ?_) (fun z h=> ?_)))))))
 refine Sr (qa (Bv false) (Nt (Cr (Br (Br (WQ.leaveR (false,a1) (oi h).symm (fun f=> ?_)))))))
 subst f
 have h:=n
 exact Br (Dr (Rf h [[(k, .cells #[(Iv a1)] 47 (0,0))],[(m, .cells #[(pt k 0)] 115 (0,0))]] Z (Rs Z Z) (g.trans q) ⟨Z,Z⟩))
 exact Ck (Bn (Bn (WQ.again o (oi h).symm ⟨(g.trans q),Z,Z,t,c,l⟩)))
 refine We (extP xt49 (args1 (show ev _ _=(.iface 0 (.pointer (some j))) from Z)) (ty0 _)) Z ?_
 rintro _ _ _ - ⟨rfl,rfl,rfl⟩
 refine qM (.iface 103 (.agg #[.pointer (some ⟨1,47,none⟩)])) c (We (invE (show ev _ _=(.iface 103 (.agg #[.pointer (some ⟨1,0,none⟩)])) from Z) (mm_AssignableTo (pt 1 0)) xt99 (inv1 Z) mr_AssignableTo_0_47) Z ?_)
 rintro _ _ _ - ⟨rfl,rfl,rfl⟩
 refine Nt (WC.condF (b:=false) Z Z (Ck (Tc (Cs (Sr (qM (GV (GErr.other j)) a (qu (.tuple #[.nilIface,(Bv false)]) (asserts (show ev _ _=(.iface 0 (.pointer (some j))) from Z) (la0_130 _ _)) (qm (.tuple #[.nilIface,(Bv false)]) (qu .nilIface (Xt Z Z) (qu (Bv false) (Xt Z Z) (qa .nilIface ?_)))))))))))
 refine qa (Bv false) (Ns (qm (Bv false) (qm (Bv false) ?_)))
 iterate 3 refine Of 31 Z Z Z Z ?_
 refine qu (Bv false) (Pf Z Z Z) (Nt (WC.condF (b:=false) Z Z (Ck (Tc (Sr (qM (GV (GErr.other j)) a (Nt (Bk (Sr (qu (.tuple #[.nilIface,(Bv false)]) (asserts (show ev _ _=(.iface 0 (.pointer (some j))) from Z) (la0_108 _ _)) (qu (Bv false) (Xt Z Z) ?_)))))))))))
 refine qu .nilIface (Xt Z Z) (Nt (WC.condF (b:=false) Z Z (Sr (qu (.tuple #[.nilIface,(Bv false)]) (asserts (show ev _ _=(.iface 0 (.pointer (some j))) from Z) (la0_109 _ _)) (qu (Bv false) (Xt Z Z) (qu .nilIface (Xt Z Z) (Nt (WC.condF (b:=false) Z Z (Sr (qa (GV (GErr.other j)) (Ns ?_)))))))))))
 refine qa (Bv false) (Nt (Cr (Br (Br (WQ.leaveR (false,a1) (oi h).symm (fun f=> ?_))))))
 subst f
 have h:=n
 exact Br (Dr (Rf h [[(k, .cells #[(Iv a1)] 47 (0,0))],[(m, .cells #[(pt k 0)] 115 (0,0))]] Z (Rs Z Z) g ⟨Z,Z⟩))
noncomputable def f_errors_As_code (a0:GErr) (a1:Int):Option (Bool×Int):=
 (if a0.isNil=true then(some (false,a1))else((f_errors_as_code a0 a1).bind fun(a,b)=>(some (a,b))))
def f_errors_As_code_post (a0:GErr) (a1:Int) (a:Nat):(Bool×Int)→Value→IM→HL→Prop:=
 fun(b:(Bool×Int)) (v:Value) (f:IM) (c:HL)=>match b with |(d,e)=>(.bool d)=v∧c=[[(a, .cells #[(.int .i64 e)] 47 (0,0))]]
theorem f_errors_As_code_ok (a0:GErr) (a1:Int) (M:IM) (c:Nat) (hE:Env M) (e:(Bool×Int)) (h:f_errors_As_code a0 a1=some e):
 Tri prog 69 #[(GV a0),(.iface 115 (pt c 0))] M [[(c, .cells #[(Iv a1)] 47 (0,0))]] (f_errors_As_code_post a0 a1 c e):=by
 unfold f_errors_As_code at h
 refine Te func69 Z Z ?_
 intro F n f
 refine Sr (qa (Bv false) (Nt (Cs (Sr (qM (GV a0) (f 0) (qu (Bv a0.isNil) (errNil underlying40 Z) (Nt (Ch h Z (fun g h=> ?_) (fun g h=> ?_)))))))))
 exact Sr (qa (Bv false) (Nt (Cr (Tr (Rf h [[(c, .cells #[(Iv a1)] 47 (0,0))]] Z (Rs Z Z) lr ⟨Z,Z⟩)))))
 refine Ck (Tc (Cs (Sr (qM (.iface 115 (pt c 0)) (f 1) (qu (Bv false) (ifcNil underlying20 Z) (Nt (WC.condF (b:=false) Z Z (Ck (Tc (Sr (qM (.iface 115 (pt c 0)) (f 1) ?_)))))))))))
 refine We (valueOf xt71 (args1 (show ev _ _=(.iface 115 (pt c 0)) from Z)) (vo115 ⟨c,0,none⟩)) Z ?_
 rintro _ _ _ - ⟨rfl,a,rfl,rfl⟩
 refine We (Al ze120 Z) Z ?_
 rintro _ _ _ - ⟨rfl,l,rfl,rfl⟩
 refine We (Sg (v:=(.agg #[(pt 1 115),(pt a 0),(Uv 150)])) (vl:=[(pt 1 115),(pt a 0),(Uv 150)]) (arr':=[(pt 1 115),(pt a 0),(Uv 150)]) Z sz120 Z Z (onb Z) Z Z Z) Z ?_
 rintro _ _ _ - ⟨rfl,rfl⟩
 refine Ns (qu (.agg #[(pt 1 115),(pt a 0),(Uv 150)]) (La (cs:=[(pt 1 115),(pt a 0),(Uv 150)]) 0 ag120 sz120 Z Z Z) (We (extP xt72 (args1 (show ev _ _=(.agg #[(pt 1 115),(pt a 0),(Uv 150)]) from Z)) (vt115_150 _)) Z ?_))
 rintro _ _ _ - ⟨rfl,rfl,rfl⟩
 refine qa (.iface 103 (.agg #[.pointer (some ⟨1,115,none⟩)])) (Nt (Cs (Sr (qm (.iface 103 (.agg #[.pointer (some ⟨1,115,none⟩)])) (We (invE (show ev _ _=(.iface 103 (.agg #[.pointer (some ⟨1,115,none⟩)])) from Z) (mm_Kind (pt 1 115)) xt92 inv0 mr_Kind_115) Z ?_)))))
 rintro _ _ _ - ⟨rfl,rfl,rfl⟩
 refine qu (Bv false) (neqR Z Z (by decide)) (qm (Bv false) (qo 20 Z (.agg #[(pt 1 115),(pt a 0),(Uv 150)]) (La (cs:=[(pt 1 115),(pt a 0),(Uv 150)]) 0 ag120 sz120 Z Z Z) (On 20 Z Z Z (We (isNil 1 xt73 pp115_150 Z pl115 (args1 (show ev _ _=(.agg #[(pt 1 115),(pt a 0),(Uv 150)]) from Z)) Z) Z ?_))))
 rintro _ _ _ - ⟨rfl,rfl,rfl⟩
 refine qu (Bv false) (Pf Z Z Z) (Nt (WC.condF (b:=false) Z Z (Ck (Tc (Sr (qm (.iface 103 (.agg #[.pointer (some ⟨1,115,none⟩)])) (We (invE (show ev _ _=(.iface 103 (.agg #[.pointer (some ⟨1,115,none⟩)])) from Z) (mm_Elem (pt 1 115)) xt101 inv0 mr_Elem_115) Z ?_)))))))
 rintro _ _ _ - ⟨rfl,rfl,rfl⟩
 refine qa (.iface 103 (.agg #[.pointer (some ⟨1,47,none⟩)])) (Nt (Cs (Sr (qm (.iface 103 (.agg #[.pointer (some ⟨1,47,none⟩)])) (We (invE (show ev _ _=(.iface 103 (.agg #[.pointer (some ⟨1,47,none⟩)])) from Z) (mm_Kind (pt 1 47)) xt92 inv0 mr_Kind_47) Z ?_)))))
 rintro _ _ _ - ⟨rfl,rfl,rfl⟩
 refine qu (Bv true) (neqR Z Z (by decide)) (qm (Bv true) (On 30 Z Z Z (qm (.iface 103 (.agg #[.pointer (some ⟨1,47,none⟩)])) (qo 30 Z (.iface 103 (.agg #[.pointer (some ⟨1,40,none⟩)])) (loadG pl87 hE) (On 30 Z Z Z (We (invE (show ev _ _=(.iface 103 (.agg #[.pointer (some ⟨1,47,none⟩)])) from Z) (mm_Implements (pt 1 47)) xt102 (inv1 Z) mr_Implements_47_40) Z ?_))))))
 rintro _ _ _ - ⟨rfl,rfl,rfl⟩
 refine qo 30 Z (Bv (!true)) (PO.not Z) (qu (Bv (!true)) (Pt Z Z Z) (Nt (WC.condF (b:= !true) Z Z (Ck (Tc (Sr (qM (GV a0) (f 0) (qM (.iface 115 (pt c 0)) (f 1) (qu (.agg #[(pt 1 115),(pt a 0),(Uv 150)]) (La (cs:=[(pt 1 115),(pt a 0),(Uv 150)]) 0 ag120 sz120 Z Z Z) (qm (.iface 103 (.agg #[.pointer (some ⟨1,47,none⟩)])) ?_))))))))))
 obtain ⟨⟨i,j⟩,k,h⟩:=bnd h
 refine WL.f1 (Wb (We (EO.call2 co74 (f_errors_as_code_ok a0 a1 _ _ _ (i,j) k) (args4 Z Z Z Z)) Z ?_))
 rintro _ m _ d ⟨_,⟨rfl,rfl⟩,rfl⟩
 exact WL.a2 (qa (Bv i) (Nt (Cr (Qa (Dr (Qa (Dr (Rf h [[(c, .cells #[(Iv j)] 47 (0,0))]] Z (Rs Z Z) d ⟨Z,Z⟩))))))))
noncomputable def f_fault_Of (a0:GErr):Option Int:=
 (if a0.isNil=true then(some (0:Int))else((f_errors_As_code a0 (0:Int)).bind fun(a,b)=>(if a=true then(some b)else(some (21:Int)))))
def f_fault_Of_post (a0:GErr):Int→Value→IM→HL→Prop:=
 fun(a:Int) (v:Value) (c:IM) (b:HL)=>(.int .i64 a)=v∧b=[]
theorem f_fault_Of_ok (a0:GErr) (M:IM) (hE:Env M) (c:Int) (h:f_fault_Of a0=some c):
 Tri prog 65 #[(GV a0)] M [] (f_fault_Of_post a0 c):=by
 unfold f_fault_Of at h
 refine Te func65 Z Z ?_
 intro F l j
 refine Sr (qa (Iv 0) (Nt (Cs (Sr (qM (GV a0) (j 0) (qu (Bv a0.isNil) (errNil underlying40 Z) (Nt (Ch h Z (fun d h=> ?_) (fun d h=> ?_)))))))))
 exact Sr (qa (Iv 0) (Nt (Cr (Tr (Rf h [] Z (Rs Z Z) lr ⟨Z,Z⟩)))))
 refine Ck (Tc (Sr (We (Al ze47 Z) Z ?_)))
 rintro _ _ _ - ⟨rfl,g,rfl,rfl⟩
 refine Nt (Cs (Sr (qM (GV a0) (j 0) (qu (.iface 115 (pt g 0)) (makeInterface cc115 Z) ?_))))
 obtain ⟨⟨i,b⟩,e,h⟩:=bnd h
 refine We (Cb co69 (f_errors_As_code_ok a0 (0:Int) _ _ hE (i,b) e) (args2 Z Z)) Z ?_
 rintro _ k _ a ⟨_,⟨rfl,rfl⟩,rfl⟩
 refine WL.a1 (Nt (Ch h Z (fun f h=> ?_) (fun f h=> ?_)))
 exact Sr (qu (Iv b) (Lb 0 pl47 Z Z Z) (qa (Iv b) (Nt (Cr (Tr (Dr (Rf h [] Z (Rs Z Z) a ⟨Z,Z⟩)))))))
 exact Ck (Tc (Sr (qa (Iv 21) (Nt (Cr (Dr (Rf h [] Z (Rs Z Z) a ⟨Z,Z⟩)))))))
noncomputable def f_record_Read (a0:T_wire_Reader):Option (T_api_Record×Int×GErr):=
 ((f_wire_Reader_Int a0 (63:Int)).bind fun(e,u,v)=>((((((f_wire_Reader_Err (⟨a0.b,u,v⟩:T_wire_Reader)).bind fun a5=>(if a5.isNil=true then(if(decide (e<(1:Int)))=true then(some true)else(some (decide ((12:Int)<e))))else(some false))):Option Bool).bind fun a6=>(if a6=true then((f_wire_Reader_Refuse (⟨a0.b,u,v⟩:T_wire_Reader) (⟨#[107,105,110,100]⟩:ByteArray) (5:Int)).bind fun a7=>(some a7))else(some v))):Option GErr).bind fun a8=>((f_record_about e).bind fun a=>((f_record_Read_1 (1:Int) a (⟨a0.b,u,a8⟩:T_wire_Reader)).bind fun(w,a9,b0)=>((f_record_Read_1 (2:Int) a (⟨a0.b,a9,b0⟩:T_wire_Reader)).bind fun(x,b1,b2)=>((f_record_Read_1 (4:Int) a (⟨a0.b,b1,b2⟩:T_wire_Reader)).bind fun(y,b3,b4)=>((f_record_Read_1 (8:Int) a (⟨a0.b,b3,b4⟩:T_wire_Reader)).bind fun(z,b5,b6)=>((f_record_Read_1 (16:Int) a (⟨a0.b,b5,b6⟩:T_wire_Reader)).bind fun(A,b7,b8)=>((f_record_Read_1 (32:Int) a (⟨a0.b,b7,b8⟩:T_wire_Reader)).bind fun(B,b9,c0)=>((f_record_Read_1 (32:Int) a (⟨a0.b,b9,c0⟩:T_wire_Reader)).bind fun(C,c1,c2)=>((f_record_Read_1 (32:Int) a (⟨a0.b,c1,c2⟩:T_wire_Reader)).bind fun(g,i,j)=>(((if(decide ((andI .i64 a (64:Int))≠(0:Int)))=true then((f_wire_Reader_Flag (⟨a0.b,i,j⟩:T_wire_Reader)).bind fun(D,E,G)=>(some (D,E,G)))else(some (false,i,j))):Option (Bool×Int×GErr)).bind fun(k,I,J)=>((f_record_Read_2 (128:Int) a (⟨a0.b,I,J⟩:T_wire_Reader)).bind fun(l,K,L)=>((f_record_Read_2 (256:Int) a (⟨a0.b,K,L⟩:T_wire_Reader)).bind fun(m,N,O)=>((f_record_Read_2 (512:Int) a (⟨a0.b,N,O⟩:T_wire_Reader)).bind fun(n,P,Q)=>((f_record_Read_2 (1024:Int) a (⟨a0.b,P,Q⟩:T_wire_Reader)).bind fun(o,R,S)=>((f_record_Read_3 (2048:Int) a (⟨a0.b,R,S⟩:T_wire_Reader)).bind fun(p,T,U)=>((f_record_Read_3 (4096:Int) a (⟨a0.b,T,U⟩:T_wire_Reader)).bind fun(q,V,W)=>((f_record_Read_3 (8192:Int) a (⟨a0.b,V,W⟩:T_wire_Reader)).bind fun(r,X,Y)=>((f_record_Read_3 (8192:Int) a (⟨a0.b,X,Y⟩:T_wire_Reader)).bind fun(s,c,d)=>((((f_wire_Reader_Err (⟨a0.b,c,d⟩:T_wire_Reader)).bind fun a1=>(if a1.isNil=true then((f_record_Check (⟨e,w,x,y,z,A,B,C,g,k,l,m,n,o,p,q,r,s⟩:T_api_Record)).bind fun t=>(if(!t.isNil)=true then((f_fault_Of t).bind fun a2=>((f_wire_Reader_Refuse (⟨a0.b,c,d⟩:T_wire_Reader) (⟨#[114,101,99,111,114,100]⟩:ByteArray) a2).bind fun a3=>(some a3)))else(some d)))else(some d))):Option GErr).bind fun f=>((f_wire_Reader_Err (⟨a0.b,c,f⟩:T_wire_Reader)).bind fun a4=>(if(!a4.isNil)=true then(some ((⟨(0:Int),(0:Int),(0:Int),(0:Int),(0:Int),(0:Int),(0:Int),(0:Int),(0:Int),false,(⟨#[]⟩:ByteArray),(⟨#[]⟩:ByteArray),(⟨#[]⟩:ByteArray),(⟨#[]⟩:ByteArray),[],[],[],[]⟩:T_api_Record),c,f))else(some ((⟨e,w,x,y,z,A,B,C,g,k,l,m,n,o,p,q,r,s⟩:T_api_Record),c,f)))))))))))))))))))))))))
def f_record_Read_post (a0:T_wire_Reader) (k:Value) (m:Nat):(T_api_Record×Int×GErr)→Value→IM→HL→Prop:=
 fun(n:(T_api_Record×Int×GErr)) (v:Value) (l:IM) (o:HL)=>match n with |(a,p,q)=>∃ b c d e f g i j,(.agg #[(.int .i64 a.Kind),(.int .i64 a.Broker),(.int .i64 a.Epoch),(.int .i64 a.Topic),(.int .i64 a.Part),(.int .i64 a.Leader),(.int .i64 a.Client),(.int .i64 a.Serial),(.int .i64 a.Code),(.bool a.Flag),(.string a.Name),(.string a.Key),(.string a.Value),(.string a.Rack),b,d,f,i])=v∧o=[[(m, .cells #[k,(.int .i64 p),(GV q)] 76 (0,0))],c,e,g,j]∧OwnS (Kd.int .i64) l b a.Ids c∧OwnS (Kd.int .i64) l d a.Isr e∧OwnS (Kd.int .i64) l f a.Add g∧OwnS (Kd.int .i64) l i a.Drop j
theorem f_record_Read_ok (a0:T_wire_Reader) (M:IM) (P:Value) (X:Nat) (a:RS (Kd.int .u8) M P a0.b) (hE:Env M) (k9:(T_api_Record×Int×GErr)) (h:f_record_Read a0=some k9):
 Tri prog 44 #[(pt X 0)] M [[(X, .cells #[P,(Iv a0.at_),(GV a0.err)] 76 (0,0))]] (f_record_Read_post a0 P X k9):=by
 unfold f_record_Read at h
 refine Te func44 Z Z ?_
 intro F ρ t3
 refine Sr (We (box (cs:=#[(pt X 0)]) (congrArg Value.cells (asE (pt X 0) (t3 0)))) Z ?_)
 rintro _ _ _ - ⟨rfl,c,rfl,rfl⟩
 refine We (Al ze36 Z) Z ?_
 rintro _ _ _ - ⟨rfl,a8,rfl,rfl⟩
 refine Ns (qu (pt X 0) (Lb 1 pl55 Z Z Z) ?_)
 obtain ⟨⟨d,c9,e5⟩,l0,h⟩:=bnd h
 refine Wb (We (Cb co41 (f_wire_Reader_Int_ok a0 (63:Int) _ _ _ a (d,c9,e5) l0) (args2 Z Z)) Z ?_)
 rintro _ l1 _ b1 ⟨_,⟨rfl,rfl⟩,rfl⟩
 refine WL.a1 (qu (.agg #[(Iv d),(Iv 0),(Iv 0),(Iv 0),(Iv 0),(Iv 0),(Iv 0),(Iv 0),(Iv 0),(Bv false),(Sv ⟨#[]⟩),(Sv ⟨#[]⟩),(Sv ⟨#[]⟩),(Sv ⟨#[]⟩),Zs,Zs,Zs,Zs]) (Bl (cl:=[(Iv d),(Iv 0),(Iv 0),(Iv 0),(Iv 0),(Iv 0),(Iv 0),(Iv 0),(Iv 0),(Bv false),(Sv ⟨#[]⟩),(Sv ⟨#[]⟩),(Sv ⟨#[]⟩),(Sv ⟨#[]⟩),Zs,Zs,Zs,Zs]) ze36 fp36 (Pc (Iv d) Z Z Pz) Z) (We (Al ze36 Z) Z ?_))
 rintro _ _ _ - ⟨rfl,q,rfl,rfl⟩
 refine We (Sg (v:=(.agg #[(Iv d),(Iv 0),(Iv 0),(Iv 0),(Iv 0),(Iv 0),(Iv 0),(Iv 0),(Iv 0),(Bv false),(Sv ⟨#[]⟩),(Sv ⟨#[]⟩),(Sv ⟨#[]⟩),(Sv ⟨#[]⟩),Zs,Zs,Zs,Zs])) (vl:=[(Iv d),(Iv 0),(Iv 0),(Iv 0),(Iv 0),(Iv 0),(Iv 0),(Iv 0),(Iv 0),(Bv false),(Sv ⟨#[]⟩),(Sv ⟨#[]⟩),(Sv ⟨#[]⟩),(Sv ⟨#[]⟩),Zs,Zs,Zs,Zs]) (arr':=[(Iv d),(Iv 0),(Iv 0),(Iv 0),(Iv 0),(Iv 0),(Iv 0),(Iv 0),(Iv 0),(Bv false),(Sv ⟨#[]⟩),(Sv ⟨#[]⟩),(Sv ⟨#[]⟩),(Sv ⟨#[]⟩),Zs,Zs,Zs,Zs]) Z sz36 Z Z (onb Z) Z Z (by kernel_rfl)) Z ?_
 rintro _ _ _ - ⟨rfl,rfl⟩
 refine Nt ?_
 obtain ⟨e6,l2,h⟩:=bnd h
 refine Jf (fun(e6:GErr) a9 M' H'=>l1.le M'∧[(q, .cells #[(Iv d),(Iv 0),(Iv 0),(Iv 0),(Iv 0),(Iv 0),(Iv 0),(Iv 0),(Iv 0),(Bv false),(Sv ⟨#[]⟩),(Sv ⟨#[]⟩),(Sv ⟨#[]⟩),(Sv ⟨#[]⟩),Zs,Zs,Zs,Zs] 36 (0,0))]::[(X, .cells #[P,(Iv c9),(GV e6)] 76 (0,0))]::[(a8, .cells z36_.toArray 36 (0,0))]::[(c, .cells #[(pt X 0)] 55 (0,0))]::F=H'∧a9 1=(pt c 0)∧a9 2=(pt a8 0)∧a9 3=(pt q 0)) e6 ?_ ?_
 have h:=l2
 obtain ⟨i3,l3,h⟩:=bnd h
 refine Jf (fun(i3:Bool) a9 M' H'=>l1.le M'∧[(q, .cells #[(Iv d),(Iv 0),(Iv 0),(Iv 0),(Iv 0),(Iv 0),(Iv 0),(Iv 0),(Iv 0),(Bv false),(Sv ⟨#[]⟩),(Sv ⟨#[]⟩),(Sv ⟨#[]⟩),(Sv ⟨#[]⟩),Zs,Zs,Zs,Zs] 36 (0,0))]::[(X, .cells #[P,(Iv c9),(GV e5)] 76 (0,0))]::[(a8, .cells z36_.toArray 36 (0,0))]::[(c, .cells #[(pt X 0)] 55 (0,0))]::F=H'∧a9 1=(pt c 0)∧a9 2=(pt a8 0)∧a9 3=(pt q 0)∧a9 24=(Bv i3)) i3 ?_ ?_
 have h:=l3
 refine Cg (qu (pt X 0) (Lb 3 pl55 Z Z Z) ?_)
 obtain ⟨i4,l4,h⟩:=bnd h
 refine WL.f1 ?_
 have a:=a.mono b1
 refine We (Cb co42 (f_wire_Reader_Err_ok (⟨a0.b,c9,e5⟩:T_wire_Reader) _ _ _ a i4 l4) (args1 Z)) Z ?_
 rintro _ t4 _ b2 ⟨_,⟨rfl,rfl⟩,rfl⟩
 refine WL.a1 (qu (Bv i4.isNil) (errNil underlying40 Z) (qm (Bv i4.isNil) ?_))
 rcases Bi h with⟨L,h⟩ |⟨L,h⟩
 refine qo 15 L (pt q 0) (Fa fo36_0 Z Z) (qo 15 L (Iv d) (Lb 1 pl3 Z Z Z) (qo 15 L (Bv (decide (d<1))) (lss Z Z) (On 15 Z Z L (qm (Bv (decide (d<1))) ?_))))
 rcases Bi h with⟨U,h⟩ |⟨U,h⟩
 iterate 3 refine Of 19 Z Z U Z ?_
 refine qo 15 L (Bv true) (Pt Z U Z) (qu (Bv true) (Pt Z L Z) (Wz (WQ.f3 (WQ.f3 (Qb (WQ.f3 ?_))))))
 obtain rfl:=oi h
 exact Tj ⟨b2,Z,Z,Z,Z,Z⟩
 refine qo 19 U (pt q 0) (Fa fo36_0 Z Z) (qo 19 U (Iv d) (Lb 1 pl3 Z Z Z) (qo 19 U (Bv (decide ((12:Int)<d))) (gtr Z Z) (qo 15 L (Bv (decide ((12:Int)<d))) (Pf Z U Z) (qu (Bv (decide ((12:Int)<d))) (Pt Z L Z) (Wz (WQ.f3 (WQ.f3 (Qb (WQ.f3 ?_)))))))))
 obtain rfl:=oi h
 exact Tj ⟨b2,Z,Z,Z,Z,Z⟩
 iterate 4 refine Of 15 Z Z L Z ?_
 refine WL.offU 19 Z Z Z (WL.offU 19 Z Z Z (WL.offU 19 Z Z Z (Of 15 Z Z L Z (qu (Bv false) (Pf Z L Z) (Wz (WQ.f3 (WQ.f3 (Qb (WQ.f3 ?_)))))))))
 obtain rfl:=oi h
 exact Tj ⟨b2,Z,Z,Z,Z,Z⟩
 rintro t5 t6 t7 ⟨b3,rfl,a5,b8,b9,d0⟩
 refine Ch h d0 (fun l5 h=> ?_) (fun l5 h=> ?_)
 refine Cg (qu (pt X 0) (Lb 3 pl55 a5 Z Z) ?_)
 obtain ⟨q0,l6,h⟩:=bnd h
 refine WL.f1 ?_
 have a:=a.mono (b1.trans b3)
 refine We (Cb co43 (f_wire_Reader_Refuse_ok (⟨a0.b,c9,e5⟩:T_wire_Reader) (⟨#[107,105,110,100]⟩:ByteArray) (5:Int) _ _ _ a q0 l6) (args3 Z Z Z)) Z ?_
 rintro _ t8 _ i5 ⟨_,⟨rfl,rfl⟩,rfl⟩
 refine WL.a1 (Wz (WQ.f3 (WQ.f3 (Qb (WQ.f3 ?_)))))
 obtain rfl:=oi h
 exact Tj ⟨(b3.trans i5),Z,a5,b8,b9⟩
 refine Ck ?_
 obtain rfl:=oi h
 exact Tj ⟨b3,Z,a5,b8,b9⟩
 rintro t9 u0 u1 ⟨i6,rfl,R,c0,i⟩
 refine Sr (qu (pt q 0) (Fa fo36_0 i Z) (qu (Iv d) (Lb 0 pl3 Z Z Z) ?_))
 obtain ⟨E,l7,h⟩:=bnd h
 refine We (Ca co33 (f_record_about_ok d _ E l7) (args1 Z)) Z ?_
 rintro _ u2 _ i7 ⟨_,⟨rfl,rfl⟩,rfl⟩
 have l8:=(b1.trans i6).trans i7
 refine WL.a0 (We (Al ze3 Z) Z ?_)
 rintro _ _ _ - ⟨rfl,e,rfl,rfl⟩
 refine We (Es (Iv E) [(Iv E)] Z sz3 Z Z Z Z Z Z) Z ?_
 rintro _ _ _ - ⟨rfl,rfl⟩
 refine Ns (qu (.func (.func 59) #[] #[(pt e 0),(pt c 0)]) (makeFunc2 (args0) (args2 (show ev _ _=(pt e 0) from Z) (asE (Value.pointer (some ⟨c,0,none⟩)) R))) (qa (.func (.func 59) #[] #[(pt e 0),(pt c 0)]) (Ns (qm (.func (.func 59) #[] #[(pt e 0),(pt c 0)]) ?_))))
 obtain ⟨⟨m,l9,m0⟩,m1,h⟩:=bnd h
 refine WL.f4 (WL.f3 (Wb ?_))
 have a:=a.mono l8
 refine We (callV3 (first:=#[]) (cap:=#[(pt e 0),(pt c 0)]) co59 Z (f_record_Read_1_ok (1:Int) E (⟨a0.b,c9,e6⟩:T_wire_Reader) _ _ _ _ _ a (m,l9,m0) m1) (argsV1 Z Z)) Z ?_
 rintro _ u3 _ d1 ⟨_,⟨rfl,rfl⟩,rfl⟩
 have q1:=l8.trans d1
 refine WL.a3 (qm (.func (.func 59) #[] #[(pt e 0),(pt c 0)]) ?_)
 obtain ⟨⟨n,m2,m3⟩,m4,h⟩:=bnd h
 refine Wb (Wb (Wb ?_))
 have a:=a.mono d1
 refine We (callV3 (first:=#[]) (cap:=#[(pt e 0),(pt c 0)]) co59 Z (f_record_Read_1_ok (2:Int) E (⟨a0.b,l9,m0⟩:T_wire_Reader) _ _ _ _ _ a (n,m2,m3) m4) (argsV1 Z Z)) Z ?_
 rintro _ u4 _ d2 ⟨_,⟨rfl,rfl⟩,rfl⟩
 have q2:=q1.trans d2
 refine WL.a3 (qm (.func (.func 59) #[] #[(pt e 0),(pt c 0)]) ?_)
 obtain ⟨⟨r,m5,m6⟩,m7,h⟩:=bnd h
 refine Wb (Wb (Wb ?_))
 have a:=a.mono d2
 refine We (callV3 (first:=#[]) (cap:=#[(pt e 0),(pt c 0)]) co59 Z (f_record_Read_1_ok (4:Int) E (⟨a0.b,m2,m3⟩:T_wire_Reader) _ _ _ _ _ a (r,m5,m6) m7) (argsV1 Z Z)) Z ?_
 rintro _ u5 _ d3 ⟨_,⟨rfl,rfl⟩,rfl⟩
 have q3:=q2.trans d3
 refine WL.a3 (qu (pt q 1) (Fa fo36_1 i Z) (WL.f3 (We (Es (Iv m) [(Iv d),(Iv m),(Iv 0),(Iv 0),(Iv 0),(Iv 0),(Iv 0),(Iv 0),(Iv 0),(Bv false),(Sv ⟨#[]⟩),(Sv ⟨#[]⟩),(Sv ⟨#[]⟩),(Sv ⟨#[]⟩),Zs,Zs,Zs,Zs] Z sz3 Z Z Z Z Z (by kernel_rfl)) Z ?_)))
 rintro _ _ _ - ⟨rfl,rfl⟩
 refine qu (pt q 2) (Fa fo36_2 i Z) (We (Es (Iv n) [(Iv d),(Iv m),(Iv n),(Iv 0),(Iv 0),(Iv 0),(Iv 0),(Iv 0),(Iv 0),(Bv false),(Sv ⟨#[]⟩),(Sv ⟨#[]⟩),(Sv ⟨#[]⟩),(Sv ⟨#[]⟩),Zs,Zs,Zs,Zs] Z sz3 Z Z Z Z Z (by kernel_rfl)) Z ?_)
 rintro _ _ _ - ⟨rfl,rfl⟩
 refine qu (pt q 3) (Fa fo36_3 i Z) (We (Es (Iv r) [(Iv d),(Iv m),(Iv n),(Iv r),(Iv 0),(Iv 0),(Iv 0),(Iv 0),(Iv 0),(Bv false),(Sv ⟨#[]⟩),(Sv ⟨#[]⟩),(Sv ⟨#[]⟩),(Sv ⟨#[]⟩),Zs,Zs,Zs,Zs] Z sz3 Z Z Z Z Z (by kernel_rfl)) Z ?_)
 rintro _ _ _ - ⟨rfl,rfl⟩
 refine Ns (qm (.func (.func 59) #[] #[(pt e 0),(pt c 0)]) ?_)
 obtain ⟨⟨t,m8,m9⟩,n0,h⟩:=bnd h
 refine WL.f3 (WL.f3 (WL.f3 ?_))
 have a:=a.mono d3
 refine We (callV3 (first:=#[]) (cap:=#[(pt e 0),(pt c 0)]) co59 Z (f_record_Read_1_ok (8:Int) E (⟨a0.b,m5,m6⟩:T_wire_Reader) _ _ _ _ _ a (t,m8,m9) n0) (argsV1 Z Z)) Z ?_
 rintro _ u6 _ d4 ⟨_,⟨rfl,rfl⟩,rfl⟩
 have q4:=q3.trans d4
 refine WL.a3 (qm (.func (.func 59) #[] #[(pt e 0),(pt c 0)]) ?_)
 obtain ⟨⟨w,n1,n2⟩,n3,h⟩:=bnd h
 refine Wb (Wb (Wb ?_))
 have a:=a.mono d4
 refine We (callV3 (first:=#[]) (cap:=#[(pt e 0),(pt c 0)]) co59 Z (f_record_Read_1_ok (16:Int) E (⟨a0.b,m8,m9⟩:T_wire_Reader) _ _ _ _ _ a (w,n1,n2) n3) (argsV1 Z Z)) Z ?_
 rintro _ u7 _ d5 ⟨_,⟨rfl,rfl⟩,rfl⟩
 have q5:=q4.trans d5
 refine WL.a3 (qu (pt q 4) (Fa fo36_4 i Z) (WL.f3 (We (Es (Iv t) [(Iv d),(Iv m),(Iv n),(Iv r),(Iv t),(Iv 0),(Iv 0),(Iv 0),(Iv 0),(Bv false),(Sv ⟨#[]⟩),(Sv ⟨#[]⟩),(Sv ⟨#[]⟩),(Sv ⟨#[]⟩),Zs,Zs,Zs,Zs] Z sz3 Z Z Z Z Z (by kernel_rfl)) Z ?_)))
 rintro _ _ _ - ⟨rfl,rfl⟩
 refine qu (pt q 5) (Fa fo36_5 i Z) (We (Es (Iv w) [(Iv d),(Iv m),(Iv n),(Iv r),(Iv t),(Iv w),(Iv 0),(Iv 0),(Iv 0),(Bv false),(Sv ⟨#[]⟩),(Sv ⟨#[]⟩),(Sv ⟨#[]⟩),(Sv ⟨#[]⟩),Zs,Zs,Zs,Zs] Z sz3 Z Z Z Z Z (by kernel_rfl)) Z ?_)
 rintro _ _ _ - ⟨rfl,rfl⟩
 refine Ns (qm (.func (.func 59) #[] #[(pt e 0),(pt c 0)]) ?_)
 obtain ⟨⟨z,n4,n5⟩,n6,h⟩:=bnd h
 refine WL.f3 (WL.f3 (WL.f3 ?_))
 have a:=a.mono d5
 refine We (callV3 (first:=#[]) (cap:=#[(pt e 0),(pt c 0)]) co59 Z (f_record_Read_1_ok (32:Int) E (⟨a0.b,n1,n2⟩:T_wire_Reader) _ _ _ _ _ a (z,n4,n5) n6) (argsV1 Z Z)) Z ?_
 rintro _ u9 _ d6 ⟨_,⟨rfl,rfl⟩,rfl⟩
 have q6:=q5.trans d6
 refine WL.a3 (qm (.func (.func 59) #[] #[(pt e 0),(pt c 0)]) ?_)
 obtain ⟨⟨G,n7,n8⟩,n9,h⟩:=bnd h
 refine Wb (Wb (Wb ?_))
 have a:=a.mono d6
 refine We (callV3 (first:=#[]) (cap:=#[(pt e 0),(pt c 0)]) co59 Z (f_record_Read_1_ok (32:Int) E (⟨a0.b,n4,n5⟩:T_wire_Reader) _ _ _ _ _ a (G,n7,n8) n9) (argsV1 Z Z)) Z ?_
 rintro _ v0 _ c1 ⟨_,⟨rfl,rfl⟩,rfl⟩
 have o0:=q6.trans c1
 refine WL.a3 (qm (.func (.func 59) #[] #[(pt e 0),(pt c 0)]) ?_)
 obtain ⟨⟨g,e9,f0⟩,i8,h⟩:=bnd h
 refine Wb (Wb (Wb ?_))
 have a:=a.mono c1
 refine We (callV3 (first:=#[]) (cap:=#[(pt e 0),(pt c 0)]) co59 Z (f_record_Read_1_ok (32:Int) E (⟨a0.b,n7,n8⟩:T_wire_Reader) _ _ _ _ _ a (g,e9,f0) i8) (argsV1 Z Z)) Z ?_
 rintro _ o1 _ a6 ⟨_,⟨rfl,rfl⟩,rfl⟩
 have o2:=o0.trans a6
 refine WL.a3 (qu (pt q 6) (Fa fo36_6 i Z) (WL.f3 (We (Es (Iv z) [(Iv d),(Iv m),(Iv n),(Iv r),(Iv t),(Iv w),(Iv z),(Iv 0),(Iv 0),(Bv false),(Sv ⟨#[]⟩),(Sv ⟨#[]⟩),(Sv ⟨#[]⟩),(Sv ⟨#[]⟩),Zs,Zs,Zs,Zs] Z sz3 Z Z Z Z Z (by kernel_rfl)) Z ?_)))
 rintro _ _ _ - ⟨rfl,rfl⟩
 refine qu (pt q 7) (Fa fo36_7 i Z) (We (Es (Iv G) [(Iv d),(Iv m),(Iv n),(Iv r),(Iv t),(Iv w),(Iv z),(Iv G),(Iv 0),(Bv false),(Sv ⟨#[]⟩),(Sv ⟨#[]⟩),(Sv ⟨#[]⟩),(Sv ⟨#[]⟩),Zs,Zs,Zs,Zs] Z sz3 Z Z Z Z Z (by kernel_rfl)) Z ?_)
 rintro _ _ _ - ⟨rfl,rfl⟩
 refine qu (pt q 8) (Fa fo36_8 i Z) (We (Es (Iv g) [(Iv d),(Iv m),(Iv n),(Iv r),(Iv t),(Iv w),(Iv z),(Iv G),(Iv g),(Bv false),(Sv ⟨#[]⟩),(Sv ⟨#[]⟩),(Sv ⟨#[]⟩),(Sv ⟨#[]⟩),Zs,Zs,Zs,Zs] Z sz3 Z Z Z Z Z (by kernel_rfl)) Z ?_)
 rintro _ _ _ - ⟨rfl,rfl⟩
 refine Nt ?_
 obtain ⟨f2,i9,h⟩:=bnd h
 refine Jf (fun(p_:(Bool×Int×GErr)) a9 M' H'=>match p_ with |(k,d7,d8)=>o1.le M'∧[(q, .cells #[(Iv d),(Iv m),(Iv n),(Iv r),(Iv t),(Iv w),(Iv z),(Iv G),(Iv g),(Bv k),(Sv ⟨#[]⟩),(Sv ⟨#[]⟩),(Sv ⟨#[]⟩),(Sv ⟨#[]⟩),Zs,Zs,Zs,Zs] 36 (0,0))]::[(e, .cells #[(Iv E)] 3 (0,0))]::[(X, .cells #[P,(Iv d7),(GV d8)] 76 (0,0))]::[(c, .cells #[(pt X 0)] 55 (0,0))]::[(a8, .cells z36_.toArray 36 (0,0))]::F=H'∧a9 1=(pt c 0)∧a9 2=(pt a8 0)∧a9 3=(pt q 0)∧a9 4=(pt e 0)) f2 ?_ ?_
 have h:=i9
 refine Sr (qu (Iv E) (Lb 1 pl3 Z Z Z) (qu (Iv (andI .i64 E (64:Int))) (PO.and Z Z) (qu (Bv (decide ((andI .i64 E (64:Int))≠0))) (neq Z Z) (Nt (Ch h Z (fun j0 h=> ?_) (fun j0 h=> ?_))))))
 refine Cg (qu (pt X 0) (Lb 3 pl55 R Z Z) ?_)
 obtain ⟨⟨d9,o3,o4⟩,j1,h⟩:=bnd h
 refine Wb ?_
 have a:=a.mono a6
 refine We (Cb co60 (f_wire_Reader_Flag_ok (⟨a0.b,e9,f0⟩:T_wire_Reader) _ _ _ a (d9,o3,o4) j1) (args1 Z)) Z ?_
 rintro _ r5 _ e7 ⟨_,⟨rfl,rfl⟩,rfl⟩
 refine WL.a1 (qu (pt q 9) (Fa fo36_9 i Z) (WL.f1 (We (Es (Bv d9) [(Iv d),(Iv m),(Iv n),(Iv r),(Iv t),(Iv w),(Iv z),(Iv G),(Iv g),(Bv d9),(Sv ⟨#[]⟩),(Sv ⟨#[]⟩),(Sv ⟨#[]⟩),(Sv ⟨#[]⟩),Zs,Zs,Zs,Zs] Z sz4 Z Z Z Z Z (by kernel_rfl)) Z ?_)))
 rintro _ _ _ - ⟨rfl,rfl⟩
 refine Wz (WQ.f4 (WQ.f4 (WQ.f3 (WQ.f4 (WQ.f4 ?_)))))
 obtain rfl:=oi h
 exact Tj ⟨e7,Z,R,c0,i,Z⟩
 refine Ck ?_
 obtain rfl:=oi h
 exact Tj ⟨lr,Z,R,c0,i,Z⟩
 obtain ⟨k,d7,d8⟩:=f2
 rintro r6 r7 r8 ⟨c2,rfl,x,V,f,b0⟩
 have o5:=o2.trans c2
 refine Sr (qu (.func (.func 61) #[] #[(pt e 0),(pt c 0)]) (makeFunc2 (args0) (args2 (asE (Value.pointer (some ⟨e,0,none⟩)) b0) (asE (Value.pointer (some ⟨c,0,none⟩)) x))) (qa (.func (.func 61) #[] #[(pt e 0),(pt c 0)]) (Ns (qm (.func (.func 61) #[] #[(pt e 0),(pt c 0)]) ?_))))
 obtain ⟨⟨l,f9,g1⟩,j2,h⟩:=bnd h
 refine WL.f3 (WL.f3 (WL.f3 ?_))
 have a:=a.mono (a6.trans c2)
 refine We (callV3 (first:=#[]) (cap:=#[(pt e 0),(pt c 0)]) co61 Z (f_record_Read_2_ok (128:Int) E (⟨a0.b,d7,d8⟩:T_wire_Reader) _ _ _ _ _ a (l,f9,g1) j2) (argsV1 Z Z)) Z ?_
 rintro _ r9 _ c3 ⟨_,⟨rfl,rfl⟩,rfl⟩
 have o6:=o5.trans c3
 refine WL.a3 (qm (.func (.func 61) #[] #[(pt e 0),(pt c 0)]) ?_)
 obtain ⟨⟨o,g2,g3⟩,j3,h⟩:=bnd h
 refine Wb (Wb (Wb ?_))
 have a:=a.mono c3
 refine We (callV3 (first:=#[]) (cap:=#[(pt e 0),(pt c 0)]) co61 Z (f_record_Read_2_ok (256:Int) E (⟨a0.b,f9,g1⟩:T_wire_Reader) _ _ _ _ _ a (o,g2,g3) j3) (argsV1 Z Z)) Z ?_
 rintro _ s0 _ c4 ⟨_,⟨rfl,rfl⟩,rfl⟩
 have o7:=o6.trans c4
 refine WL.a3 (qm (.func (.func 61) #[] #[(pt e 0),(pt c 0)]) ?_)
 obtain ⟨⟨s,g4,g5⟩,j4,h⟩:=bnd h
 refine Wb (Wb (Wb ?_))
 have a:=a.mono c4
 refine We (callV3 (first:=#[]) (cap:=#[(pt e 0),(pt c 0)]) co61 Z (f_record_Read_2_ok (512:Int) E (⟨a0.b,g2,g3⟩:T_wire_Reader) _ _ _ _ _ a (s,g4,g5) j4) (argsV1 Z Z)) Z ?_
 rintro _ s1 _ c5 ⟨_,⟨rfl,rfl⟩,rfl⟩
 have o8:=o7.trans c5
 refine WL.a3 (qm (.func (.func 61) #[] #[(pt e 0),(pt c 0)]) ?_)
 obtain ⟨⟨y,g6,g7⟩,j5,h⟩:=bnd h
 refine Wb (Wb (Wb ?_))
 have a:=a.mono c5
 refine We (callV3 (first:=#[]) (cap:=#[(pt e 0),(pt c 0)]) co61 Z (f_record_Read_2_ok (1024:Int) E (⟨a0.b,g4,g5⟩:T_wire_Reader) _ _ _ _ _ a (y,g6,g7) j5) (argsV1 Z Z)) Z ?_
 rintro _ s2 _ c6 ⟨_,⟨rfl,rfl⟩,rfl⟩
 have o9:=o8.trans c6
 refine WL.a3 (qu (pt q 10) (Fa fo36_10 f Z) (WL.f3 (We (Es (Sv l) [(Iv d),(Iv m),(Iv n),(Iv r),(Iv t),(Iv w),(Iv z),(Iv G),(Iv g),(Bv k),(Sv l),(Sv ⟨#[]⟩),(Sv ⟨#[]⟩),(Sv ⟨#[]⟩),Zs,Zs,Zs,Zs] Z sz9 Z Z Z Z Z (by kernel_rfl)) Z ?_)))
 rintro _ _ _ - ⟨rfl,rfl⟩
 refine qu (pt q 11) (Fa fo36_11 f Z) (We (Es (Sv o) [(Iv d),(Iv m),(Iv n),(Iv r),(Iv t),(Iv w),(Iv z),(Iv G),(Iv g),(Bv k),(Sv l),(Sv o),(Sv ⟨#[]⟩),(Sv ⟨#[]⟩),Zs,Zs,Zs,Zs] Z sz9 Z Z Z Z Z (by kernel_rfl)) Z ?_)
 rintro _ _ _ - ⟨rfl,rfl⟩
 refine qu (pt q 12) (Fa fo36_12 f Z) (We (Es (Sv s) [(Iv d),(Iv m),(Iv n),(Iv r),(Iv t),(Iv w),(Iv z),(Iv G),(Iv g),(Bv k),(Sv l),(Sv o),(Sv s),(Sv ⟨#[]⟩),Zs,Zs,Zs,Zs] Z sz9 Z Z Z Z Z (by kernel_rfl)) Z ?_)
 rintro _ _ _ - ⟨rfl,rfl⟩
 refine qu (pt q 13) (Fa fo36_13 f Z) (We (Es (Sv y) [(Iv d),(Iv m),(Iv n),(Iv r),(Iv t),(Iv w),(Iv z),(Iv G),(Iv g),(Bv k),(Sv l),(Sv o),(Sv s),(Sv y),Zs,Zs,Zs,Zs] Z sz9 Z Z Z Z Z (by kernel_rfl)) Z ?_)
 rintro _ _ _ - ⟨rfl,rfl⟩
 refine Ns (qu (.func (.func 63) #[] #[(pt e 0),(pt c 0)]) (makeFunc2 (args0) (args2 (asE (Value.pointer (some ⟨e,0,none⟩)) b0) (asE (Value.pointer (some ⟨c,0,none⟩)) x))) (qa (.func (.func 63) #[] #[(pt e 0),(pt c 0)]) (Ns (qm (.func (.func 63) #[] #[(pt e 0),(pt c 0)]) ?_))))
 obtain ⟨⟨g8,g9,h0⟩,j6,h⟩:=bnd h
 refine WL.f3 (WL.f3 (WL.f3 ?_))
 have a:=a.mono c6
 refine We (callV3 (first:=#[]) (cap:=#[(pt e 0),(pt c 0)]) co63 Z (f_record_Read_3_ok (2048:Int) E (⟨a0.b,g6,g7⟩:T_wire_Reader) _ _ _ _ _ a (g8,g9,h0) j6) (argsV1 Z Z)) Z ?_
 rintro _ s3 _ c7 ⟨_,⟨j,b4,rfl,rfl,A⟩,rfl⟩
 have p0:=o9.trans c7
 refine WL.a4 (qm (.func (.func 63) #[] #[(pt e 0),(pt c 0)]) ?_)
 obtain ⟨⟨h1,h2,h3⟩,j7,h⟩:=bnd h
 refine Wb (Wb (Wb ?_))
 have a:=a.mono c7
 refine We (callV3 (first:=#[]) (cap:=#[(pt e 0),(pt c 0)]) co63 Z (f_record_Read_3_ok (4096:Int) E (⟨a0.b,g9,h0⟩:T_wire_Reader) _ _ _ _ _ a (h1,h2,h3) j7) (argsV1 Z Z)) Z ?_
 rintro _ s4 _ a7 ⟨_,⟨p,b5,rfl,rfl,B⟩,rfl⟩
 have p1:=p0.trans a7
 refine WL.a4 (qm (.func (.func 63) #[] #[(pt e 0),(pt c 0)]) ?_)
 obtain ⟨⟨h4,h5,h6⟩,j8,h⟩:=bnd h
 refine Wb (Wb (Wb ?_))
 have a:=a.mono a7
 refine We (callV3 (first:=#[]) (cap:=#[(pt e 0),(pt c 0)]) co63 Z (f_record_Read_3_ok (8192:Int) E (⟨a0.b,h2,h3⟩:T_wire_Reader) _ _ _ _ _ a (h4,h5,h6) j8) (argsV1 Z Z)) Z ?_
 rintro _ s5 _ S ⟨_,⟨u,b6,rfl,rfl,C⟩,rfl⟩
 have p2:=p1.trans S
 refine WL.a4 (qm (.func (.func 63) #[] #[(pt e 0),(pt c 0)]) ?_)
 obtain ⟨⟨h7,W,e1⟩,j9,h⟩:=bnd h
 refine Wb (Wb (Wb ?_))
 have a:=a.mono S
 refine We (callV3 (first:=#[]) (cap:=#[(pt e 0),(pt c 0)]) co63 Z (f_record_Read_3_ok (8192:Int) E (⟨a0.b,h5,h6⟩:T_wire_Reader) _ _ _ _ _ a (h7,W,e1) j9) (argsV1 Z Z)) Z ?_
 rintro _ p3 _ N ⟨_,⟨D,b7,rfl,rfl,J⟩,rfl⟩
 have e2:=p2.trans N
 refine WL.a4 (qu (pt q 14) (Fa fo36_14 f Z) (WL.f7 ?_))
 have A:=A.mono ((a7.trans S).trans N)
 refine We (Es j [(Iv d),(Iv m),(Iv n),(Iv r),(Iv t),(Iv w),(Iv z),(Iv G),(Iv g),(Bv k),(Sv l),(Sv o),(Sv s),(Sv y),j,Zs,Zs,Zs] A.cells sz34 Z Z (Ow A) Z Z (by kernel_rfl)) Z ?_
 rintro _ _ _ - ⟨rfl,rfl⟩
 refine qu (pt q 15) (Fa fo36_15 f Z) ?_
 have B:=B.mono (S.trans N)
 refine We (Es p [(Iv d),(Iv m),(Iv n),(Iv r),(Iv t),(Iv w),(Iv z),(Iv G),(Iv g),(Bv k),(Sv l),(Sv o),(Sv s),(Sv y),j,p,Zs,Zs] B.cells sz34 Z Z (Ow B) Z Z (by kernel_rfl)) Z ?_
 rintro _ _ _ - ⟨rfl,rfl⟩
 refine qu (pt q 16) (Fa fo36_16 f Z) ?_
 have C:=C.mono N
 refine We (Es u [(Iv d),(Iv m),(Iv n),(Iv r),(Iv t),(Iv w),(Iv z),(Iv G),(Iv g),(Bv k),(Sv l),(Sv o),(Sv s),(Sv y),j,p,u,Zs] C.cells sz34 Z Z (Ow C) Z Z (by kernel_rfl)) Z ?_
 rintro _ _ _ - ⟨rfl,rfl⟩
 refine qu (pt q 17) (Fa fo36_17 f Z) (We (Es D [(Iv d),(Iv m),(Iv n),(Iv r),(Iv t),(Iv w),(Iv z),(Iv G),(Iv g),(Bv k),(Sv l),(Sv o),(Sv s),(Sv y),j,p,u,D] J.cells sz34 Z Z (Ow J) Z Z (by kernel_rfl)) Z ?_)
 rintro _ _ _ - ⟨rfl,rfl⟩
 refine Nt ?_
 obtain ⟨Y,k0,h⟩:=bnd h
 refine Jf (fun(Y:GErr) a9 M' H'=>p3.le M'∧[(q, .cells #[(Iv d),(Iv m),(Iv n),(Iv r),(Iv t),(Iv w),(Iv z),(Iv G),(Iv g),(Bv k),(Sv l),(Sv o),(Sv s),(Sv y),j,p,u,D] 36 (0,0))]::[(e, .cells #[(Iv E)] 3 (0,0))]::[(X, .cells #[P,(Iv W),(GV Y)] 76 (0,0))]::[(c, .cells #[(pt X 0)] 55 (0,0))]::[(a8, .cells z36_.toArray 36 (0,0))]::b4::b5::b6::b7::F=H'∧a9 1=(pt c 0)∧a9 2=(pt a8 0)∧a9 3=(pt q 0)) Y ?_ ?_
 have h:=k0
 refine Sr (qu (pt X 0) (Lb 3 pl55 x Z Z) ?_)
 obtain ⟨h8,k1,h⟩:=bnd h
 refine Wb ?_
 have a:=a.mono N
 refine We (Cb co42 (f_wire_Reader_Err_ok (⟨a0.b,W,e1⟩:T_wire_Reader) _ _ _ a h8 k1) (args1 Z)) Z ?_
 rintro _ s6 _ I ⟨_,⟨rfl,rfl⟩,rfl⟩
 refine WL.a1 (qu (Bv h8.isNil) (errNil underlying40 Z) (Nt (Ch h Z (fun k2 h=> ?_) (fun k2 h=> ?_))))
 refine Sr (qu (.agg #[(Iv d),(Iv m),(Iv n),(Iv r),(Iv t),(Iv w),(Iv z),(Iv G),(Iv g),(Bv k),(Sv l),(Sv o),(Sv s),(Sv y),j,p,u,D]) (La (cs:=[(Iv d),(Iv m),(Iv n),(Iv r),(Iv t),(Iv w),(Iv z),(Iv G),(Iv g),(Bv k),(Sv l),(Sv o),(Sv s),(Sv y),j,p,u,D]) 1 ag36 sz36 f Z Z) ?_)
 obtain ⟨a2,k3,h⟩:=bnd h
 refine WL.f4 (WL.f5 (WL.f6 (WL.f7 ?_)))
 have A:=A.mono I
 have B:=B.mono I
 have C:=C.mono I
 have J:=J.mono I
 refine We (EO.call4 co29 (Tri.lend A.excl fun v2 v3 p4=>(Tri.lend B.excl fun w1_ H1_ hs1_=>(Tri.lend C.excl fun w2_ H2_ hs2_=>(Tri.lend J.excl fun w3_ H3_ hs3_=>(f_record_Check_ok (⟨d,m,n,r,t,w,z,G,g,k,l,o,s,y,g8,h1,h4,h7⟩:T_api_Record) _ _ _ _ _ ((((A.rs p4).mono (IM.le_add _ _)).mono (IM.le_add _ _)).mono (IM.le_add _ _)) ((((B.mono (IM.le_add _ _)).rs hs1_).mono (IM.le_add _ _)).mono (IM.le_add _ _)) ((((C.mono (IM.le_add _ _)).mono (IM.le_add _ _)).rs hs2_).mono (IM.le_add _ _)) ((((J.mono (IM.le_add _ _)).mono (IM.le_add _ _)).mono (IM.le_add _ _)).rs hs3_) a2 k3))))) (args1 Z)) Z ?_
 rintro _ _ _ T ⟨_,⟨q7,q8,p6,rfl,rfl,⟨q9,r0,p7,rfl,rfl,⟨r1,r2,p8,rfl,rfl,⟨r3,r4,p9,rfl,rfl,⟨rfl,rfl⟩⟩⟩⟩⟩,rfl⟩
 refine WL.a4 (qa (GV a2) (Ns (qm (GV a2) (qu (Bv (!a2.isNil)) (errNotNil underlying40 Z) (Nt (Ch h Z (fun k4 h=> ?_) (fun k4 h=> ?_)))))))
 refine WC.draw [0,0,2,7] (.pure 0 (.pure 1 (.alt 2 (.alt 3 .done .none) .none))) mixed (by kernel_rfl) (qt (pt X 0) Z (Lb 7 pl55 x Z Z) (qt (GV a2) Z (Mv Z) ?_))
 obtain ⟨h9,k5,h⟩:=bnd h
 have hE:=hE.mono ((e2.trans I).trans T)
 refine Ta Z (Ca co65 (f_fault_Of_ok a2 _ hE h9 k5) (args1 Z)) Z ?_ ?_
 rintro _ s7 _ c8 ⟨_,⟨rfl,rfl⟩,rfl⟩
 refine⟨(Sk 1 Z (Ss Z (Lb 7 pl55 x Z Z) Z trivial)), ?_⟩
 refine WT.a0 ?_
 obtain ⟨p5,k6,h⟩:=bnd h
 refine WT.f4 ?_
 have a:=a.mono ((I.trans T).trans c8)
 refine Ta Z (Cb co43 (f_wire_Reader_Refuse_ok (⟨a0.b,W,e1⟩:T_wire_Reader) (⟨#[114,101,99,111,114,100]⟩:ByteArray) h9 _ _ _ a p5 k6) (args3 Z Z Z)) Z ?_ ?_
 rintro _ s8 _ e8 ⟨_,⟨rfl,rfl⟩,rfl⟩
 refine⟨(Sl Z), ?_⟩
 refine WT.a1 (Ti (WQ.f4 (WQ.f4 (WQ.f4 (WQ.f4 (WQ.f8 (WQ.f8 (WQ.f6 (WQ.f8 (WQ.f8 ?_))))))))))
 obtain rfl:=oi h
 exact Tj ⟨(((I.trans T).trans c8).trans e8),Z,x,V,f⟩
 exact Tz
 exact Tz
 refine Ck (WQ.f3 (WQ.f3 (WQ.f3 (WQ.f3 (WQ.f8 (WQ.f8 (WQ.f6 (WQ.f8 (WQ.f8 ?_)))))))))
 obtain rfl:=oi h
 exact Tj ⟨(I.trans T),Z,x,V,f⟩
 refine Ck (WQ.f4 (WQ.f5 (WQ.f6 (WQ.f7 (WQ.f8 (WQ.f8 (WQ.f6 (WQ.f8 (WQ.f8 ?_)))))))))
 obtain rfl:=oi h
 exact Tj ⟨I,Z,x,V,f⟩
 rintro s9 t0 t1 ⟨K,rfl,e3,Q,e4⟩
 refine Cs (Sr (qu (pt X 0) (Lb 3 pl55 e3 Z Z) ?_))
 obtain ⟨i0,k7,h⟩:=bnd h
 refine Wb ?_
 have a:=a.mono (N.trans K)
 refine We (Cb co42 (f_wire_Reader_Err_ok (⟨a0.b,W,Y⟩:T_wire_Reader) _ _ _ a i0 k7) (args1 Z)) Z ?_
 rintro _ t2 _ O ⟨_,⟨rfl,rfl⟩,rfl⟩
 refine WL.a1 (qu (Bv (!i0.isNil)) (errNotNil underlying40 Z) (Nt (Ch h Z (fun k8 h=> ?_) (fun k8 h=> ?_))))
 refine Sr (qu (.agg z36_.toArray) (Bl (cl:=z36_) ze36 fp36 Pz Z) (WL.f4 (We (Sg (v:=(.agg z36_.toArray)) (vl:=z36_) (arr':=z36_) Z sz36 Q Z (onb Z) Z Z (by kernel_rfl)) Z ?_)))
 rintro _ _ _ - ⟨rfl,rfl⟩
 refine Nt (Cr (Tr (WQ.e0 (WQ.e0 (WQ.e0 (WQ.e0 (WQ.f6 (Dr (WQ.f6 (Dr (WQ.f6 ?_)))))))))))
 refine Dr (WQ.f6 (Dr (WQ.f6 (Dr (WQ.f6 (Dr (WQ.f6 (Dr (Qa (Qb (WQ.f3 ?_)))))))))))
 exact WQ.f5 (WQ.f5 (Rd h [[(X, .cells #[P,(Iv W),(GV Y)] 76 (0,0))],[],[],[],[]] (fun _ hs=>hs.drop) (resultsL1 Z (Rc (cs:=z36_) 0 ag36 sz36 Q Z Z)) ((e2.trans K).trans O) ⟨Zs,[],Zs,[],Zs,[],Zs,[],Z,Z,(OwnS.nil _ _),(OwnS.nil _ _),(OwnS.nil _ _),(OwnS.nil _ _)⟩))
 refine Ck (Tc (Sr (qu (.agg #[(Iv d),(Iv m),(Iv n),(Iv r),(Iv t),(Iv w),(Iv z),(Iv G),(Iv g),(Bv k),(Sv l),(Sv o),(Sv s),(Sv y),j,p,u,D]) (La (cs:=[(Iv d),(Iv m),(Iv n),(Iv r),(Iv t),(Iv w),(Iv z),(Iv G),(Iv g),(Bv k),(Sv l),(Sv o),(Sv s),(Sv y),j,p,u,D]) 1 ag36 sz36 e4 Z Z) (WL.f4 ?_))))
 have A:=A.mono (K.trans O)
 have B:=B.mono (K.trans O)
 have C:=C.mono (K.trans O)
 have J:=J.mono (K.trans O)
 refine We (Sg (v:=(.agg #[(Iv d),(Iv m),(Iv n),(Iv r),(Iv t),(Iv w),(Iv z),(Iv G),(Iv g),(Bv k),(Sv l),(Sv o),(Sv s),(Sv y),j,p,u,D])) (vl:=[(Iv d),(Iv m),(Iv n),(Iv r),(Iv t),(Iv w),(Iv z),(Iv G),(Iv g),(Bv k),(Sv l),(Sv o),(Sv s),(Sv y),j,p,u,D]) (arr':=[(Iv d),(Iv m),(Iv n),(Iv r),(Iv t),(Iv w),(Iv z),(Iv G),(Iv g),(Bv k),(Sv l),(Sv o),(Sv s),(Sv y),j,p,u,D]) Z sz36 Q Z (onesOf (Oc Z (Oc Z (Oc Z (Oc Z (Oc Z (Oc Z (Oc Z (Oc Z (Oc Z (Oc Z (Oc Z (Oc Z (Oc Z (Oc Z (Oc (Ow A) (Oc (Ow B) (Oc (Ow C) (Oc (Ow J) Oz))))))))))))))))))) Z Z (by kernel_rfl)) Z ?_
 rintro _ _ _ - ⟨rfl,rfl⟩
 exact Nt (Cr (Qb (Dr (Qb (Dr (Qb (Dr (Rd h [[(X, .cells #[P,(Iv W),(GV Y)] 76 (0,0))],b4,b5,b6,b7] (fun _ hs=>hs.drop) (resultsL1 Z (Rc (cs:=[(Iv d),(Iv m),(Iv n),(Iv r),(Iv t),(Iv w),(Iv z),(Iv G),(Iv g),(Bv k),(Sv l),(Sv o),(Sv s),(Sv y),j,p,u,D]) 0 ag36 sz36 Q Z Z)) ((e2.trans K).trans O) ⟨j,b4,p,b5,u,b6,D,b7,Z,Z,A,B,C,J⟩))))))))
noncomputable def f_batch_Next_l0 (a0:T_wire_Reader) (g:Int) (m:(Int×(List T_api_Record)×Int×GErr)):Option ((Int×(List T_api_Record)×Int×GErr)⊕(Int×GErr×(List T_api_Record))):=
 match m with
 |(e,a,c,d)=>
 (((if(decide (e<g))=true then((f_wire_Reader_Err (⟨a0.b,c,d⟩:T_wire_Reader)).bind fun i=>(some i.isNil))else(some false)):Option Bool).bind fun j=>(if j=true then((f_record_Read (⟨a0.b,c,d⟩:T_wire_Reader)).bind fun(f,k,l)=>(grd (a.length+[f].length≤274877906944) (some (inl (i64.wrap (e+(1:Int)),a++[f],k,l)))))else(some (inr (c,d,a)))))
noncomputable def f_batch_Next (a0:T_wire_Reader):Option (T_api_Batch×Int×GErr):=
 ((f_wire_Reader_At a0).bind fun m=>((f_wire_Reader_Int a0 (1073741824:Int)).bind fun(g,n,o)=>((f_wire_Reader_Int (⟨a0.b,n,o⟩:T_wire_Reader) (1073741824:Int)).bind fun(p,q,r)=>((f_wire_Reader_Int (⟨a0.b,q,r⟩:T_wire_Reader) (64:Int)).bind fun(i,d,e)=>((((((f_wire_Reader_Err (⟨a0.b,d,e⟩:T_wire_Reader)).bind fun s=>(if s.isNil=true then(if(decide (g=(0:Int)))=true then(some true)else(some (decide (i=(0:Int)))))else(some false))):Option Bool).bind fun t=>(if t=true then((f_wire_Reader_Refuse (⟨a0.b,d,e⟩:T_wire_Reader) (⟨#[98,97,116,99,104]⟩:ByteArray) (2:Int)).bind fun u=>(some u))else(some e))):Option GErr).bind fun v=>((((iter (f_batch_Next_l0 a0 i) ((0:Int),[],d,v)).bind (fun(w,x,y)=>(some (w,x,y)))):Option (Int×GErr×(List T_api_Record))).bind fun(a,f,z)=>((((f_wire_Reader_At (⟨a0.b,a,f⟩:T_wire_Reader)).bind fun j=>(if(decide ((16384:Int)<(i64.wrap (j - m))))=true then((f_wire_Reader_Refuse (⟨a0.b,a,f⟩:T_wire_Reader) (⟨#[98,97,116,99,104]⟩:ByteArray) (6:Int)).bind fun k=>(some k))else(some f))):Option GErr).bind fun c=>((f_wire_Reader_Err (⟨a0.b,a,c⟩:T_wire_Reader)).bind fun l=>(if(!l.isNil)=true then(some ((⟨(0:Int),(0:Int),[]⟩:T_api_Batch),a,c))else(some ((⟨g,p,z⟩:T_api_Batch),a,c)))))))))))
def f_batch_Next_post (a0:T_wire_Reader) (c:Value) (e:Nat):(T_api_Batch×Int×GErr)→Value→IM→HL→Prop:=
 fun(f:(T_api_Batch×Int×GErr)) (v:Value) (g:IM) (i:HL)=>match f with |(d,j,k)=>∃ a b,(.agg #[(.int .i64 d.Term),(.int .i64 d.Base),a])=v∧i=[[(e, .cells #[c,(.int .i64 j),(GV k)] 76 (0,0))],b]∧OwnS kd_api_Record g a d.Records b
theorem f_batch_Next_ok (a0:T_wire_Reader) (M:IM) (g:Value) (u:Nat) (a:RS (Kd.int .u8) M g a0.b) (hE:Env M) (i3:(T_api_Batch×Int×GErr)) (h:f_batch_Next a0=some i3):
 Tri prog 24 #[(pt u 0)] M [[(u, .cells #[g,(Iv a0.at_),(GV a0.err)] 76 (0,0))]] (f_batch_Next_post a0 g u i3):=by
 unfold f_batch_Next at h
 refine Te func24 Z Z ?_
 intro F ρ g3
 refine Sr (We (Al ze31 Z) Z ?_)
 rintro _ _ _ - ⟨rfl,z,rfl,rfl⟩
 refine Ns (qM (pt u 0) (g3 0) ?_)
 obtain ⟨L,i4,h⟩:=bnd h
 refine WL.f1 (We (Cb co40 (f_wire_Reader_At_ok a0 _ _ _ a L i4) (args1 Z)) Z ?_)
 rintro _ m5 _ c7 ⟨_,⟨rfl,rfl⟩,rfl⟩
 refine WL.a1 (qa (Iv L) (Ns (qM (pt u 0) (g3 0) ?_)))
 obtain ⟨⟨c,i5,i6⟩,i7,h⟩:=bnd h
 have a:=a.mono c7
 refine We (Cb co41 (f_wire_Reader_Int_ok a0 (1073741824:Int) _ _ _ a (c,i5,i6) i7) (args2 Z Z)) Z ?_
 rintro _ m6 _ c8 ⟨_,⟨rfl,rfl⟩,rfl⟩
 refine WL.a1 (qM (pt u 0) (g3 0) ?_)
 obtain ⟨⟨d,i8,i9⟩,j0,h⟩:=bnd h
 have a:=a.mono c8
 refine We (Cb co41 (f_wire_Reader_Int_ok (⟨a0.b,i5,i6⟩:T_wire_Reader) (1073741824:Int) _ _ _ a (d,i8,i9) j0) (args2 Z Z)) Z ?_
 rintro _ m7 _ c9 ⟨_,⟨rfl,rfl⟩,rfl⟩
 refine WL.a1 (qu (.agg #[(Iv c),(Iv d),Zs]) (Bl (cl:=[(Iv c),(Iv d),Zs]) ze31 fp31 (Pc (Iv c) Z Z (Pc (Iv d) Z Z Pz)) Z) (We (Al ze31 Z) Z ?_))
 rintro _ _ _ - ⟨rfl,k,rfl,rfl⟩
 refine We (Sg (v:=(.agg #[(Iv c),(Iv d),Zs])) (vl:=[(Iv c),(Iv d),Zs]) (arr':=[(Iv c),(Iv d),Zs]) Z sz31 Z Z (onb Z) Z Z Z) Z ?_
 rintro _ _ _ - ⟨rfl,rfl⟩
 refine Ns (qM (pt u 0) (g3 0) ?_)
 obtain ⟨⟨w,d0,e8⟩,j1,h⟩:=bnd h
 refine WL.f1 ?_
 have a:=a.mono c9
 refine We (Cb co41 (f_wire_Reader_Int_ok (⟨a0.b,i8,i9⟩:T_wire_Reader) (64:Int) _ _ _ a (w,d0,e8) j1) (args2 Z Z)) Z ?_
 rintro _ j2 _ l ⟨_,⟨rfl,rfl⟩,rfl⟩
 have l3:=((c7.trans c8).trans c9).trans l
 refine WL.a1 (qa (Iv w) (Nt ?_))
 obtain ⟨g6,j3,h⟩:=bnd h
 refine Jf (fun(g6:GErr) f M' H'=>j2.le M'∧[(u, .cells #[g,(Iv d0),(GV g6)] 76 (0,0))]::[(k, .cells #[(Iv c),(Iv d),Zs] 31 (0,0))]::[(z, .cells #[(Iv 0),(Iv 0),Zs] 31 (0,0))]::F=H'∧f 0=(pt u 0)∧f 2=(pt z 0)∧f 3=(Iv L)∧f 4=(pt k 0)∧f 5=(Iv w)) g6 ?_ ?_
 have h:=j3
 obtain ⟨g7,j4,h⟩:=bnd h
 refine Jf (fun(g7:Bool) f M' H'=>j2.le M'∧[(u, .cells #[g,(Iv d0),(GV e8)] 76 (0,0))]::[(k, .cells #[(Iv c),(Iv d),Zs] 31 (0,0))]::[(z, .cells #[(Iv 0),(Iv 0),Zs] 31 (0,0))]::F=H'∧f 0=(pt u 0)∧f 2=(pt z 0)∧f 3=(Iv L)∧f 4=(pt k 0)∧f 5=(Iv w)∧f 27=(Bv g7)) g7 ?_ ?_
 have h:=j4
 refine Cg (qM (pt u 0) (g3 0) ?_)
 obtain ⟨g8,j5,h⟩:=bnd h
 have a:=a.mono l
 refine We (Cb co42 (f_wire_Reader_Err_ok (⟨a0.b,d0,e8⟩:T_wire_Reader) _ _ _ a g8 j5) (args1 Z)) Z ?_
 rintro _ m8 _ a8 ⟨_,⟨rfl,rfl⟩,rfl⟩
 refine WL.a1 (qu (Bv g8.isNil) (errNil underlying40 Z) (qm (Bv g8.isNil) ?_))
 rcases Bi h with⟨e,h⟩ |⟨e,h⟩
 refine qo 19 e (pt k 0) (Fa fo31_0 Z Z) (qo 19 e (Iv c) (Lb 1 pl3 Z Z Z) (qo 19 e (Bv (decide (c=0))) (eql Z Z) (On 19 Z Z e (qm (Bv (decide (c=0))) ?_))))
 rcases Bi h with⟨O,h⟩ |⟨O,h⟩
 iterate 2 refine Of 23 Z Z O Z ?_
 refine qo 19 e (Bv true) (Pt Z O Z) (qu (Bv true) (Pt Z e Z) (Wz ?_))
 obtain rfl:=oi h
 exact Tj ⟨a8,Z,(g3 0),Z,Z,Z,Z,Z⟩
 refine On 23 Z Z O (qm (Iv w) (qo 23 O (Bv (decide (w=0))) (eql Z Z) (qo 19 e (Bv (decide (w=0))) (Pf Z O Z) (qu (Bv (decide (w=0))) (Pt Z e Z) (Wz ?_)))))
 obtain rfl:=oi h
 exact Tj ⟨a8,Z,(g3 0),Z,Z,Z,Z,Z⟩
 iterate 4 refine Of 19 Z Z e Z ?_
 refine WL.offU 23 Z Z Z (WL.offU 23 Z Z Z (Of 19 Z Z e Z (qu (Bv false) (Pf Z e Z) (Wz ?_))))
 obtain rfl:=oi h
 exact Tj ⟨a8,Z,(g3 0),Z,Z,Z,Z,Z⟩
 rintro m9 n0 n1 ⟨a9,rfl,T,b2,b3,b4,b5,d2⟩
 refine Ch h d2 (fun j6 h=> ?_) (fun j6 h=> ?_)
 refine Cg (qM (pt u 0) T ?_)
 obtain ⟨l4,j7,h⟩:=bnd h
 have a:=a.mono (l.trans a9)
 refine We (Cb co43 (f_wire_Reader_Refuse_ok (⟨a0.b,d0,e8⟩:T_wire_Reader) (⟨#[98,97,116,99,104]⟩:ByteArray) (2:Int) _ _ _ a l4 j7) (args3 Z Z Z)) Z ?_
 rintro _ n2 _ g9 ⟨_,⟨rfl,rfl⟩,rfl⟩
 refine WL.a1 (Wz ?_)
 obtain rfl:=oi h
 exact Tj ⟨(a9.trans g9),Z,T,b2,b3,b4,b5⟩
 refine Ck ?_
 obtain rfl:=oi h
 exact Tj ⟨a9,Z,T,b2,b3,b4,b5⟩
 rintro n3 j8 n4 ⟨C,rfl,e9,f0,f2,f5,f6⟩
 have h0:=l3.trans C
 obtain ⟨j9,k0,h⟩:=bnd h
 refine Jf (fun(p_:(Int×GErr×(List T_api_Record))) f M' H'=>match p_ with |(a6,f7,k1)=>∃ i P,j8.le M'∧[(u, .cells #[g,(Iv a6),(GV f7)] 76 (0,0))]::[(k, .cells #[(Iv c),(Iv d),i] 31 (0,0))]::[(z, .cells #[(Iv 0),(Iv 0),Zs] 31 (0,0))]::P::F=H'∧f 0=(pt u 0)∧f 2=(pt z 0)∧f 3=(Iv L)∧f 4=(pt k 0)∧OwnS kd_api_Record M' i k1 P) j9 ?_ ?_
 have h:=k0
 refine Sr (qa (Iv 0) (Nt (Bk (WC.e0 (WC.f3 (WC.f3 (WC.f3 ?_)))))))
 obtain ⟨n5,k2,k3⟩:=bnd h
 clear h
 refine WC.loop k2 (fun(p_:(Int×(List T_api_Record)×Int×GErr)) f M' H'=>match p_ with |(N,d3,c5,c6)=>∃ Q a7,j8.le M'∧[(u, .cells #[g,(Iv c5),(GV c6)] 76 (0,0))]::[(k, .cells #[(Iv c),(Iv d),Q] 31 (0,0))]::[(z, .cells #[(Iv 0),(Iv 0),Zs] 31 (0,0))]::a7::F=H'∧f 0=(pt u 0)∧f 2=(pt z 0)∧f 3=(Iv L)∧f 4=(pt k 0)∧f 5=(Iv w)∧f 6=(Iv N)∧OwnS kd_api_Record M' Q d3 a7) ?_ ?_
 exact⟨Zs,[],lr,Z,e9,f0,f2,f5,f6,Z,(OwnS.nil _ _)⟩
 rintro ⟨N,d3,c5,c6⟩ n6 n7 l6 n8 h ⟨Q,a7,D,rfl,U,b6,b7,b8,V,W,R⟩
 unfold f_batch_Next_l0 at h
 refine Cs ?_
 obtain ⟨h1,k4,h⟩:=bnd h
 refine Jf (fun(h1:Bool) f M' H'=>l6.le M'∧[(u, .cells #[g,(Iv c5),(GV c6)] 76 (0,0))]::[(k, .cells #[(Iv c),(Iv d),Q] 31 (0,0))]::[(z, .cells #[(Iv 0),(Iv 0),Zs] 31 (0,0))]::a7::F=H'∧f 0=(pt u 0)∧f 2=(pt z 0)∧f 3=(Iv L)∧f 4=(pt k 0)∧f 5=(Iv w)∧f 6=(Iv N)∧f 37=(Bv h1)) h1 ?_ ?_
 have h:=k4
 refine Cg (qM (Iv N) W (qM (Iv w) V (qu (Bv (decide (N<w))) (lss Z Z) (qm (Bv (decide (N<w))) ?_))))
 rcases Bi h with⟨E,h⟩ |⟨E,h⟩
 refine On 33 Z Z E (qM (pt u 0) U (On 33 Z Z E ?_))
 obtain ⟨h2,k5,h⟩:=bnd h
 have a:=a.mono ((l.trans C).trans D)
 refine We (Cb co42 (f_wire_Reader_Err_ok (⟨a0.b,c5,c6⟩:T_wire_Reader) _ _ _ a h2 k5) (args1 Z)) Z ?_
 rintro _ n9 _ h3 ⟨_,⟨rfl,rfl⟩,rfl⟩
 refine WL.a1 (qo 33 E (Bv h2.isNil) (errNil underlying40 Z) (qu (Bv h2.isNil) (Pt Z E Z) (Wz ?_)))
 obtain rfl:=oi h
 exact Tj ⟨h3,Z,U,b6,b7,b8,V,W,Z⟩
 iterate 3 refine Of 33 Z Z E Z ?_
 refine qu (Bv false) (Pf Z E Z) (Wz ?_)
 obtain rfl:=oi h
 exact Tj ⟨lr,Z,U,b6,b7,b8,V,W,Z⟩
 rintro o0 o1 o2 ⟨y,rfl,X,b9,c0,j,f8,f9,d4⟩
 refine Ch h d4 (fun k6 h=> ?_) (fun k6 h=> ?_)
 refine Ck (Tc (Cs (Bk (WC.draw [0,1,0,4,12,31,63,127] (.pure 0 (.pure 1 (.pure 2 (.alt 3 (.alt 4 (.alt 5 (.pure 6 (.alt 7 .done .none)) .none) .none) .none)))) mixed (by kernel_rfl) (qt (pt k 2) Z (Fa fo31_2 j Z) (qt Q Z (Lb 1 pl23 Z Z Z) (qt (pt u 0) Z (Mv X) ?_)))))))
 obtain ⟨⟨Y,k7,k8⟩,k9,h⟩:=bnd h
 have a:=a.mono (((l.trans C).trans D).trans y)
 have hE:=hE.mono ((h0.trans D).trans y)
 refine Ta Z (Cb co44 (f_record_Read_ok (⟨a0.b,c5,c6⟩:T_wire_Reader) _ _ _ a hE (Y,k7,k8) k9) (args1 Z)) Z ?_ ?_
 rintro _ l7 _ d5 ⟨_,⟨m,d6,n,d7,o,d8,p,d9,rfl,rfl,e1,G,I,J⟩,rfl⟩
 refine⟨(Sk 1 Z (Ss Z (Lb 5 pl23 Z Z Z) Z (Ss Z (Fa fo31_2 j Z) Z trivial))), ?_⟩
 refine WT.a5 (WT.f1 (WT.know (fun _ hs=>e1.rs hs) (fun e2=> ?_)))
 refine WT.freeze (fun K=> ?_)
 refine WT.f1 ?_
 have G:=G.mono K
 refine WT.know (fun _ hs=>G.rs hs) (fun b0=> ?_)
 refine WT.freeze (fun q=> ?_)
 refine WT.f1 ?_
 have I:=I.mono (K.trans q)
 refine WT.know (fun _ hs=>I.rs hs) (fun b1=> ?_)
 refine WT.freeze (fun r=> ?_)
 refine WT.f1 ?_
 have J:=J.mono ((K.trans q).trans r)
 refine WT.know (fun _ hs=>J.rs hs) (fun h4=> ?_)
 refine WT.freeze (fun s=> ?_)
 refine Ta Z (buildSliceL (cl:=(l36 Y m n o p)) underlying23 iz36 Z (Pc (a36_ Y m n o p) Z Z Pz) Z) Z ?_ ?_
 rintro _ _ _ - ⟨rfl,g4,rfl,rfl⟩
 have e2:=e2.mono ((q.trans r).trans s)
 have b0:=b0.mono (r.trans s)
 have b1:=b1.mono s
 have l0:OwnS kd_api_Record ((((l7.add d6).add d7).add d8).add d9) (.slice (some ⟨g4,0,none⟩) 1 1) [Y] [(g4, .cells (l36 Y m n o p).toArray 36 (0,0))]:=OwnS.rows (css:=[(l36 Y m n o p)]) (Rows.cons (kd_api_Record_mk (x:=Y) e2 b0 b1 h4) Rows.nil) Z Z
 refine⟨(Sk 1 Z (Ss Z (Lb 2 pl23 Z Z Z) Z (Ss Z (Fa fo31_2 j Z) Z trivial))), ?_⟩
 obtain ⟨h5,h⟩:=grd_i h
 refine WT.f4 ?_
 have R:=R.mono (((((y.trans d5).trans K).trans q).trans r).trans s)
 refine Ta Z (append (dd:=kd_api_Record) (xs:=d3) (ys:=[Y]) underlying23 underlying23 in36 Z (appB (by decide) h5) (by decide) Z Z R (l0.src 1 Z)) Z ?_ ?_
 rintro e3 _ _ - ⟨rfl,l1,rfl,e4⟩
 refine⟨(Sl Z), ?_⟩
 refine qt (pt k 2) Z (Fa fo31_2 j Z) (WT.f3 (Ta Z (Es e3 [(Iv c),(Iv d),e3] e4.cells sz23 Z Z (Ow e4) Z Z Z) Z ?_ ?_))
 rintro _ _ _ - ⟨rfl,rfl⟩
 refine⟨(Sl Z), ?_⟩
 refine Ti (Bn (Tc (Cg (qM (Iv N) f9 (qu (Iv (i64.wrap (N+1))) (add Z Z) (qa (Iv (i64.wrap (N+1))) (Wz (Qb (Dr (Qa (WQ.f3 ?_)))))))))))
 exact Qb (WQ.f3 (WQ.again (i64.wrap (N+1),d3++[Y],k7,k8) (oi h).symm ⟨e3,l1,((((((D.trans y).trans d5).trans K).trans q).trans r).trans s),Z,X,b9,c0,j,f8,Z,e4⟩))
 exact Tz
 exact Tz
 exact Tz
 exact Tz
 refine WC.exit (WQ.thenE (WQ.leaveE (c5,c6,d3) (oi h).symm (fun h6=> ?_)))
 subst h6
 have h:=k3
 refine WQ.blockH ?_
 obtain rfl:=oi h
 refine Tj ?_
 have R:=R.mono y
 exact⟨Q,a7,(D.trans y),Z,X,b9,c0,j,R⟩
 obtain ⟨a6,f7,k1⟩:=j9
 rintro o3 l8 o4 ⟨i,P,a2,rfl,A,c1,g1,c2,c3⟩
 obtain ⟨S,h7,h⟩:=bnd h
 refine Jf (fun(S:GErr) f M' H'=>l8.le M'∧[(u, .cells #[g,(Iv a6),(GV S)] 76 (0,0))]::[(k, .cells #[(Iv c),(Iv d),i] 31 (0,0))]::[(z, .cells #[(Iv 0),(Iv 0),Zs] 31 (0,0))]::P::F=H'∧f 0=(pt u 0)∧f 2=(pt z 0)∧f 4=(pt k 0)) S ?_ ?_
 have h:=h7
 refine Sr (qM (pt u 0) A ?_)
 obtain ⟨e5,h8,h⟩:=bnd h
 have a:=a.mono ((l.trans C).trans a2)
 refine We (Cb co40 (f_wire_Reader_At_ok (⟨a0.b,a6,f7⟩:T_wire_Reader) _ _ _ a e5 h8) (args1 Z)) Z ?_
 rintro _ l9 _ a3 ⟨_,⟨rfl,rfl⟩,rfl⟩
 refine WL.a1 (qM (Iv L) g1 (qu (Iv (i64.wrap (e5 - L))) (PO.sub Z Z) (qu (Bv (decide ((16384:Int)<(i64.wrap (e5 - L))))) (gtr Z Z) (Nt (Ch h Z (fun h9 h=> ?_) (fun h9 h=> ?_))))))
 refine Cg (qM (pt u 0) A ?_)
 obtain ⟨l2,i0,h⟩:=bnd h
 have a:=a.mono a3
 refine We (Cb co43 (f_wire_Reader_Refuse_ok (⟨a0.b,a6,f7⟩:T_wire_Reader) (⟨#[98,97,116,99,104]⟩:ByteArray) (6:Int) _ _ _ a l2 i0) (args3 Z Z Z)) Z ?_
 rintro _ m0 _ g2 ⟨_,⟨rfl,rfl⟩,rfl⟩
 refine WL.a1 (Wz ?_)
 obtain rfl:=oi h
 exact Tj ⟨(a3.trans g2),Z,A,c1,c2⟩
 refine Ck ?_
 obtain rfl:=oi h
 exact Tj ⟨a3,Z,A,c1,c2⟩
 rintro m1 m2 m3 ⟨B,rfl,e6,t,e7⟩
 refine Cs (Sr (qM (pt u 0) e6 ?_))
 obtain ⟨g5,i1,h⟩:=bnd h
 have a:=a.mono (((l.trans C).trans a2).trans B)
 refine We (Cb co42 (f_wire_Reader_Err_ok (⟨a0.b,a6,S⟩:T_wire_Reader) _ _ _ a g5 i1) (args1 Z)) Z ?_
 rintro _ m4 _ a4 ⟨_,⟨rfl,rfl⟩,rfl⟩
 refine WL.a1 (qu (Bv (!g5.isNil)) (errNotNil underlying40 Z) (Nt (Ch h Z (fun i2 h=> ?_) (fun i2 h=> ?_))))
 refine Sr (qu (.agg #[(Iv 0),(Iv 0),Zs]) (Bl (cl:=[(Iv 0),(Iv 0),Zs]) ze31 fp31 Pz Z) (Wb (We (Sg (v:=(.agg #[(Iv 0),(Iv 0),Zs])) (vl:=[(Iv 0),(Iv 0),Zs]) (arr':=[(Iv 0),(Iv 0),Zs]) Z sz31 t Z (onb Z) Z Z Z) Z ?_)))
 rintro _ _ _ - ⟨rfl,rfl⟩
 exact Nt (Cr (Tr (WQ.e0 (WQ.f3 (Dr (WQ.f3 (Dr (Qb (Qb (Rd h [[(u, .cells #[g,(Iv a6),(GV S)] 76 (0,0))],[]] (fun _ hs=>hs.drop) (resultsL1 Z (Rc (cs:=[(Iv 0),(Iv 0),Zs]) 0 ag31 sz31 t Z Z)) (((h0.trans a2).trans B).trans a4) ⟨Zs,[],Z,Z,(OwnS.nil _ _)⟩))))))))))
 refine Ck (Tc (Sr (qu (.agg #[(Iv c),(Iv d),i]) (La (cs:=[(Iv c),(Iv d),i]) 1 ag31 sz31 e7 Z Z) (Wb ?_))))
 have c3:=c3.mono (B.trans a4)
 refine We (Sg (v:=(.agg #[(Iv c),(Iv d),i])) (vl:=[(Iv c),(Iv d),i]) (arr':=[(Iv c),(Iv d),i]) Z sz31 t Z (onesOf (Oc Z (Oc Z (Oc (Ow c3) Oz)))) Z Z Z) Z ?_
 rintro _ _ _ - ⟨rfl,rfl⟩
 exact Nt (Cr (Qb (Dr (Rd h [[(u, .cells #[g,(Iv a6),(GV S)] 76 (0,0))],P] (fun _ hs=>hs.drop) (resultsL1 Z (Rc (cs:=[(Iv c),(Iv d),i]) 0 ag31 sz31 t Z Z)) (((h0.trans a2).trans B).trans a4) ⟨i,P,Z,Z,c3⟩))))
noncomputable def f_wire_Reader_End (a0:T_wire_Reader):Option (GErr×GErr):=
 (((if(decide (a0.at_<(a0.b.length:Int)))=true then((f_wire_Reader_fail a0 (⟨#[101,110,100]⟩:ByteArray) a0.at_ (5:Int)).bind fun c=>(some c))else(some a0.err)):Option GErr).bind fun a=>(some (a,a)))
def f_wire_Reader_End_post (a0:T_wire_Reader) (a:Value) (b:Nat):(GErr×GErr)→Value→IM→HL→Prop:=
 fun(c:(GErr×GErr)) (v:Value) (g:IM) (d:HL)=>match c with |(e,f)=>(GV e)=v∧d=[[(b, .cells #[a,(.int .i64 a0.at_),(GV f)] 76 (0,0))]]
theorem f_wire_Reader_End_ok (a0:T_wire_Reader) (M:IM) (a:Value) (c:Nat) (f:RS (Kd.int .u8) M a a0.b) (k:(GErr×GErr)) (h:f_wire_Reader_End a0=some k):
 Tri prog 25 #[(pt c 0)] M [[(c, .cells #[a,(Iv a0.at_),(GV a0.err)] 76 (0,0))]] (f_wire_Reader_End_post a0 a c k):=by
 unfold f_wire_Reader_End at h
 refine Te func25 Z Z ?_
 intro F w j
 refine Sr (qa (GV GErr.nil) (Nt ?_))
 obtain ⟨d,l,h⟩:=bnd h
 refine Jf (fun(d:GErr) p q r=>M.le q∧[(c, .cells #[a,(Iv a0.at_),(GV d)] 76 (0,0))]::F=r∧p 0=(pt c 0)) d ?_ ?_
 have h:=l
 refine Cs (WC.draw [0,1,3,7,0,16,48,112,240,511] (.pure 0 (.pure 1 (.pure 2 (.pure 3 (.pure 4 (.pure 5 (.pure 6 (.pure 7 (.pure 8 (.pure 9 .done)))))))))) mixed (by kernel_rfl) (qt (pt c 0) Z (Mv (j 0)) (qt (pt c 0) Z (Nk Z) (qt (pt c 1) Z (Fa fo76_1 Z Z) (qt (Iv a0.at_) Z (Lb 0 pl3 Z Z Z) (qt (pt c 0) Z (Mv (j 0)) (qt (pt c 0) Z (Nk Z) (qt (pt c 0) Z (Fa fo76_0 Z Z) (qt a Z (Lb 0 pl38 Z Z Z) (qt (Iv (a0.b.length:Int)) Z (lenS underlying38 Z f.len) (qt (Bv (decide (a0.at_<(a0.b.length:Int)))) Z (lss Z Z) ?_)))))))))))
 refine Ti (Tc (Ch h Z (fun m h=> ?_) (fun m h=> ?_)))
 refine Cg (qM (pt c 0) (j 0) (qM (pt c 0) (j 0) (qu (pt c 0) (Nk Z) (qu (pt c 1) (Fa fo76_1 Z Z) (qu (Iv a0.at_) (Lb 0 pl3 Z Z Z) ?_)))))
 obtain ⟨o,n,h⟩:=bnd h
 refine We (Cb co45 (f_wire_Reader_fail_ok a0 (⟨#[101,110,100]⟩:ByteArray) a0.at_ (5:Int) _ _ _ f o n) (args4 Z Z Z Z)) Z ?_
 rintro _ s _ g ⟨_,⟨rfl,rfl⟩,rfl⟩
 refine WL.a1 (Wz ?_)
 obtain rfl:=oi h
 exact Tj ⟨g,Z,(j 0)⟩
 refine Ck ?_
 obtain rfl:=oi h
 exact Tj ⟨lr,Z,(j 0)⟩
 rintro t u v ⟨i,rfl,e⟩
 exact Sr (qM (pt c 0) e (qu (pt c 0) (Nk Z) (qu (pt c 2) (Fa fo76_2 Z Z) (qu (GV d) (Lb 0 pl40 Z Z Z) (qa (GV d) (Nt (Cr (Rf h [[(c, .cells #[a,(Iv a0.at_),(GV d)] 76 (0,0))]] Z (Rs Z Z) i ⟨Z,Z⟩))))))))
noncomputable def f_batch_Read (a0:(List Int)):Option (T_api_Batch×GErr):=
 ((f_wire_Read a0).bind fun a=>((f_batch_Next a).bind fun(d,e,f)=>((f_wire_Reader_End (⟨a.b,e,f⟩:T_wire_Reader)).bind fun(c,g)=>(if(!c.isNil)=true then(some ((⟨(0:Int),(0:Int),[]⟩:T_api_Batch),c))else(some (d,GErr.nil))))))
def f_batch_Read_post (a0:(List Int)) (i:Value):(T_api_Batch×GErr)→Value→IM→HL→Prop:=
 fun(d:(T_api_Batch×GErr)) (v:Value) (e:IM) (f:HL)=>match d with |(c,g)=>∃ a b,(.tuple #[(.agg #[(.int .i64 c.Term),(.int .i64 c.Base),a]),(GV g)])=v∧f=[b]∧OwnS kd_api_Record e a c.Records b
theorem f_batch_Read_ok (a0:(List Int)) (M:IM) (u:Value) (y:RS (Kd.int .u8) M u a0) (hE:Env M) (n:(T_api_Batch×GErr)) (h:f_batch_Read a0=some n):
 Tri prog 12 #[u] M [] (f_batch_Read_post a0 u n):=by
 unfold f_batch_Read at h
 refine Te func12 Z Z ?_
 intro F G z
 refine Sr (We (Al ze31 Z) Z ?_)
 rintro _ _ _ - ⟨rfl,A,rfl,rfl⟩
 refine qa (GV GErr.nil) (Ns (qM u (z 0) ?_))
 obtain ⟨l,o,h⟩:=bnd h
 refine We (Ca co23 (f_wire_Read_ok a0 _ _ y l o) (args1 Z)) Z ?_
 rintro _ B _ f ⟨_,⟨m,w,rfl,rfl,d⟩,rfl⟩
 refine WL.a1 (qa (pt m 0) (Ns (qm (pt m 0) ?_)))
 obtain ⟨⟨e,p,q⟩,r,h⟩:=bnd h
 have hE:=hE.mono f
 refine We (Cb co24 (f_batch_Next_ok l _ _ _ d hE (e,p,q) r) (args1 Z)) Z ?_
 rintro _ C _ g ⟨_,⟨a,j,rfl,rfl,c⟩,rfl⟩
 refine WL.a2 (We (Al ze31 Z) Z ?_)
 rintro _ _ _ - ⟨rfl,D,rfl,rfl⟩
 refine We (Sg (v:=(a31_ e a)) (vl:=(l31 e a)) (arr':=(l31 e a)) Z sz31 Z Z (onesOf (Oc Z (Oc Z (Oc (Ow c) Oz)))) Z Z Z) Z ?_
 rintro _ _ _ - ⟨rfl,rfl⟩
 refine Nt (Cs (Sr (qm (pt m 0) ?_)))
 obtain ⟨⟨k,x⟩,s,h⟩:=bnd h
 refine WL.f1 ?_
 have d:=d.mono g
 refine We (Cb co25 (f_wire_Reader_End_ok (⟨l.b,p,q⟩:T_wire_Reader) _ _ _ d (k,x) s) (args1 Z)) Z ?_
 rintro _ E _ i ⟨_,⟨rfl,rfl⟩,rfl⟩
 refine WL.a1 (qa (GV k) (Ns (qm (GV k) (qu (Bv (!k.isNil)) (errNotNil underlying40 Z) (Nt (Ch h Z (fun t h=> ?_) (fun t h=> ?_)))))))
 refine Sr (qu (.agg #[(Iv 0),(Iv 0),Zs]) (Bl (cl:=[(Iv 0),(Iv 0),Zs]) ze31 fp31 Pz Z) (qm (GV k) (WL.f3 (We (Sg (v:=(.agg #[(Iv 0),(Iv 0),Zs])) (vl:=[(Iv 0),(Iv 0),Zs]) (arr':=[(Iv 0),(Iv 0),Zs]) Z sz31 Z Z (onb Z) Z Z Z) Z ?_))))
 rintro _ _ _ - ⟨rfl,rfl⟩
 refine qa (GV k) (Nt (Cr (Tr (WQ.e0 (Qb (Dr (Qb (Dr (Qb (Dr (Qa ?_)))))))))))
 exact Rd h [[]] (fun _ hs=>hs.drop) (resultsLN Z (RVs.cons (Rc (cs:=[(Iv 0),(Iv 0),Zs]) 0 ag31 sz31 Z Z Z) (RVs.cons (RV.tmp Z) RVs.nil))) ((f.trans g).trans i) ⟨Zs,[],Z,Z,(OwnS.nil _ _)⟩
 refine Ck (Tc (Sr (qu (a31_ e a) (La (cs:=(l31 e a)) 1 ag31 sz31 Z Z Z) (WL.f3 ?_))))
 have c:=c.mono i
 refine We (Sg (v:=(a31_ e a)) (vl:=(l31 e a)) (arr':=(l31 e a)) Z sz31 Z Z (onesOf (Oc Z (Oc Z (Oc (Ow c) Oz)))) Z Z Z) Z ?_
 rintro _ _ _ - ⟨rfl,rfl⟩
 exact qa (GV GErr.nil) (Nt (Cr (Qa (Dr (Qa (Dr (Rd h [j] (fun _ hs=>hs.drop) (resultsLN Z (RVs.cons (Rc (cs:=(l31 e a)) 0 ag31 sz31 Z Z Z) (RVs.cons (RV.tmp Z) RVs.nil))) ((f.trans g).trans i) ⟨a,j,Z,Z,c⟩)))))))
noncomputable def f_batch_Split_l0 (a0:Int) (a1:Int) (a2:Int) (d:((List T_api_Record)×(List T_api_Batch))):Option (((List T_api_Record)×(List T_api_Batch))⊕(List T_api_Batch)):=
 match d with
 |(a,b)=>
 (if(decide ((0:Int)<(a.length:Int)))=true then(grd (0≤(0:Int)∧(0:Int)≤(if(a.length:Int)<a2 then(a.length:Int)else a2)∧(if(a.length:Int)<a2 then(a.length:Int)else a2)≤(a.length:Int)) ((f_batch_Of a0 (i64.wrap (a1+(b.length:Int))) (sub a (0:Int) (if(a.length:Int)<a2 then(a.length:Int)else a2))).bind fun c=>(grd (b.length+[c].length≤274877906944) (grd (0≤(if(a.length:Int)<a2 then(a.length:Int)else a2)∧(if(a.length:Int)<a2 then(a.length:Int)else a2)≤(a.length:Int)∧(a.length:Int)≤(a.length:Int)) (some (inl (sub a (if(a.length:Int)<a2 then(a.length:Int)else a2) (a.length:Int),b++[c])))))))else(some (inr b)))
noncomputable def f_batch_Split (a0:Int) (a1:Int) (a2:Int) (a3:(List T_api_Record)):Option (List T_api_Batch):=
 (if(decide (a2<(1:Int)))=true then(some [])else((((iter (f_batch_Split_l0 a0 a1 a2) (a3,[])).bind (fun(a:(List T_api_Batch))=>(some a))):Option (List T_api_Batch)).bind fun b=>(some b)))
def f_batch_Split_post (a0:Int) (a1:Int) (a2:Int) (a3:(List T_api_Record)) (f:Value):(List T_api_Batch)→Value→IM→HL→Prop:=
 fun(c:(List T_api_Batch)) (v:Value) (d:IM) (e:HL)=>∃ a b,a=v∧e=[b]∧OwnS kd_api_Batch d a c b
theorem f_batch_Split_ok (a0:Int) (a1:Int) (a2:Int) (a3:(List T_api_Record)) (M:IM) (X:Value) (h3:RS kd_api_Record M X a3) (J:(List T_api_Batch)) (h:f_batch_Split a0 a1 a2 a3=some J):
 Tri prog 6 #[(Iv a0),(Iv a1),(Iv a2),X] M [] (f_batch_Split_post a0 a1 a2 a3 X J):=by
 unfold f_batch_Split at h
 refine Te func6 Z Z ?_
 intro F ρ K
 refine Sr (qa Zs (Ns (qa Zs (Nt (Cs (Sr (qM (Iv a2) (K 2) (qu (Bv (decide (a2<1))) (lss Z Z) (Nt (Ch h Z (fun L h=> ?_) (fun L h=> ?_)))))))))))
 exact Sr (qa Zs (Nt (Cr (Tr (WQ.e0 (Rf h [[]] Z (Rs Z Z) lr ⟨Zs,[],Z,Z,(OwnS.nil _ _)⟩))))))
 refine Ck (Tc ?_)
 obtain ⟨C,N,h⟩:=bnd h
 refine Jf (fun(C:(List T_api_Batch)) D I Y=>∃ g o,M.le I∧o::F=Y∧D 9=g∧OwnS kd_api_Batch I g C o) C ?_ ?_
 have h:=N
 refine Bk (WC.e0 ?_)
 obtain ⟨b1,O,P⟩:=bnd h
 clear h
 refine WC.loop O (fun(p_:((List T_api_Record)×(List T_api_Batch))) D I Y=>match p_ with |(a,p)=>∃ b i t,M.le I∧t::F=Y∧D 0=(Iv a0)∧D 1=(Iv a1)∧D 2=(Iv a2)∧D 3=b∧D 9=i∧RS kd_api_Record I b a∧OwnS kd_api_Batch I i p t) ?_ ?_
 exact⟨X,Zs,[],lr,Z,(K 0),(K 1),(K 2),(K 3),Z,h3,(OwnS.nil _ _)⟩
 rintro ⟨a,p⟩ b3 b4 b5 b6 h ⟨b,i,t,y,rfl,u,v,w,d,k,c,q⟩
 unfold f_batch_Split_l0 at h
 refine Cs (Sr (qM b d (qu (Iv (a.length:Int)) (lenS underlying23 Z c.len) (qu (Bv (decide ((0:Int)<(a.length:Int)))) (gtr Z Z) (Nt (Ch h Z (fun Q h=> ?_) (fun Q h=> ?_)))))))
 refine Ck (Tc (Bk (Sr (qM (Iv a2) w (qM b d (qu (Iv (a.length:Int)) (lenS underlying23 Z c.len) (qu (Iv (if(a.length:Int)<a2 then(a.length:Int)else a2)) (PO.min Z Z) (qa (Iv (if(a.length:Int)<a2 then(a.length:Int)else a2)) (Ns (qM i k (qM (Iv a0) u ?_)))))))))))
 refine qM (Iv a1) v (qM i k (qu (Iv (p.length:Int)) (lenS underlying26 Z q.len) (qu (Iv (i64.wrap (a1+(p.length:Int)))) (add Z Z) (qM b d (qm (Iv (if(a.length:Int)<a2 then(a.length:Int)else a2)) ?_)))))
 obtain ⟨f,h⟩:=grd_i h
 have a4:=c.sub f.1 f.2.1 f.2.2
 refine qu (slV b 18 ((0:Int)).toNat ((if(a.length:Int)<a2 then(a.length:Int)else a2)).toNat) (slice (n:=a.length) (l:=((0:Int)).toNat) (h:=((if(a.length:Int)<a2 then(a.length:Int)else a2)).toNat) underlying23 sz36 Z c.len c.cap (bound0 Z) ⟨_,_,Z,(Int.le_trans f.1 f.2.1),Z⟩ (Int.toNat_le_toNat f.2.1) (toNat_le_len f.2.2)) ?_
 obtain ⟨m,R,h⟩:=bnd h
 refine We (Ca co10 (f_batch_Of_ok a0 (i64.wrap (a1+(p.length:Int))) (sub a (0:Int) (if(a.length:Int)<a2 then(a.length:Int)else a2)) _ _ a4 m R) (args3 Z Z Z)) Z ?_
 rintro _ a5 _ r ⟨_,⟨e,z,rfl,rfl,A⟩,rfl⟩
 refine WL.a1 (WL.know (fun _ hs=>A.rs hs) (fun S=> ?_))
 refine WL.freeze (fun s=> ?_)
 refine We (buildSliceL (cl:=(l31 m e)) underlying26 iz31 Z (Pc (a31_ m e) Z Z Pz) Z) Z ?_
 rintro _ _ _ - ⟨rfl,T,rfl,rfl⟩
 have a6:OwnS kd_api_Batch (a5.add z) (.slice (some ⟨T,0,none⟩) 1 1) [m] [(T, .cells (l31 m e).toArray 31 (0,0))]:=OwnS.rows (css:=[(l31 m e)]) (Rows.cons (kd_api_Batch_mk (x:=m) S) Rows.nil) Z Z
 obtain ⟨U,h⟩:=grd_i h
 refine WL.f1 ?_
 have q:=q.mono (r.trans s)
 refine We (append (dd:=kd_api_Batch) (xs:=p) (ys:=[m]) underlying26 underlying26 in31 Z (appB (by decide) U) (by decide) Z Z q (a6.src 1 Z)) Z ?_
 rintro V _ _ - ⟨rfl,a7,rfl,a8⟩
 refine qa V (Nt (Cg (qM b d (qm (Iv (if(a.length:Int)<a2 then(a.length:Int)else a2)) ?_))))
 obtain ⟨j,h⟩:=grd_i h
 have c:=c.mono (r.trans s)
 have a9:=c.sub j.1 j.2.1 j.2.2
 exact qu (slV b 18 ((if(a.length:Int)<a2 then(a.length:Int)else a2)).toNat ((a.length:Int)).toNat) (slice (n:=a.length) (l:=((if(a.length:Int)<a2 then(a.length:Int)else a2)).toNat) (h:=((a.length:Int)).toNat) underlying23 sz36 Z c.len c.cap ⟨_,_,Z,j.1,Z⟩ (boundN_ Z) (Int.toNat_le_toNat j.2.1) (toNat_le_len j.2.2)) (qa (slV b 18 ((if(a.length:Int)<a2 then(a.length:Int)else a2)).toNat ((a.length:Int)).toNat) (Wz (Bn (Qa (Dr (WQ.again (sub a (if(a.length:Int)<a2 then(a.length:Int)else a2) (a.length:Int),p++[m]) (oi h).symm ⟨(slV b 18 ((if(a.length:Int)<a2 then(a.length:Int)else a2)).toNat ((a.length:Int)).toNat),V,a7,((y.trans r).trans s),Z,u,v,w,Z,Z,a9,a8⟩))))))
 refine WC.exit (WQ.thenE (WQ.leaveE p (oi h).symm (fun E=> ?_)))
 subst E
 have h:=P
 refine WQ.blockH ?_
 obtain rfl:=oi h
 exact Tj ⟨i,t,y,Z,k,q⟩
 rintro b7 b8 b9 ⟨g,o,G,rfl,B,W⟩
 exact Sr (qM g B (qa g (Nt (Cr (Rf h [o] Z (Rs Z Z) G ⟨g,o,Z,Z,W⟩)))))
noncomputable def f_slices_Equal_int_int_l0 (a0:(List Int)) (a1:(List Int)) (b:Int):Option (Int⊕(Unit⊕Unit)):=
 match b with
 |a=>
 (if(decide (a<(a0.length:Int)))=true then(grd (0≤a∧a<a0.length) (grd (0≤a∧a<a1.length) (if(decide ((rd a0 a)≠(rd a1 a)))=true then(some (inr (inr ())))else(some (inl (i64.wrap (a+(1:Int))))))))else(some (inr (inl ()))))
noncomputable def f_slices_Equal_int_int (a0:(List Int)) (a1:(List Int)):Option Bool:=
 (if(decide ((a0.length:Int)≠(a1.length:Int)))=true then(some false)else((((iter (f_slices_Equal_int_int_l0 a0 a1) (0:Int)).bind (Sum.elim (fun _=>(some (inl ()))) (fun _=>(((some false)).bind fun r=>some (inr r))))):Option (Unit⊕Bool)).bind (Sum.elim (fun _=>(some true)) some)))
def f_slices_Equal_int_int_post (a0:(List Int)) (a1:(List Int)) (c d:Value):Bool→Value→IM→HL→Prop:=
 fun(a:Bool) (v:Value) (e:IM) (b:HL)=>(.bool a)=v∧b=[]
theorem f_slices_Equal_int_int_ok (a0:(List Int)) (a1:(List Int)) (M:IM) (l s:Value) (t:RS (Kd.int .i64) M l a0) (D:RS (Kd.int .i64) M s a1) (u:Bool) (h:f_slices_Equal_int_int a0 a1=some u):
 Tri prog 46 #[l,s] M [] (f_slices_Equal_int_int_post a0 a1 l s u):=by
 unfold f_slices_Equal_int_int at h
 refine Te func46 Z Z ?_
 intro F W v
 refine Sr (qa (Bv false) (Nt (Cs (Sr (qM l (v 0) (qu (Iv (a0.length:Int)) (lenS underlying34 Z t.len) (qM s (v 1) (qu (Iv (a1.length:Int)) (lenS underlying34 Z D.len) (qu (Bv (decide ((a0.length:Int)≠(a1.length:Int)))) (neq Z Z) (Nt (Ch h Z (fun w h=> ?_) (fun w h=> ?_))))))))))))
 exact Sr (qa (Bv false) (Nt (Cr (Tr (Rf h [] Z (Rs Z Z) lr ⟨Z,Z⟩)))))
 refine Ck (Tc ?_)
 obtain ⟨E,x,h⟩:=bnd h
 refine WC.joinE (fun(_:Unit) y G I=>M.le G∧F=I) E ?_ ?_
 have z:=h
 have h:=x
 refine Sr (qM l (v 0) (qu (Iv (a0.length:Int)) (lenS underlying34 Z t.len) (qm (Iv 0) (Nt (Bk ?_)))))
 obtain ⟨O,A,k⟩:=bnd h
 clear h
 refine WC.loop A (fun(a:Int) y G I=>M.le G∧F=I∧y 0=l∧y 1=s∧y 12=(Iv (a0.length:Int))∧y 13=(Iv a)) ?_ ?_
 exact⟨lr,Z,(v 0),(v 1),Z,Z⟩
 rintro a P Q R S h ⟨b,rfl,f,g,d,c⟩
 unfold f_slices_Equal_int_int_l0 at h
 refine Sr (qu (Bv (decide (a<(a0.length:Int)))) (lss c d) (Nt (Cs (Ch h Z (fun B h=> ?_) (fun B h=> ?_)))))
 refine Ck (Tc (Cs (Bk (Sr (qM (Iv a) c (qa (Iv a) (Nt (Cs (WC.draw [0,0,3,7,0,0,48,112,255] (.pure 0 (.pure 1 (.pure 2 (.pure 3 (.pure 4 (.pure 5 (.pure 6 (.pure 7 (.pure 8 .done))))))))) mixed (by kernel_rfl) (qt l Z (Mv f) (qt (Iv a) Z (Mv Z) ?_)))))))))))
 obtain ⟨i,h⟩:=grd_i h
 have t:=t.mono b
 obtain ⟨J,L,m,o,hhas31⟩:=t.at i.1 i.2 (by decide)
 obtain rfl:=o
 refine qt (.pointer (some J)) Z (indexAddr (n:=a0.length) underlying34 sz3 Z Z i.1 i.2 m) (qt (Iv (rd a0 a)) Z (loadM pl3 Z (IM.has0 hhas31)) (qt s Z (Mv g) (qt (Iv a) Z (Mv Z) ?_)))
 obtain ⟨j,h⟩:=grd_i h
 have D:=D.mono b
 obtain ⟨K,N,p,q,hhas38⟩:=D.at j.1 j.2 (by decide)
 obtain rfl:=q
 refine qt (.pointer (some K)) Z (indexAddr (n:=a1.length) underlying34 sz3 Z Z j.1 j.2 p) (qt (Iv (rd a1 a)) Z (loadM pl3 Z (IM.has0 hhas38)) (qt (Bv (decide ((rd a0 a)≠(rd a1 a)))) Z (neq Z Z) (Ti (Tc (Ch h Z (fun C h=> ?_) (fun C h=> ?_))))))
 refine Sr (qa (Bv false) (Nt (Cr (Br (Tr (WQ.leaveR (inr ()) (oi h).symm (fun e=> ?_)))))))
 subst e
 have h:=(elimR k)
 refine Br (Tr ?_)
 have h:=KK.early h z
 exact Rf h [] Z (Rs Z Z) b ⟨Z,Z⟩
 exact Ck (Bn (Tc (Cg (qu (Iv (i64.wrap (a+1))) (add c Z) (qm (Iv (i64.wrap (a+1))) (Wz (WQ.again (i64.wrap (a+1)) (oi h).symm ⟨b,Z,f,g,d,Z⟩)))))))
 refine WC.exit (WQ.thenE (WQ.leaveE (inl ()) (oi h).symm (fun e=> ?_)))
 subst e
 have h:=elimL k
 exact WQ.blockH (WQ.thenFE h ⟨b,Z⟩)
 rintro _ T U V rfl ⟨r,rfl⟩
 have h:=(Sum.elim_inl _ _ _).symm.trans h
 exact Sr (qa (Bv true) (Nt (Cr (Rf h [] Z (Rs Z Z) r ⟨Z,Z⟩))))

end Go.Proofs.YtpmofealbmapiaaDoor.G
