/- Go functions: what they come to, and that they do. Printed by a program of the session (gen). -/
import Derived.Test.YtpcbipcdfccnnaaGreatSF
import Derived.Test.YtpcbipcdfccnnaaGreatS6
import Derived.Test.YtpcbipcdfccnnaaGreatS7
import Derived.Test.YtpcbipcdfccnnaaGreatKShar2
import Derived.Test.YtpcbipcdfccnnaaGreatKConv
import Derived.Test.YtpcbipcdfccnnaaGreatKMap
import Derived.Test.YtpcbipcdfccnnaaGreatKShar
import Derived.Test.YtpcbipcdfccnnaaGreatKTight2
set_option linter.unusedVariables false
set_option linter.unusedSimpArgs false
set_option maxHeartbeats 8000000
set_option maxRecDepth 100000
namespace Go.Proofs.YtpcbipcdfccnnaaGreat.G
open Go Go.KK

noncomputable def f_dump_topics_l1 (a0:T_api_Image) (x39:Int) (s_:Int):Option (Int⊕(Unit⊕GErr)):=
 match s_ with
 |x73=>
 (if(decide (x73<(((rd a0.Topics x39).Parts).length:Int)))=true then(grd (0≤x73∧x73<((rd a0.Topics x39).Parts).length) ((f_dump_part a0 (rd ((rd a0.Topics x39).Parts) x73)).bind fun r84=>(if(!r84)=true then((f_fault_New (⟨#[112,97,114,116]⟩:ByteArray) x73 (10:Int)).bind fun r90=>((f_fault_Wrap (⟨#[116,111,112,105,99]⟩:ByteArray) x39 r90).bind fun r95=>(some (Sum.inr (Sum.inr r95)))))else(some (Sum.inl (IntKind.i64.wrap (x73+(1:Int))))))))else(some (Sum.inr (Sum.inl ()))))
noncomputable def f_dump_topics_l0 (a0:T_api_Image) (s_:((List (ByteArray×Int))×Int×Int)):Option (((List (ByteArray×Int))×Int×Int)⊕(Unit⊕GErr)):=
 match s_ with
 |(x37,x38,x39)=>
 (if(decide (x39<(a0.Topics.length:Int)))=true then(((grd (0≤x39∧x39<a0.Topics.length) (((if(decide (((rd a0.Topics x39).Id)≤x38))=true then(some true)else(if(decide (a0.Last<((rd a0.Topics x39).Id)))=true then(some true)else((f_record_Name ((rd a0.Topics x39).Name)).bind fun r59=>(if(!r59)=true then(some true)else(if(decide ((1:Int)<(mpGet (mpPut x37 ((rd a0.Topics x39).Name) (IntKind.i64.wrap ((mpGet x37 ((rd a0.Topics x39).Name))+(1:Int)))) ((rd a0.Topics x39).Name))))=true then(some true)else(some (decide ((256:Int)<(((rd a0.Topics x39).Parts).length:Int))))))))):Option Bool).bind fun x55=>(if x55=true then((f_fault_New (⟨#[116,111,112,105,99]⟩:ByteArray) x39 (2:Int)).bind fun r67=>(((some (Sum.inr (Sum.inr r67)))).bind fun r=>some (Sum.inr r)))else((iter (f_dump_topics_l1 a0 x39) (0:Int)).bind (Sum.elim (fun _=>(some (Sum.inl (mpPut x37 ((rd a0.Topics x39).Name) (IntKind.i64.wrap ((mpGet x37 ((rd a0.Topics x39).Name))+(1:Int))),(rd a0.Topics x39).Id)))) (fun(x74:GErr)=>(((some (Sum.inr (Sum.inr x74)))).bind fun r=>some (Sum.inr r)))))))):Option (((List (ByteArray×Int))×Int)⊕(((List (ByteArray×Int))×Int×Int)⊕(Unit⊕GErr)))).bind (Sum.elim (fun(x42,x43)=>(some (Sum.inl (x42,x43,IntKind.i64.wrap (x39+(1:Int)))))) some))else(some (Sum.inr (Sum.inl ()))))
noncomputable def f_dump_topics (a0:T_api_Image):Option GErr:=
 (((if(decide ((256:Int)<(a0.Topics.length:Int)))=true then(some true)else(if(decide (a0.Last<(0:Int)))=true then(some true)else(some (decide ((1073741824:Int)<a0.Last))))):Option Bool).bind fun x22=>(if x22=true then((f_fault_New (⟨#[116,111,112,105,99]⟩:ByteArray) (a0.Topics.length:Int) (6:Int)).bind fun r27=>(some r27))else((((iter (f_dump_topics_l0 a0) (([]:List (ByteArray×Int)),(0:Int),(0:Int))).bind (Sum.elim (fun _=>(some (Sum.inl ()))) (fun(x40:GErr)=>(((some x40)).bind fun r=>some (Sum.inr r))))):Option (Unit⊕GErr)).bind (Sum.elim (fun _=>(some GErr.nil)) some))))
def f_dump_topics_post (a0:T_api_Image) (v0_0 v0_1 v0_2 v0_3:Value):GErr→Value→IM→HL→Prop:=
 fun(r0:GErr) (v:Value) (M':IM) (H':HL)=>(GV r0)=v∧H'=[]
theorem f_dump_topics_ok (a0:T_api_Image) (M:IM) (v0_0 v0_1 v0_2 v0_3:Value) (h0_0:RS kd_api_Broker M v0_0 a0.Brokers) (h0_1:RS kd_api_Topic M v0_1 a0.Topics) (h0_2:RS kd_api_Config M v0_2 a0.Configs) (h0_3:RS kd_api_Done M v0_3 a0.Done) (res:GErr) (h:f_dump_topics a0=some res):
 Tri Tryz.prog 50 #[(a29_ a0 v0_0 v0_1 v0_2 v0_3)] M [] (f_dump_topics_post a0 v0_0 v0_1 v0_2 v0_3 res):=by
 unfold f_dump_topics at h
 refine Te Tryz.func50 Z Z ?_
 intro F ρ hρ
 refine Sr (We (EO.box (cs:=(l29 a0 v0_0 v0_1 v0_2 v0_3).toArray) (congrArg Value.cells (asE (a29_ a0 v0_0 v0_1 v0_2 v0_3) (hρ 0)))) Z ?_)
 rintro _ _ _ - ⟨rfl,g21,rfl,rfl⟩
 refine qa (GV GErr.nil) (Nt (Cs ?_))
 obtain ⟨x22,hj23,h⟩:=bnd h
 refine Jf (fun(x22:Bool) ρ' M' H'=>M.le M'∧[(g21, .cells (l29 a0 v0_0 v0_1 v0_2 v0_3).toArray 29 (0,0))]::F=H'∧ρ' 1=(pt g21 0)∧ρ' 22=(Bv x22)) x22 ?_ ?_
 have h:=hj23
 refine Cg (qu (pt g21 1) (Fa fo29_1 Z Z) (qu v0_1 (Lb 0 pl25 Z Z Z) (qu (Iv (a0.Topics.length:Int)) (PO.lenS Tryz.underlying25 Z h0_1.len) (qu (Bv (decide ((256:Int)<(a0.Topics.length:Int)))) (PO.gtr Z Z) (qm (Bv (decide ((256:Int)<(a0.Topics.length:Int)))) ?_)))))
 rcases Bi h with⟨hb24,h⟩ |⟨hb24,h⟩
 iterate 3 refine Of 13 Z Z hb24 Z ?_
 refine qu (Bv true) (Pt Z hb24 Z) (qm (Bv true) ?_)
 iterate 3 refine Of 18 Z Z Z Z ?_
 refine qu (Bv true) (Pt Z Z Z) (Wz ?_)
 obtain rfl:=oi h
 exact Tj ⟨lr,Z,Z,Z⟩
 refine qo 13 hb24 (pt g21 4) (Fa fo29_4 Z Z) (qo 13 hb24 (Iv a0.Last) (Lb 0 pl3 Z Z Z) (qo 13 hb24 (Bv (decide (a0.Last<0))) (PO.lss Z Z) (qu (Bv (decide (a0.Last<0))) (Pf Z hb24 Z) (qm (Bv (decide (a0.Last<0))) ?_))))
 rcases Bi h with⟨hb25,h⟩ |⟨hb25,h⟩
 iterate 3 refine Of 18 Z Z hb25 Z ?_
 refine qu (Bv true) (Pt Z hb25 Z) (Wz ?_)
 obtain rfl:=oi h
 exact Tj ⟨lr,Z,Z,Z⟩
 refine qo 18 hb25 (pt g21 4) (Fa fo29_4 Z Z) (qo 18 hb25 (Iv a0.Last) (Lb 0 pl3 Z Z Z) (qo 18 hb25 (Bv (decide ((1073741824:Int)<a0.Last))) (PO.gtr Z Z) (qu (Bv (decide ((1073741824:Int)<a0.Last))) (Pf Z hb25 Z) (Wz ?_))))
 obtain rfl:=oi h
 exact Tj ⟨lr,Z,Z,Z⟩
 rintro ρ23 M23 H23 ⟨hle23,rfl,hs23_1,hs23_22⟩
 refine Ch h hs23_22 (fun hb26 h=> ?_) (fun hb26 h=> ?_)
 refine Sr (qu (pt g21 1) (Fa fo29_1 hs23_1 Z) (qu v0_1 (Lb 0 pl25 Z Z Z) ?_))
 have h0_1:=h0_1.mono hle23
 refine qu (Iv (a0.Topics.length:Int)) (PO.lenS Tryz.underlying25 Z h0_1.len) ?_
 obtain ⟨r27,hr28,h⟩:=bnd h
 refine We (Ca co52 (f_fault_New_ok ⟨#[116,111,112,105,99]⟩ (a0.Topics.length:Int) (6:Int) _ r27 hr28) (args3 Z Z Z)) Z ?_
 rintro _ M29 _ hle30 ⟨_,⟨rfl,rfl⟩,rfl⟩
 exact WL.a0 (qa (GV r27) (Nt (Cr (Tr (Dr (Rf h [] Z (Rs Z Z) (hle23.trans hle30) ⟨Z,Z⟩))))))
 refine Ck (Tc (Sr (We (EO.makeMap msV) Z ?_)))
 rintro v34 _ _ - ⟨rfl,c32,rfl,h33⟩
 refine qa v34 (Ns (qa (Iv 0) (Nt ?_)))
 obtain ⟨j35,hj35,h⟩:=bnd h
 refine WC.joinE (fun(_:Unit) ρ' M' H'=>M23.le M'∧[(g21, .cells (l29 a0 v0_0 v0_1 v0_2 v0_3).toArray 29 (0,0))]::F=H') j35 ?_ ?_
 have h335:=h
 have h:=hj35
 refine Sr (qu (pt g21 1) (Fa fo29_1 hs23_1 Z) (qu v0_1 (Lb 1 pl25 Z Z Z) ?_))
 have h0_1:=h0_1.mono hle23
 refine qu (Iv (a0.Topics.length:Int)) (PO.lenS Tryz.underlying25 Z h0_1.len) (qm (Iv 0) (Nt (Bk (WC.f1 ?_))))
 obtain ⟨e36,he36,hK36⟩:=bnd h
 clear h
 refine WC.loop he36 (fun(p_:((List (ByteArray×Int))×Int×Int)) ρ' M' H'=>match p_ with |(x37,x38,x39)=>∃ vx37 cx37,M23.le M'∧[(g21, .cells (l29 a0 v0_0 v0_1 v0_2 v0_3).toArray 29 (0,0))]::cx37::F=H'∧ρ' 1=(pt g21 0)∧ρ' 3=vx37∧ρ' 4=(Iv x38)∧ρ' 29=v0_1∧ρ' 30=(Iv (a0.Topics.length:Int))∧ρ' 31=(Iv x39)∧OwnMp msV M' vx37 x37 cx37) ?_ ?_
 exact⟨v34,c32,lr,Z,hs23_1,Z,Z,Z,Z,Z,h33⟩
 rintro ⟨x37,x38,x39⟩ o36 ρ36 M36 H36 h ⟨vx37,cx37,hle36,rfl,hs36_1,hs36_3,hs36_4,hs36_29,hs36_30,hs36_31,hx37⟩
 unfold f_dump_topics_l0 at h
 refine Sr (qu (Bv (decide (x39<(a0.Topics.length:Int)))) (PO.lss hs36_31 hs36_30) (Nt (Cs (Ch h Z (fun hb41 h=> ?_) (fun hb41 h=> ?_)))))
 refine Ck (Tc ?_)
 obtain ⟨j44,hj44,h⟩:=bnd h
 refine WC.joinE (fun(p_:((List (ByteArray×Int))×Int)) ρ' M' H'=>match p_ with |(x42,x43)=>∃ vx42 cx42,M36.le M'∧[(g21, .cells (l29 a0 v0_0 v0_1 v0_2 v0_3).toArray 29 (0,0))]::cx42::F=H'∧ρ' 1=(pt g21 0)∧ρ' 3=vx42∧ρ' 4=(Iv x43)∧ρ' 29=v0_1∧ρ' 30=(Iv (a0.Topics.length:Int))∧ρ' 31=(Iv x39)∧OwnMp msV M' vx42 x42 cx42) j44 ?_ ?_
 have h344:=h
 have h:=hj44
 refine Bk (Sr (qM (Iv x39) hs36_31 ?_))
 obtain ⟨hg45,h⟩:=grd_i h
 have h0_1:=h0_1.mono hle36
 obtain ⟨p46,cs47,hat48,hrc49,hhas50⟩:=h0_1.at hg45.1 hg45.2 (by decide)
 obtain ⟨vw51_2,rfl,hw51_2⟩:=kd_api_Topic_open hrc49
 refine qu (.pointer (some p46)) (PO.indexAddr (n:=a0.Topics.length) Tryz.underlying25 sz52 hs36_29 hs36_31 hg45.1 hg45.2 hat48) (qu (a52_ (rd a0.Topics x39) vw51_2) (PO.loadMA (cs:=(l52 (rd a0.Topics x39) vw51_2)) ag52 sz52 Z hhas50) (We (Al ze52 Z) Z ?_))
 rintro _ _ _ - ⟨rfl,g52,rfl,rfl⟩
 refine qa (Iv x39) (We (Sg (v:=(a52_ (rd a0.Topics x39) vw51_2)) (vl:=(l52 (rd a0.Topics x39) vw51_2)) (arr':=(l52 (rd a0.Topics x39) vw51_2)) Z sz52 Z Z (onesOf (Oc Z (Oc Z (Oc (RS.one hw51_2) Oz)))) Z Z Z) Z ?_)
 rintro _ _ _ - ⟨rfl,rfl⟩
 refine Ns (qM vx37 hs36_3 (qu (pt g52 1) (Fa fo52_1 Z Z) (qu (Sv ((rd a0.Topics x39).Name)) (Lb 0 pl9 Z Z Z) (qu (Iv (mpGet x37 ((rd a0.Topics x39).Name))) (PO.lookup (val:=msV) (k:=((rd a0.Topics x39).Name)) 2 Tryz.underlying127 (MKey.str Tryz.underlying9) ze3 Z Z Z hx37) (qu (Iv (IntKind.i64.wrap ((mpGet x37 ((rd a0.Topics x39).Name))+1))) (PO.add Z Z) (Wb (We (EO.mapUpdate (val:=msV) (k:=((rd a0.Topics x39).Name)) Tryz.underlying127 (MKey.str Tryz.underlying9) Z Z Z hx37) Z ?_)))))))
 rintro _ _ _ - ⟨rfl,c53,rfl,h54⟩
 refine Nt (Cs ?_)
 obtain ⟨x55,hj56,h⟩:=bnd h
 refine Jf (fun(x55:Bool) ρ' M' H'=>M36.le M'∧[(g52, .cells (l52 (rd a0.Topics x39) vw51_2).toArray 52 (0,0))]::[(g21, .cells (l29 a0 v0_0 v0_1 v0_2 v0_3).toArray 29 (0,0))]::c53::F=H'∧ρ' 1=(pt g21 0)∧ρ' 3=vx37∧ρ' 5=(Iv x39)∧ρ' 6=(pt g52 0)∧ρ' 29=v0_1∧ρ' 30=(Iv (a0.Topics.length:Int))∧ρ' 31=(Iv x39)∧ρ' 70=(Bv x55)) x55 ?_ ?_
 have h:=hj56
 refine Cg (qu (pt g52 0) (Fa fo52_0 Z Z) (qu (Iv ((rd a0.Topics x39).Id)) (Lb 1 pl3 Z Z Z) (qM (Iv x38) hs36_4 (qu (Bv (decide (((rd a0.Topics x39).Id)≤x38))) (PO.leq Z Z) (qm (Bv (decide (((rd a0.Topics x39).Id)≤x38))) ?_)))))
 rcases Bi h with⟨hb57,h⟩ |⟨hb57,h⟩
 iterate 5 refine Of 45 Z Z hb57 Z ?_
 refine qu (Bv true) (Pt Z hb57 Z) (qm (Bv true) ?_)
 iterate 4 refine Of 52 Z Z Z Z ?_
 refine qu (Bv true) (Pt Z Z Z) (qm (Bv true) ?_)
 iterate 5 refine Of 58 Z Z Z Z ?_
 refine qu (Bv true) (Pt Z Z Z) (qm (Bv true) ?_)
 iterate 4 refine Of 65 Z Z Z Z ?_
 refine qu (Bv true) (Pt Z Z Z) (Wz (Qb (Qb ?_)))
 obtain rfl:=oi h
 exact Tj ⟨lr,Z,hs36_1,hs36_3,Z,Z,hs36_29,hs36_30,hs36_31,Z⟩
 refine qo 45 hb57 (pt g52 0) (Fa fo52_0 Z Z) (qo 45 hb57 (Iv ((rd a0.Topics x39).Id)) (Lb 1 pl3 Z Z Z) (qo 45 hb57 (pt g21 4) (Fa fo29_4 hs36_1 Z) (qo 45 hb57 (Iv a0.Last) (Lb 2 pl3 Z Z Z) (qo 45 hb57 (Bv (decide (a0.Last<((rd a0.Topics x39).Id)))) (PO.gtr Z Z) (qu (Bv (decide (a0.Last<((rd a0.Topics x39).Id)))) (Pf Z hb57 Z) (qm (Bv (decide (a0.Last<((rd a0.Topics x39).Id)))) ?_))))))
 rcases Bi h with⟨hb58,h⟩ |⟨hb58,h⟩
 iterate 4 refine Of 52 Z Z hb58 Z ?_
 refine qu (Bv true) (Pt Z hb58 Z) (qm (Bv true) ?_)
 iterate 5 refine Of 58 Z Z Z Z ?_
 refine qu (Bv true) (Pt Z Z Z) (qm (Bv true) ?_)
 iterate 4 refine Of 65 Z Z Z Z ?_
 refine qu (Bv true) (Pt Z Z Z) (Wz (Qb (Qb ?_)))
 obtain rfl:=oi h
 exact Tj ⟨lr,Z,hs36_1,hs36_3,Z,Z,hs36_29,hs36_30,hs36_31,Z⟩
 refine qo 52 hb58 (pt g52 1) (Fa fo52_1 Z Z) (qo 52 hb58 (Sv ((rd a0.Topics x39).Name)) (Lb 1 pl9 Z Z Z) (On 52 Z Z hb58 ?_))
 obtain ⟨r59,hr60,h⟩:=bnd h
 refine We (Ca co75 (f_record_Name_ok ((rd a0.Topics x39).Name) _ r59 hr60) (args1 Z)) Z ?_
 rintro _ M61 _ hle62 ⟨_,⟨rfl,rfl⟩,rfl⟩
 refine WL.a0 (qo 52 hb58 (Bv (!r59)) (PO.not Z) (qu (Bv (!r59)) (Pf Z hb58 Z) (qm (Bv (!r59)) ?_)))
 rcases Bi h with⟨hb64,h⟩ |⟨hb64,h⟩
 iterate 5 refine Of 58 Z Z hb64 Z ?_
 refine qu (Bv true) (Pt Z hb64 Z) (qm (Bv true) ?_)
 iterate 4 refine Of 65 Z Z Z Z ?_
 refine qu (Bv true) (Pt Z Z Z) (Wz (Qb (Qb ?_)))
 obtain rfl:=oi h
 exact Tj ⟨hle62,Z,hs36_1,hs36_3,Z,Z,hs36_29,hs36_30,hs36_31,Z⟩
 refine On 58 Z Z hb64 (qM vx37 hs36_3 (qo 58 hb64 (pt g52 1) (Fa fo52_1 Z Z) (qo 58 hb64 (Sv ((rd a0.Topics x39).Name)) (Lb 1 pl9 Z Z Z) (On 58 Z Z hb64 ?_))))
 have h54:=h54.mono hle62
 refine qu (Iv (mpGet (mpPut x37 ((rd a0.Topics x39).Name) (IntKind.i64.wrap ((mpGet x37 ((rd a0.Topics x39).Name))+1))) ((rd a0.Topics x39).Name))) (PO.lookup (val:=msV) (k:=((rd a0.Topics x39).Name)) 0 Tryz.underlying127 (MKey.str Tryz.underlying9) ze3 Z Z Z h54) (qo 58 hb64 (Bv (decide ((1:Int)<(mpGet (mpPut x37 ((rd a0.Topics x39).Name) (IntKind.i64.wrap ((mpGet x37 ((rd a0.Topics x39).Name))+1))) ((rd a0.Topics x39).Name))))) (PO.gtr Z Z) (qu (Bv (decide ((1:Int)<(mpGet (mpPut x37 ((rd a0.Topics x39).Name) (IntKind.i64.wrap ((mpGet x37 ((rd a0.Topics x39).Name))+1))) ((rd a0.Topics x39).Name))))) (Pf Z hb64 Z) (qm (Bv (decide ((1:Int)<(mpGet (mpPut x37 ((rd a0.Topics x39).Name) (IntKind.i64.wrap ((mpGet x37 ((rd a0.Topics x39).Name))+1))) ((rd a0.Topics x39).Name))))) ?_)))
 rcases Bi h with⟨hb65,h⟩ |⟨hb65,h⟩
 iterate 4 refine Of 65 Z Z hb65 Z ?_
 refine qu (Bv true) (Pt Z hb65 Z) (Wz (Qb (Qb ?_)))
 obtain rfl:=oi h
 exact Tj ⟨hle62,Z,hs36_1,hs36_3,Z,Z,hs36_29,hs36_30,hs36_31,Z⟩
 refine qo 65 hb65 (pt g52 2) (Fa fo52_2 Z Z) (qo 65 hb65 vw51_2 (Lb 1 pl50 Z Z Z) (On 65 Z Z hb65 ?_))
 have hw51_2:=hw51_2.mono hle62
 refine qu (Iv (((rd a0.Topics x39).Parts).length:Int)) (PO.lenS Tryz.underlying50 Z hw51_2.len) (qo 65 hb65 (Bv (decide ((256:Int)<(((rd a0.Topics x39).Parts).length:Int)))) (PO.gtr Z Z) (qu (Bv (decide ((256:Int)<(((rd a0.Topics x39).Parts).length:Int)))) (Pf Z hb65 Z) (Wz (Qb (Qb ?_)))))
 obtain rfl:=oi h
 exact Tj ⟨hle62,Z,hs36_1,hs36_3,Z,Z,hs36_29,hs36_30,hs36_31,Z⟩
 rintro ρ56 M56 H56 ⟨hle56,rfl,hs56_1,hs56_3,hs56_5,hs56_6,hs56_29,hs56_30,hs56_31,hs56_70⟩
 have L56:=(hle23.trans hle36).trans hle56
 refine Ch h hs56_70 (fun hb66 h=> ?_) (fun hb66 h=> ?_)
 refine Sr (qM (Iv x39) hs56_5 ?_)
 obtain ⟨r67,hr68,h⟩:=bnd h
 refine We (Ca co52 (f_fault_New_ok ⟨#[116,111,112,105,99]⟩ x39 (2:Int) _ r67 hr68) (args3 Z Z Z)) Z ?_
 rintro _ M69 _ hle70 ⟨_,⟨rfl,rfl⟩,rfl⟩
 refine WL.a0 (qa (GV r67) (Nt (Cr (Tr (Br (Tr ?_))))))
 have h:=KK.early h h344
 refine WQ.leaveR (Sum.inr r67) (oi h).symm (fun heq36=> ?_)
 subst heq36
 have h:=(elimR hK36)
 refine Br (Tr ?_)
 have h:=KK.early h h335
 exact Dr (Dr (Dr (Rf h [] Z (Rs Z Z) (L56.trans hle70) ⟨Z,Z⟩)))
 refine Ck (Tc (Sr (qu (pt g52 0) (Fa fo52_0 hs56_6 Z) (qu (Iv ((rd a0.Topics x39).Id)) (Lb 0 pl3 Z Z Z) (qa (Iv ((rd a0.Topics x39).Id)) (Ns (qu (pt g52 2) (Fa fo52_2 hs56_6 Z) (qu vw51_2 (Lb 0 pl50 Z Z Z) ?_))))))))
 have hw51_2:=hw51_2.mono hle56
 refine qu (Iv (((rd a0.Topics x39).Parts).length:Int)) (PO.lenS Tryz.underlying50 Z hw51_2.len) (qm (Iv 0) (Nt (Bk ?_)))
 obtain ⟨e72,he72,hK72⟩:=bnd h
 clear h
 refine WC.loop he72 (fun(x73:Int) ρ' M' H'=>M56.le M'∧[(g52, .cells (l52 (rd a0.Topics x39) vw51_2).toArray 52 (0,0))]::[(g21, .cells (l29 a0 v0_0 v0_1 v0_2 v0_3).toArray 29 (0,0))]::c53::F=H'∧ρ' 1=(pt g21 0)∧ρ' 3=vx37∧ρ' 4=(Iv ((rd a0.Topics x39).Id))∧ρ' 5=(Iv x39)∧ρ' 29=v0_1∧ρ' 30=(Iv (a0.Topics.length:Int))∧ρ' 31=(Iv x39)∧ρ' 76=vw51_2∧ρ' 77=(Iv (((rd a0.Topics x39).Parts).length:Int))∧ρ' 78=(Iv x73)) ?_ ?_
 exact⟨lr,Z,hs56_1,hs56_3,Z,hs56_5,hs56_29,hs56_30,hs56_31,Z,Z,Z⟩
 rintro x73 o72 ρ72 M72 H72 h ⟨hle72,rfl,hs72_1,hs72_3,hs72_4,hs72_5,hs72_29,hs72_30,hs72_31,hs72_76,hs72_77,hs72_78⟩
 have L72:=L56.trans hle72
 unfold f_dump_topics_l1 at h
 refine Sr (qu (Bv (decide (x73<(((rd a0.Topics x39).Parts).length:Int)))) (PO.lss hs72_78 hs72_77) (Nt (Cs (Ch h Z (fun hb75 h=> ?_) (fun hb75 h=> ?_)))))
 refine Ck (Tc (Cs (Bk (Sr (qM (Iv x73) hs72_78 ?_)))))
 obtain ⟨hg76,h⟩:=grd_i h
 have hw51_2:=hw51_2.mono hle72
 obtain ⟨p77,cs78,hat79,hrc80,hhas81⟩:=hw51_2.at hg76.1 hg76.2 (by decide)
 obtain ⟨vw82_0,vw82_1,vw82_4,vw82_5,rfl,hw82_0,hw82_1,hw82_4,hw82_5⟩:=kd_api_Part_open hrc80
 refine qu (.pointer (some p77)) (PO.indexAddr (n:=((rd a0.Topics x39).Parts).length) Tryz.underlying50 sz54 hs72_76 hs72_78 hg76.1 hg76.2 hat79) (qu (a54_ (rd ((rd a0.Topics x39).Parts) x73) vw82_0 vw82_1 vw82_4 vw82_5) (PO.loadMA (cs:=(l54 (rd ((rd a0.Topics x39).Parts) x73) vw82_0 vw82_1 vw82_4 vw82_5)) ag54 sz54 Z hhas81) (We (Al ze54 Z) Z ?_))
 rintro _ _ _ - ⟨rfl,g83,rfl,rfl⟩
 refine qa (Iv x73) (We (Sg (v:=(a54_ (rd ((rd a0.Topics x39).Parts) x73) vw82_0 vw82_1 vw82_4 vw82_5)) (vl:=(l54 (rd ((rd a0.Topics x39).Parts) x73) vw82_0 vw82_1 vw82_4 vw82_5)) (arr':=(l54 (rd ((rd a0.Topics x39).Parts) x73) vw82_0 vw82_1 vw82_4 vw82_5)) Z sz54 Z Z (onesOf (Oc (RS.one hw82_0) (Oc (RS.one hw82_1) (Oc Z (Oc Z (Oc (RS.one hw82_4) (Oc (RS.one hw82_5) Oz))))))) Z Z Z) Z ?_)
 rintro _ _ _ - ⟨rfl,rfl⟩
 refine Ns (qu (a29_ a0 v0_0 v0_1 v0_2 v0_3) (La (cs:=(l29 a0 v0_0 v0_1 v0_2 v0_3)) 2 ag29 sz29 hs72_1 Z Z) (qu (a54_ (rd ((rd a0.Topics x39).Parts) x73) vw82_0 vw82_1 vw82_4 vw82_5) (La (cs:=(l54 (rd ((rd a0.Topics x39).Parts) x73) vw82_0 vw82_1 vw82_4 vw82_5)) 0 ag54 sz54 Z Z Z) ?_))
 obtain ⟨r84,hr85,h⟩:=bnd h
 have h0_0:=h0_0.mono L72
 have h0_1:=h0_1.mono (hle56.trans hle72)
 have h0_2:=h0_2.mono L72
 have h0_3:=h0_3.mono L72
 refine We (Ca co77 (f_dump_part_ok a0 (rd ((rd a0.Topics x39).Parts) x73) _ _ _ _ _ _ _ _ _ h0_0 h0_1 h0_2 h0_3 hw82_0 hw82_1 hw82_4 hw82_5 r84 hr85) (args2 Z Z)) Z ?_
 rintro _ M86 _ hle87 ⟨_,⟨rfl,rfl⟩,rfl⟩
 refine WL.a0 (qu (Bv (!r84)) (PO.not Z) (Nt (Ch h Z (fun hb89 h=> ?_) (fun hb89 h=> ?_))))
 refine Sr (qM (Iv x39) hs72_5 (qm (Iv x73) ?_))
 obtain ⟨r90,hr91,h⟩:=bnd h
 refine We (Ca co52 (f_fault_New_ok ⟨#[112,97,114,116]⟩ x73 (10:Int) _ r90 hr91) (args3 Z Z Z)) Z ?_
 rintro _ M92 _ hle93 ⟨_,⟨rfl,rfl⟩,rfl⟩
 refine WL.a0 ?_
 obtain ⟨r95,hr96,h⟩:=bnd h
 refine We (Ca co38 (f_fault_Wrap_ok ⟨#[116,111,112,105,99]⟩ x39 r90 _ r95 hr96) (args3 Z Z Z)) Z ?_
 rintro _ M97 _ hle98 ⟨_,⟨rfl,rfl⟩,rfl⟩
 refine WL.a0 (qa (GV r95) (Nt (Cr (Br (Tr (WQ.leaveR (Sum.inr r95) (oi h).symm (fun heq72=> ?_)))))))
 subst heq72
 have h:=(elimR hK72)
 refine Br (Br (Tr ?_))
 have h:=KK.early h h344
 refine WQ.leaveR (Sum.inr r95) (oi h).symm (fun heq36=> ?_)
 subst heq36
 have h:=(elimR hK36)
 refine Br (Tr ?_)
 have h:=KK.early h h335
 exact Dr (Dr (Dr (Dr (Rf h [] Z (Rs Z Z) (((L72.trans hle87).trans hle93).trans hle98) ⟨Z,Z⟩))))
 exact Ck (Bn (Tc (Cg (qu (Iv (IntKind.i64.wrap (x73+1))) (PO.add hs72_78 Z) (qm (Iv (IntKind.i64.wrap (x73+1))) (Wz (Dr (WQ.again (IntKind.i64.wrap (x73+1)) (oi h).symm ⟨(hle72.trans hle87),Z,hs72_1,hs72_3,hs72_4,hs72_5,hs72_29,hs72_30,hs72_31,hs72_76,hs72_77,Z⟩))))))))
 refine WC.exit (WQ.thenE (WQ.leaveE (Sum.inl ()) (oi h).symm (fun heq72=> ?_)))
 subst heq72
 have h:=elimL hK72
 refine WQ.blockH (Bn (Dr (WQ.thenFE h ?_)))
 have h54:=h54.mono (hle56.trans hle72)
 exact⟨vx37,c53,(hle56.trans hle72),Z,hs72_1,hs72_3,hs72_4,hs72_29,hs72_30,hs72_31,h54⟩
 rintro ⟨x42,x43⟩ ρ44 M44 H44 rfl ⟨vx42,cx42,hle44,rfl,hs44_1,hs44_3,hs44_4,hs44_29,hs44_30,hs44_31,hx42⟩
 have h:=(Sum.elim_inl _ _ _).symm.trans h
 exact Cg (qu (Iv (IntKind.i64.wrap (x39+1))) (PO.add hs44_31 Z) (qm (Iv (IntKind.i64.wrap (x39+1))) (Wz (WQ.again (x42,x43,IntKind.i64.wrap (x39+1)) (oi h).symm ⟨vx42,cx42,(hle36.trans hle44),Z,hs44_1,hs44_3,hs44_4,hs44_29,hs44_30,Z,hx42⟩))))
 refine WC.exit (WQ.thenE (WQ.leaveE (Sum.inl ()) (oi h).symm (fun heq36=> ?_)))
 subst heq36
 have h:=elimL hK36
 exact WQ.blockH (Qa (Dr (WQ.thenFE h ⟨hle36,Z⟩)))
 rintro _ ρ35 M35 H35 rfl ⟨hle35,rfl⟩
 have h:=(Sum.elim_inl _ _ _).symm.trans h
 exact Sr (qa (GV GErr.nil) (Nt (Cr (Dr (Rf h [] Z (Rs Z Z) (hle23.trans hle35) ⟨Z,Z⟩)))))
noncomputable def f_image_topic_1 (a0:T_api_Topic):Option Int:=
 (some a0.Id)
def f_image_topic_1_post (a0:T_api_Topic) (v0_2:Value):Int→Value→IM→HL→Prop:=
 fun(r0:Int) (v:Value) (M':IM) (H':HL)=>(.int .i64 r0)=v∧H'=[]
theorem f_image_topic_1_ok (a0:T_api_Topic) (M:IM) (v0_2:Value) (h0_2:RS kd_api_Part M v0_2 a0.Parts) (res:Int) (h:f_image_topic_1 a0=some res):
 Tri Tryz.prog 100 #[(a52_ a0 v0_2)] M [] (f_image_topic_1_post a0 v0_2 res):=by
 unfold f_image_topic_1 at h
 refine Te Tryz.func100 Z Z ?_
 intro F ρ hρ
 refine Sr (We (EO.box (cs:=(l52 a0 v0_2).toArray) (congrArg Value.cells (asE (a52_ a0 v0_2) (hρ 0)))) Z ?_)
 rintro _ _ _ - ⟨rfl,g21,rfl,rfl⟩
 exact qa (Iv 0) (Ns (qu (pt g21 0) (Fa fo52_0 Z Z) (qu (Iv a0.Id) (Lb 0 pl3 Z Z Z) (qa (Iv a0.Id) (Nt (Cr (Dr (Rf h [] Z (Rs Z Z) lr ⟨Z,Z⟩))))))))
noncomputable def f_image_find_api_Topic_1_topic_1 (a0:T_api_Topic) (a1:Int):Option Int:=
 ((f_image_topic_1 a0).bind fun r22=>(some (IntKind.i64.wrap (r22 - a1))))
def f_image_find_api_Topic_1_topic_1_post (a0:T_api_Topic) (a1:Int) (v0_2:Value) (g2:Nat):Int→Value→IM→HL→Prop:=
 fun(r0:Int) (v:Value) (M':IM) (H':HL)=>(.int .i64 r0)=v∧H'=[[(g2, .cells #[(.func (.func 100) #[] #[])] 154 (0,0))]]
theorem f_image_find_api_Topic_1_topic_1_ok (a0:T_api_Topic) (a1:Int) (M:IM) (v0_2:Value) (g2:Nat) (h0_2:RS kd_api_Part M v0_2 a0.Parts) (res:Int) (h:f_image_find_api_Topic_1_topic_1 a0 a1=some res):
 Tri Tryz.prog 105 #[(a52_ a0 v0_2),(Iv a1),(pt g2 0)] M [[(g2, .cells #[(.func (.func 100) #[] #[])] 154 (0,0))]] (f_image_find_api_Topic_1_topic_1_post a0 a1 v0_2 g2 res):=by
 unfold f_image_find_api_Topic_1_topic_1 at h
 refine Te Tryz.func105 Z Z ?_
 intro F ρ hρ
 refine Sr (We (EO.box (cs:=(l52 a0 v0_2).toArray) (congrArg Value.cells (asE (a52_ a0 v0_2) (hρ 0)))) Z ?_)
 rintro _ _ _ - ⟨rfl,g21,rfl,rfl⟩
 refine qa (Iv 0) (Ns (qu (.func (.func 100) #[] #[]) (Lb 1 pl154 (hρ 2) Z Z) (qu (a52_ a0 v0_2) (La (cs:=(l52 a0 v0_2)) 0 ag52 sz52 Z Z Z) ?_)))
 obtain ⟨r22,hr23,h⟩:=bnd h
 refine We (EO.callV0 (first:=#[]) (cap:=#[]) co100 Z (f_image_topic_1_ok a0 _ _ h0_2 r22 hr23) (argsV1 Z Z)) Z ?_
 rintro _ M24 _ hle25 ⟨_,⟨rfl,rfl⟩,rfl⟩
 exact WL.a0 (qM (Iv a1) (hρ 1) (qu (Iv (IntKind.i64.wrap (r22 - a1))) (PO.sub Z Z) (qa (Iv (IntKind.i64.wrap (r22 - a1))) (Nt (Cr (Dr (Rf h [[(g2, .cells #[(.func (.func 100) #[] #[])] 154 (0,0))]] Z (Rs Z Z) hle25 ⟨Z,Z⟩)))))))
noncomputable def f_slices_BinarySearchFunc_api_Topic_int_find_api_Topic_1_topic_1_l0 (a0:(List T_api_Topic)) (a1:Int) (s_:(Int×Int)):Option ((Int×Int)⊕Int):=
 match s_ with
 |(x24,x25)=>
 (if(decide (x24<x25))=true then(grd (0≤IntKind.i64.wrap (shrI .u64 (IntKind.u64.wrap (IntKind.i64.wrap (x24+x25))) (1:Int))∧IntKind.i64.wrap (shrI .u64 (IntKind.u64.wrap (IntKind.i64.wrap (x24+x25))) (1:Int))<a0.length) ((f_image_find_api_Topic_1_topic_1 (rd a0 (IntKind.i64.wrap (shrI .u64 (IntKind.u64.wrap (IntKind.i64.wrap (x24+x25))) (1:Int)))) a1).bind fun r35=>(if(decide (r35<(0:Int)))=true then(some (Sum.inl (IntKind.i64.wrap ((IntKind.i64.wrap (shrI .u64 (IntKind.u64.wrap (IntKind.i64.wrap (x24+x25))) (1:Int)))+(1:Int)),x25)))else(some (Sum.inl (x24,IntKind.i64.wrap (shrI .u64 (IntKind.u64.wrap (IntKind.i64.wrap (x24+x25))) (1:Int))))))))else(some (Sum.inr x24)))
noncomputable def f_slices_BinarySearchFunc_api_Topic_int_find_api_Topic_1_topic_1 (a0:(List T_api_Topic)) (a1:Int):Option (Int×Bool):=
 ((((iter (f_slices_BinarySearchFunc_api_Topic_int_find_api_Topic_1_topic_1_l0 a0 a1) ((0:Int),(a0.length:Int))).bind (fun(x26:Int)=>(some x26))):Option Int).bind fun x21=>(((if(decide (x21<(a0.length:Int)))=true then(grd (0≤x21∧x21<a0.length) ((f_image_find_api_Topic_1_topic_1 (rd a0 x21) a1).bind fun r52=>(some (x21,decide (r52=(0:Int))))))else(some (x21,false))):Option (Int×Bool)).bind fun(x41,x42)=>(some (x41,x42))))
def f_slices_BinarySearchFunc_api_Topic_int_find_api_Topic_1_topic_1_post (a0:(List T_api_Topic)) (a1:Int) (v0:Value) (g2k0:Nat):(Int×Bool)→Value→IM→HL→Prop:=
 fun(p_:(Int×Bool)) (v:Value) (M':IM) (H':HL)=>match p_ with |(r0,r1)=>(.tuple #[(.int .i64 r0),(.bool r1)])=v∧H'=[[(g2k0, .cells #[(.func (.func 100) #[] #[])] 154 (0,0))]]
theorem f_slices_BinarySearchFunc_api_Topic_int_find_api_Topic_1_topic_1_ok (a0:(List T_api_Topic)) (a1:Int) (M:IM) (v0:Value) (g2k0:Nat) (h0:RS kd_api_Topic M v0 a0) (res:(Int×Bool)) (h:f_slices_BinarySearchFunc_api_Topic_int_find_api_Topic_1_topic_1 a0 a1=some res):
 Tri Tryz.prog 104 #[v0,(Iv a1),(.func (.func 105) #[] #[(pt g2k0 0)])] M [[(g2k0, .cells #[(.func (.func 100) #[] #[])] 154 (0,0))]] (f_slices_BinarySearchFunc_api_Topic_int_find_api_Topic_1_topic_1_post a0 a1 v0 g2k0 res):=by
 unfold f_slices_BinarySearchFunc_api_Topic_int_find_api_Topic_1_topic_1 at h
 refine Te Tryz.func104 Z Z ?_
 intro F ρ hρ
 refine Sr (qa (Iv 0) (qa (Bv false) (Ns (qM v0 (hρ 0) (qu (Iv (a0.length:Int)) (PO.lenS Tryz.underlying25 Z h0.len) (qa (Iv (a0.length:Int)) (Ns (qm (Iv (a0.length:Int)) (qa (Iv 0) (qa (Iv (a0.length:Int)) (Nt ?_)))))))))))
 obtain ⟨x21,hj22,h⟩:=bnd h
 refine Jf (fun(x21:Int) ρ' M' H'=>M.le M'∧[(g2k0, .cells #[(.func (.func 100) #[] #[])] 154 (0,0))]::F=H'∧ρ' 0=v0∧ρ' 1=(Iv a1)∧ρ' 2=(.func (.func 105) #[] #[(pt g2k0 0)])∧ρ' 8=(Iv (a0.length:Int))∧ρ' 9=(Iv x21)) x21 ?_ ?_
 have h:=hj22
 refine Bk ?_
 obtain ⟨e23,he23,hK23⟩:=bnd h
 clear h
 refine WC.loop he23 (fun(p_:(Int×Int)) ρ' M' H'=>match p_ with |(x24,x25)=>M.le M'∧[(g2k0, .cells #[(.func (.func 100) #[] #[])] 154 (0,0))]::F=H'∧ρ' 0=v0∧ρ' 1=(Iv a1)∧ρ' 2=(.func (.func 105) #[] #[(pt g2k0 0)])∧ρ' 8=(Iv (a0.length:Int))∧ρ' 9=(Iv x24)∧ρ' 10=(Iv x25)) ?_ ?_
 exact⟨lr,Z,(hρ 0),(hρ 1),(hρ 2),Z,Z,Z⟩
 rintro ⟨x24,x25⟩ o23 ρ23 M23 H23 h ⟨hle23,rfl,hs23_0,hs23_1,hs23_2,hs23_8,hs23_9,hs23_10⟩
 unfold f_slices_BinarySearchFunc_api_Topic_int_find_api_Topic_1_topic_1_l0 at h
 refine Cs (Sr (qM (Iv x24) hs23_9 (qM (Iv x25) hs23_10 (qu (Bv (decide (x24<x25))) (PO.lss Z Z) (Nt (Ch h Z (fun hb27 h=> ?_) (fun hb27 h=> ?_)))))))
 refine Ck (Tc (Bk (Sr (qM (Iv x24) hs23_9 (qM (Iv x25) hs23_10 (qu (Iv (IntKind.i64.wrap (x24+x25))) (PO.add Z Z) (qu (Uv (IntKind.u64.wrap (IntKind.i64.wrap (x24+x25)))) (PO.conv us3 Tryz.underlying129 Z) (qu (Uv (shrI .u64 (IntKind.u64.wrap (IntKind.i64.wrap (x24+x25))) (1:Int))) (PO.shr Z Z (by decide)) (qu (Iv (IntKind.i64.wrap (shrI .u64 (IntKind.u64.wrap (IntKind.i64.wrap (x24+x25))) (1:Int)))) (PO.conv us129 Tryz.underlying3 Z) (qa (Iv (IntKind.i64.wrap (shrI .u64 (IntKind.u64.wrap (IntKind.i64.wrap (x24+x25))) (1:Int)))) (Ns ?_)))))))))))
 refine qM (.func (.func 105) #[] #[(pt g2k0 0)]) hs23_2 (qM v0 hs23_0 (qm (Iv (IntKind.i64.wrap (shrI .u64 (IntKind.u64.wrap (IntKind.i64.wrap (x24+x25))) (1:Int)))) ?_))
 obtain ⟨hg28,h⟩:=grd_i h
 have h0:=h0.mono hle23
 obtain ⟨p29,cs30,hat31,hrc32,hhas33⟩:=h0.at hg28.1 hg28.2 (by decide)
 obtain ⟨vw34_2,rfl,hw34_2⟩:=kd_api_Topic_open hrc32
 refine qu (.pointer (some p29)) (PO.indexAddr (n:=a0.length) Tryz.underlying25 sz52 Z Z hg28.1 hg28.2 hat31) (qu (a52_ (rd a0 (IntKind.i64.wrap (shrI .u64 (IntKind.u64.wrap (IntKind.i64.wrap (x24+x25))) (1:Int)))) vw34_2) (PO.loadMA (cs:=(l52 (rd a0 (IntKind.i64.wrap (shrI .u64 (IntKind.u64.wrap (IntKind.i64.wrap (x24+x25))) (1:Int)))) vw34_2)) ag52 sz52 Z hhas33) (qM (Iv a1) hs23_1 ?_))
 obtain ⟨r35,hr36,h⟩:=bnd h
 refine We (EO.callV1 (first:=#[]) (cap:=#[(pt g2k0 0)]) co105 Z (f_image_find_api_Topic_1_topic_1_ok (rd a0 (IntKind.i64.wrap (shrI .u64 (IntKind.u64.wrap (IntKind.i64.wrap (x24+x25))) (1:Int)))) a1 _ _ _ hw34_2 r35 hr36) (argsV2 Z Z Z)) Z ?_
 rintro _ M37 _ hle38 ⟨_,⟨rfl,rfl⟩,rfl⟩
 refine WL.a1 (qu (Bv (decide (r35<0))) (PO.lss Z Z) (Nt (Ch h Z (fun hb40 h=> ?_) (fun hb40 h=> ?_))))
 exact Cg (qm (Iv (IntKind.i64.wrap (shrI .u64 (IntKind.u64.wrap (IntKind.i64.wrap (x24+x25))) (1:Int)))) (qu (Iv (IntKind.i64.wrap ((IntKind.i64.wrap (shrI .u64 (IntKind.u64.wrap (IntKind.i64.wrap (x24+x25))) (1:Int)))+1))) (PO.add Z Z) (qa (Iv (IntKind.i64.wrap ((IntKind.i64.wrap (shrI .u64 (IntKind.u64.wrap (IntKind.i64.wrap (x24+x25))) (1:Int)))+1))) (Wz (Bn (WQ.again (IntKind.i64.wrap ((IntKind.i64.wrap (shrI .u64 (IntKind.u64.wrap (IntKind.i64.wrap (x24+x25))) (1:Int)))+1),x25) (oi h).symm ⟨(hle23.trans hle38),Z,hs23_0,hs23_1,hs23_2,hs23_8,Z,hs23_10⟩))))))
 exact Cg (qm (Iv (IntKind.i64.wrap (shrI .u64 (IntKind.u64.wrap (IntKind.i64.wrap (x24+x25))) (1:Int)))) (qa (Iv (IntKind.i64.wrap (shrI .u64 (IntKind.u64.wrap (IntKind.i64.wrap (x24+x25))) (1:Int)))) (Wz (Bn (WQ.again (x24,IntKind.i64.wrap (shrI .u64 (IntKind.u64.wrap (IntKind.i64.wrap (x24+x25))) (1:Int))) (oi h).symm ⟨(hle23.trans hle38),Z,hs23_0,hs23_1,hs23_2,hs23_8,hs23_9,Z⟩)))))
 refine WC.exit (WQ.thenE (WQ.leaveE x24 (oi h).symm (fun heq23=> ?_)))
 subst heq23
 have h:=hK23
 refine WQ.blockH ?_
 obtain rfl:=oi h
 exact Tj ⟨hle23,Z,hs23_0,hs23_1,hs23_2,hs23_8,hs23_9⟩
 rintro ρ22 M22 H22 ⟨hle22,rfl,hs22_0,hs22_1,hs22_2,hs22_8,hs22_9⟩
 obtain ⟨j43,hj43,h⟩:=bnd h
 refine Jf (fun(p_:(Int×Bool)) ρ' M' H'=>match p_ with |(x41,x42)=>M22.le M'∧[(g2k0, .cells #[(.func (.func 100) #[] #[])] 154 (0,0))]::F=H'∧ρ' 6=(Iv x41)∧ρ' 7=(Bv x42)) j43 ?_ ?_
 have h:=hj43
 refine Cg (qM (Iv x21) hs22_9 (qM (Iv x21) hs22_9 (qM (Iv (a0.length:Int)) hs22_8 (qu (Bv (decide (x21<(a0.length:Int)))) (PO.lss Z Z) (qm (Bv (decide (x21<(a0.length:Int)))) ?_)))))
 rcases Bi h with⟨hb44,h⟩ |⟨hb44,h⟩
 refine On 39 Z Z hb44 (qM (.func (.func 105) #[] #[(pt g2k0 0)]) hs22_2 (On 39 Z Z hb44 (qM v0 hs22_0 (On 39 Z Z hb44 (qM (Iv x21) hs22_9 (On 39 Z Z hb44 ?_))))))
 obtain ⟨hg45,h⟩:=grd_i h
 have h0:=h0.mono hle22
 obtain ⟨p46,cs47,hat48,hrc49,hhas50⟩:=h0.at hg45.1 hg45.2 (by decide)
 obtain ⟨vw51_2,rfl,hw51_2⟩:=kd_api_Topic_open hrc49
 refine qu (.pointer (some p46)) (PO.indexAddr (n:=a0.length) Tryz.underlying25 sz52 Z Z hg45.1 hg45.2 hat48) (qo 39 hb44 (a52_ (rd a0 x21) vw51_2) (PO.loadMA (cs:=(l52 (rd a0 x21) vw51_2)) ag52 sz52 Z hhas50) (On 39 Z Z hb44 (qM (Iv a1) hs22_1 (On 39 Z Z hb44 ?_))))
 obtain ⟨r52,hr53,h⟩:=bnd h
 refine We (EO.callV1 (first:=#[]) (cap:=#[(pt g2k0 0)]) co105 Z (f_image_find_api_Topic_1_topic_1_ok (rd a0 x21) a1 _ _ _ hw51_2 r52 hr53) (argsV2 Z Z Z)) Z ?_
 rintro _ M54 _ hle55 ⟨_,⟨rfl,rfl⟩,rfl⟩
 refine WL.a1 (qo 39 hb44 (Bv (decide (r52=0))) (PO.eql Z Z) (qu (Bv (decide (r52=0))) (Pt Z hb44 Z) (qa (Iv x21) (qa (Bv (decide (r52=0))) (Wz ?_)))))
 obtain rfl:=oi h
 exact Tj ⟨hle55,Z,Z,Z⟩
 iterate 8 refine Of 39 Z Z hb44 Z ?_
 refine qu (Bv false) (Pf Z hb44 Z) (qa (Iv x21) (qa (Bv false) (Wz ?_)))
 obtain rfl:=oi h
 exact Tj ⟨lr,Z,Z,Z⟩
 obtain ⟨x41,x42⟩:=j43
 rintro ρ43 M43 H43 ⟨hle43,rfl,hs43_6,hs43_7⟩
 exact Cr (Rf h [[(g2k0, .cells #[(.func (.func 100) #[] #[])] 154 (0,0))]] Z (results2 Z hs43_6 hs43_7) (hle22.trans hle43) ⟨Z,Z⟩)
noncomputable def f_image_find_api_Topic_topic_1 (a0:(List T_api_Topic)) (a1:Int):Option (Int×Bool):=
 ((f_slices_BinarySearchFunc_api_Topic_int_find_api_Topic_1_topic_1 a0 a1).bind fun(r22,r23)=>(some (r22,r23)))
def f_image_find_api_Topic_topic_1_post (a0:(List T_api_Topic)) (a1:Int) (v0:Value):(Int×Bool)→Value→IM→HL→Prop:=
 fun(p_:(Int×Bool)) (v:Value) (M':IM) (H':HL)=>match p_ with |(r0,r1)=>(.tuple #[(.int .i64 r0),(.bool r1)])=v∧H'=[]
theorem f_image_find_api_Topic_topic_1_ok (a0:(List T_api_Topic)) (a1:Int) (M:IM) (v0:Value) (h0:RS kd_api_Topic M v0 a0) (res:(Int×Bool)) (h:f_image_find_api_Topic_topic_1 a0 a1=some res):
 Tri Tryz.prog 99 #[v0,(Iv a1),(.func (.func 100) #[] #[])] M [] (f_image_find_api_Topic_topic_1_post a0 a1 v0 res):=by
 unfold f_image_find_api_Topic_topic_1 at h
 refine Te Tryz.func99 Z Z ?_
 intro F ρ hρ
 refine Sr (We (EO.box (cs:=#[(.func (.func 100) #[] #[])]) (congrArg Value.cells (asE (.func (.func 100) #[] #[]) (hρ 2)))) Z ?_)
 rintro _ _ _ - ⟨rfl,g21,rfl,rfl⟩
 refine qa (Iv 0) (qa (Bv false) (Ns (qM v0 (hρ 0) (qM (Iv a1) (hρ 1) (qu (.func (.func 105) #[] #[(pt g21 0)]) (PO.makeFunc2 (args0) (args1 (show ev _ _=(pt g21 0) from Z))) ?_)))))
 obtain ⟨⟨r22,r23⟩,hr24,h⟩:=bnd h
 refine We (Cb co104 (f_slices_BinarySearchFunc_api_Topic_int_find_api_Topic_1_topic_1_ok a0 a1 _ _ _ h0 (r22,r23) hr24) (args3 Z Z Z)) Z ?_
 rintro _ M25 _ hle26 ⟨_,⟨rfl,rfl⟩,rfl⟩
 exact WL.a1 (qu (Iv r22) (Xt Z Z) (qu (Bv r23) (Xt Z Z) (qa (Iv r22) (qa (Bv r23) (Nt (Cr (Dr (Rf h [] Z (results2 Z Z Z) hle26 ⟨Z,Z⟩))))))))
noncomputable def f_image_topic (a0:T_api_Image) (a1:Int):Option (Int×Bool):=
 ((f_image_find_api_Topic_topic_1 a0.Topics a1).bind fun(r22,r23)=>(some (r22,r23)))
def f_image_topic_post (a0:T_api_Image) (a1:Int) (v0_0 v0_1 v0_2 v0_3:Value):(Int×Bool)→Value→IM→HL→Prop:=
 fun(p_:(Int×Bool)) (v:Value) (M':IM) (H':HL)=>match p_ with |(r0,r1)=>(.tuple #[(.int .i64 r0),(.bool r1)])=v∧H'=[]
theorem f_image_topic_ok (a0:T_api_Image) (a1:Int) (M:IM) (v0_0 v0_1 v0_2 v0_3:Value) (h0_0:RS kd_api_Broker M v0_0 a0.Brokers) (h0_1:RS kd_api_Topic M v0_1 a0.Topics) (h0_2:RS kd_api_Config M v0_2 a0.Configs) (h0_3:RS kd_api_Done M v0_3 a0.Done) (res:(Int×Bool)) (h:f_image_topic a0 a1=some res):
 Tri Tryz.prog 94 #[(a29_ a0 v0_0 v0_1 v0_2 v0_3),(Iv a1)] M [] (f_image_topic_post a0 a1 v0_0 v0_1 v0_2 v0_3 res):=by
 unfold f_image_topic at h
 refine Te Tryz.func94 Z Z ?_
 intro F ρ hρ
 refine Sr (We (EO.box (cs:=(l29 a0 v0_0 v0_1 v0_2 v0_3).toArray) (congrArg Value.cells (asE (a29_ a0 v0_0 v0_1 v0_2 v0_3) (hρ 0)))) Z ?_)
 rintro _ _ _ - ⟨rfl,g21,rfl,rfl⟩
 refine qa (Iv 0) (qa (Bv false) (Ns (qu (pt g21 1) (Fa fo29_1 Z Z) (qu v0_1 (Lb 0 pl25 Z Z Z) (qM (Iv a1) (hρ 1) ?_)))))
 obtain ⟨⟨r22,r23⟩,hr24,h⟩:=bnd h
 refine We (Ca co99 (f_image_find_api_Topic_topic_1_ok a0.Topics a1 _ _ h0_1 (r22,r23) hr24) (args3 Z Z Z)) Z ?_
 rintro _ M25 _ hle26 ⟨_,⟨rfl,rfl⟩,rfl⟩
 exact WL.a0 (qu (Iv r22) (Xt Z Z) (qu (Bv r23) (Xt Z Z) (qa (Iv r22) (qa (Bv r23) (Nt (Cr (Dr (Rf h [] Z (results2 Z Z Z) hle26 ⟨Z,Z⟩))))))))
noncomputable def f_image_Topic (a0:T_api_Image) (a1:Int):Option (T_api_Topic×Bool):=
 ((f_image_topic a0 a1).bind fun(r23,r24)=>(if(!r24)=true then(some ((⟨(0:Int),(⟨#[]⟩:ByteArray),[]⟩:T_api_Topic),false))else(grd (0≤r23∧r23<a0.Topics.length) (some ((rd a0.Topics r23),true)))))
def f_image_Topic_post (a0:T_api_Image) (a1:Int) (v0_0 v0_1 v0_2 v0_3:Value):(T_api_Topic×Bool)→Value→IM→HL→Prop:=
 fun(p_:(T_api_Topic×Bool)) (v:Value) (M':IM) (H':HL)=>match p_ with |(r0,r1)=>∃ vz0_2,(.tuple #[(.agg #[(.int .i64 r0.Id),(.string r0.Name),vz0_2]),(.bool r1)])=v∧H'=[]∧RS kd_api_Part M' vz0_2 r0.Parts
theorem f_image_Topic_ok (a0:T_api_Image) (a1:Int) (M:IM) (v0_0 v0_1 v0_2 v0_3:Value) (h0_0:RS kd_api_Broker M v0_0 a0.Brokers) (h0_1:RS kd_api_Topic M v0_1 a0.Topics) (h0_2:RS kd_api_Config M v0_2 a0.Configs) (h0_3:RS kd_api_Done M v0_3 a0.Done) (res:(T_api_Topic×Bool)) (h:f_image_Topic a0 a1=some res):
 Tri Tryz.prog 78 #[(a29_ a0 v0_0 v0_1 v0_2 v0_3),(Iv a1)] M [] (f_image_Topic_post a0 a1 v0_0 v0_1 v0_2 v0_3 res):=by
 unfold f_image_Topic at h
 refine Te Tryz.func78 Z Z ?_
 intro F ρ hρ
 refine Sr (We (EO.box (cs:=(l29 a0 v0_0 v0_1 v0_2 v0_3).toArray) (congrArg Value.cells (asE (a29_ a0 v0_0 v0_1 v0_2 v0_3) (hρ 0)))) Z ?_)
 rintro _ _ _ - ⟨rfl,g21,rfl,rfl⟩
 refine We (Al ze52 Z) Z ?_
 rintro _ _ _ - ⟨rfl,g22,rfl,rfl⟩
 refine qa (Bv false) (Ns (qu (a29_ a0 v0_0 v0_1 v0_2 v0_3) (La (cs:=(l29 a0 v0_0 v0_1 v0_2 v0_3)) 1 ag29 sz29 Z Z Z) (qM (Iv a1) (hρ 1) ?_)))
 obtain ⟨⟨r23,r24⟩,hr25,h⟩:=bnd h
 refine We (Ca co94 (f_image_topic_ok a0 a1 _ _ _ _ _ h0_0 h0_1 h0_2 h0_3 (r23,r24) hr25) (args2 Z Z)) Z ?_
 rintro _ M26 _ hle27 ⟨_,⟨rfl,rfl⟩,rfl⟩
 refine WL.a0 (qm (.tuple #[(Iv r23),(Bv r24)]) (qu (Iv r23) (Xt Z Z) (qu (Bv r24) (Xt Z Z) (qa (Iv r23) (qa (Bv r24) (Nt (Cs (Sr (qm (Bv r24) (qu (Bv (!r24)) (PO.not Z) (Nt ?_)))))))))))
 refine Ch h Z (fun hb30 h=> ?_) (fun hb30 h=> ?_)
 refine Sr (qu (.agg #[(Iv 0),(Sv ⟨#[]⟩),Zs]) (Bl (cl:=[(Iv 0),(Sv ⟨#[]⟩),Zs]) ze52 fp52 Pz Z) (We (Sg (v:=(.agg #[(Iv 0),(Sv ⟨#[]⟩),Zs])) (vl:=[(Iv 0),(Sv ⟨#[]⟩),Zs]) (arr':=[(Iv 0),(Sv ⟨#[]⟩),Zs]) Z sz52 Z Z (onb Z) Z Z Z) Z ?_))
 rintro _ _ _ - ⟨rfl,rfl⟩
 exact qa (Bv false) (Nt (Cr (Tr (Qa (Dr (Rd h [] (fun _ hs=>hs.drop) (resultsLN Z (RVs.cons (Rc (cs:=[(Iv 0),(Sv ⟨#[]⟩),Zs]) 0 ag52 sz52 Z Z Z) (RVs.cons (RV.tmp Z) RVs.nil))) hle27 ⟨Zs,Z,Z,RS.nil _ _⟩))))))
 refine Ck (Tc (Sr (qu (pt g21 1) (Fa fo29_1 Z Z) (qu v0_1 (Lb 1 pl25 Z Z Z) (qm (Iv r23) ?_)))))
 obtain ⟨hg31,h⟩:=grd_i h
 have h0_1:=h0_1.mono hle27
 obtain ⟨p32,cs33,hat34,hrc35,hhas36⟩:=h0_1.at hg31.1 hg31.2 (by decide)
 obtain ⟨vw37_2,rfl,hw37_2⟩:=kd_api_Topic_open hrc35
 refine qu (.pointer (some p32)) (PO.indexAddr (n:=a0.Topics.length) Tryz.underlying25 sz52 Z Z hg31.1 hg31.2 hat34) (qu (a52_ (rd a0.Topics r23) vw37_2) (PO.loadMA (cs:=(l52 (rd a0.Topics r23) vw37_2)) ag52 sz52 Z hhas36) (We (Sg (v:=(a52_ (rd a0.Topics r23) vw37_2)) (vl:=(l52 (rd a0.Topics r23) vw37_2)) (arr':=(l52 (rd a0.Topics r23) vw37_2)) Z sz52 Z Z (onesOf (Oc Z (Oc Z (Oc (RS.one hw37_2) Oz)))) Z Z Z) Z ?_))
 rintro _ _ _ - ⟨rfl,rfl⟩
 exact qa (Bv true) (Nt (Cr (Qa (Dr (Rd h [] (fun _ hs=>hs.drop) (resultsLN Z (RVs.cons (Rc (cs:=(l52 (rd a0.Topics r23) vw37_2)) 0 ag52 sz52 Z Z Z) (RVs.cons (RV.tmp Z) RVs.nil))) hle27 ⟨vw37_2,Z,Z,hw37_2⟩)))))
noncomputable def f_dump_configs_l0 (a0:T_api_Image) (s_:Int):Option (Int⊕(Unit⊕GErr)):=
 match s_ with
 |x24=>
 (if(decide (x24<(a0.Configs.length:Int)))=true then(((grd (0≤x24∧x24<a0.Configs.length) ((f_image_Topic a0 ((rd a0.Configs x24).Topic)).bind fun(r36,r37)=>(((if(decide (((rd a0.Configs x24).Topic)≠(0:Int)))=true then(if(!r37)=true then(some true)else((f_record_Name ((rd a0.Configs x24).Key)).bind fun r48=>(if(!r48)=true then(some true)else(some (decide ((256:Int)<(((rd a0.Configs x24).Value).size:Int)))))))else((f_record_Name ((rd a0.Configs x24).Key)).bind fun r54=>(if(!r54)=true then(some true)else(some (decide ((256:Int)<(((rd a0.Configs x24).Value).size:Int))))))):Option Bool).bind fun x44=>(if x44=true then((f_fault_New (⟨#[99,111,110,102,105,103]⟩:ByteArray) x24 (2:Int)).bind fun r61=>(((some (Sum.inr (Sum.inr r61)))).bind fun r=>some (Sum.inr r)))else(if(decide ((0:Int)<x24))=true then(grd (0≤IntKind.i64.wrap (x24 - (1:Int))∧IntKind.i64.wrap (x24 - (1:Int))<a0.Configs.length) (((if(decide (((rd a0.Configs x24).Topic)<((rd a0.Configs (IntKind.i64.wrap (x24 - (1:Int)))).Topic)))=true then(some true)else(if(decide (((rd a0.Configs (IntKind.i64.wrap (x24 - (1:Int)))).Topic)=((rd a0.Configs x24).Topic)))=true then(some (!Op.bytesLess ((rd a0.Configs (IntKind.i64.wrap (x24 - (1:Int)))).Key).toList ((rd a0.Configs x24).Key).toList))else(some false))):Option Bool).bind fun x75=>(if x75=true then((f_fault_New (⟨#[99,111,110,102,105,103]⟩:ByteArray) x24 (10:Int)).bind fun r80=>(((some (Sum.inr (Sum.inr r80)))).bind fun r=>some (Sum.inr r)))else(some (Sum.inl ())))))else(some (Sum.inl ()))))))):Option (Unit⊕(Int⊕(Unit⊕GErr)))).bind (Sum.elim (fun _=>(some (Sum.inl (IntKind.i64.wrap (x24+(1:Int)))))) some))else(some (Sum.inr (Sum.inl ()))))
noncomputable def f_dump_configs (a0:T_api_Image):Option GErr:=
 ((((iter (f_dump_configs_l0 a0) (0:Int)).bind (Sum.elim (fun _=>(some (Sum.inl ()))) (fun(x25:GErr)=>(((some x25)).bind fun r=>some (Sum.inr r))))):Option (Unit⊕GErr)).bind (Sum.elim (fun _=>(some GErr.nil)) some))
def f_dump_configs_post (a0:T_api_Image) (v0_0 v0_1 v0_2 v0_3:Value):GErr→Value→IM→HL→Prop:=
 fun(r0:GErr) (v:Value) (M':IM) (H':HL)=>(GV r0)=v∧H'=[]
theorem f_dump_configs_ok (a0:T_api_Image) (M:IM) (v0_0 v0_1 v0_2 v0_3:Value) (h0_0:RS kd_api_Broker M v0_0 a0.Brokers) (h0_1:RS kd_api_Topic M v0_1 a0.Topics) (h0_2:RS kd_api_Config M v0_2 a0.Configs) (h0_3:RS kd_api_Done M v0_3 a0.Done) (res:GErr) (h:f_dump_configs a0=some res):
 Tri Tryz.prog 51 #[(a29_ a0 v0_0 v0_1 v0_2 v0_3)] M [] (f_dump_configs_post a0 v0_0 v0_1 v0_2 v0_3 res):=by
 unfold f_dump_configs at h
 refine Te Tryz.func51 Z Z ?_
 intro F ρ hρ
 refine Sr (We (EO.box (cs:=(l29 a0 v0_0 v0_1 v0_2 v0_3).toArray) (congrArg Value.cells (asE (a29_ a0 v0_0 v0_1 v0_2 v0_3) (hρ 0)))) Z ?_)
 rintro _ _ _ - ⟨rfl,g21,rfl,rfl⟩
 refine qa (GV GErr.nil) (Nt ?_)
 obtain ⟨j22,hj22,h⟩:=bnd h
 refine WC.joinE (fun(_:Unit) ρ' M' H'=>M.le M'∧[(g21, .cells (l29 a0 v0_0 v0_1 v0_2 v0_3).toArray 29 (0,0))]::F=H') j22 ?_ ?_
 have h322:=h
 have h:=hj22
 refine Sr (qu (pt g21 2) (Fa fo29_2 Z Z) (qu v0_2 (Lb 0 pl26 Z Z Z) (qu (Iv (a0.Configs.length:Int)) (PO.lenS Tryz.underlying26 Z h0_2.len) (qm (Iv 0) (Nt (Bk ?_))))))
 obtain ⟨e23,he23,hK23⟩:=bnd h
 clear h
 refine WC.loop he23 (fun(x24:Int) ρ' M' H'=>M.le M'∧[(g21, .cells (l29 a0 v0_0 v0_1 v0_2 v0_3).toArray 29 (0,0))]::F=H'∧ρ' 1=(pt g21 0)∧ρ' 9=v0_2∧ρ' 10=(Iv (a0.Configs.length:Int))∧ρ' 11=(Iv x24)) ?_ ?_
 exact⟨lr,Z,Z,Z,Z,Z⟩
 rintro x24 o23 ρ23 M23 H23 h ⟨hle23,rfl,hs23_1,hs23_9,hs23_10,hs23_11⟩
 unfold f_dump_configs_l0 at h
 refine Sr (qu (Bv (decide (x24<(a0.Configs.length:Int)))) (PO.lss hs23_11 hs23_10) (Nt (Cs (Ch h Z (fun hb26 h=> ?_) (fun hb26 h=> ?_)))))
 refine Ck (Tc ?_)
 obtain ⟨j27,hj27,h⟩:=bnd h
 refine WC.joinE (fun(_:Unit) ρ' M' H'=>M23.le M'∧[(g21, .cells (l29 a0 v0_0 v0_1 v0_2 v0_3).toArray 29 (0,0))]::F=H'∧ρ' 1=(pt g21 0)∧ρ' 9=v0_2∧ρ' 10=(Iv (a0.Configs.length:Int))∧ρ' 11=(Iv x24)) j27 ?_ ?_
 have h327:=h
 have h:=hj27
 refine Bk (Sr (qM (Iv x24) hs23_11 ?_))
 obtain ⟨hg28,h⟩:=grd_i h
 have h0_2:=h0_2.mono hle23
 obtain ⟨p29,cs30,hat31,hrc32,hhas33⟩:=h0_2.at hg28.1 hg28.2 (by decide)
 obtain rfl:=kd_api_Config_open hrc32
 refine qu (.pointer (some p29)) (PO.indexAddr (n:=a0.Configs.length) Tryz.underlying26 sz64 hs23_9 hs23_11 hg28.1 hg28.2 hat31) (qu (a64_ (rd a0.Configs x24)) (PO.loadMA (cs:=(l64 (rd a0.Configs x24))) ag64 sz64 Z hhas33) (We (Al ze64 Z) Z ?_))
 rintro _ _ _ - ⟨rfl,g35,rfl,rfl⟩
 refine qa (Iv x24) (We (Sg (v:=(a64_ (rd a0.Configs x24))) (vl:=(l64 (rd a0.Configs x24))) (arr':=(l64 (rd a0.Configs x24))) Z sz64 Z Z (onb Z) Z Z Z) Z ?_)
 rintro _ _ _ - ⟨rfl,rfl⟩
 refine Ns (qu (a29_ a0 v0_0 v0_1 v0_2 v0_3) (La (cs:=(l29 a0 v0_0 v0_1 v0_2 v0_3)) 1 ag29 sz29 hs23_1 Z Z) (qu (pt g35 0) (Fa fo64_0 Z Z) (qu (Iv ((rd a0.Configs x24).Topic)) (Lb 0 pl3 Z Z Z) ?_)))
 obtain ⟨⟨r36,r37⟩,hr38,h⟩:=bnd h
 have h0_0:=h0_0.mono hle23
 have h0_1:=h0_1.mono hle23
 have h0_3:=h0_3.mono hle23
 refine We (Ca co78 (f_image_Topic_ok a0 ((rd a0.Configs x24).Topic) _ _ _ _ _ h0_0 h0_1 h0_2 h0_3 (r36,r37) hr38) (args2 Z Z)) Z ?_
 rintro _ M39 _ hle40 ⟨_,⟨vq41_2,rfl,rfl,hq41_2⟩,rfl⟩
 refine WL.a0 (qm (.tuple #[(a52_ r36 vq41_2),(Bv r37)]) (qu (a52_ r36 vq41_2) (Xt Z Z) (qu (Bv r37) (Xt Z Z) (We (Al ze52 Z) Z ?_))))
 rintro _ _ _ - ⟨rfl,g43,rfl,rfl⟩
 refine We (Sg (v:=(a52_ r36 vq41_2)) (vl:=(l52 r36 vq41_2)) (arr':=(l52 r36 vq41_2)) Z sz52 Z Z (onesOf (Oc Z (Oc Z (Oc (RS.one hq41_2) Oz)))) Z Z Z) Z ?_
 rintro _ _ _ - ⟨rfl,rfl⟩
 refine qa (Bv r37) (Nt (Cs ?_))
 obtain ⟨x44,hj45,h⟩:=bnd h
 refine Jf (fun(x44:Bool) ρ' M' H'=>M39.le M'∧[(g43, .cells (l52 r36 vq41_2).toArray 52 (0,0))]::[(g35, .cells (l64 (rd a0.Configs x24)).toArray 64 (0,0))]::[(g21, .cells (l29 a0 v0_0 v0_1 v0_2 v0_3).toArray 29 (0,0))]::F=H'∧ρ' 1=(pt g21 0)∧ρ' 3=(Iv x24)∧ρ' 4=(pt g35 0)∧ρ' 9=v0_2∧ρ' 10=(Iv (a0.Configs.length:Int))∧ρ' 11=(Iv x24)∧ρ' 41=(Bv x44)) x44 ?_ ?_
 have h:=hj45
 refine Cg (qu (pt g35 0) (Fa fo64_0 Z Z) (qu (Iv ((rd a0.Configs x24).Topic)) (Lb 1 pl3 Z Z Z) (qu (Bv (decide (((rd a0.Configs x24).Topic)≠0))) (PO.neq Z Z) (qm (Bv (decide (((rd a0.Configs x24).Topic)≠0))) ?_))))
 rcases Bi h with⟨hb46,h⟩ |⟨hb46,h⟩
 refine On 26 Z Z hb46 (qm (Bv r37) (qo 26 hb46 (Bv (!r37)) (PO.not Z) (qu (Bv (!r37)) (Pt Z hb46 Z) (qm (Bv (!r37)) ?_))))
 rcases Bi h with⟨hb47,h⟩ |⟨hb47,h⟩
 iterate 4 refine Of 30 Z Z hb47 Z ?_
 refine qu (Bv true) (Pt Z hb47 Z) (qm (Bv true) ?_)
 iterate 4 refine Of 36 Z Z Z Z ?_
 refine qu (Bv true) (Pt Z Z Z) (Wz ?_)
 obtain rfl:=oi h
 exact Tj ⟨lr,Z,hs23_1,Z,Z,hs23_9,hs23_10,hs23_11,Z⟩
 refine qo 30 hb47 (pt g35 1) (Fa fo64_1 Z Z) (qo 30 hb47 (Sv ((rd a0.Configs x24).Key)) (Lb 1 pl9 Z Z Z) (On 30 Z Z hb47 ?_))
 obtain ⟨r48,hr49,h⟩:=bnd h
 refine We (Ca co75 (f_record_Name_ok ((rd a0.Configs x24).Key) _ r48 hr49) (args1 Z)) Z ?_
 rintro _ M50 _ hle51 ⟨_,⟨rfl,rfl⟩,rfl⟩
 refine WL.a0 (qo 30 hb47 (Bv (!r48)) (PO.not Z) (qu (Bv (!r48)) (Pf Z hb47 Z) (qm (Bv (!r48)) ?_)))
 rcases Bi h with⟨hb53,h⟩ |⟨hb53,h⟩
 iterate 4 refine Of 36 Z Z hb53 Z ?_
 refine qu (Bv true) (Pt Z hb53 Z) (Wz ?_)
 obtain rfl:=oi h
 exact Tj ⟨hle51,Z,hs23_1,Z,Z,hs23_9,hs23_10,hs23_11,Z⟩
 refine qo 36 hb53 (pt g35 2) (Fa fo64_2 Z Z) (qo 36 hb53 (Sv ((rd a0.Configs x24).Value)) (Lb 1 pl9 Z Z Z) (qo 36 hb53 (Iv (((rd a0.Configs x24).Value).size:Int)) (PO.lenStr Tryz.underlying9 Z) (qo 36 hb53 (Bv (decide ((256:Int)<(((rd a0.Configs x24).Value).size:Int)))) (PO.gtr Z Z) (qu (Bv (decide ((256:Int)<(((rd a0.Configs x24).Value).size:Int)))) (Pf Z hb53 Z) (Wz ?_)))))
 obtain rfl:=oi h
 exact Tj ⟨hle51,Z,hs23_1,Z,Z,hs23_9,hs23_10,hs23_11,Z⟩
 iterate 2 refine Of 26 Z Z hb46 Z ?_
 refine qu (Bv false) (Pf Z hb46 Z) (qm (Bv false) (qo 30 Z (pt g35 1) (Fa fo64_1 Z Z) (qo 30 Z (Sv ((rd a0.Configs x24).Key)) (Lb 1 pl9 Z Z Z) (On 30 Z Z Z ?_))))
 obtain ⟨r54,hr55,h⟩:=bnd h
 refine We (Ca co75 (f_record_Name_ok ((rd a0.Configs x24).Key) _ r54 hr55) (args1 Z)) Z ?_
 rintro _ M56 _ hle57 ⟨_,⟨rfl,rfl⟩,rfl⟩
 refine WL.a0 (qo 30 Z (Bv (!r54)) (PO.not Z) (qu (Bv (!r54)) (Pf Z Z Z) (qm (Bv (!r54)) ?_)))
 rcases Bi h with⟨hb59,h⟩ |⟨hb59,h⟩
 iterate 4 refine Of 36 Z Z hb59 Z ?_
 refine qu (Bv true) (Pt Z hb59 Z) (Wz ?_)
 obtain rfl:=oi h
 exact Tj ⟨hle57,Z,hs23_1,Z,Z,hs23_9,hs23_10,hs23_11,Z⟩
 refine qo 36 hb59 (pt g35 2) (Fa fo64_2 Z Z) (qo 36 hb59 (Sv ((rd a0.Configs x24).Value)) (Lb 1 pl9 Z Z Z) (qo 36 hb59 (Iv (((rd a0.Configs x24).Value).size:Int)) (PO.lenStr Tryz.underlying9 Z) (qo 36 hb59 (Bv (decide ((256:Int)<(((rd a0.Configs x24).Value).size:Int)))) (PO.gtr Z Z) (qu (Bv (decide ((256:Int)<(((rd a0.Configs x24).Value).size:Int)))) (Pf Z hb59 Z) (Wz ?_)))))
 obtain rfl:=oi h
 exact Tj ⟨hle57,Z,hs23_1,Z,Z,hs23_9,hs23_10,hs23_11,Z⟩
 rintro ρ45 M45 H45 ⟨hle45,rfl,hs45_1,hs45_3,hs45_4,hs45_9,hs45_10,hs45_11,hs45_41⟩
 refine Ch h hs45_41 (fun hb60 h=> ?_) (fun hb60 h=> ?_)
 refine Sr (qM (Iv x24) hs45_3 ?_)
 obtain ⟨r61,hr62,h⟩:=bnd h
 refine We (Ca co52 (f_fault_New_ok ⟨#[99,111,110,102,105,103]⟩ x24 (2:Int) _ r61 hr62) (args3 Z Z Z)) Z ?_
 rintro _ M63 _ hle64 ⟨_,⟨rfl,rfl⟩,rfl⟩
 refine WL.a0 (qa (GV r61) (Nt (Cr (Tr (Br (Tr ?_))))))
 have h:=KK.early h h327
 refine WQ.leaveR (Sum.inr r61) (oi h).symm (fun heq23=> ?_)
 subst heq23
 have h:=(elimR hK23)
 refine Br (Tr ?_)
 have h:=KK.early h h322
 exact Dr (Dr (Dr (Rf h [] Z (Rs Z Z) (((hle23.trans hle40).trans hle45).trans hle64) ⟨Z,Z⟩)))
 refine Ck (Tc (Sr (qM (Iv x24) hs45_3 (qu (Bv (decide ((0:Int)<x24))) (PO.gtr Z Z) (Nt (Ch h Z (fun hb66 h=> ?_) (fun hb66 h=> ?_)))))))
 refine Sr (qu (pt g21 2) (Fa fo29_2 hs45_1 Z) (qu v0_2 (Lb 2 pl26 Z Z Z) (qM (Iv x24) hs45_3 (qu (Iv (IntKind.i64.wrap (x24 - 1))) (PO.sub Z Z) ?_))))
 obtain ⟨hg67,h⟩:=grd_i h
 have h0_2:=h0_2.mono (hle40.trans hle45)
 obtain ⟨p68,cs69,hat70,hrc71,hhas72⟩:=h0_2.at hg67.1 hg67.2 (by decide)
 obtain rfl:=kd_api_Config_open hrc71
 refine qu (.pointer (some p68)) (PO.indexAddr (n:=a0.Configs.length) Tryz.underlying26 sz64 Z Z hg67.1 hg67.2 hat70) (qu (a64_ (rd a0.Configs (IntKind.i64.wrap (x24 - 1)))) (PO.loadMA (cs:=(l64 (rd a0.Configs (IntKind.i64.wrap (x24 - 1))))) ag64 sz64 Z hhas72) (We (Al ze64 Z) Z ?_))
 rintro _ _ _ - ⟨rfl,g74,rfl,rfl⟩
 refine We (Sg (v:=(a64_ (rd a0.Configs (IntKind.i64.wrap (x24 - 1))))) (vl:=(l64 (rd a0.Configs (IntKind.i64.wrap (x24 - 1))))) (arr':=(l64 (rd a0.Configs (IntKind.i64.wrap (x24 - 1))))) Z sz64 Z Z (onb Z) Z Z Z) Z ?_
 rintro _ _ _ - ⟨rfl,rfl⟩
 refine Nt ?_
 obtain ⟨x75,hj76,h⟩:=bnd h
 refine Jf (fun(x75:Bool) ρ' M' H'=>M45.le M'∧[(g74, .cells (l64 (rd a0.Configs (IntKind.i64.wrap (x24 - 1)))).toArray 64 (0,0))]::[(g43, .cells (l52 r36 vq41_2).toArray 52 (0,0))]::[(g35, .cells (l64 (rd a0.Configs x24)).toArray 64 (0,0))]::[(g21, .cells (l29 a0 v0_0 v0_1 v0_2 v0_3).toArray 29 (0,0))]::F=H'∧ρ' 1=(pt g21 0)∧ρ' 3=(Iv x24)∧ρ' 9=v0_2∧ρ' 10=(Iv (a0.Configs.length:Int))∧ρ' 11=(Iv x24)∧ρ' 70=(Bv x75)) x75 ?_ ?_
 have h:=hj76
 refine Cg (qu (pt g74 0) (Fa fo64_0 Z Z) (qu (Iv ((rd a0.Configs (IntKind.i64.wrap (x24 - 1))).Topic)) (Lb 0 pl3 Z Z Z) (qu (pt g35 0) (Fa fo64_0 hs45_4 Z) (qu (Iv ((rd a0.Configs x24).Topic)) (Lb 2 pl3 Z Z Z) (qu (Bv (decide (((rd a0.Configs x24).Topic)<((rd a0.Configs (IntKind.i64.wrap (x24 - 1))).Topic)))) (PO.gtr Z Z) (qm (Bv (decide (((rd a0.Configs x24).Topic)<((rd a0.Configs (IntKind.i64.wrap (x24 - 1))).Topic)))) ?_))))))
 rcases Bi h with⟨hb77,h⟩ |⟨hb77,h⟩
 iterate 6 refine Of 57 Z Z hb77 Z ?_
 refine WL.offU 63 Z Z Z (WL.offU 63 Z Z Z (WL.offU 63 Z Z Z (WL.offU 63 Z Z Z (WL.offU 63 Z Z Z (Of 57 Z Z hb77 Z (qu (Bv true) (Pt Z hb77 Z) (Wz ?_)))))))
 obtain rfl:=oi h
 exact Tj ⟨lr,Z,hs45_1,hs45_3,hs45_9,hs45_10,hs45_11,Z⟩
 refine qo 57 hb77 (pt g74 0) (Fa fo64_0 Z Z) (qo 57 hb77 (Iv ((rd a0.Configs (IntKind.i64.wrap (x24 - 1))).Topic)) (Lb 0 pl3 Z Z Z) (qo 57 hb77 (pt g35 0) (Fa fo64_0 hs45_4 Z) (qo 57 hb77 (Iv ((rd a0.Configs x24).Topic)) (Lb 2 pl3 Z Z Z) (qo 57 hb77 (Bv (decide (((rd a0.Configs (IntKind.i64.wrap (x24 - 1))).Topic)=((rd a0.Configs x24).Topic)))) (PO.eql Z Z) (On 57 Z Z hb77 (qm (Bv (decide (((rd a0.Configs (IntKind.i64.wrap (x24 - 1))).Topic)=((rd a0.Configs x24).Topic)))) ?_))))))
 rcases Bi h with⟨hb78,h⟩ |⟨hb78,h⟩
 refine qo 63 hb78 (pt g74 1) (Fa fo64_1 Z Z) (qo 63 hb78 (Sv ((rd a0.Configs (IntKind.i64.wrap (x24 - 1))).Key)) (Lb 0 pl9 Z Z Z) (qo 63 hb78 (pt g35 1) (Fa fo64_1 hs45_4 Z) (qo 63 hb78 (Sv ((rd a0.Configs x24).Key)) (Lb 2 pl9 Z Z Z) (qo 63 hb78 (Bv (!Op.bytesLess ((rd a0.Configs (IntKind.i64.wrap (x24 - 1))).Key).toList ((rd a0.Configs x24).Key).toList)) (PO.sgeq Z Z) (qo 57 hb77 (Bv (!Op.bytesLess ((rd a0.Configs (IntKind.i64.wrap (x24 - 1))).Key).toList ((rd a0.Configs x24).Key).toList)) (Pt Z hb78 Z) (qu (Bv (!Op.bytesLess ((rd a0.Configs (IntKind.i64.wrap (x24 - 1))).Key).toList ((rd a0.Configs x24).Key).toList)) (Pf Z hb77 Z) (Wz ?_)))))))
 obtain rfl:=oi h
 exact Tj ⟨lr,Z,hs45_1,hs45_3,hs45_9,hs45_10,hs45_11,Z⟩
 iterate 5 refine Of 63 Z Z hb78 Z ?_
 refine qo 57 hb77 (Bv false) (Pf Z hb78 Z) (qu (Bv false) (Pf Z hb77 Z) (Wz ?_))
 obtain rfl:=oi h
 exact Tj ⟨lr,Z,hs45_1,hs45_3,hs45_9,hs45_10,hs45_11,Z⟩
 rintro ρ76 M76 H76 ⟨hle76,rfl,hs76_1,hs76_3,hs76_9,hs76_10,hs76_11,hs76_70⟩
 refine Ch h hs76_70 (fun hb79 h=> ?_) (fun hb79 h=> ?_)
 refine Sr (qM (Iv x24) hs76_3 ?_)
 obtain ⟨r80,hr81,h⟩:=bnd h
 refine We (Ca co52 (f_fault_New_ok ⟨#[99,111,110,102,105,103]⟩ x24 (10:Int) _ r80 hr81) (args3 Z Z Z)) Z ?_
 rintro _ M82 _ hle83 ⟨_,⟨rfl,rfl⟩,rfl⟩
 refine WL.a0 (qa (GV r80) (Nt (Cr (Br (Tr ?_)))))
 have h:=KK.early h h327
 refine WQ.leaveR (Sum.inr r80) (oi h).symm (fun heq23=> ?_)
 subst heq23
 have h:=(elimR hK23)
 refine Br (Tr ?_)
 have h:=KK.early h h322
 exact Dr (Dr (Dr (Dr (Rf h [] Z (Rs Z Z) ((((hle23.trans hle40).trans hle45).trans hle76).trans hle83) ⟨Z,Z⟩))))
 exact Ck (Bn (Dr (Dr (Dr (WQ.thenFE h ⟨((hle40.trans hle45).trans hle76),Z,hs76_1,hs76_9,hs76_10,hs76_11⟩)))))
 exact Ck (Bn (Dr (Dr (WQ.thenFE h ⟨(hle40.trans hle45),Z,hs45_1,hs45_9,hs45_10,hs45_11⟩))))
 rintro _ ρ27 M27 H27 rfl ⟨hle27,rfl,hs27_1,hs27_9,hs27_10,hs27_11⟩
 have h:=(Sum.elim_inl _ _ _).symm.trans h
 exact Cg (qu (Iv (IntKind.i64.wrap (x24+1))) (PO.add hs27_11 Z) (qm (Iv (IntKind.i64.wrap (x24+1))) (Wz (WQ.again (IntKind.i64.wrap (x24+1)) (oi h).symm ⟨(hle23.trans hle27),Z,hs27_1,hs27_9,hs27_10,Z⟩))))
 refine WC.exit (WQ.thenE (WQ.leaveE (Sum.inl ()) (oi h).symm (fun heq23=> ?_)))
 subst heq23
 have h:=elimL hK23
 exact WQ.blockH (WQ.thenFE h ⟨hle23,Z⟩)
 rintro _ ρ22 M22 H22 rfl ⟨hle22,rfl⟩
 have h:=(Sum.elim_inl _ _ _).symm.trans h
 exact Sr (qa (GV GErr.nil) (Nt (Cr (Dr (Rf h [] Z (Rs Z Z) hle22 ⟨Z,Z⟩)))))

end Go.Proofs.YtpcbipcdfccnnaaGreat.G
