/- Go functions: what they come to, and that they do. Printed by a program of the session (gen). -/
import Derived.Test.YtpcbipcdfccnnaaGreatSF
import Derived.Test.YtpcbipcdfccnnaaGreatS11
import Derived.Test.YtpcbipcdfccnnaaGreatKShar2
import Derived.Test.YtpcbipcdfccnnaaGreatKConv
import Derived.Test.YtpcbipcdfccnnaaGreatKMap
import Derived.Test.YtpcbipcdfccnnaaGreatKShar
import Derived.Test.YtpcbipcdfccnnaaGreatKTight2
set_option linter.unusedVariables false
set_option linter.unusedSimpArgs false
set_option maxHeartbeats 8000000
set_option maxRecDepth 100000
namespace Go.Proofs.YtpcbipcdfccnnaaGreat.G
open Go Go.KK

noncomputable def f_wire_Reader_Row_l0 (a0:T_wire_Reader) (a2:Int) (r21:Int) (s_:((List Int)×Int×Int×GErr)):Option (((List Int)×Int×Int×GErr)⊕((List Int)×Int×GErr)):=
 match s_ with
 |(x33,x34,x35,x36)=>
 (((if(decide (x34<r21))=true then(some x36.isNil)else(some false)):Option Bool).bind fun x40=>(if x40=true then((f_wire_Reader_Int (⟨a0.b,x35,x36⟩:T_wire_Reader) a2).bind fun(r44,r45,r46)=>(grd (x33.length+[r44].length≤274877906944) (some (Sum.inl (x33++[r44],IntKind.i64.wrap (x34+(1:Int)),r45,r46)))))else(some (Sum.inr (x33,x35,x36)))))
noncomputable def f_wire_Reader_Row (a0:T_wire_Reader) (a1:Int) (a2:Int):Option ((List Int)×Int×GErr):=
 ((f_wire_Reader_Int a0 a1).bind fun(r21,r22,r23)=>((((iter (f_wire_Reader_Row_l0 a0 a2 r21) ([],(0:Int),r22,r23)).bind (fun(x37,x38,x39)=>(some (x37,x38,x39)))):Option ((List Int)×Int×GErr)).bind fun(x28,x29,x30)=>(if(!x30.isNil)=true then(some ([],x29,x30))else(some (x28,x29,x30)))))
def f_wire_Reader_Row_post (a0:T_wire_Reader) (a1:Int) (a2:Int) (v0_0:Value) (g0:Nat):((List Int)×Int×GErr)→Value→IM→HL→Prop:=
 fun(p_:((List Int)×Int×GErr)) (v:Value) (M':IM) (H':HL)=>match p_ with |(r0,r1,r2)=>∃ vz0 cz0,vz0=v∧H'=[[(g0, .cells #[v0_0,(.int .i64 r1),(GV r2)] 99 (0,0))],cz0]∧OwnS (Kd.int .i64) M' vz0 r0 cz0
theorem f_wire_Reader_Row_ok (a0:T_wire_Reader) (a1:Int) (a2:Int) (M:IM) (v0_0:Value) (g0:Nat) (h0_0:RS (Kd.int .u8) M v0_0 a0.b) (res:((List Int)×Int×GErr)) (h:f_wire_Reader_Row a0 a1 a2=some res):
 Tri Tryz.prog 25 #[(pt g0 0),(Iv a1),(Iv a2)] M [[(g0, .cells #[v0_0,(Iv a0.at_),(GV a0.err)] 99 (0,0))]] (f_wire_Reader_Row_post a0 a1 a2 v0_0 g0 res):=by
 unfold f_wire_Reader_Row at h
 refine Te Tryz.func25 Z Z ?_
 intro F ρ hρ
 refine Sr (qa Zs (Ns (qM (pt g0 0) (hρ 0) (qM (Iv a1) (hρ 1) ?_))))
 obtain ⟨⟨r21,r22,r23⟩,hr24,h⟩:=bnd h
 refine We (Cb co21 (f_wire_Reader_Int_ok a0 a1 _ _ _ h0_0 (r21,r22,r23) hr24) (args2 Z Z)) Z ?_
 rintro _ M25 _ hle26 ⟨_,⟨rfl,rfl⟩,rfl⟩
 refine WL.a1 (qa (Iv r21) (Ns (qa Zs (Nt ?_))))
 obtain ⟨j31,hj31,h⟩:=bnd h
 refine Jf (fun(p_:((List Int)×Int×GErr)) ρ' M' H'=>match p_ with |(x28,x29,x30)=>∃ vx28 cx28,M25.le M'∧[(g0, .cells #[v0_0,(Iv x29),(GV x30)] 99 (0,0))]::cx28::F=H'∧ρ' 0=(pt g0 0)∧ρ' 8=vx28∧OwnS (Kd.int .i64) M' vx28 x28 cx28) j31 ?_ ?_
 have h:=hj31
 refine Sr (qa (Iv 0) (Nt (Bk (WC.e0 (WC.f1 ?_)))))
 obtain ⟨e32,he32,hK32⟩:=bnd h
 clear h
 refine WC.loop he32 (fun(p_:((List Int)×Int×Int×GErr)) ρ' M' H'=>match p_ with |(x33,x34,x35,x36)=>∃ vx33 cx33,M25.le M'∧[(g0, .cells #[v0_0,(Iv x35),(GV x36)] 99 (0,0))]::cx33::F=H'∧ρ' 0=(pt g0 0)∧ρ' 2=(Iv a2)∧ρ' 7=(Iv r21)∧ρ' 8=vx33∧ρ' 9=(Iv x34)∧OwnS (Kd.int .i64) M' vx33 x33 cx33) ?_ ?_
 exact⟨Zs,[],lr,Z,(hρ 0),(hρ 2),Z,Z,Z,(OwnS.nil _ _)⟩
 rintro ⟨x33,x34,x35,x36⟩ o32 ρ32 M32 H32 h ⟨vx33,cx33,hle32,rfl,hs32_0,hs32_2,hs32_7,hs32_8,hs32_9,hx33⟩
 unfold f_wire_Reader_Row_l0 at h
 refine Cs ?_
 obtain ⟨x40,hj41,h⟩:=bnd h
 refine Jf (fun(x40:Bool) ρ' M' H'=>M32.le M'∧[(g0, .cells #[v0_0,(Iv x35),(GV x36)] 99 (0,0))]::cx33::F=H'∧ρ' 0=(pt g0 0)∧ρ' 2=(Iv a2)∧ρ' 7=(Iv r21)∧ρ' 8=vx33∧ρ' 9=(Iv x34)∧ρ' 22=(Bv x40)) x40 ?_ ?_
 have h:=hj41
 refine Cg (qM (Iv x34) hs32_9 (qM (Iv r21) hs32_7 (qu (Bv (decide (x34<r21))) (PO.lss Z Z) (qm (Bv (decide (x34<r21))) ?_))))
 rcases Bi h with⟨hb42,h⟩ |⟨hb42,h⟩
 refine On 16 Z Z hb42 (qM (pt g0 0) hs32_0 (qo 16 hb42 (pt g0 0) (Nk Z) (qo 16 hb42 (pt g0 2) (Fa fo99_2 Z Z) (qo 16 hb42 (GV x36) (Lb 0 pl33 Z Z Z) (qo 16 hb42 (Bv x36.isNil) (PO.errNil Tryz.underlying33 Z) (qu (Bv x36.isNil) (Pt Z hb42 Z) (Wz ?_)))))))
 obtain rfl:=oi h
 exact Tj ⟨lr,Z,hs32_0,hs32_2,hs32_7,hs32_8,hs32_9,Z⟩
 iterate 5 refine Of 16 Z Z hb42 Z ?_
 refine qu (Bv false) (Pf Z hb42 Z) (Wz ?_)
 obtain rfl:=oi h
 exact Tj ⟨lr,Z,hs32_0,hs32_2,hs32_7,hs32_8,hs32_9,Z⟩
 rintro ρ41 M41 H41 ⟨hle41,rfl,hs41_0,hs41_2,hs41_7,hs41_8,hs41_9,hs41_22⟩
 refine Ch h hs41_22 (fun hb43 h=> ?_) (fun hb43 h=> ?_)
 refine Ck (Tc (Cs (Bk (Cg (qM vx33 hs41_8 (qM (pt g0 0) hs41_0 (qM (Iv a2) hs41_2 ?_)))))))
 obtain ⟨⟨r44,r45,r46⟩,hr47,h⟩:=bnd h
 have h0_0:=h0_0.mono ((hle26.trans hle32).trans hle41)
 refine We (Cb co21 (f_wire_Reader_Int_ok (⟨a0.b,x35,x36⟩:T_wire_Reader) a2 _ _ _ h0_0 (r44,r45,r46) hr47) (args2 Z Z)) Z ?_
 rintro _ M48 _ hle49 ⟨_,⟨rfl,rfl⟩,rfl⟩
 refine WL.a1 (We (EO.buildSliceL (cl:=[(Iv r44)]) Tryz.underlying43 iz3 Z (Pc (Iv r44) Z Z Pz) Z) Z ?_)
 rintro _ _ _ - ⟨rfl,g51,rfl,rfl⟩
 have h53:OwnS (Kd.int .i64) M48 (.slice (some ⟨g51,0,none⟩) 1 1) [r44] [(g51, .cells #[(Iv r44)] 3 (0,0))]:=OwnS.rows (css:=[[(Iv r44)]]) (Rows.cons Z Rows.nil) Z Z
 obtain ⟨hg57,h⟩:=grd_i h
 refine Wb ?_
 have hx33:=hx33.mono (hle41.trans hle49)
 refine We (EO.append (dd:=(Kd.int .i64)) (xs:=x33) (ys:=[r44]) Tryz.underlying43 Tryz.underlying43 in3 Z (appB (by decide) hg57) (by decide) Z Z hx33 (h53.src 1 Z)) Z ?_
 rintro v56 _ _ - ⟨rfl,c54,rfl,h55⟩
 refine qa v56 (Wz (Bn (Tc (Cg (qM (Iv x34) hs41_9 (qu (Iv (IntKind.i64.wrap (x34+1))) (PO.add Z Z) (qa (Iv (IntKind.i64.wrap (x34+1))) (Wz (Qa (Dr (Qa ?_)))))))))))
 exact WQ.again (x33++[r44],IntKind.i64.wrap (x34+1),r45,r46) (oi h).symm ⟨v56,c54,((hle32.trans hle41).trans hle49),Z,hs41_0,hs41_2,hs41_7,Z,Z,h55⟩
 refine WC.exit (WQ.thenE (WQ.leaveE (x33,x35,x36) (oi h).symm (fun heq32=> ?_)))
 subst heq32
 have h:=hK32
 refine WQ.blockH ?_
 obtain rfl:=oi h
 refine Tj ?_
 have hx33:=hx33.mono hle41
 exact⟨vx33,cx33,(hle32.trans hle41),Z,hs41_0,hs41_8,hx33⟩
 obtain ⟨x28,x29,x30⟩:=j31
 rintro ρ31 M31 H31 ⟨vx28,cx28,hle31,rfl,hs31_0,hs31_8,hx28⟩
 refine Cs (Sr (qM (pt g0 0) hs31_0 (qu (pt g0 0) (Nk Z) (qu (pt g0 2) (Fa fo99_2 Z Z) (qu (GV x30) (Lb 0 pl33 Z Z Z) (qu (Bv (!x30.isNil)) (PO.errNotNil Tryz.underlying33 Z) (Nt (Ch h Z (fun hb59 h=> ?_) (fun hb59 h=> ?_)))))))))
 exact Sr (qa Zs (Nt (Cr (Tr (WQ.e0 (Qb (Dr (Qa (Rf h [[(g0, .cells #[v0_0,(Iv x29),(GV x30)] 99 (0,0))],[]] Z (Rs Z Z) (hle26.trans hle31) ⟨Zs,[],Z,Z,(OwnS.nil _ _)⟩)))))))))
 exact Ck (Tc (Sr (qM vx28 hs31_8 (qa vx28 (Nt (Cr (Rf h [[(g0, .cells #[v0_0,(Iv x29),(GV x30)] 99 (0,0))],cx28] Z (Rs Z Z) (hle26.trans hle31) ⟨vx28,cx28,Z,Z,hx28⟩)))))))
noncomputable def f_dump_Read_3 (a0q:T_wire_Reader):Option ((List Int)×Int×GErr):=
 ((f_wire_Reader_Row a0q (7:Int) (64:Int)).bind fun(r21,r22,r23)=>(some (r21,r22,r23)))
def f_dump_Read_3_post (a0q:T_wire_Reader) (v0q_0:Value) (g0 g0q:Nat):((List Int)×Int×GErr)→Value→IM→HL→Prop:=
 fun(p_:((List Int)×Int×GErr)) (v:Value) (M':IM) (H':HL)=>match p_ with |(r0,r1,r2)=>∃ vz0 cz0,vz0=v∧H'=[[(g0q, .cells #[v0q_0,(.int .i64 r1),(GV r2)] 99 (0,0))],[(g0, .cells #[(.pointer (some ⟨g0q,0,none⟩))] 67 (0,0))],cz0]∧OwnS (Kd.int .i64) M' vz0 r0 cz0
theorem f_dump_Read_3_ok (a0q:T_wire_Reader) (M:IM) (v0q_0:Value) (g0 g0q:Nat) (h0q_0:RS (Kd.int .u8) M v0q_0 a0q.b) (res:((List Int)×Int×GErr)) (h:f_dump_Read_3 a0q=some res):
 Tri Tryz.prog 24 #[(pt g0 0)] M [[(g0q, .cells #[v0q_0,(Iv a0q.at_),(GV a0q.err)] 99 (0,0))],[(g0, .cells #[(pt g0q 0)] 67 (0,0))]] (f_dump_Read_3_post a0q v0q_0 g0 g0q res):=by
 unfold f_dump_Read_3 at h
 refine Te Tryz.func24 Z Z ?_
 intro F ρ hρ
 refine Sr (qa Zs (Ns (qu (pt g0q 0) (Lb 1 pl67 (hρ 0) Z Z) ?_)))
 obtain ⟨⟨r21,r22,r23⟩,hr24,h⟩:=bnd h
 refine We (Cb co25 (f_wire_Reader_Row_ok a0q (7:Int) (64:Int) _ _ _ h0q_0 (r21,r22,r23) hr24) (args3 Z Z Z)) Z ?_
 rintro _ M25 _ hle26 ⟨_,⟨vq27,cq27,rfl,rfl,hq27⟩,rfl⟩
 exact WL.a2 (qa vq27 (Nt (Cr (Qa (Qb (Qb (Rf h [[(g0q, .cells #[v0q_0,(Iv r22),(GV r23)] 99 (0,0))],[(g0, .cells #[(pt g0q 0)] 67 (0,0))],cq27] Z (Rs Z Z) hle26 ⟨vq27,cq27,Z,Z,hq27⟩)))))))
noncomputable def f_dump_Read_5_Read_3_Read_1 (a0qk0q:T_wire_Reader):Option (T_api_Part×Int×GErr):=
 ((f_dump_Read_3 a0qk0q).bind fun(r22,r23,r24)=>((f_dump_Read_3 (⟨a0qk0q.b,r23,r24⟩:T_wire_Reader)).bind fun(r29,r30,r31)=>((f_dump_Read_1 (⟨a0qk0q.b,r30,r31⟩:T_wire_Reader)).bind fun(r36,r37,r38)=>((f_dump_Read_1 (⟨a0qk0q.b,r37,r38⟩:T_wire_Reader)).bind fun(r43,r44,r45)=>((f_dump_Read_3 (⟨a0qk0q.b,r44,r45⟩:T_wire_Reader)).bind fun(r50,r51,r52)=>((f_dump_Read_3 (⟨a0qk0q.b,r51,r52⟩:T_wire_Reader)).bind fun(r57,r58,r59)=>(some ((⟨r22,r29,r36,r43,r50,r57⟩:T_api_Part),r58,r59))))))))
def f_dump_Read_5_Read_3_Read_1_post (a0qk0q:T_wire_Reader) (v0qk0q_0:Value) (g0 g0qk0 g0qk0q g1:Nat):(T_api_Part×Int×GErr)→Value→IM→HL→Prop:=
 fun(p_:(T_api_Part×Int×GErr)) (v:Value) (M':IM) (H':HL)=>match p_ with |(r0,r1,r2)=>∃ vz0_0 cz0_0 vz0_1 cz0_1 vz0_4 cz0_4 vz0_5 cz0_5,(.agg #[vz0_0,vz0_1,(.int .i64 r0.Leader),(.int .i64 r0.Epoch),vz0_4,vz0_5])=v∧H'=[[(g0qk0q, .cells #[v0qk0q_0,(.int .i64 r1),(GV r2)] 99 (0,0))],[(g0qk0, .cells #[(.pointer (some ⟨g0qk0q,0,none⟩))] 67 (0,0))],[(g0, .cells #[(.func (.func 24) #[] #[(.pointer (some ⟨g0qk0,0,none⟩))])] 74 (0,0))],[(g1, .cells #[(.func (.func 20) #[] #[(.pointer (some ⟨g0qk0,0,none⟩))])] 70 (0,0))],cz0_0,cz0_1,cz0_4,cz0_5]∧OwnS (Kd.int .i64) M' vz0_0 r0.Ids cz0_0∧OwnS (Kd.int .i64) M' vz0_1 r0.Isr cz0_1∧OwnS (Kd.int .i64) M' vz0_4 r0.Add cz0_4∧OwnS (Kd.int .i64) M' vz0_5 r0.Drop cz0_5
theorem f_dump_Read_5_Read_3_Read_1_ok (a0qk0q:T_wire_Reader) (M:IM) (v0qk0q_0:Value) (g0 g0qk0 g0qk0q g1:Nat) (h0qk0q_0:RS (Kd.int .u8) M v0qk0q_0 a0qk0q.b) (res:(T_api_Part×Int×GErr)) (h:f_dump_Read_5_Read_3_Read_1 a0qk0q=some res):
 Tri Tryz.prog 29 #[(pt g0 0),(pt g1 0)] M [[(g0qk0q, .cells (l99 a0qk0q v0qk0q_0).toArray 99 (0,0))],[(g0qk0, .cells #[(pt g0qk0q 0)] 67 (0,0))],[(g0, .cells #[(.func (.func 24) #[] #[(pt g0qk0 0)])] 74 (0,0))],[(g1, .cells #[(.func (.func 20) #[] #[(pt g0qk0 0)])] 70 (0,0))]] (f_dump_Read_5_Read_3_Read_1_post a0qk0q v0qk0q_0 g0 g0qk0 g0qk0q g1 res):=by
 unfold f_dump_Read_5_Read_3_Read_1 at h
 refine Te Tryz.func29 Z Z ?_
 intro F ρ hρ
 refine Sr (We (Al ze54 Z) Z ?_)
 rintro _ _ _ - ⟨rfl,g21,rfl,rfl⟩
 refine Nt (Cs (WC.draw [0,1,0,7,0,31,0,127,0,511,0,2047,4095,8191] (.pure 0 (.pure 2 (.pure 4 (.pure 6 (.pure 8 (.pure 10 (.alt 1 (.alt 3 (.alt 5 (.alt 7 (.alt 9 (.alt 11 (.pure 12 (.alt 13 .done .none)) .none) .none) .none) .none) .none) .none))))))) mixed (by kernel_rfl) (qt (.func (.func 24) #[] #[(pt g0qk0 0)]) Z (Lb 3 pl74 (hρ 0) Z Z) (qt (.func (.func 24) #[] #[(pt g0qk0 0)]) Z (Lb 3 pl74 (hρ 0) Z Z) (qt (.func (.func 20) #[] #[(pt g0qk0 0)]) Z (Lb 4 pl70 (hρ 1) Z Z) (qt (.func (.func 20) #[] #[(pt g0qk0 0)]) Z (Lb 4 pl70 (hρ 1) Z Z) (qt (.func (.func 24) #[] #[(pt g0qk0 0)]) Z (Lb 3 pl74 (hρ 0) Z Z) (qt (.func (.func 24) #[] #[(pt g0qk0 0)]) Z (Lb 3 pl74 (hρ 0) Z Z) ?_))))))))
 obtain ⟨⟨r22,r23,r24⟩,hr25,h⟩:=bnd h
 refine WT.f2 (WT.f2 (Ta Z (EO.callV2 (first:=#[]) (cap:=#[(pt g0qk0 0)]) co24 Z (f_dump_Read_3_ok a0qk0q _ _ _ _ h0qk0q_0 (r22,r23,r24) hr25) (argsV0 Z)) Z ?_ ?_))
 rintro _ M26 _ hle27 ⟨_,⟨vq28,cq28,rfl,rfl,hq28⟩,rfl⟩
 refine⟨(Ss Z (Lb 4 pl74 (hρ 0) Z Z) Z (Ss Z (Lb 4 pl74 (hρ 0) Z Z) Z (Ss Z (Lb 5 pl70 (hρ 1) Z Z) Z (Ss Z (Lb 5 pl70 (hρ 1) Z Z) Z (Ss Z (Lb 4 pl74 (hρ 0) Z Z) Z (Sl Z)))))), ?_⟩
 refine WT.a3 ?_
 obtain ⟨⟨r29,r30,r31⟩,hr32,h⟩:=bnd h
 refine WT.f1 (WT.f1 ?_)
 have h0qk0q_0:=h0qk0q_0.mono hle27
 refine Ta Z (EO.callV2 (first:=#[]) (cap:=#[(pt g0qk0 0)]) co24 Z (f_dump_Read_3_ok (⟨a0qk0q.b,r23,r24⟩:T_wire_Reader) _ _ _ _ h0qk0q_0 (r29,r30,r31) hr32) (argsV0 Z)) Z ?_ ?_
 rintro _ M33 _ hle34 ⟨_,⟨vq35,cq35,rfl,rfl,hq35⟩,rfl⟩
 refine⟨(Ss Z (Lb 5 pl74 (hρ 0) Z Z) Z (Ss Z (Lb 5 pl74 (hρ 0) Z Z) Z (Ss Z (Lb 6 pl70 (hρ 1) Z Z) Z (Ss Z (Lb 6 pl70 (hρ 1) Z Z) Z (Sl Z))))), ?_⟩
 refine WT.a3 ?_
 obtain ⟨⟨r36,r37,r38⟩,hr39,h⟩:=bnd h
 refine WT.f1 (WT.f1 ?_)
 have h0qk0q_0:=h0qk0q_0.mono hle34
 refine Ta Z (EO.callV2 (first:=#[]) (cap:=#[(pt g0qk0 0)]) co20 Z (f_dump_Read_1_ok (⟨a0qk0q.b,r30,r31⟩:T_wire_Reader) _ _ _ _ h0qk0q_0 (r36,r37,r38) hr39) (argsV0 Z)) Z ?_ ?_
 rintro _ M40 _ hle41 ⟨_,⟨rfl,rfl⟩,rfl⟩
 refine⟨(Ss Z (Lb 5 pl74 (hρ 0) Z Z) Z (Ss Z (Lb 5 pl74 (hρ 0) Z Z) Z (Ss Z (Lb 6 pl70 (hρ 1) Z Z) Z (Sl Z)))), ?_⟩
 refine WT.a2 ?_
 obtain ⟨⟨r43,r44,r45⟩,hr46,h⟩:=bnd h
 refine WT.f1 (WT.f1 ?_)
 have h0qk0q_0:=h0qk0q_0.mono hle41
 refine Ta Z (EO.callV2 (first:=#[]) (cap:=#[(pt g0qk0 0)]) co20 Z (f_dump_Read_1_ok (⟨a0qk0q.b,r37,r38⟩:T_wire_Reader) _ _ _ _ h0qk0q_0 (r43,r44,r45) hr46) (argsV0 Z)) Z ?_ ?_
 rintro _ M47 _ hle48 ⟨_,⟨rfl,rfl⟩,rfl⟩
 refine⟨(Ss Z (Lb 5 pl74 (hρ 0) Z Z) Z (Ss Z (Lb 5 pl74 (hρ 0) Z Z) Z (Sl Z))), ?_⟩
 refine WT.a2 ?_
 obtain ⟨⟨r50,r51,r52⟩,hr53,h⟩:=bnd h
 refine WT.f1 (WT.f1 ?_)
 have h0qk0q_0:=h0qk0q_0.mono hle48
 refine Ta Z (EO.callV2 (first:=#[]) (cap:=#[(pt g0qk0 0)]) co24 Z (f_dump_Read_3_ok (⟨a0qk0q.b,r44,r45⟩:T_wire_Reader) _ _ _ _ h0qk0q_0 (r50,r51,r52) hr53) (argsV0 Z)) Z ?_ ?_
 rintro _ M54 _ hle55 ⟨_,⟨vq56,cq56,rfl,rfl,hq56⟩,rfl⟩
 refine⟨(Ss Z (Lb 6 pl74 (hρ 0) Z Z) Z (Sl Z)), ?_⟩
 refine WT.a3 ?_
 obtain ⟨⟨r57,r58,r59⟩,hr60,h⟩:=bnd h
 refine WT.f1 (WT.f1 ?_)
 have h0qk0q_0:=h0qk0q_0.mono hle55
 refine Ta Z (EO.callV2 (first:=#[]) (cap:=#[(pt g0qk0 0)]) co24 Z (f_dump_Read_3_ok (⟨a0qk0q.b,r51,r52⟩:T_wire_Reader) _ _ _ _ h0qk0q_0 (r57,r58,r59) hr60) (argsV0 Z)) Z ?_ ?_
 rintro _ M61 _ hle62 ⟨_,⟨vq63,cq63,rfl,rfl,hq63⟩,rfl⟩
 refine⟨(Sl Z), ?_⟩
 refine WT.a3 ?_
 have hq28:=hq28.mono ((((hle34.trans hle41).trans hle48).trans hle55).trans hle62)
 have hq35:=hq35.mono (((hle41.trans hle48).trans hle55).trans hle62)
 have hq56:=hq56.mono hle62
 refine qt (.agg #[vq28,vq35,(Iv r36),(Iv r43),vq56,vq63]) Z (Bl (cl:=[vq28,vq35,(Iv r36),(Iv r43),vq56,vq63]) ze54 fp54 (Parts.cons ((congrArg Value.cells (show ev _ _=vq28 from Z)).trans hq28.cells) (Parts.cons ((congrArg Value.cells (show ev _ _=vq35 from Z)).trans hq35.cells) (Pc (Iv r36) Z Z (Pc (Iv r43) Z Z (Parts.cons ((congrArg Value.cells (show ev _ _=vq56 from Z)).trans hq56.cells) (Parts.cons ((congrArg Value.cells (show ev _ _=vq63 from Z)).trans hq63.cells) Pz)))))) Z) (WT.f6 (Ta Z (Sg (v:=(.agg #[vq28,vq35,(Iv r36),(Iv r43),vq56,vq63])) (vl:=[vq28,vq35,(Iv r36),(Iv r43),vq56,vq63]) (arr':=[vq28,vq35,(Iv r36),(Iv r43),vq56,vq63]) Z sz54 Z Z (onesOf (Oc (Ow hq28) (Oc (Ow hq35) (Oc Z (Oc Z (Oc (Ow hq56) (Oc (Ow hq63) Oz))))))) Z Z Z) Z ?_ ?_))
 rintro _ _ _ - ⟨rfl,rfl⟩
 refine⟨(Sl Z), ?_⟩
 refine Ti (Tc (Cr (WQ.f3 (WQ.f4 (WQ.f5 (WQ.f6 (WQ.f8 (WQ.f8 (WQ.f8 (WQ.f8 (WQ.f8 ?_)))))))))))
 exact Rd h [[(g0qk0q, .cells #[v0qk0q_0,(Iv r58),(GV r59)] 99 (0,0))],[(g0qk0, .cells #[(pt g0qk0q 0)] 67 (0,0))],[(g0, .cells #[(.func (.func 24) #[] #[(pt g0qk0 0)])] 74 (0,0))],[(g1, .cells #[(.func (.func 20) #[] #[(pt g0qk0 0)])] 70 (0,0))],cq28,cq35,cq56,cq63] (fun _ hs=>hs.drop) (resultsL1 Z (Rc (cs:=[vq28,vq35,(Iv r36),(Iv r43),vq56,vq63]) 0 ag54 sz54 Z Z Z)) (((((hle27.trans hle34).trans hle41).trans hle48).trans hle55).trans hle62) ⟨vq28,cq28,vq35,cq35,vq56,cq56,vq63,cq63,Z,Z,hq28,hq35,hq56,hq63⟩
 exact Tz
 exact Tz
 exact Tz
 exact Tz
 exact Tz
 exact Tz
 exact Tz
noncomputable def f_dump_many_api_Part_Read_5_Read_3_Read_1_l0 (a0:T_wire_Reader) (r21:Int) (s_:((List T_api_Part)×Int×Int×GErr)):Option (((List T_api_Part)×Int×Int×GErr)⊕((List T_api_Part)×Int×GErr)):=
 match s_ with
 |(x33,x34,x35,x36)=>
 (((if(decide (x34<r21))=true then((f_wire_Reader_Err (⟨a0.b,x35,x36⟩:T_wire_Reader)).bind fun r43=>(some r43.isNil))else(some false)):Option Bool).bind fun x40=>(if x40=true then((f_dump_Read_5_Read_3_Read_1 (⟨a0.b,x35,x36⟩:T_wire_Reader)).bind fun(r49,r50,r51)=>(grd (x33.length+[r49].length≤274877906944) (some (Sum.inl (x33++[r49],IntKind.i64.wrap (x34+(1:Int)),r50,r51)))))else(some (Sum.inr (x33,x35,x36)))))
noncomputable def f_dump_many_api_Part_Read_5_Read_3_Read_1 (a0:T_wire_Reader) (a1:Int):Option ((List T_api_Part)×Int×GErr):=
 ((f_wire_Reader_Int a0 a1).bind fun(r21,r22,r23)=>((((iter (f_dump_many_api_Part_Read_5_Read_3_Read_1_l0 a0 r21) ([],(0:Int),r22,r23)).bind (fun(x37,x38,x39)=>(some (x37,x38,x39)))):Option ((List T_api_Part)×Int×GErr)).bind fun(x28,x29,x30)=>(some (x28,x29,x30))))
def f_dump_many_api_Part_Read_5_Read_3_Read_1_post (a0:T_wire_Reader) (a1:Int) (v0_0:Value) (g0 g2k0 g2k0qk0 g2k1:Nat):((List T_api_Part)×Int×GErr)→Value→IM→HL→Prop:=
 fun(p_:((List T_api_Part)×Int×GErr)) (v:Value) (M':IM) (H':HL)=>match p_ with |(r0,r1,r2)=>∃ vz0 cz0,vz0=v∧H'=[[(g0, .cells #[v0_0,(.int .i64 r1),(GV r2)] 99 (0,0))],[(g2k0qk0, .cells #[(.pointer (some ⟨g0,0,none⟩))] 67 (0,0))],[(g2k0, .cells #[(.func (.func 24) #[] #[(.pointer (some ⟨g2k0qk0,0,none⟩))])] 74 (0,0))],[(g2k1, .cells #[(.func (.func 20) #[] #[(.pointer (some ⟨g2k0qk0,0,none⟩))])] 70 (0,0))],cz0]∧OwnS kd_api_Part M' vz0 r0 cz0
theorem f_dump_many_api_Part_Read_5_Read_3_Read_1_ok (a0:T_wire_Reader) (a1:Int) (M:IM) (v0_0:Value) (g0 g2k0 g2k0qk0 g2k1:Nat) (h0_0:RS (Kd.int .u8) M v0_0 a0.b) (res:((List T_api_Part)×Int×GErr)) (h:f_dump_many_api_Part_Read_5_Read_3_Read_1 a0 a1=some res):
 Tri Tryz.prog 32 #[(pt g0 0),(Iv a1),(.func (.func 29) #[] #[(pt g2k0 0),(pt g2k1 0)])] M [[(g0, .cells #[v0_0,(Iv a0.at_),(GV a0.err)] 99 (0,0))],[(g2k0qk0, .cells #[(pt g0 0)] 67 (0,0))],[(g2k0, .cells #[(.func (.func 24) #[] #[(pt g2k0qk0 0)])] 74 (0,0))],[(g2k1, .cells #[(.func (.func 20) #[] #[(pt g2k0qk0 0)])] 70 (0,0))]] (f_dump_many_api_Part_Read_5_Read_3_Read_1_post a0 a1 v0_0 g0 g2k0 g2k0qk0 g2k1 res):=by
 unfold f_dump_many_api_Part_Read_5_Read_3_Read_1 at h
 refine Te Tryz.func32 Z Z ?_
 intro F ρ hρ
 refine Sr (qa Zs (Ns (qa Zs (Ns (qM (pt g0 0) (hρ 0) (qM (Iv a1) (hρ 1) ?_))))))
 obtain ⟨⟨r21,r22,r23⟩,hr24,h⟩:=bnd h
 refine We (Cb co21 (f_wire_Reader_Int_ok a0 a1 _ _ _ h0_0 (r21,r22,r23) hr24) (args2 Z Z)) Z ?_
 rintro _ M25 _ hle26 ⟨_,⟨rfl,rfl⟩,rfl⟩
 refine WL.a1 (qa (Iv r21) (Nt ?_))
 obtain ⟨j31,hj31,h⟩:=bnd h
 refine Jf (fun(p_:((List T_api_Part)×Int×GErr)) ρ' M' H'=>match p_ with |(x28,x29,x30)=>∃ vx28 cx28,M25.le M'∧[(g0, .cells #[v0_0,(Iv x29),(GV x30)] 99 (0,0))]::[(g2k0qk0, .cells #[(pt g0 0)] 67 (0,0))]::[(g2k0, .cells #[(.func (.func 24) #[] #[(pt g2k0qk0 0)])] 74 (0,0))]::[(g2k1, .cells #[(.func (.func 20) #[] #[(pt g2k0qk0 0)])] 70 (0,0))]::cx28::F=H'∧ρ' 7=vx28∧OwnS kd_api_Part M' vx28 x28 cx28) j31 ?_ ?_
 have h:=hj31
 refine Sr (qa (Iv 0) (Nt (Bk (WC.e0 (WC.f4 (WC.f4 (WC.f4 (WC.f4 ?_))))))))
 obtain ⟨e32,he32,hK32⟩:=bnd h
 clear h
 refine WC.loop he32 (fun(p_:((List T_api_Part)×Int×Int×GErr)) ρ' M' H'=>match p_ with |(x33,x34,x35,x36)=>∃ vx33 cx33,M25.le M'∧[(g0, .cells #[v0_0,(Iv x35),(GV x36)] 99 (0,0))]::[(g2k0qk0, .cells #[(pt g0 0)] 67 (0,0))]::[(g2k0, .cells #[(.func (.func 24) #[] #[(pt g2k0qk0 0)])] 74 (0,0))]::[(g2k1, .cells #[(.func (.func 20) #[] #[(pt g2k0qk0 0)])] 70 (0,0))]::cx33::F=H'∧ρ' 0=(pt g0 0)∧ρ' 2=(.func (.func 29) #[] #[(pt g2k0 0),(pt g2k1 0)])∧ρ' 7=vx33∧ρ' 8=(Iv r21)∧ρ' 9=(Iv x34)∧OwnS kd_api_Part M' vx33 x33 cx33) ?_ ?_
 exact⟨Zs,[],lr,Z,(hρ 0),(hρ 2),Z,Z,Z,(OwnS.nil _ _)⟩
 rintro ⟨x33,x34,x35,x36⟩ o32 ρ32 M32 H32 h ⟨vx33,cx33,hle32,rfl,hs32_0,hs32_2,hs32_7,hs32_8,hs32_9,hx33⟩
 unfold f_dump_many_api_Part_Read_5_Read_3_Read_1_l0 at h
 refine Cs ?_
 obtain ⟨x40,hj41,h⟩:=bnd h
 refine Jf (fun(x40:Bool) ρ' M' H'=>M32.le M'∧[(g0, .cells #[v0_0,(Iv x35),(GV x36)] 99 (0,0))]::[(g2k0qk0, .cells #[(pt g0 0)] 67 (0,0))]::[(g2k0, .cells #[(.func (.func 24) #[] #[(pt g2k0qk0 0)])] 74 (0,0))]::[(g2k1, .cells #[(.func (.func 20) #[] #[(pt g2k0qk0 0)])] 70 (0,0))]::cx33::F=H'∧ρ' 0=(pt g0 0)∧ρ' 2=(.func (.func 29) #[] #[(pt g2k0 0),(pt g2k1 0)])∧ρ' 7=vx33∧ρ' 8=(Iv r21)∧ρ' 9=(Iv x34)∧ρ' 20=(Bv x40)) x40 ?_ ?_
 have h:=hj41
 refine Cg (qM (Iv x34) hs32_9 (qM (Iv r21) hs32_8 (qu (Bv (decide (x34<r21))) (PO.lss Z Z) (qm (Bv (decide (x34<r21))) ?_))))
 rcases Bi h with⟨hb42,h⟩ |⟨hb42,h⟩
 refine On 16 Z Z hb42 (qM (pt g0 0) hs32_0 (On 16 Z Z hb42 ?_))
 obtain ⟨r43,hr44,h⟩:=bnd h
 have h0_0:=h0_0.mono (hle26.trans hle32)
 refine We (Cb co57 (f_wire_Reader_Err_ok (⟨a0.b,x35,x36⟩:T_wire_Reader) _ _ _ h0_0 r43 hr44) (args1 Z)) Z ?_
 rintro _ M45 _ hle46 ⟨_,⟨rfl,rfl⟩,rfl⟩
 refine WL.a1 (qo 16 hb42 (Bv r43.isNil) (PO.errNil Tryz.underlying33 Z) (qu (Bv r43.isNil) (Pt Z hb42 Z) (Wz ?_)))
 obtain rfl:=oi h
 exact Tj ⟨hle46,Z,hs32_0,hs32_2,hs32_7,hs32_8,hs32_9,Z⟩
 iterate 3 refine Of 16 Z Z hb42 Z ?_
 refine qu (Bv false) (Pf Z hb42 Z) (Wz ?_)
 obtain rfl:=oi h
 exact Tj ⟨lr,Z,hs32_0,hs32_2,hs32_7,hs32_8,hs32_9,Z⟩
 rintro ρ41 M41 H41 ⟨hle41,rfl,hs41_0,hs41_2,hs41_7,hs41_8,hs41_9,hs41_20⟩
 refine Ch h hs41_20 (fun hb48 h=> ?_) (fun hb48 h=> ?_)
 refine Ck (Tc (Cs (Bk (Cg (qM vx33 hs41_7 (qM (.func (.func 29) #[] #[(pt g2k0 0),(pt g2k1 0)]) hs41_2 ?_))))))
 obtain ⟨⟨r49,r50,r51⟩,hr52,h⟩:=bnd h
 refine WL.f3 (WL.f3 (WL.f3 (WL.f3 ?_)))
 have h0_0:=h0_0.mono ((hle26.trans hle32).trans hle41)
 refine We (EO.callV4 (first:=#[]) (cap:=#[(pt g2k0 0),(pt g2k1 0)]) co29 Z (f_dump_Read_5_Read_3_Read_1_ok (⟨a0.b,x35,x36⟩:T_wire_Reader) _ _ _ _ _ _ h0_0 (r49,r50,r51) hr52) (argsV0 Z)) Z ?_
 rintro _ M53 _ hle54 ⟨_,⟨vq55_0,cq55_0,vq55_1,cq55_1,vq55_4,cq55_4,vq55_5,cq55_5,rfl,rfl,hq55_0,hq55_1,hq55_4,hq55_5⟩,rfl⟩
 refine WL.a8 (WL.f4 (WL.know (fun _ hs=>hq55_0.rs hs) (fun hf60=> ?_)))
 refine WL.freeze (fun hle59=> ?_)
 refine WL.f4 ?_
 have hq55_1:=hq55_1.mono hle59
 refine WL.know (fun _ hs=>hq55_1.rs hs) (fun hf65=> ?_)
 refine WL.freeze (fun hle64=> ?_)
 refine WL.f4 ?_
 have hq55_4:=hq55_4.mono (hle59.trans hle64)
 refine WL.know (fun _ hs=>hq55_4.rs hs) (fun hf70=> ?_)
 refine WL.freeze (fun hle69=> ?_)
 refine WL.f4 ?_
 have hq55_5:=hq55_5.mono ((hle59.trans hle64).trans hle69)
 refine WL.know (fun _ hs=>hq55_5.rs hs) (fun hf75=> ?_)
 refine WL.freeze (fun hle74=> ?_)
 refine We (EO.buildSliceL (cl:=(l54 r49 vq55_0 vq55_1 vq55_4 vq55_5)) Tryz.underlying50 iz54 Z (Pc (a54_ r49 vq55_0 vq55_1 vq55_4 vq55_5) Z Z Pz) Z) Z ?_
 rintro _ _ _ - ⟨rfl,g76,rfl,rfl⟩
 have hf60:=hf60.mono ((hle64.trans hle69).trans hle74)
 have hf65:=hf65.mono (hle69.trans hle74)
 have hf70:=hf70.mono hle74
 have h78:OwnS kd_api_Part ((((M53.add cq55_0).add cq55_1).add cq55_4).add cq55_5) (.slice (some ⟨g76,0,none⟩) 1 1) [r49] [(g76, .cells (l54 r49 vq55_0 vq55_1 vq55_4 vq55_5).toArray 54 (0,0))]:=OwnS.rows (css:=[(l54 r49 vq55_0 vq55_1 vq55_4 vq55_5)]) (Rows.cons (kd_api_Part_mk (x:=r49) hf60 hf65 hf70 hf75) Rows.nil) Z Z
 obtain ⟨hg82,h⟩:=grd_i h
 refine WL.f5 ?_
 have hx33:=hx33.mono (((((hle41.trans hle54).trans hle59).trans hle64).trans hle69).trans hle74)
 refine We (EO.append (dd:=kd_api_Part) (xs:=x33) (ys:=[r49]) Tryz.underlying50 Tryz.underlying50 in54 Z (appB (by decide) hg82) (by decide) Z Z hx33 (h78.src 1 Z)) Z ?_
 rintro v81 _ _ - ⟨rfl,c79,rfl,h80⟩
 refine qa v81 (Wz (Bn (Tc (Cg (qM (Iv x34) hs41_9 (qu (Iv (IntKind.i64.wrap (x34+1))) (PO.add Z Z) (qa (Iv (IntKind.i64.wrap (x34+1))) (Wz (Qa (Dr (WQ.f4 ?_)))))))))))
 exact WQ.f4 (WQ.f4 (WQ.f4 (WQ.again (x33++[r49],IntKind.i64.wrap (x34+1),r50,r51) (oi h).symm ⟨v81,c79,((((((hle32.trans hle41).trans hle54).trans hle59).trans hle64).trans hle69).trans hle74),Z,hs41_0,hs41_2,Z,hs41_8,Z,h80⟩)))
 refine WC.exit (WQ.thenE (WQ.leaveE (x33,x35,x36) (oi h).symm (fun heq32=> ?_)))
 subst heq32
 have h:=hK32
 refine WQ.blockH ?_
 obtain rfl:=oi h
 refine Tj ?_
 have hx33:=hx33.mono hle41
 exact⟨vx33,cx33,(hle32.trans hle41),Z,hs41_7,hx33⟩
 obtain ⟨x28,x29,x30⟩:=j31
 rintro ρ31 M31 H31 ⟨vx28,cx28,hle31,rfl,hs31_7,hx28⟩
 exact Sr (qM vx28 hs31_7 (qa vx28 (Nt (Cr (Rf h [[(g0, .cells #[v0_0,(Iv x29),(GV x30)] 99 (0,0))],[(g2k0qk0, .cells #[(pt g0 0)] 67 (0,0))],[(g2k0, .cells #[(.func (.func 24) #[] #[(pt g2k0qk0 0)])] 74 (0,0))],[(g2k1, .cells #[(.func (.func 20) #[] #[(pt g2k0qk0 0)])] 70 (0,0))],cx28] Z (Rs Z Z) (hle26.trans hle31) ⟨vx28,cx28,Z,Z,hx28⟩)))))
noncomputable def f_dump_Read_6_Read_1_Read_2_Read_5_Read_3 (a0qk0q:T_wire_Reader):Option (T_api_Topic×Int×GErr):=
 ((f_dump_Read_1 a0qk0q).bind fun(r22,r23,r24)=>((f_dump_Read_2 (⟨a0qk0q.b,r23,r24⟩:T_wire_Reader)).bind fun(r29,r30,r31)=>((f_dump_many_api_Part_Read_5_Read_3_Read_1 (⟨a0qk0q.b,r30,r31⟩:T_wire_Reader) (256:Int)).bind fun(r36,r37,r38)=>(some ((⟨r22,r29,r36⟩:T_api_Topic),r37,r38)))))
def f_dump_Read_6_Read_1_Read_2_Read_5_Read_3_post (a0qk0q:T_wire_Reader) (v0qk0q_0:Value) (g0 g0qk0 g0qk0q g1 g3 g3qk0:Nat):(T_api_Topic×Int×GErr)→Value→IM→HL→Prop:=
 fun(p_:(T_api_Topic×Int×GErr)) (v:Value) (M':IM) (H':HL)=>match p_ with |(r0,r1,r2)=>∃ vz0_2 cz0_2,(.agg #[(.int .i64 r0.Id),(.string r0.Name),vz0_2])=v∧H'=[[(g0qk0q, .cells #[v0qk0q_0,(.int .i64 r1),(GV r2)] 99 (0,0))],[(g0qk0, .cells #[(.pointer (some ⟨g0qk0q,0,none⟩))] 67 (0,0))],[(g0, .cells #[(.func (.func 20) #[] #[(.pointer (some ⟨g0qk0,0,none⟩))])] 70 (0,0))],[(g1, .cells #[(.func (.func 22) #[] #[(.pointer (some ⟨g0qk0,0,none⟩))])] 72 (0,0))],[(g3qk0, .cells #[(.func (.func 24) #[] #[(.pointer (some ⟨g0qk0,0,none⟩))])] 74 (0,0))],[(g3, .cells #[(.func (.func 29) #[] #[(.pointer (some ⟨g3qk0,0,none⟩)),(.pointer (some ⟨g0,0,none⟩))])] 77 (0,0))],cz0_2]∧OwnS kd_api_Part M' vz0_2 r0.Parts cz0_2
theorem f_dump_Read_6_Read_1_Read_2_Read_5_Read_3_ok (a0qk0q:T_wire_Reader) (M:IM) (v0qk0q_0:Value) (g0 g0qk0 g0qk0q g1 g3 g3qk0:Nat) (h0qk0q_0:RS (Kd.int .u8) M v0qk0q_0 a0qk0q.b) (res:(T_api_Topic×Int×GErr)) (h:f_dump_Read_6_Read_1_Read_2_Read_5_Read_3 a0qk0q=some res):
 Tri Tryz.prog 31 #[(pt g0 0),(pt g1 0),(pt g0qk0 0),(pt g3 0)] M [[(g0qk0q, .cells (l99 a0qk0q v0qk0q_0).toArray 99 (0,0))],[(g0qk0, .cells #[(pt g0qk0q 0)] 67 (0,0))],[(g0, .cells #[(.func (.func 20) #[] #[(pt g0qk0 0)])] 70 (0,0))],[(g1, .cells #[(.func (.func 22) #[] #[(pt g0qk0 0)])] 72 (0,0))],[(g3qk0, .cells #[(.func (.func 24) #[] #[(pt g0qk0 0)])] 74 (0,0))],[(g3, .cells #[(.func (.func 29) #[] #[(pt g3qk0 0),(pt g0 0)])] 77 (0,0))]] (f_dump_Read_6_Read_1_Read_2_Read_5_Read_3_post a0qk0q v0qk0q_0 g0 g0qk0 g0qk0q g1 g3 g3qk0 res):=by
 unfold f_dump_Read_6_Read_1_Read_2_Read_5_Read_3 at h
 refine Te Tryz.func31 Z Z ?_
 intro F ρ hρ
 refine Sr (We (Al ze52 Z) Z ?_)
 rintro _ _ _ - ⟨rfl,g21,rfl,rfl⟩
 refine Nt (Cs (WC.draw [0,1,0,7,0,0,63,127,255] (.pure 0 (.pure 2 (.pure 4 (.pure 5 (.alt 1 (.alt 3 (.alt 6 (.pure 7 (.alt 8 .done .none)) .none) .none) .none))))) mixed (by kernel_rfl) (qt (.func (.func 20) #[] #[(pt g0qk0 0)]) Z (Lb 3 pl70 (hρ 0) Z Z) (qt (.func (.func 22) #[] #[(pt g0qk0 0)]) Z (Lb 4 pl72 (hρ 1) Z Z) (qt (pt g0qk0q 0) Z (Lb 2 pl67 (hρ 2) Z Z) (qt (.func (.func 29) #[] #[(pt g3qk0 0),(pt g0 0)]) Z (Lb 6 pl77 (hρ 3) Z Z) ?_))))))
 obtain ⟨⟨r22,r23,r24⟩,hr25,h⟩:=bnd h
 refine WT.f2 (WT.f2 (Ta Z (EO.callV2 (first:=#[]) (cap:=#[(pt g0qk0 0)]) co20 Z (f_dump_Read_1_ok a0qk0q _ _ _ _ h0qk0q_0 (r22,r23,r24) hr25) (argsV0 Z)) Z ?_ ?_))
 rintro _ M26 _ hle27 ⟨_,⟨rfl,rfl⟩,rfl⟩
 refine⟨(Ss Z (Lb 6 pl77 (hρ 3) Z Z) Z (Ss Z (Lb 1 pl67 (hρ 2) Z Z) Z (Ss Z (Lb 4 pl72 (hρ 1) Z Z) Z (Sl Z)))), ?_⟩
 refine WT.a2 ?_
 obtain ⟨⟨r29,r30,r31⟩,hr32,h⟩:=bnd h
 refine WT.f1 (WT.f1 ?_)
 have h0qk0q_0:=h0qk0q_0.mono hle27
 refine Ta Z (EO.callV2 (first:=#[]) (cap:=#[(pt g0qk0 0)]) co22 Z (f_dump_Read_2_ok (⟨a0qk0q.b,r23,r24⟩:T_wire_Reader) _ _ _ _ h0qk0q_0 (r29,r30,r31) hr32) (argsV0 Z)) Z ?_ ?_
 rintro _ M33 _ hle34 ⟨_,⟨rfl,rfl⟩,rfl⟩
 refine⟨(Ss Z (Lb 6 pl77 (hρ 3) Z Z) Z (Ss Z (Lb 1 pl67 (hρ 2) Z Z) Z (Sl Z))), ?_⟩
 refine WT.a2 ?_
 obtain ⟨⟨r36,r37,r38⟩,hr39,h⟩:=bnd h
 refine WT.f3 (WT.f5 (WT.f3 (WT.f3 ?_)))
 have h0qk0q_0:=h0qk0q_0.mono hle34
 refine Ta Z (EO.call4 co32 (f_dump_many_api_Part_Read_5_Read_3_Read_1_ok (⟨a0qk0q.b,r30,r31⟩:T_wire_Reader) (256:Int) _ _ _ _ _ _ h0qk0q_0 (r36,r37,r38) hr39) (args3 Z Z Z)) Z ?_ ?_
 rintro _ M40 _ hle41 ⟨_,⟨vq42,cq42,rfl,rfl,hq42⟩,rfl⟩
 refine⟨(Sl Z), ?_⟩
 refine WT.a5 (qt (.agg #[(Iv r22),(Sv r29),vq42]) Z (Bl (cl:=[(Iv r22),(Sv r29),vq42]) ze52 fp52 (Pc (Iv r22) Z Z (Pc (Sv r29) Z Z (Parts.cons ((congrArg Value.cells (show ev _ _=vq42 from Z)).trans hq42.cells) Pz))) Z) (WT.f5 (Ta Z (Sg (v:=(.agg #[(Iv r22),(Sv r29),vq42])) (vl:=[(Iv r22),(Sv r29),vq42]) (arr':=[(Iv r22),(Sv r29),vq42]) Z sz52 Z Z (onesOf (Oc Z (Oc Z (Oc (Ow hq42) Oz)))) Z Z Z) Z ?_ ?_)))
 rintro _ _ _ - ⟨rfl,rfl⟩
 refine⟨(Sl Z), ?_⟩
 exact Ti (Tc (Cr (WQ.f5 (WQ.f7 (WQ.f5 (WQ.f7 (WQ.f7 (WQ.f7 (WQ.f7 (WQ.f7 (Rd h [[(g0qk0q, .cells #[v0qk0q_0,(Iv r37),(GV r38)] 99 (0,0))],[(g0qk0, .cells #[(pt g0qk0q 0)] 67 (0,0))],[(g0, .cells #[(.func (.func 20) #[] #[(pt g0qk0 0)])] 70 (0,0))],[(g1, .cells #[(.func (.func 22) #[] #[(pt g0qk0 0)])] 72 (0,0))],[(g3qk0, .cells #[(.func (.func 24) #[] #[(pt g0qk0 0)])] 74 (0,0))],[(g3, .cells #[(.func (.func 29) #[] #[(pt g3qk0 0),(pt g0 0)])] 77 (0,0))],cq42] (fun _ hs=>hs.drop) (resultsL1 Z (Rc (cs:=[(Iv r22),(Sv r29),vq42]) 0 ag52 sz52 Z Z Z)) ((hle27.trans hle34).trans hle41) ⟨vq42,cq42,Z,Z,hq42⟩)))))))))))
 exact Tz
 exact Tz
 exact Tz
 exact Tz
noncomputable def f_dump_many_api_Topic_Read_6_Read_1_Read_2_Read_5_Read_3_l0 (a0:T_wire_Reader) (r21:Int) (s_:((List T_api_Topic)×Int×Int×GErr)):Option (((List T_api_Topic)×Int×Int×GErr)⊕((List T_api_Topic)×Int×GErr)):=
 match s_ with
 |(x33,x34,x35,x36)=>
 (((if(decide (x34<r21))=true then((f_wire_Reader_Err (⟨a0.b,x35,x36⟩:T_wire_Reader)).bind fun r43=>(some r43.isNil))else(some false)):Option Bool).bind fun x40=>(if x40=true then((f_dump_Read_6_Read_1_Read_2_Read_5_Read_3 (⟨a0.b,x35,x36⟩:T_wire_Reader)).bind fun(r49,r50,r51)=>(grd (x33.length+[r49].length≤274877906944) (some (Sum.inl (x33++[r49],IntKind.i64.wrap (x34+(1:Int)),r50,r51)))))else(some (Sum.inr (x33,x35,x36)))))
noncomputable def f_dump_many_api_Topic_Read_6_Read_1_Read_2_Read_5_Read_3 (a0:T_wire_Reader) (a1:Int):Option ((List T_api_Topic)×Int×GErr):=
 ((f_wire_Reader_Int a0 a1).bind fun(r21,r22,r23)=>((((iter (f_dump_many_api_Topic_Read_6_Read_1_Read_2_Read_5_Read_3_l0 a0 r21) ([],(0:Int),r22,r23)).bind (fun(x37,x38,x39)=>(some (x37,x38,x39)))):Option ((List T_api_Topic)×Int×GErr)).bind fun(x28,x29,x30)=>(some (x28,x29,x30))))
def f_dump_many_api_Topic_Read_6_Read_1_Read_2_Read_5_Read_3_post (a0:T_wire_Reader) (a1:Int) (v0_0:Value) (g0 g2k0 g2k0qk0 g2k1 g2k3 g2k3qk0:Nat):((List T_api_Topic)×Int×GErr)→Value→IM→HL→Prop:=
 fun(p_:((List T_api_Topic)×Int×GErr)) (v:Value) (M':IM) (H':HL)=>match p_ with |(r0,r1,r2)=>∃ vz0 cz0,vz0=v∧H'=[[(g0, .cells #[v0_0,(.int .i64 r1),(GV r2)] 99 (0,0))],[(g2k0qk0, .cells #[(.pointer (some ⟨g0,0,none⟩))] 67 (0,0))],[(g2k0, .cells #[(.func (.func 20) #[] #[(.pointer (some ⟨g2k0qk0,0,none⟩))])] 70 (0,0))],[(g2k1, .cells #[(.func (.func 22) #[] #[(.pointer (some ⟨g2k0qk0,0,none⟩))])] 72 (0,0))],[(g2k3qk0, .cells #[(.func (.func 24) #[] #[(.pointer (some ⟨g2k0qk0,0,none⟩))])] 74 (0,0))],[(g2k3, .cells #[(.func (.func 29) #[] #[(.pointer (some ⟨g2k3qk0,0,none⟩)),(.pointer (some ⟨g2k0,0,none⟩))])] 77 (0,0))],cz0]∧OwnS kd_api_Topic M' vz0 r0 cz0
theorem f_dump_many_api_Topic_Read_6_Read_1_Read_2_Read_5_Read_3_ok (a0:T_wire_Reader) (a1:Int) (M:IM) (v0_0:Value) (g0 g2k0 g2k0qk0 g2k1 g2k3 g2k3qk0:Nat) (h0_0:RS (Kd.int .u8) M v0_0 a0.b) (res:((List T_api_Topic)×Int×GErr)) (h:f_dump_many_api_Topic_Read_6_Read_1_Read_2_Read_5_Read_3 a0 a1=some res):
 Tri Tryz.prog 30 #[(pt g0 0),(Iv a1),(.func (.func 31) #[] #[(pt g2k0 0),(pt g2k1 0),(pt g2k0qk0 0),(pt g2k3 0)])] M [[(g0, .cells #[v0_0,(Iv a0.at_),(GV a0.err)] 99 (0,0))],[(g2k0qk0, .cells #[(pt g0 0)] 67 (0,0))],[(g2k0, .cells #[(.func (.func 20) #[] #[(pt g2k0qk0 0)])] 70 (0,0))],[(g2k1, .cells #[(.func (.func 22) #[] #[(pt g2k0qk0 0)])] 72 (0,0))],[(g2k3qk0, .cells #[(.func (.func 24) #[] #[(pt g2k0qk0 0)])] 74 (0,0))],[(g2k3, .cells #[(.func (.func 29) #[] #[(pt g2k3qk0 0),(pt g2k0 0)])] 77 (0,0))]] (f_dump_many_api_Topic_Read_6_Read_1_Read_2_Read_5_Read_3_post a0 a1 v0_0 g0 g2k0 g2k0qk0 g2k1 g2k3 g2k3qk0 res):=by
 unfold f_dump_many_api_Topic_Read_6_Read_1_Read_2_Read_5_Read_3 at h
 refine Te Tryz.func30 Z Z ?_
 intro F ρ hρ
 refine Sr (qa Zs (Ns (qa Zs (Ns (qM (pt g0 0) (hρ 0) (qM (Iv a1) (hρ 1) ?_))))))
 obtain ⟨⟨r21,r22,r23⟩,hr24,h⟩:=bnd h
 refine We (Cb co21 (f_wire_Reader_Int_ok a0 a1 _ _ _ h0_0 (r21,r22,r23) hr24) (args2 Z Z)) Z ?_
 rintro _ M25 _ hle26 ⟨_,⟨rfl,rfl⟩,rfl⟩
 refine WL.a1 (qa (Iv r21) (Nt ?_))
 obtain ⟨j31,hj31,h⟩:=bnd h
 refine Jf (fun(p_:((List T_api_Topic)×Int×GErr)) ρ' M' H'=>match p_ with |(x28,x29,x30)=>∃ vx28 cx28,M25.le M'∧[(g0, .cells #[v0_0,(Iv x29),(GV x30)] 99 (0,0))]::[(g2k0qk0, .cells #[(pt g0 0)] 67 (0,0))]::[(g2k0, .cells #[(.func (.func 20) #[] #[(pt g2k0qk0 0)])] 70 (0,0))]::[(g2k1, .cells #[(.func (.func 22) #[] #[(pt g2k0qk0 0)])] 72 (0,0))]::[(g2k3qk0, .cells #[(.func (.func 24) #[] #[(pt g2k0qk0 0)])] 74 (0,0))]::[(g2k3, .cells #[(.func (.func 29) #[] #[(pt g2k3qk0 0),(pt g2k0 0)])] 77 (0,0))]::cx28::F=H'∧ρ' 7=vx28∧OwnS kd_api_Topic M' vx28 x28 cx28) j31 ?_ ?_
 have h:=hj31
 refine Sr (qa (Iv 0) (Nt (Bk (WC.e0 (WC.f6 (WC.f6 (WC.f6 (WC.f6 (WC.f6 (WC.f6 ?_))))))))))
 obtain ⟨e32,he32,hK32⟩:=bnd h
 clear h
 refine WC.loop he32 (fun(p_:((List T_api_Topic)×Int×Int×GErr)) ρ' M' H'=>match p_ with |(x33,x34,x35,x36)=>∃ vx33 cx33,M25.le M'∧[(g0, .cells #[v0_0,(Iv x35),(GV x36)] 99 (0,0))]::[(g2k0qk0, .cells #[(pt g0 0)] 67 (0,0))]::[(g2k0, .cells #[(.func (.func 20) #[] #[(pt g2k0qk0 0)])] 70 (0,0))]::[(g2k1, .cells #[(.func (.func 22) #[] #[(pt g2k0qk0 0)])] 72 (0,0))]::[(g2k3qk0, .cells #[(.func (.func 24) #[] #[(pt g2k0qk0 0)])] 74 (0,0))]::[(g2k3, .cells #[(.func (.func 29) #[] #[(pt g2k3qk0 0),(pt g2k0 0)])] 77 (0,0))]::cx33::F=H'∧ρ' 0=(pt g0 0)∧ρ' 2=(.func (.func 31) #[] #[(pt g2k0 0),(pt g2k1 0),(pt g2k0qk0 0),(pt g2k3 0)])∧ρ' 7=vx33∧ρ' 8=(Iv r21)∧ρ' 9=(Iv x34)∧OwnS kd_api_Topic M' vx33 x33 cx33) ?_ ?_
 exact⟨Zs,[],lr,Z,(hρ 0),(hρ 2),Z,Z,Z,(OwnS.nil _ _)⟩
 rintro ⟨x33,x34,x35,x36⟩ o32 ρ32 M32 H32 h ⟨vx33,cx33,hle32,rfl,hs32_0,hs32_2,hs32_7,hs32_8,hs32_9,hx33⟩
 unfold f_dump_many_api_Topic_Read_6_Read_1_Read_2_Read_5_Read_3_l0 at h
 refine Cs ?_
 obtain ⟨x40,hj41,h⟩:=bnd h
 refine Jf (fun(x40:Bool) ρ' M' H'=>M32.le M'∧[(g0, .cells #[v0_0,(Iv x35),(GV x36)] 99 (0,0))]::[(g2k0qk0, .cells #[(pt g0 0)] 67 (0,0))]::[(g2k0, .cells #[(.func (.func 20) #[] #[(pt g2k0qk0 0)])] 70 (0,0))]::[(g2k1, .cells #[(.func (.func 22) #[] #[(pt g2k0qk0 0)])] 72 (0,0))]::[(g2k3qk0, .cells #[(.func (.func 24) #[] #[(pt g2k0qk0 0)])] 74 (0,0))]::[(g2k3, .cells #[(.func (.func 29) #[] #[(pt g2k3qk0 0),(pt g2k0 0)])] 77 (0,0))]::cx33::F=H'∧ρ' 0=(pt g0 0)∧ρ' 2=(.func (.func 31) #[] #[(pt g2k0 0),(pt g2k1 0),(pt g2k0qk0 0),(pt g2k3 0)])∧ρ' 7=vx33∧ρ' 8=(Iv r21)∧ρ' 9=(Iv x34)∧ρ' 20=(Bv x40)) x40 ?_ ?_
 have h:=hj41
 refine Cg (qM (Iv x34) hs32_9 (qM (Iv r21) hs32_8 (qu (Bv (decide (x34<r21))) (PO.lss Z Z) (qm (Bv (decide (x34<r21))) ?_))))
 rcases Bi h with⟨hb42,h⟩ |⟨hb42,h⟩
 refine On 16 Z Z hb42 (qM (pt g0 0) hs32_0 (On 16 Z Z hb42 ?_))
 obtain ⟨r43,hr44,h⟩:=bnd h
 have h0_0:=h0_0.mono (hle26.trans hle32)
 refine We (Cb co57 (f_wire_Reader_Err_ok (⟨a0.b,x35,x36⟩:T_wire_Reader) _ _ _ h0_0 r43 hr44) (args1 Z)) Z ?_
 rintro _ M45 _ hle46 ⟨_,⟨rfl,rfl⟩,rfl⟩
 refine WL.a1 (qo 16 hb42 (Bv r43.isNil) (PO.errNil Tryz.underlying33 Z) (qu (Bv r43.isNil) (Pt Z hb42 Z) (Wz ?_)))
 obtain rfl:=oi h
 exact Tj ⟨hle46,Z,hs32_0,hs32_2,hs32_7,hs32_8,hs32_9,Z⟩
 iterate 3 refine Of 16 Z Z hb42 Z ?_
 refine qu (Bv false) (Pf Z hb42 Z) (Wz ?_)
 obtain rfl:=oi h
 exact Tj ⟨lr,Z,hs32_0,hs32_2,hs32_7,hs32_8,hs32_9,Z⟩
 rintro ρ41 M41 H41 ⟨hle41,rfl,hs41_0,hs41_2,hs41_7,hs41_8,hs41_9,hs41_20⟩
 refine Ch h hs41_20 (fun hb48 h=> ?_) (fun hb48 h=> ?_)
 refine Ck (Tc (Cs (Bk (Cg (qM vx33 hs41_7 (qM (.func (.func 31) #[] #[(pt g2k0 0),(pt g2k1 0),(pt g2k0qk0 0),(pt g2k3 0)]) hs41_2 ?_))))))
 obtain ⟨⟨r49,r50,r51⟩,hr52,h⟩:=bnd h
 refine WL.f5 (WL.f5 (WL.f5 (WL.f5 (WL.f5 (WL.f5 ?_)))))
 have h0_0:=h0_0.mono ((hle26.trans hle32).trans hle41)
 refine We (EO.callV6 (first:=#[]) (cap:=#[(pt g2k0 0),(pt g2k1 0),(pt g2k0qk0 0),(pt g2k3 0)]) co31 Z (f_dump_Read_6_Read_1_Read_2_Read_5_Read_3_ok (⟨a0.b,x35,x36⟩:T_wire_Reader) _ _ _ _ _ _ _ _ h0_0 (r49,r50,r51) hr52) (argsV0 Z)) Z ?_
 rintro _ M53 _ hle54 ⟨_,⟨vq55_2,cq55_2,rfl,rfl,hq55_2⟩,rfl⟩
 refine WL.a7 (WL.f6 (WL.know (fun _ hs=>hq55_2.rs hs) (fun hf60=> ?_)))
 refine WL.freeze (fun hle59=> ?_)
 refine We (EO.buildSliceL (cl:=(l52 r49 vq55_2)) Tryz.underlying25 iz52 Z (Pc (a52_ r49 vq55_2) Z Z Pz) Z) Z ?_
 rintro _ _ _ - ⟨rfl,g61,rfl,rfl⟩
 have h63:OwnS kd_api_Topic (M53.add cq55_2) (.slice (some ⟨g61,0,none⟩) 1 1) [r49] [(g61, .cells (l52 r49 vq55_2).toArray 52 (0,0))]:=OwnS.rows (css:=[(l52 r49 vq55_2)]) (Rows.cons (kd_api_Topic_mk (x:=r49) hf60) Rows.nil) Z Z
 obtain ⟨hg67,h⟩:=grd_i h
 refine WL.f7 ?_
 have hx33:=hx33.mono ((hle41.trans hle54).trans hle59)
 refine We (EO.append (dd:=kd_api_Topic) (xs:=x33) (ys:=[r49]) Tryz.underlying25 Tryz.underlying25 in52 Z (appB (by decide) hg67) (by decide) Z Z hx33 (h63.src 1 Z)) Z ?_
 rintro v66 _ _ - ⟨rfl,c64,rfl,h65⟩
 refine qa v66 (Wz (Bn (Tc (Cg (qM (Iv x34) hs41_9 (qu (Iv (IntKind.i64.wrap (x34+1))) (PO.add Z Z) (qa (Iv (IntKind.i64.wrap (x34+1))) (Wz (Qa (Dr (WQ.f6 ?_)))))))))))
 exact WQ.f6 (WQ.f6 (WQ.f6 (WQ.f6 (WQ.f6 (WQ.again (x33++[r49],IntKind.i64.wrap (x34+1),r50,r51) (oi h).symm ⟨v66,c64,(((hle32.trans hle41).trans hle54).trans hle59),Z,hs41_0,hs41_2,Z,hs41_8,Z,h65⟩)))))
 refine WC.exit (WQ.thenE (WQ.leaveE (x33,x35,x36) (oi h).symm (fun heq32=> ?_)))
 subst heq32
 have h:=hK32
 refine WQ.blockH ?_
 obtain rfl:=oi h
 refine Tj ?_
 have hx33:=hx33.mono hle41
 exact⟨vx33,cx33,(hle32.trans hle41),Z,hs41_7,hx33⟩
 obtain ⟨x28,x29,x30⟩:=j31
 rintro ρ31 M31 H31 ⟨vx28,cx28,hle31,rfl,hs31_7,hx28⟩
 exact Sr (qM vx28 hs31_7 (qa vx28 (Nt (Cr (Rf h [[(g0, .cells #[v0_0,(Iv x29),(GV x30)] 99 (0,0))],[(g2k0qk0, .cells #[(pt g0 0)] 67 (0,0))],[(g2k0, .cells #[(.func (.func 20) #[] #[(pt g2k0qk0 0)])] 70 (0,0))],[(g2k1, .cells #[(.func (.func 22) #[] #[(pt g2k0qk0 0)])] 72 (0,0))],[(g2k3qk0, .cells #[(.func (.func 24) #[] #[(pt g2k0qk0 0)])] 74 (0,0))],[(g2k3, .cells #[(.func (.func 29) #[] #[(pt g2k3qk0 0),(pt g2k0 0)])] 77 (0,0))],cx28] Z (Rs Z Z) (hle26.trans hle31) ⟨vx28,cx28,Z,Z,hx28⟩)))))
noncomputable def f_dump_Read_7_Read_1_Read_2 (a0qk0q:T_wire_Reader):Option (T_api_Config×Int×GErr):=
 ((f_dump_Read_1 a0qk0q).bind fun(r22,r23,r24)=>((f_dump_Read_2 (⟨a0qk0q.b,r23,r24⟩:T_wire_Reader)).bind fun(r29,r30,r31)=>((f_wire_Reader_Text (⟨a0qk0q.b,r30,r31⟩:T_wire_Reader) (256:Int)).bind fun(r36,r37,r38)=>(some ((⟨r22,r29,strOfNums r36⟩:T_api_Config),r37,r38)))))
def f_dump_Read_7_Read_1_Read_2_post (a0qk0q:T_wire_Reader) (v0qk0q_0:Value) (g0 g0qk0 g0qk0q g1:Nat):(T_api_Config×Int×GErr)→Value→IM→HL→Prop:=
 fun(p_:(T_api_Config×Int×GErr)) (v:Value) (M':IM) (H':HL)=>match p_ with |(r0,r1,r2)=>(.agg #[(.int .i64 r0.Topic),(.string r0.Key),(.string r0.Value)])=v∧H'=[[(g0qk0q, .cells #[v0qk0q_0,(.int .i64 r1),(GV r2)] 99 (0,0))],[(g0qk0, .cells #[(.pointer (some ⟨g0qk0q,0,none⟩))] 67 (0,0))],[(g0, .cells #[(.func (.func 20) #[] #[(.pointer (some ⟨g0qk0,0,none⟩))])] 70 (0,0))],[(g1, .cells #[(.func (.func 22) #[] #[(.pointer (some ⟨g0qk0,0,none⟩))])] 72 (0,0))]]
theorem f_dump_Read_7_Read_1_Read_2_ok (a0qk0q:T_wire_Reader) (M:IM) (v0qk0q_0:Value) (g0 g0qk0 g0qk0q g1:Nat) (h0qk0q_0:RS (Kd.int .u8) M v0qk0q_0 a0qk0q.b) (res:(T_api_Config×Int×GErr)) (h:f_dump_Read_7_Read_1_Read_2 a0qk0q=some res):
 Tri Tryz.prog 34 #[(pt g0 0),(pt g1 0),(pt g0qk0 0)] M [[(g0qk0q, .cells (l99 a0qk0q v0qk0q_0).toArray 99 (0,0))],[(g0qk0, .cells #[(pt g0qk0q 0)] 67 (0,0))],[(g0, .cells #[(.func (.func 20) #[] #[(pt g0qk0 0)])] 70 (0,0))],[(g1, .cells #[(.func (.func 22) #[] #[(pt g0qk0 0)])] 72 (0,0))]] (f_dump_Read_7_Read_1_Read_2_post a0qk0q v0qk0q_0 g0 g0qk0 g0qk0q g1 res):=by
 unfold f_dump_Read_7_Read_1_Read_2 at h
 refine Te Tryz.func34 Z Z ?_
 intro F ρ hρ
 refine Sr (We (Al ze64 Z) Z ?_)
 rintro _ _ _ - ⟨rfl,g21,rfl,rfl⟩
 refine Nt (Cs (WC.draw [0,1,0,7,0,31,63,127,255] (.pure 0 (.pure 2 (.pure 4 (.alt 1 (.alt 3 (.alt 5 (.pure 6 (.pure 7 (.alt 8 .done .none))) .none) .none) .none)))) mixed (by kernel_rfl) (qt (.func (.func 20) #[] #[(pt g0qk0 0)]) Z (Lb 3 pl70 (hρ 0) Z Z) (qt (.func (.func 22) #[] #[(pt g0qk0 0)]) Z (Lb 4 pl72 (hρ 1) Z Z) (qt (pt g0qk0q 0) Z (Lb 2 pl67 (hρ 2) Z Z) ?_)))))
 obtain ⟨⟨r22,r23,r24⟩,hr25,h⟩:=bnd h
 refine WT.f2 (WT.f2 (Ta Z (EO.callV2 (first:=#[]) (cap:=#[(pt g0qk0 0)]) co20 Z (f_dump_Read_1_ok a0qk0q _ _ _ _ h0qk0q_0 (r22,r23,r24) hr25) (argsV0 Z)) Z ?_ ?_))
 rintro _ M26 _ hle27 ⟨_,⟨rfl,rfl⟩,rfl⟩
 refine⟨(Ss Z (Lb 1 pl67 (hρ 2) Z Z) Z (Ss Z (Lb 4 pl72 (hρ 1) Z Z) Z (Sl Z))), ?_⟩
 refine WT.a2 ?_
 obtain ⟨⟨r29,r30,r31⟩,hr32,h⟩:=bnd h
 refine WT.f1 (WT.f1 ?_)
 have h0qk0q_0:=h0qk0q_0.mono hle27
 refine Ta Z (EO.callV2 (first:=#[]) (cap:=#[(pt g0qk0 0)]) co22 Z (f_dump_Read_2_ok (⟨a0qk0q.b,r23,r24⟩:T_wire_Reader) _ _ _ _ h0qk0q_0 (r29,r30,r31) hr32) (argsV0 Z)) Z ?_ ?_
 rintro _ M33 _ hle34 ⟨_,⟨rfl,rfl⟩,rfl⟩
 refine⟨(Ss Z (Lb 1 pl67 (hρ 2) Z Z) Z (Sl Z)), ?_⟩
 refine WT.a2 ?_
 obtain ⟨⟨r36,r37,r38⟩,hr39,h⟩:=bnd h
 have h0qk0q_0:=h0qk0q_0.mono hle34
 refine Ta Z (Cb co23 (f_wire_Reader_Text_ok (⟨a0qk0q.b,r30,r31⟩:T_wire_Reader) (256:Int) _ _ _ h0qk0q_0 (r36,r37,r38) hr39) (args2 Z Z)) Z ?_ ?_
 rintro _ M40 _ hle41 ⟨_,⟨vq42,cq42,rfl,rfl,hq42⟩,rfl⟩
 refine⟨(Sl Z), ?_⟩
 refine WT.a2 (qt (Sv (strOfNums r36)) Z (PO.b2s (ys:=r36) Tryz.underlying31 Tryz.underlying5 Tryz.underlying9 Z (hq42.src 1 Z)) (qt (.agg #[(Iv r22),(Sv r29),(Sv (strOfNums r36))]) Z (Bl (cl:=[(Iv r22),(Sv r29),(Sv (strOfNums r36))]) ze64 fp64 (Pc (Iv r22) Z Z (Pc (Sv r29) Z Z (Pc (Sv (strOfNums r36)) Z Z Pz))) Z) (WT.f3 (Ta Z (Sg (v:=(.agg #[(Iv r22),(Sv r29),(Sv (strOfNums r36))])) (vl:=[(Iv r22),(Sv r29),(Sv (strOfNums r36))]) (arr':=[(Iv r22),(Sv r29),(Sv (strOfNums r36))]) Z sz64 Z Z (onb Z) Z Z Z) Z ?_ ?_))))
 rintro _ _ _ - ⟨rfl,rfl⟩
 refine⟨(Sl Z), ?_⟩
 exact Ti (Tc (Cr (Qb (Dr (Rd h [[(g0qk0q, .cells #[v0qk0q_0,(Iv r37),(GV r38)] 99 (0,0))],[(g0qk0, .cells #[(pt g0qk0q 0)] 67 (0,0))],[(g0, .cells #[(.func (.func 20) #[] #[(pt g0qk0 0)])] 70 (0,0))],[(g1, .cells #[(.func (.func 22) #[] #[(pt g0qk0 0)])] 72 (0,0))]] (fun _ hs=>hs.drop) (resultsL1 Z (Rc (cs:=[(Iv r22),(Sv r29),(Sv (strOfNums r36))]) 0 ag64 sz64 Z Z Z)) ((hle27.trans hle34).trans hle41) ⟨Z,Z⟩)))))
 exact Tz
 exact Tz
 exact Tz
 exact Tz
noncomputable def f_dump_many_api_Config_Read_7_Read_1_Read_2_l0 (a0:T_wire_Reader) (r21:Int) (s_:((List T_api_Config)×Int×Int×GErr)):Option (((List T_api_Config)×Int×Int×GErr)⊕((List T_api_Config)×Int×GErr)):=
 match s_ with
 |(x33,x34,x35,x36)=>
 (((if(decide (x34<r21))=true then((f_wire_Reader_Err (⟨a0.b,x35,x36⟩:T_wire_Reader)).bind fun r43=>(some r43.isNil))else(some false)):Option Bool).bind fun x40=>(if x40=true then((f_dump_Read_7_Read_1_Read_2 (⟨a0.b,x35,x36⟩:T_wire_Reader)).bind fun(r49,r50,r51)=>(grd (x33.length+[r49].length≤274877906944) (some (Sum.inl (x33++[r49],IntKind.i64.wrap (x34+(1:Int)),r50,r51)))))else(some (Sum.inr (x33,x35,x36)))))
noncomputable def f_dump_many_api_Config_Read_7_Read_1_Read_2 (a0:T_wire_Reader) (a1:Int):Option ((List T_api_Config)×Int×GErr):=
 ((f_wire_Reader_Int a0 a1).bind fun(r21,r22,r23)=>((((iter (f_dump_many_api_Config_Read_7_Read_1_Read_2_l0 a0 r21) ([],(0:Int),r22,r23)).bind (fun(x37,x38,x39)=>(some (x37,x38,x39)))):Option ((List T_api_Config)×Int×GErr)).bind fun(x28,x29,x30)=>(some (x28,x29,x30))))
def f_dump_many_api_Config_Read_7_Read_1_Read_2_post (a0:T_wire_Reader) (a1:Int) (v0_0:Value) (g0 g2k0 g2k0qk0 g2k1:Nat):((List T_api_Config)×Int×GErr)→Value→IM→HL→Prop:=
 fun(p_:((List T_api_Config)×Int×GErr)) (v:Value) (M':IM) (H':HL)=>match p_ with |(r0,r1,r2)=>∃ vz0 cz0,vz0=v∧H'=[[(g0, .cells #[v0_0,(.int .i64 r1),(GV r2)] 99 (0,0))],[(g2k0qk0, .cells #[(.pointer (some ⟨g0,0,none⟩))] 67 (0,0))],[(g2k0, .cells #[(.func (.func 20) #[] #[(.pointer (some ⟨g2k0qk0,0,none⟩))])] 70 (0,0))],[(g2k1, .cells #[(.func (.func 22) #[] #[(.pointer (some ⟨g2k0qk0,0,none⟩))])] 72 (0,0))],cz0]∧OwnS kd_api_Config M' vz0 r0 cz0
theorem f_dump_many_api_Config_Read_7_Read_1_Read_2_ok (a0:T_wire_Reader) (a1:Int) (M:IM) (v0_0:Value) (g0 g2k0 g2k0qk0 g2k1:Nat) (h0_0:RS (Kd.int .u8) M v0_0 a0.b) (res:((List T_api_Config)×Int×GErr)) (h:f_dump_many_api_Config_Read_7_Read_1_Read_2 a0 a1=some res):
 Tri Tryz.prog 33 #[(pt g0 0),(Iv a1),(.func (.func 34) #[] #[(pt g2k0 0),(pt g2k1 0),(pt g2k0qk0 0)])] M [[(g0, .cells #[v0_0,(Iv a0.at_),(GV a0.err)] 99 (0,0))],[(g2k0qk0, .cells #[(pt g0 0)] 67 (0,0))],[(g2k0, .cells #[(.func (.func 20) #[] #[(pt g2k0qk0 0)])] 70 (0,0))],[(g2k1, .cells #[(.func (.func 22) #[] #[(pt g2k0qk0 0)])] 72 (0,0))]] (f_dump_many_api_Config_Read_7_Read_1_Read_2_post a0 a1 v0_0 g0 g2k0 g2k0qk0 g2k1 res):=by
 unfold f_dump_many_api_Config_Read_7_Read_1_Read_2 at h
 refine Te Tryz.func33 Z Z ?_
 intro F ρ hρ
 refine Sr (qa Zs (Ns (qa Zs (Ns (qM (pt g0 0) (hρ 0) (qM (Iv a1) (hρ 1) ?_))))))
 obtain ⟨⟨r21,r22,r23⟩,hr24,h⟩:=bnd h
 refine We (Cb co21 (f_wire_Reader_Int_ok a0 a1 _ _ _ h0_0 (r21,r22,r23) hr24) (args2 Z Z)) Z ?_
 rintro _ M25 _ hle26 ⟨_,⟨rfl,rfl⟩,rfl⟩
 refine WL.a1 (qa (Iv r21) (Nt ?_))
 obtain ⟨j31,hj31,h⟩:=bnd h
 refine Jf (fun(p_:((List T_api_Config)×Int×GErr)) ρ' M' H'=>match p_ with |(x28,x29,x30)=>∃ vx28 cx28,M25.le M'∧[(g0, .cells #[v0_0,(Iv x29),(GV x30)] 99 (0,0))]::[(g2k0qk0, .cells #[(pt g0 0)] 67 (0,0))]::[(g2k0, .cells #[(.func (.func 20) #[] #[(pt g2k0qk0 0)])] 70 (0,0))]::[(g2k1, .cells #[(.func (.func 22) #[] #[(pt g2k0qk0 0)])] 72 (0,0))]::cx28::F=H'∧ρ' 7=vx28∧OwnS kd_api_Config M' vx28 x28 cx28) j31 ?_ ?_
 have h:=hj31
 refine Sr (qa (Iv 0) (Nt (Bk (WC.e0 (WC.f4 (WC.f4 (WC.f4 (WC.f4 ?_))))))))
 obtain ⟨e32,he32,hK32⟩:=bnd h
 clear h
 refine WC.loop he32 (fun(p_:((List T_api_Config)×Int×Int×GErr)) ρ' M' H'=>match p_ with |(x33,x34,x35,x36)=>∃ vx33 cx33,M25.le M'∧[(g0, .cells #[v0_0,(Iv x35),(GV x36)] 99 (0,0))]::[(g2k0qk0, .cells #[(pt g0 0)] 67 (0,0))]::[(g2k0, .cells #[(.func (.func 20) #[] #[(pt g2k0qk0 0)])] 70 (0,0))]::[(g2k1, .cells #[(.func (.func 22) #[] #[(pt g2k0qk0 0)])] 72 (0,0))]::cx33::F=H'∧ρ' 0=(pt g0 0)∧ρ' 2=(.func (.func 34) #[] #[(pt g2k0 0),(pt g2k1 0),(pt g2k0qk0 0)])∧ρ' 7=vx33∧ρ' 8=(Iv r21)∧ρ' 9=(Iv x34)∧OwnS kd_api_Config M' vx33 x33 cx33) ?_ ?_
 exact⟨Zs,[],lr,Z,(hρ 0),(hρ 2),Z,Z,Z,(OwnS.nil _ _)⟩
 rintro ⟨x33,x34,x35,x36⟩ o32 ρ32 M32 H32 h ⟨vx33,cx33,hle32,rfl,hs32_0,hs32_2,hs32_7,hs32_8,hs32_9,hx33⟩
 unfold f_dump_many_api_Config_Read_7_Read_1_Read_2_l0 at h
 refine Cs ?_
 obtain ⟨x40,hj41,h⟩:=bnd h
 refine Jf (fun(x40:Bool) ρ' M' H'=>M32.le M'∧[(g0, .cells #[v0_0,(Iv x35),(GV x36)] 99 (0,0))]::[(g2k0qk0, .cells #[(pt g0 0)] 67 (0,0))]::[(g2k0, .cells #[(.func (.func 20) #[] #[(pt g2k0qk0 0)])] 70 (0,0))]::[(g2k1, .cells #[(.func (.func 22) #[] #[(pt g2k0qk0 0)])] 72 (0,0))]::cx33::F=H'∧ρ' 0=(pt g0 0)∧ρ' 2=(.func (.func 34) #[] #[(pt g2k0 0),(pt g2k1 0),(pt g2k0qk0 0)])∧ρ' 7=vx33∧ρ' 8=(Iv r21)∧ρ' 9=(Iv x34)∧ρ' 20=(Bv x40)) x40 ?_ ?_
 have h:=hj41
 refine Cg (qM (Iv x34) hs32_9 (qM (Iv r21) hs32_8 (qu (Bv (decide (x34<r21))) (PO.lss Z Z) (qm (Bv (decide (x34<r21))) ?_))))
 rcases Bi h with⟨hb42,h⟩ |⟨hb42,h⟩
 refine On 16 Z Z hb42 (qM (pt g0 0) hs32_0 (On 16 Z Z hb42 ?_))
 obtain ⟨r43,hr44,h⟩:=bnd h
 have h0_0:=h0_0.mono (hle26.trans hle32)
 refine We (Cb co57 (f_wire_Reader_Err_ok (⟨a0.b,x35,x36⟩:T_wire_Reader) _ _ _ h0_0 r43 hr44) (args1 Z)) Z ?_
 rintro _ M45 _ hle46 ⟨_,⟨rfl,rfl⟩,rfl⟩
 refine WL.a1 (qo 16 hb42 (Bv r43.isNil) (PO.errNil Tryz.underlying33 Z) (qu (Bv r43.isNil) (Pt Z hb42 Z) (Wz ?_)))
 obtain rfl:=oi h
 exact Tj ⟨hle46,Z,hs32_0,hs32_2,hs32_7,hs32_8,hs32_9,Z⟩
 iterate 3 refine Of 16 Z Z hb42 Z ?_
 refine qu (Bv false) (Pf Z hb42 Z) (Wz ?_)
 obtain rfl:=oi h
 exact Tj ⟨lr,Z,hs32_0,hs32_2,hs32_7,hs32_8,hs32_9,Z⟩
 rintro ρ41 M41 H41 ⟨hle41,rfl,hs41_0,hs41_2,hs41_7,hs41_8,hs41_9,hs41_20⟩
 refine Ch h hs41_20 (fun hb48 h=> ?_) (fun hb48 h=> ?_)
 refine Ck (Tc (Cs (Bk (Cg (qM vx33 hs41_7 (qM (.func (.func 34) #[] #[(pt g2k0 0),(pt g2k1 0),(pt g2k0qk0 0)]) hs41_2 ?_))))))
 obtain ⟨⟨r49,r50,r51⟩,hr52,h⟩:=bnd h
 refine WL.f3 (WL.f3 (WL.f3 (WL.f3 ?_)))
 have h0_0:=h0_0.mono ((hle26.trans hle32).trans hle41)
 refine We (EO.callV4 (first:=#[]) (cap:=#[(pt g2k0 0),(pt g2k1 0),(pt g2k0qk0 0)]) co34 Z (f_dump_Read_7_Read_1_Read_2_ok (⟨a0.b,x35,x36⟩:T_wire_Reader) _ _ _ _ _ _ h0_0 (r49,r50,r51) hr52) (argsV0 Z)) Z ?_
 rintro _ M53 _ hle54 ⟨_,⟨rfl,rfl⟩,rfl⟩
 refine WL.a4 (We (EO.buildSliceL (cl:=(l64 r49)) Tryz.underlying26 iz64 Z (Pc (a64_ r49) Z Z Pz) Z) Z ?_)
 rintro _ _ _ - ⟨rfl,g56,rfl,rfl⟩
 have h58:OwnS kd_api_Config M53 (.slice (some ⟨g56,0,none⟩) 1 1) [r49] [(g56, .cells (l64 r49).toArray 64 (0,0))]:=OwnS.rows (css:=[(l64 r49)]) (Rows.cons (kd_api_Config_mk (x:=r49)) Rows.nil) Z Z
 obtain ⟨hg62,h⟩:=grd_i h
 refine WL.f5 ?_
 have hx33:=hx33.mono (hle41.trans hle54)
 refine We (EO.append (dd:=kd_api_Config) (xs:=x33) (ys:=[r49]) Tryz.underlying26 Tryz.underlying26 in64 Z (appB (by decide) hg62) (by decide) Z Z hx33 (h58.src 1 Z)) Z ?_
 rintro v61 _ _ - ⟨rfl,c59,rfl,h60⟩
 refine qa v61 (Wz (Bn (Tc (Cg (qM (Iv x34) hs41_9 (qu (Iv (IntKind.i64.wrap (x34+1))) (PO.add Z Z) (qa (Iv (IntKind.i64.wrap (x34+1))) (Wz (Qa (Dr (WQ.f4 ?_)))))))))))
 exact WQ.f4 (WQ.f4 (WQ.f4 (WQ.again (x33++[r49],IntKind.i64.wrap (x34+1),r50,r51) (oi h).symm ⟨v61,c59,((hle32.trans hle41).trans hle54),Z,hs41_0,hs41_2,Z,hs41_8,Z,h60⟩)))
 refine WC.exit (WQ.thenE (WQ.leaveE (x33,x35,x36) (oi h).symm (fun heq32=> ?_)))
 subst heq32
 have h:=hK32
 refine WQ.blockH ?_
 obtain rfl:=oi h
 refine Tj ?_
 have hx33:=hx33.mono hle41
 exact⟨vx33,cx33,(hle32.trans hle41),Z,hs41_7,hx33⟩
 obtain ⟨x28,x29,x30⟩:=j31
 rintro ρ31 M31 H31 ⟨vx28,cx28,hle31,rfl,hs31_7,hx28⟩
 exact Sr (qM vx28 hs31_7 (qa vx28 (Nt (Cr (Rf h [[(g0, .cells #[v0_0,(Iv x29),(GV x30)] 99 (0,0))],[(g2k0qk0, .cells #[(pt g0 0)] 67 (0,0))],[(g2k0, .cells #[(.func (.func 20) #[] #[(pt g2k0qk0 0)])] 70 (0,0))],[(g2k1, .cells #[(.func (.func 22) #[] #[(pt g2k0qk0 0)])] 72 (0,0))],cx28] Z (Rs Z Z) (hle26.trans hle31) ⟨vx28,cx28,Z,Z,hx28⟩)))))
noncomputable def f_dump_Read_8_Read_1 (a0qk0q:T_wire_Reader):Option (T_api_Done×Int×GErr):=
 ((f_dump_Read_1 a0qk0q).bind fun(r22,r23,r24)=>((f_dump_Read_1 (⟨a0qk0q.b,r23,r24⟩:T_wire_Reader)).bind fun(r29,r30,r31)=>((f_dump_Read_1 (⟨a0qk0q.b,r30,r31⟩:T_wire_Reader)).bind fun(r36,r37,r38)=>(some ((⟨r22,r29,r36⟩:T_api_Done),r37,r38)))))
def f_dump_Read_8_Read_1_post (a0qk0q:T_wire_Reader) (v0qk0q_0:Value) (g0 g0qk0 g0qk0q:Nat):(T_api_Done×Int×GErr)→Value→IM→HL→Prop:=
 fun(p_:(T_api_Done×Int×GErr)) (v:Value) (M':IM) (H':HL)=>match p_ with |(r0,r1,r2)=>(.agg #[(.int .i64 r0.Client),(.int .i64 r0.Serial),(.int .i64 r0.Code)])=v∧H'=[[(g0qk0q, .cells #[v0qk0q_0,(.int .i64 r1),(GV r2)] 99 (0,0))],[(g0qk0, .cells #[(.pointer (some ⟨g0qk0q,0,none⟩))] 67 (0,0))],[(g0, .cells #[(.func (.func 20) #[] #[(.pointer (some ⟨g0qk0,0,none⟩))])] 70 (0,0))]]
theorem f_dump_Read_8_Read_1_ok (a0qk0q:T_wire_Reader) (M:IM) (v0qk0q_0:Value) (g0 g0qk0 g0qk0q:Nat) (h0qk0q_0:RS (Kd.int .u8) M v0qk0q_0 a0qk0q.b) (res:(T_api_Done×Int×GErr)) (h:f_dump_Read_8_Read_1 a0qk0q=some res):
 Tri Tryz.prog 36 #[(pt g0 0)] M [[(g0qk0q, .cells (l99 a0qk0q v0qk0q_0).toArray 99 (0,0))],[(g0qk0, .cells #[(pt g0qk0q 0)] 67 (0,0))],[(g0, .cells #[(.func (.func 20) #[] #[(pt g0qk0 0)])] 70 (0,0))]] (f_dump_Read_8_Read_1_post a0qk0q v0qk0q_0 g0 g0qk0 g0qk0q res):=by
 unfold f_dump_Read_8_Read_1 at h
 refine Te Tryz.func36 Z Z ?_
 intro F ρ hρ
 refine Sr (We (Al ze66 Z) Z ?_)
 rintro _ _ _ - ⟨rfl,g21,rfl,rfl⟩
 refine Nt (Cs (WC.draw [0,1,0,7,0,31,63,127] (.pure 0 (.pure 2 (.pure 4 (.alt 1 (.alt 3 (.alt 5 (.pure 6 (.alt 7 .done .none)) .none) .none) .none)))) mixed (by kernel_rfl) (qt (.func (.func 20) #[] #[(pt g0qk0 0)]) Z (Lb 3 pl70 (hρ 0) Z Z) (qt (.func (.func 20) #[] #[(pt g0qk0 0)]) Z (Lb 3 pl70 (hρ 0) Z Z) (qt (.func (.func 20) #[] #[(pt g0qk0 0)]) Z (Lb 3 pl70 (hρ 0) Z Z) ?_)))))
 obtain ⟨⟨r22,r23,r24⟩,hr25,h⟩:=bnd h
 refine WT.f2 (WT.f2 (Ta Z (EO.callV2 (first:=#[]) (cap:=#[(pt g0qk0 0)]) co20 Z (f_dump_Read_1_ok a0qk0q _ _ _ _ h0qk0q_0 (r22,r23,r24) hr25) (argsV0 Z)) Z ?_ ?_))
 rintro _ M26 _ hle27 ⟨_,⟨rfl,rfl⟩,rfl⟩
 refine⟨(Ss Z (Lb 3 pl70 (hρ 0) Z Z) Z (Ss Z (Lb 3 pl70 (hρ 0) Z Z) Z (Sl Z))), ?_⟩
 refine WT.a2 ?_
 obtain ⟨⟨r29,r30,r31⟩,hr32,h⟩:=bnd h
 refine WT.f1 (WT.f1 ?_)
 have h0qk0q_0:=h0qk0q_0.mono hle27
 refine Ta Z (EO.callV2 (first:=#[]) (cap:=#[(pt g0qk0 0)]) co20 Z (f_dump_Read_1_ok (⟨a0qk0q.b,r23,r24⟩:T_wire_Reader) _ _ _ _ h0qk0q_0 (r29,r30,r31) hr32) (argsV0 Z)) Z ?_ ?_
 rintro _ M33 _ hle34 ⟨_,⟨rfl,rfl⟩,rfl⟩
 refine⟨(Ss Z (Lb 3 pl70 (hρ 0) Z Z) Z (Sl Z)), ?_⟩
 refine WT.a2 ?_
 obtain ⟨⟨r36,r37,r38⟩,hr39,h⟩:=bnd h
 refine WT.f1 (WT.f1 ?_)
 have h0qk0q_0:=h0qk0q_0.mono hle34
 refine Ta Z (EO.callV2 (first:=#[]) (cap:=#[(pt g0qk0 0)]) co20 Z (f_dump_Read_1_ok (⟨a0qk0q.b,r30,r31⟩:T_wire_Reader) _ _ _ _ h0qk0q_0 (r36,r37,r38) hr39) (argsV0 Z)) Z ?_ ?_
 rintro _ M40 _ hle41 ⟨_,⟨rfl,rfl⟩,rfl⟩
 refine⟨(Sl Z), ?_⟩
 refine WT.a2 (qt (.agg #[(Iv r22),(Iv r29),(Iv r36)]) Z (Bl (cl:=[(Iv r22),(Iv r29),(Iv r36)]) ze66 fp66 (Pc (Iv r22) Z Z (Pc (Iv r29) Z Z (Pc (Iv r36) Z Z Pz))) Z) (WT.f2 (Ta Z (Sg (v:=(.agg #[(Iv r22),(Iv r29),(Iv r36)])) (vl:=[(Iv r22),(Iv r29),(Iv r36)]) (arr':=[(Iv r22),(Iv r29),(Iv r36)]) Z sz66 Z Z (onb Z) Z Z Z) Z ?_ ?_)))
 rintro _ _ _ - ⟨rfl,rfl⟩
 refine⟨(Sl Z), ?_⟩
 exact Ti (Tc (Cr (Rd h [[(g0qk0q, .cells #[v0qk0q_0,(Iv r37),(GV r38)] 99 (0,0))],[(g0qk0, .cells #[(pt g0qk0q 0)] 67 (0,0))],[(g0, .cells #[(.func (.func 20) #[] #[(pt g0qk0 0)])] 70 (0,0))]] (fun _ hs=>hs.drop) (resultsL1 Z (Rc (cs:=[(Iv r22),(Iv r29),(Iv r36)]) 0 ag66 sz66 Z Z Z)) ((hle27.trans hle34).trans hle41) ⟨Z,Z⟩)))
 exact Tz
 exact Tz
 exact Tz
 exact Tz
noncomputable def f_dump_many_api_Done_Read_8_Read_1_l0 (a0:T_wire_Reader) (r21:Int) (s_:((List T_api_Done)×Int×Int×GErr)):Option (((List T_api_Done)×Int×Int×GErr)⊕((List T_api_Done)×Int×GErr)):=
 match s_ with
 |(x33,x34,x35,x36)=>
 (((if(decide (x34<r21))=true then((f_wire_Reader_Err (⟨a0.b,x35,x36⟩:T_wire_Reader)).bind fun r43=>(some r43.isNil))else(some false)):Option Bool).bind fun x40=>(if x40=true then((f_dump_Read_8_Read_1 (⟨a0.b,x35,x36⟩:T_wire_Reader)).bind fun(r49,r50,r51)=>(grd (x33.length+[r49].length≤274877906944) (some (Sum.inl (x33++[r49],IntKind.i64.wrap (x34+(1:Int)),r50,r51)))))else(some (Sum.inr (x33,x35,x36)))))
noncomputable def f_dump_many_api_Done_Read_8_Read_1 (a0:T_wire_Reader) (a1:Int):Option ((List T_api_Done)×Int×GErr):=
 ((f_wire_Reader_Int a0 a1).bind fun(r21,r22,r23)=>((((iter (f_dump_many_api_Done_Read_8_Read_1_l0 a0 r21) ([],(0:Int),r22,r23)).bind (fun(x37,x38,x39)=>(some (x37,x38,x39)))):Option ((List T_api_Done)×Int×GErr)).bind fun(x28,x29,x30)=>(some (x28,x29,x30))))
def f_dump_many_api_Done_Read_8_Read_1_post (a0:T_wire_Reader) (a1:Int) (v0_0:Value) (g0 g2k0 g2k0qk0:Nat):((List T_api_Done)×Int×GErr)→Value→IM→HL→Prop:=
 fun(p_:((List T_api_Done)×Int×GErr)) (v:Value) (M':IM) (H':HL)=>match p_ with |(r0,r1,r2)=>∃ vz0 cz0,vz0=v∧H'=[[(g0, .cells #[v0_0,(.int .i64 r1),(GV r2)] 99 (0,0))],[(g2k0qk0, .cells #[(.pointer (some ⟨g0,0,none⟩))] 67 (0,0))],[(g2k0, .cells #[(.func (.func 20) #[] #[(.pointer (some ⟨g2k0qk0,0,none⟩))])] 70 (0,0))],cz0]∧OwnS kd_api_Done M' vz0 r0 cz0
theorem f_dump_many_api_Done_Read_8_Read_1_ok (a0:T_wire_Reader) (a1:Int) (M:IM) (v0_0:Value) (g0 g2k0 g2k0qk0:Nat) (h0_0:RS (Kd.int .u8) M v0_0 a0.b) (res:((List T_api_Done)×Int×GErr)) (h:f_dump_many_api_Done_Read_8_Read_1 a0 a1=some res):
 Tri Tryz.prog 35 #[(pt g0 0),(Iv a1),(.func (.func 36) #[] #[(pt g2k0 0)])] M [[(g0, .cells #[v0_0,(Iv a0.at_),(GV a0.err)] 99 (0,0))],[(g2k0qk0, .cells #[(pt g0 0)] 67 (0,0))],[(g2k0, .cells #[(.func (.func 20) #[] #[(pt g2k0qk0 0)])] 70 (0,0))]] (f_dump_many_api_Done_Read_8_Read_1_post a0 a1 v0_0 g0 g2k0 g2k0qk0 res):=by
 unfold f_dump_many_api_Done_Read_8_Read_1 at h
 refine Te Tryz.func35 Z Z ?_
 intro F ρ hρ
 refine Sr (qa Zs (Ns (qa Zs (Ns (qM (pt g0 0) (hρ 0) (qM (Iv a1) (hρ 1) ?_))))))
 obtain ⟨⟨r21,r22,r23⟩,hr24,h⟩:=bnd h
 refine We (Cb co21 (f_wire_Reader_Int_ok a0 a1 _ _ _ h0_0 (r21,r22,r23) hr24) (args2 Z Z)) Z ?_
 rintro _ M25 _ hle26 ⟨_,⟨rfl,rfl⟩,rfl⟩
 refine WL.a1 (qa (Iv r21) (Nt ?_))
 obtain ⟨j31,hj31,h⟩:=bnd h
 refine Jf (fun(p_:((List T_api_Done)×Int×GErr)) ρ' M' H'=>match p_ with |(x28,x29,x30)=>∃ vx28 cx28,M25.le M'∧[(g0, .cells #[v0_0,(Iv x29),(GV x30)] 99 (0,0))]::[(g2k0qk0, .cells #[(pt g0 0)] 67 (0,0))]::[(g2k0, .cells #[(.func (.func 20) #[] #[(pt g2k0qk0 0)])] 70 (0,0))]::cx28::F=H'∧ρ' 7=vx28∧OwnS kd_api_Done M' vx28 x28 cx28) j31 ?_ ?_
 have h:=hj31
 refine Sr (qa (Iv 0) (Nt (Bk (WC.e0 (WC.f3 (WC.f3 (WC.f3 ?_)))))))
 obtain ⟨e32,he32,hK32⟩:=bnd h
 clear h
 refine WC.loop he32 (fun(p_:((List T_api_Done)×Int×Int×GErr)) ρ' M' H'=>match p_ with |(x33,x34,x35,x36)=>∃ vx33 cx33,M25.le M'∧[(g0, .cells #[v0_0,(Iv x35),(GV x36)] 99 (0,0))]::[(g2k0qk0, .cells #[(pt g0 0)] 67 (0,0))]::[(g2k0, .cells #[(.func (.func 20) #[] #[(pt g2k0qk0 0)])] 70 (0,0))]::cx33::F=H'∧ρ' 0=(pt g0 0)∧ρ' 2=(.func (.func 36) #[] #[(pt g2k0 0)])∧ρ' 7=vx33∧ρ' 8=(Iv r21)∧ρ' 9=(Iv x34)∧OwnS kd_api_Done M' vx33 x33 cx33) ?_ ?_
 exact⟨Zs,[],lr,Z,(hρ 0),(hρ 2),Z,Z,Z,(OwnS.nil _ _)⟩
 rintro ⟨x33,x34,x35,x36⟩ o32 ρ32 M32 H32 h ⟨vx33,cx33,hle32,rfl,hs32_0,hs32_2,hs32_7,hs32_8,hs32_9,hx33⟩
 unfold f_dump_many_api_Done_Read_8_Read_1_l0 at h
 refine Cs ?_
 obtain ⟨x40,hj41,h⟩:=bnd h
 refine Jf (fun(x40:Bool) ρ' M' H'=>M32.le M'∧[(g0, .cells #[v0_0,(Iv x35),(GV x36)] 99 (0,0))]::[(g2k0qk0, .cells #[(pt g0 0)] 67 (0,0))]::[(g2k0, .cells #[(.func (.func 20) #[] #[(pt g2k0qk0 0)])] 70 (0,0))]::cx33::F=H'∧ρ' 0=(pt g0 0)∧ρ' 2=(.func (.func 36) #[] #[(pt g2k0 0)])∧ρ' 7=vx33∧ρ' 8=(Iv r21)∧ρ' 9=(Iv x34)∧ρ' 20=(Bv x40)) x40 ?_ ?_
 have h:=hj41
 refine Cg (qM (Iv x34) hs32_9 (qM (Iv r21) hs32_8 (qu (Bv (decide (x34<r21))) (PO.lss Z Z) (qm (Bv (decide (x34<r21))) ?_))))
 rcases Bi h with⟨hb42,h⟩ |⟨hb42,h⟩
 refine On 16 Z Z hb42 (qM (pt g0 0) hs32_0 (On 16 Z Z hb42 ?_))
 obtain ⟨r43,hr44,h⟩:=bnd h
 have h0_0:=h0_0.mono (hle26.trans hle32)
 refine We (Cb co57 (f_wire_Reader_Err_ok (⟨a0.b,x35,x36⟩:T_wire_Reader) _ _ _ h0_0 r43 hr44) (args1 Z)) Z ?_
 rintro _ M45 _ hle46 ⟨_,⟨rfl,rfl⟩,rfl⟩
 refine WL.a1 (qo 16 hb42 (Bv r43.isNil) (PO.errNil Tryz.underlying33 Z) (qu (Bv r43.isNil) (Pt Z hb42 Z) (Wz ?_)))
 obtain rfl:=oi h
 exact Tj ⟨hle46,Z,hs32_0,hs32_2,hs32_7,hs32_8,hs32_9,Z⟩
 iterate 3 refine Of 16 Z Z hb42 Z ?_
 refine qu (Bv false) (Pf Z hb42 Z) (Wz ?_)
 obtain rfl:=oi h
 exact Tj ⟨lr,Z,hs32_0,hs32_2,hs32_7,hs32_8,hs32_9,Z⟩
 rintro ρ41 M41 H41 ⟨hle41,rfl,hs41_0,hs41_2,hs41_7,hs41_8,hs41_9,hs41_20⟩
 refine Ch h hs41_20 (fun hb48 h=> ?_) (fun hb48 h=> ?_)
 refine Ck (Tc (Cs (Bk (Cg (qM vx33 hs41_7 (qM (.func (.func 36) #[] #[(pt g2k0 0)]) hs41_2 ?_))))))
 obtain ⟨⟨r49,r50,r51⟩,hr52,h⟩:=bnd h
 refine Wb (Wb (Wb ?_))
 have h0_0:=h0_0.mono ((hle26.trans hle32).trans hle41)
 refine We (EO.callV3 (first:=#[]) (cap:=#[(pt g2k0 0)]) co36 Z (f_dump_Read_8_Read_1_ok (⟨a0.b,x35,x36⟩:T_wire_Reader) _ _ _ _ _ h0_0 (r49,r50,r51) hr52) (argsV0 Z)) Z ?_
 rintro _ M53 _ hle54 ⟨_,⟨rfl,rfl⟩,rfl⟩
 refine WL.a3 (We (EO.buildSliceL (cl:=(l66 r49)) Tryz.underlying27 iz66 Z (Pc (a66_ r49) Z Z Pz) Z) Z ?_)
 rintro _ _ _ - ⟨rfl,g56,rfl,rfl⟩
 have h58:OwnS kd_api_Done M53 (.slice (some ⟨g56,0,none⟩) 1 1) [r49] [(g56, .cells (l66 r49).toArray 66 (0,0))]:=OwnS.rows (css:=[(l66 r49)]) (Rows.cons (kd_api_Done_mk (x:=r49)) Rows.nil) Z Z
 obtain ⟨hg62,h⟩:=grd_i h
 refine WL.f4 ?_
 have hx33:=hx33.mono (hle41.trans hle54)
 refine We (EO.append (dd:=kd_api_Done) (xs:=x33) (ys:=[r49]) Tryz.underlying27 Tryz.underlying27 in66 Z (appB (by decide) hg62) (by decide) Z Z hx33 (h58.src 1 Z)) Z ?_
 rintro v61 _ _ - ⟨rfl,c59,rfl,h60⟩
 refine qa v61 (Wz (Bn (Tc (Cg (qM (Iv x34) hs41_9 (qu (Iv (IntKind.i64.wrap (x34+1))) (PO.add Z Z) (qa (Iv (IntKind.i64.wrap (x34+1))) (Wz (Qa (Dr (WQ.f3 ?_)))))))))))
 exact WQ.f3 (WQ.f3 (WQ.again (x33++[r49],IntKind.i64.wrap (x34+1),r50,r51) (oi h).symm ⟨v61,c59,((hle32.trans hle41).trans hle54),Z,hs41_0,hs41_2,Z,hs41_8,Z,h60⟩))
 refine WC.exit (WQ.thenE (WQ.leaveE (x33,x35,x36) (oi h).symm (fun heq32=> ?_)))
 subst heq32
 have h:=hK32
 refine WQ.blockH ?_
 obtain rfl:=oi h
 refine Tj ?_
 have hx33:=hx33.mono hle41
 exact⟨vx33,cx33,(hle32.trans hle41),Z,hs41_7,hx33⟩
 obtain ⟨x28,x29,x30⟩:=j31
 rintro ρ31 M31 H31 ⟨vx28,cx28,hle31,rfl,hs31_7,hx28⟩
 exact Sr (qM vx28 hs31_7 (qa vx28 (Nt (Cr (Rf h [[(g0, .cells #[v0_0,(Iv x29),(GV x30)] 99 (0,0))],[(g2k0qk0, .cells #[(pt g0 0)] 67 (0,0))],[(g2k0, .cells #[(.func (.func 20) #[] #[(pt g2k0qk0 0)])] 70 (0,0))],cx28] Z (Rs Z Z) (hle26.trans hle31) ⟨vx28,cx28,Z,Z,hx28⟩)))))

end Go.Proofs.YtpcbipcdfccnnaaGreat.G
