/- Go functions: what they come to, and that they do. Printed by a program of the session (gen). -/
import Derived.Test.YtpcbipcdfccnnaaGreatSF
import Derived.Test.YtpcbipcdfccnnaaGreatS6
import Derived.Test.YtpcbipcdfccnnaaGreatKShar2
import Derived.Test.YtpcbipcdfccnnaaGreatKConv
import Derived.Test.YtpcbipcdfccnnaaGreatKMap
import Derived.Test.YtpcbipcdfccnnaaGreatKShar
import Derived.Test.YtpcbipcdfccnnaaGreatKTight2
set_option linter.unusedVariables false
set_option linter.unusedSimpArgs false
set_option maxHeartbeats 8000000
set_option maxRecDepth 100000
namespace Go.Proofs.YtpcbipcdfccnnaaGreat.G
open Go Go.KK

noncomputable def f_slices_BinarySearchFunc_api_Broker_int_find_api_Broker_1_broker_1_l0 (a0:(List T_api_Broker)) (a1:Int) (s_:(Int×Int)):Option ((Int×Int)⊕Int):=
 match s_ with
 |(x24,x25)=>
 (if(decide (x24<x25))=true then(grd (0≤IntKind.i64.wrap (shrI .u64 (IntKind.u64.wrap (IntKind.i64.wrap (x24+x25))) (1:Int))∧IntKind.i64.wrap (shrI .u64 (IntKind.u64.wrap (IntKind.i64.wrap (x24+x25))) (1:Int))<a0.length) ((f_image_find_api_Broker_1_broker_1 (rd a0 (IntKind.i64.wrap (shrI .u64 (IntKind.u64.wrap (IntKind.i64.wrap (x24+x25))) (1:Int)))) a1).bind fun r35=>(if(decide (r35<(0:Int)))=true then(some (Sum.inl (IntKind.i64.wrap ((IntKind.i64.wrap (shrI .u64 (IntKind.u64.wrap (IntKind.i64.wrap (x24+x25))) (1:Int)))+(1:Int)),x25)))else(some (Sum.inl (x24,IntKind.i64.wrap (shrI .u64 (IntKind.u64.wrap (IntKind.i64.wrap (x24+x25))) (1:Int))))))))else(some (Sum.inr x24)))
noncomputable def f_slices_BinarySearchFunc_api_Broker_int_find_api_Broker_1_broker_1 (a0:(List T_api_Broker)) (a1:Int):Option (Int×Bool):=
 ((((iter (f_slices_BinarySearchFunc_api_Broker_int_find_api_Broker_1_broker_1_l0 a0 a1) ((0:Int),(a0.length:Int))).bind (fun(x26:Int)=>(some x26))):Option Int).bind fun x21=>(((if(decide (x21<(a0.length:Int)))=true then(grd (0≤x21∧x21<a0.length) ((f_image_find_api_Broker_1_broker_1 (rd a0 x21) a1).bind fun r52=>(some (x21,decide (r52=(0:Int))))))else(some (x21,false))):Option (Int×Bool)).bind fun(x41,x42)=>(some (x41,x42))))
def f_slices_BinarySearchFunc_api_Broker_int_find_api_Broker_1_broker_1_post (a0:(List T_api_Broker)) (a1:Int) (v0:Value) (g2k0:Nat):(Int×Bool)→Value→IM→HL→Prop:=
 fun(p_:(Int×Bool)) (v:Value) (M':IM) (H':HL)=>match p_ with |(r0,r1)=>(.tuple #[(.int .i64 r0),(.bool r1)])=v∧H'=[[(g2k0, .cells #[(.func (.func 103) #[] #[])] 157 (0,0))]]
theorem f_slices_BinarySearchFunc_api_Broker_int_find_api_Broker_1_broker_1_ok (a0:(List T_api_Broker)) (a1:Int) (M:IM) (v0:Value) (g2k0:Nat) (h0:RS kd_api_Broker M v0 a0) (res:(Int×Bool)) (h:f_slices_BinarySearchFunc_api_Broker_int_find_api_Broker_1_broker_1 a0 a1=some res):
 Tri Tryz.prog 106 #[v0,(Iv a1),(.func (.func 107) #[] #[(pt g2k0 0)])] M [[(g2k0, .cells #[(.func (.func 103) #[] #[])] 157 (0,0))]] (f_slices_BinarySearchFunc_api_Broker_int_find_api_Broker_1_broker_1_post a0 a1 v0 g2k0 res):=by
 unfold f_slices_BinarySearchFunc_api_Broker_int_find_api_Broker_1_broker_1 at h
 refine Te Tryz.func106 Z Z ?_
 intro F ρ hρ
 refine Sr (qa (Iv 0) (qa (Bv false) (Ns (qM v0 (hρ 0) (qu (Iv (a0.length:Int)) (PO.lenS Tryz.underlying24 Z h0.len) (qa (Iv (a0.length:Int)) (Ns (qm (Iv (a0.length:Int)) (qa (Iv 0) (qa (Iv (a0.length:Int)) (Nt ?_)))))))))))
 obtain ⟨x21,hj22,h⟩:=bnd h
 refine Jf (fun(x21:Int) ρ' M' H'=>M.le M'∧[(g2k0, .cells #[(.func (.func 103) #[] #[])] 157 (0,0))]::F=H'∧ρ' 0=v0∧ρ' 1=(Iv a1)∧ρ' 2=(.func (.func 107) #[] #[(pt g2k0 0)])∧ρ' 8=(Iv (a0.length:Int))∧ρ' 9=(Iv x21)) x21 ?_ ?_
 have h:=hj22
 refine Bk ?_
 obtain ⟨e23,he23,hK23⟩:=bnd h
 clear h
 refine WC.loop he23 (fun(p_:(Int×Int)) ρ' M' H'=>match p_ with |(x24,x25)=>M.le M'∧[(g2k0, .cells #[(.func (.func 103) #[] #[])] 157 (0,0))]::F=H'∧ρ' 0=v0∧ρ' 1=(Iv a1)∧ρ' 2=(.func (.func 107) #[] #[(pt g2k0 0)])∧ρ' 8=(Iv (a0.length:Int))∧ρ' 9=(Iv x24)∧ρ' 10=(Iv x25)) ?_ ?_
 exact⟨lr,Z,(hρ 0),(hρ 1),(hρ 2),Z,Z,Z⟩
 rintro ⟨x24,x25⟩ o23 ρ23 M23 H23 h ⟨hle23,rfl,hs23_0,hs23_1,hs23_2,hs23_8,hs23_9,hs23_10⟩
 unfold f_slices_BinarySearchFunc_api_Broker_int_find_api_Broker_1_broker_1_l0 at h
 refine Cs (Sr (qM (Iv x24) hs23_9 (qM (Iv x25) hs23_10 (qu (Bv (decide (x24<x25))) (PO.lss Z Z) (Nt (Ch h Z (fun hb27 h=> ?_) (fun hb27 h=> ?_)))))))
 refine Ck (Tc (Bk (Sr (qM (Iv x24) hs23_9 (qM (Iv x25) hs23_10 (qu (Iv (IntKind.i64.wrap (x24+x25))) (PO.add Z Z) (qu (Uv (IntKind.u64.wrap (IntKind.i64.wrap (x24+x25)))) (PO.conv us3 Tryz.underlying129 Z) (qu (Uv (shrI .u64 (IntKind.u64.wrap (IntKind.i64.wrap (x24+x25))) (1:Int))) (PO.shr Z Z (by decide)) (qu (Iv (IntKind.i64.wrap (shrI .u64 (IntKind.u64.wrap (IntKind.i64.wrap (x24+x25))) (1:Int)))) (PO.conv us129 Tryz.underlying3 Z) (qa (Iv (IntKind.i64.wrap (shrI .u64 (IntKind.u64.wrap (IntKind.i64.wrap (x24+x25))) (1:Int)))) (Ns ?_)))))))))))
 refine qM (.func (.func 107) #[] #[(pt g2k0 0)]) hs23_2 (qM v0 hs23_0 (qm (Iv (IntKind.i64.wrap (shrI .u64 (IntKind.u64.wrap (IntKind.i64.wrap (x24+x25))) (1:Int)))) ?_))
 obtain ⟨hg28,h⟩:=grd_i h
 have h0:=h0.mono hle23
 obtain ⟨p29,cs30,hat31,hrc32,hhas33⟩:=h0.at hg28.1 hg28.2 (by decide)
 obtain rfl:=kd_api_Broker_open hrc32
 refine qu (.pointer (some p29)) (PO.indexAddr (n:=a0.length) Tryz.underlying24 sz59 Z Z hg28.1 hg28.2 hat31) (qu (a59_ (rd a0 (IntKind.i64.wrap (shrI .u64 (IntKind.u64.wrap (IntKind.i64.wrap (x24+x25))) (1:Int))))) (PO.loadMA (cs:=(l59 (rd a0 (IntKind.i64.wrap (shrI .u64 (IntKind.u64.wrap (IntKind.i64.wrap (x24+x25))) (1:Int)))))) ag59 sz59 Z hhas33) (qM (Iv a1) hs23_1 ?_))
 obtain ⟨r35,hr36,h⟩:=bnd h
 refine We (EO.callV1 (first:=#[]) (cap:=#[(pt g2k0 0)]) co107 Z (f_image_find_api_Broker_1_broker_1_ok (rd a0 (IntKind.i64.wrap (shrI .u64 (IntKind.u64.wrap (IntKind.i64.wrap (x24+x25))) (1:Int)))) a1 _ _ r35 hr36) (argsV2 Z Z Z)) Z ?_
 rintro _ M37 _ hle38 ⟨_,⟨rfl,rfl⟩,rfl⟩
 refine WL.a1 (qu (Bv (decide (r35<0))) (PO.lss Z Z) (Nt (Ch h Z (fun hb40 h=> ?_) (fun hb40 h=> ?_))))
 exact Cg (qm (Iv (IntKind.i64.wrap (shrI .u64 (IntKind.u64.wrap (IntKind.i64.wrap (x24+x25))) (1:Int)))) (qu (Iv (IntKind.i64.wrap ((IntKind.i64.wrap (shrI .u64 (IntKind.u64.wrap (IntKind.i64.wrap (x24+x25))) (1:Int)))+1))) (PO.add Z Z) (qa (Iv (IntKind.i64.wrap ((IntKind.i64.wrap (shrI .u64 (IntKind.u64.wrap (IntKind.i64.wrap (x24+x25))) (1:Int)))+1))) (Wz (Bn (WQ.again (IntKind.i64.wrap ((IntKind.i64.wrap (shrI .u64 (IntKind.u64.wrap (IntKind.i64.wrap (x24+x25))) (1:Int)))+1),x25) (oi h).symm ⟨(hle23.trans hle38),Z,hs23_0,hs23_1,hs23_2,hs23_8,Z,hs23_10⟩))))))
 exact Cg (qm (Iv (IntKind.i64.wrap (shrI .u64 (IntKind.u64.wrap (IntKind.i64.wrap (x24+x25))) (1:Int)))) (qa (Iv (IntKind.i64.wrap (shrI .u64 (IntKind.u64.wrap (IntKind.i64.wrap (x24+x25))) (1:Int)))) (Wz (Bn (WQ.again (x24,IntKind.i64.wrap (shrI .u64 (IntKind.u64.wrap (IntKind.i64.wrap (x24+x25))) (1:Int))) (oi h).symm ⟨(hle23.trans hle38),Z,hs23_0,hs23_1,hs23_2,hs23_8,hs23_9,Z⟩)))))
 refine WC.exit (WQ.thenE (WQ.leaveE x24 (oi h).symm (fun heq23=> ?_)))
 subst heq23
 have h:=hK23
 refine WQ.blockH ?_
 obtain rfl:=oi h
 exact Tj ⟨hle23,Z,hs23_0,hs23_1,hs23_2,hs23_8,hs23_9⟩
 rintro ρ22 M22 H22 ⟨hle22,rfl,hs22_0,hs22_1,hs22_2,hs22_8,hs22_9⟩
 obtain ⟨j43,hj43,h⟩:=bnd h
 refine Jf (fun(p_:(Int×Bool)) ρ' M' H'=>match p_ with |(x41,x42)=>M22.le M'∧[(g2k0, .cells #[(.func (.func 103) #[] #[])] 157 (0,0))]::F=H'∧ρ' 6=(Iv x41)∧ρ' 7=(Bv x42)) j43 ?_ ?_
 have h:=hj43
 refine Cg (qM (Iv x21) hs22_9 (qM (Iv x21) hs22_9 (qM (Iv (a0.length:Int)) hs22_8 (qu (Bv (decide (x21<(a0.length:Int)))) (PO.lss Z Z) (qm (Bv (decide (x21<(a0.length:Int)))) ?_)))))
 rcases Bi h with⟨hb44,h⟩ |⟨hb44,h⟩
 refine On 39 Z Z hb44 (qM (.func (.func 107) #[] #[(pt g2k0 0)]) hs22_2 (On 39 Z Z hb44 (qM v0 hs22_0 (On 39 Z Z hb44 (qM (Iv x21) hs22_9 (On 39 Z Z hb44 ?_))))))
 obtain ⟨hg45,h⟩:=grd_i h
 have h0:=h0.mono hle22
 obtain ⟨p46,cs47,hat48,hrc49,hhas50⟩:=h0.at hg45.1 hg45.2 (by decide)
 obtain rfl:=kd_api_Broker_open hrc49
 refine qu (.pointer (some p46)) (PO.indexAddr (n:=a0.length) Tryz.underlying24 sz59 Z Z hg45.1 hg45.2 hat48) (qo 39 hb44 (a59_ (rd a0 x21)) (PO.loadMA (cs:=(l59 (rd a0 x21))) ag59 sz59 Z hhas50) (On 39 Z Z hb44 (qM (Iv a1) hs22_1 (On 39 Z Z hb44 ?_))))
 obtain ⟨r52,hr53,h⟩:=bnd h
 refine We (EO.callV1 (first:=#[]) (cap:=#[(pt g2k0 0)]) co107 Z (f_image_find_api_Broker_1_broker_1_ok (rd a0 x21) a1 _ _ r52 hr53) (argsV2 Z Z Z)) Z ?_
 rintro _ M54 _ hle55 ⟨_,⟨rfl,rfl⟩,rfl⟩
 refine WL.a1 (qo 39 hb44 (Bv (decide (r52=0))) (PO.eql Z Z) (qu (Bv (decide (r52=0))) (Pt Z hb44 Z) (qa (Iv x21) (qa (Bv (decide (r52=0))) (Wz ?_)))))
 obtain rfl:=oi h
 exact Tj ⟨hle55,Z,Z,Z⟩
 iterate 8 refine Of 39 Z Z hb44 Z ?_
 refine qu (Bv false) (Pf Z hb44 Z) (qa (Iv x21) (qa (Bv false) (Wz ?_)))
 obtain rfl:=oi h
 exact Tj ⟨lr,Z,Z,Z⟩
 obtain ⟨x41,x42⟩:=j43
 rintro ρ43 M43 H43 ⟨hle43,rfl,hs43_6,hs43_7⟩
 exact Cr (Rf h [[(g2k0, .cells #[(.func (.func 103) #[] #[])] 157 (0,0))]] Z (results2 Z hs43_6 hs43_7) (hle22.trans hle43) ⟨Z,Z⟩)
noncomputable def f_image_find_api_Broker_broker_1 (a0:(List T_api_Broker)) (a1:Int):Option (Int×Bool):=
 ((f_slices_BinarySearchFunc_api_Broker_int_find_api_Broker_1_broker_1 a0 a1).bind fun(r22,r23)=>(some (r22,r23)))
def f_image_find_api_Broker_broker_1_post (a0:(List T_api_Broker)) (a1:Int) (v0:Value):(Int×Bool)→Value→IM→HL→Prop:=
 fun(p_:(Int×Bool)) (v:Value) (M':IM) (H':HL)=>match p_ with |(r0,r1)=>(.tuple #[(.int .i64 r0),(.bool r1)])=v∧H'=[]
theorem f_image_find_api_Broker_broker_1_ok (a0:(List T_api_Broker)) (a1:Int) (M:IM) (v0:Value) (h0:RS kd_api_Broker M v0 a0) (res:(Int×Bool)) (h:f_image_find_api_Broker_broker_1 a0 a1=some res):
 Tri Tryz.prog 102 #[v0,(Iv a1),(.func (.func 103) #[] #[])] M [] (f_image_find_api_Broker_broker_1_post a0 a1 v0 res):=by
 unfold f_image_find_api_Broker_broker_1 at h
 refine Te Tryz.func102 Z Z ?_
 intro F ρ hρ
 refine Sr (We (EO.box (cs:=#[(.func (.func 103) #[] #[])]) (congrArg Value.cells (asE (.func (.func 103) #[] #[]) (hρ 2)))) Z ?_)
 rintro _ _ _ - ⟨rfl,g21,rfl,rfl⟩
 refine qa (Iv 0) (qa (Bv false) (Ns (qM v0 (hρ 0) (qM (Iv a1) (hρ 1) (qu (.func (.func 107) #[] #[(pt g21 0)]) (PO.makeFunc2 (args0) (args1 (show ev _ _=(pt g21 0) from Z))) ?_)))))
 obtain ⟨⟨r22,r23⟩,hr24,h⟩:=bnd h
 refine We (Cb co106 (f_slices_BinarySearchFunc_api_Broker_int_find_api_Broker_1_broker_1_ok a0 a1 _ _ _ h0 (r22,r23) hr24) (args3 Z Z Z)) Z ?_
 rintro _ M25 _ hle26 ⟨_,⟨rfl,rfl⟩,rfl⟩
 exact WL.a1 (qu (Iv r22) (Xt Z Z) (qu (Bv r23) (Xt Z Z) (qa (Iv r22) (qa (Bv r23) (Nt (Cr (Dr (Rf h [] Z (results2 Z Z Z) hle26 ⟨Z,Z⟩))))))))
noncomputable def f_image_broker (a0:T_api_Image) (a1:Int):Option (Int×Bool):=
 ((f_image_find_api_Broker_broker_1 a0.Brokers a1).bind fun(r22,r23)=>(some (r22,r23)))
def f_image_broker_post (a0:T_api_Image) (a1:Int) (v0_0 v0_1 v0_2 v0_3:Value):(Int×Bool)→Value→IM→HL→Prop:=
 fun(p_:(Int×Bool)) (v:Value) (M':IM) (H':HL)=>match p_ with |(r0,r1)=>(.tuple #[(.int .i64 r0),(.bool r1)])=v∧H'=[]
theorem f_image_broker_ok (a0:T_api_Image) (a1:Int) (M:IM) (v0_0 v0_1 v0_2 v0_3:Value) (h0_0:RS kd_api_Broker M v0_0 a0.Brokers) (h0_1:RS kd_api_Topic M v0_1 a0.Topics) (h0_2:RS kd_api_Config M v0_2 a0.Configs) (h0_3:RS kd_api_Done M v0_3 a0.Done) (res:(Int×Bool)) (h:f_image_broker a0 a1=some res):
 Tri Tryz.prog 98 #[(a29_ a0 v0_0 v0_1 v0_2 v0_3),(Iv a1)] M [] (f_image_broker_post a0 a1 v0_0 v0_1 v0_2 v0_3 res):=by
 unfold f_image_broker at h
 refine Te Tryz.func98 Z Z ?_
 intro F ρ hρ
 refine Sr (We (EO.box (cs:=(l29 a0 v0_0 v0_1 v0_2 v0_3).toArray) (congrArg Value.cells (asE (a29_ a0 v0_0 v0_1 v0_2 v0_3) (hρ 0)))) Z ?_)
 rintro _ _ _ - ⟨rfl,g21,rfl,rfl⟩
 refine qa (Iv 0) (qa (Bv false) (Ns (qu (pt g21 0) (Fa fo29_0 Z Z) (qu v0_0 (Lb 0 pl24 Z Z Z) (qM (Iv a1) (hρ 1) ?_)))))
 obtain ⟨⟨r22,r23⟩,hr24,h⟩:=bnd h
 refine We (Ca co102 (f_image_find_api_Broker_broker_1_ok a0.Brokers a1 _ _ h0_0 (r22,r23) hr24) (args3 Z Z Z)) Z ?_
 rintro _ M25 _ hle26 ⟨_,⟨rfl,rfl⟩,rfl⟩
 exact WL.a0 (qu (Iv r22) (Xt Z Z) (qu (Bv r23) (Xt Z Z) (qa (Iv r22) (qa (Bv r23) (Nt (Cr (Dr (Rf h [] Z (results2 Z Z Z) hle26 ⟨Z,Z⟩))))))))
noncomputable def f_image_Broker (a0:T_api_Image) (a1:Int):Option (T_api_Broker×Bool):=
 ((f_image_broker a0 a1).bind fun(r23,r24)=>(if(!r24)=true then(some ((⟨(0:Int),(0:Int),(⟨#[]⟩:ByteArray),false,false⟩:T_api_Broker),false))else(grd (0≤r23∧r23<a0.Brokers.length) (some ((rd a0.Brokers r23),true)))))
def f_image_Broker_post (a0:T_api_Image) (a1:Int) (v0_0 v0_1 v0_2 v0_3:Value):(T_api_Broker×Bool)→Value→IM→HL→Prop:=
 fun(p_:(T_api_Broker×Bool)) (v:Value) (M':IM) (H':HL)=>match p_ with |(r0,r1)=>(.tuple #[(.agg #[(.int .i64 r0.Id),(.int .i64 r0.Epoch),(.string r0.Rack),(.bool r0.Fenced),(.bool r0.Leaving)]),(.bool r1)])=v∧H'=[]
theorem f_image_Broker_ok (a0:T_api_Image) (a1:Int) (M:IM) (v0_0 v0_1 v0_2 v0_3:Value) (h0_0:RS kd_api_Broker M v0_0 a0.Brokers) (h0_1:RS kd_api_Topic M v0_1 a0.Topics) (h0_2:RS kd_api_Config M v0_2 a0.Configs) (h0_3:RS kd_api_Done M v0_3 a0.Done) (res:(T_api_Broker×Bool)) (h:f_image_Broker a0 a1=some res):
 Tri Tryz.prog 91 #[(a29_ a0 v0_0 v0_1 v0_2 v0_3),(Iv a1)] M [] (f_image_Broker_post a0 a1 v0_0 v0_1 v0_2 v0_3 res):=by
 unfold f_image_Broker at h
 refine Te Tryz.func91 Z Z ?_
 intro F ρ hρ
 refine Sr (We (EO.box (cs:=(l29 a0 v0_0 v0_1 v0_2 v0_3).toArray) (congrArg Value.cells (asE (a29_ a0 v0_0 v0_1 v0_2 v0_3) (hρ 0)))) Z ?_)
 rintro _ _ _ - ⟨rfl,g21,rfl,rfl⟩
 refine We (Al ze59 Z) Z ?_
 rintro _ _ _ - ⟨rfl,g22,rfl,rfl⟩
 refine qa (Bv false) (Ns (qu (a29_ a0 v0_0 v0_1 v0_2 v0_3) (La (cs:=(l29 a0 v0_0 v0_1 v0_2 v0_3)) 1 ag29 sz29 Z Z Z) (qM (Iv a1) (hρ 1) ?_)))
 obtain ⟨⟨r23,r24⟩,hr25,h⟩:=bnd h
 refine We (Ca co98 (f_image_broker_ok a0 a1 _ _ _ _ _ h0_0 h0_1 h0_2 h0_3 (r23,r24) hr25) (args2 Z Z)) Z ?_
 rintro _ M26 _ hle27 ⟨_,⟨rfl,rfl⟩,rfl⟩
 refine WL.a0 (qm (.tuple #[(Iv r23),(Bv r24)]) (qu (Iv r23) (Xt Z Z) (qu (Bv r24) (Xt Z Z) (qa (Iv r23) (qa (Bv r24) (Nt (Cs (Sr (qm (Bv r24) (qu (Bv (!r24)) (PO.not Z) (Nt ?_)))))))))))
 refine Ch h Z (fun hb30 h=> ?_) (fun hb30 h=> ?_)
 refine Sr (qu (.agg z59_.toArray) (Bl (cl:=z59_) ze59 fp59 Pz Z) (We (Sg (v:=(.agg z59_.toArray)) (vl:=z59_) (arr':=z59_) Z sz59 Z Z (onb Z) Z Z Z) Z ?_))
 rintro _ _ _ - ⟨rfl,rfl⟩
 exact qa (Bv false) (Nt (Cr (Tr (Qa (Dr (Rd h [] (fun _ hs=>hs.drop) (resultsLN Z (RVs.cons (Rc (cs:=z59_) 0 ag59 sz59 Z Z Z) (RVs.cons (RV.tmp Z) RVs.nil))) hle27 ⟨Z,Z⟩))))))
 refine Ck (Tc (Sr (qu (pt g21 0) (Fa fo29_0 Z Z) (qu v0_0 (Lb 1 pl24 Z Z Z) (qm (Iv r23) ?_)))))
 obtain ⟨hg31,h⟩:=grd_i h
 have h0_0:=h0_0.mono hle27
 obtain ⟨p32,cs33,hat34,hrc35,hhas36⟩:=h0_0.at hg31.1 hg31.2 (by decide)
 obtain rfl:=kd_api_Broker_open hrc35
 refine qu (.pointer (some p32)) (PO.indexAddr (n:=a0.Brokers.length) Tryz.underlying24 sz59 Z Z hg31.1 hg31.2 hat34) (qu (a59_ (rd a0.Brokers r23)) (PO.loadMA (cs:=(l59 (rd a0.Brokers r23))) ag59 sz59 Z hhas36) (We (Sg (v:=(a59_ (rd a0.Brokers r23))) (vl:=(l59 (rd a0.Brokers r23))) (arr':=(l59 (rd a0.Brokers r23))) Z sz59 Z Z (onb Z) Z Z Z) Z ?_))
 rintro _ _ _ - ⟨rfl,rfl⟩
 exact qa (Bv true) (Nt (Cr (Qa (Dr (Rd h [] (fun _ hs=>hs.drop) (resultsLN Z (RVs.cons (Rc (cs:=(l59 (rd a0.Brokers r23))) 0 ag59 sz59 Z Z Z) (RVs.cons (RV.tmp Z) RVs.nil))) hle27 ⟨Z,Z⟩)))))
noncomputable def f_dump_within_l0 (a1:(List Int)) (s_:((List (Int×Int))×Int)):Option (((List (Int×Int))×Int)⊕(List (Int×Int))):=
 match s_ with
 |(x27,x28)=>
 (if(decide (x28<(a1.length:Int)))=true then(grd (0≤x28∧x28<a1.length) (some (Sum.inl (mpPut x27 (rd a1 x28) (IntKind.i64.wrap ((mpGet x27 (rd a1 x28))+(1:Int))),IntKind.i64.wrap (x28+(1:Int))))))else(some (Sum.inr x27)))
noncomputable def f_dump_within_l1 (a0:(List Int)) (x24:(List (Int×Int))) (s_:Int):Option (Int⊕(Unit⊕Unit)):=
 match s_ with
 |x42=>
 (if(decide (x42<(a0.length:Int)))=true then(grd (0≤x42∧x42<a0.length) (if(decide ((mpGet x24 (rd a0 x42))=(0:Int)))=true then(some (Sum.inr (Sum.inr ())))else(some (Sum.inl (IntKind.i64.wrap (x42+(1:Int)))))))else(some (Sum.inr (Sum.inl ()))))
noncomputable def f_dump_within (a0:(List Int)) (a1:(List Int)):Option Bool:=
 ((((iter (f_dump_within_l0 a1) (([]:List (Int×Int)),(0:Int))).bind (fun(x29:(List (Int×Int)))=>(some x29))):Option (List (Int×Int))).bind fun x24=>((((iter (f_dump_within_l1 a0 x24) (0:Int)).bind (Sum.elim (fun _=>(some (Sum.inl ()))) (fun _=>(((some false)).bind fun r=>some (Sum.inr r))))):Option (Unit⊕Bool)).bind (Sum.elim (fun _=>(some true)) some)))
def f_dump_within_post (a0:(List Int)) (a1:(List Int)) (v0 v1:Value):Bool→Value→IM→HL→Prop:=
 fun(r0:Bool) (v:Value) (M':IM) (H':HL)=>(.bool r0)=v∧H'=[]
theorem f_dump_within_ok (a0:(List Int)) (a1:(List Int)) (M:IM) (v0 v1:Value) (h0:RS (Kd.int .i64) M v0 a0) (h1:RS (Kd.int .i64) M v1 a1) (res:Bool) (h:f_dump_within a0 a1=some res):
 Tri Tryz.prog 92 #[v0,v1] M [] (f_dump_within_post a0 a1 v0 v1 res):=by
 unfold f_dump_within at h
 refine Te Tryz.func92 Z Z ?_
 intro F ρ hρ
 refine Sr (qa (Bv false) (Ns (We (EO.makeMap miV) Z ?_)))
 rintro v23 _ _ - ⟨rfl,c21,rfl,h22⟩
 refine qa v23 (Nt ?_)
 obtain ⟨x24,hj25,h⟩:=bnd h
 refine Jf (fun(x24:(List (Int×Int))) ρ' M' H'=>∃ vx24 cx24,M.le M'∧cx24::F=H'∧ρ' 0=v0∧ρ' 5=vx24∧OwnMp miV M' vx24 x24 cx24) x24 ?_ ?_
 have h:=hj25
 refine Sr (qM v1 (hρ 1) (qu (Iv (a1.length:Int)) (PO.lenS Tryz.underlying43 Z h1.len) (qm (Iv 0) (Nt (Bk ?_)))))
 obtain ⟨e26,he26,hK26⟩:=bnd h
 clear h
 refine WC.loop he26 (fun(p_:((List (Int×Int))×Int)) ρ' M' H'=>match p_ with |(x27,x28)=>∃ vx27 cx27,M.le M'∧cx27::F=H'∧ρ' 0=v0∧ρ' 5=vx27∧ρ' 11=v1∧ρ' 12=(Iv (a1.length:Int))∧ρ' 13=(Iv x28)∧OwnMp miV M' vx27 x27 cx27) ?_ ?_
 exact⟨v23,c21,lr,Z,(hρ 0),Z,Z,Z,Z,h22⟩
 rintro ⟨x27,x28⟩ o26 ρ26 M26 H26 h ⟨vx27,cx27,hle26,rfl,hs26_0,hs26_5,hs26_11,hs26_12,hs26_13,hx27⟩
 unfold f_dump_within_l0 at h
 refine Sr (qu (Bv (decide (x28<(a1.length:Int)))) (PO.lss hs26_13 hs26_12) (Nt (Cs (Ch h Z (fun hb30 h=> ?_) (fun hb30 h=> ?_)))))
 refine Ck (Tc (Cs (Bk (Sr ?_))))
 obtain ⟨hg31,h⟩:=grd_i h
 have h1:=h1.mono hle26
 obtain ⟨p32,cs33,hat34,hrc35,hhas36⟩:=h1.at hg31.1 hg31.2 (by decide)
 obtain rfl:=hrc35
 refine qu (.pointer (some p32)) (PO.indexAddr (n:=a1.length) Tryz.underlying43 sz3 hs26_11 hs26_13 hg31.1 hg31.2 hat34) (qu (Iv (rd a1 x28)) (PO.loadM pl3 Z (IM.has0 hhas36)) (qa (Iv (rd a1 x28)) (Nt (Cg (qM vx27 hs26_5 (qm (Iv (rd a1 x28)) (qu (Iv (mpGet x27 (rd a1 x28))) (PO.lookup (val:=miV) (k:=(rd a1 x28)) 0 Tryz.underlying152 (MKey.int Tryz.underlying3) ze3 Z Z Z hx27) (qu (Iv (IntKind.i64.wrap ((mpGet x27 (rd a1 x28))+1))) (PO.add Z Z) (We (EO.mapUpdate (val:=miV) (k:=(rd a1 x28)) Tryz.underlying152 (MKey.int Tryz.underlying3) Z Z Z hx27) Z ?_)))))))))
 rintro _ _ _ - ⟨rfl,c38,rfl,h39⟩
 exact Wz (Bn (Tc (Cg (qu (Iv (IntKind.i64.wrap (x28+1))) (PO.add hs26_13 Z) (qm (Iv (IntKind.i64.wrap (x28+1))) (Wz (WQ.again (mpPut x27 (rd a1 x28) (IntKind.i64.wrap ((mpGet x27 (rd a1 x28))+1)),IntKind.i64.wrap (x28+1)) (oi h).symm ⟨vx27,c38,hle26,Z,hs26_0,hs26_5,hs26_11,hs26_12,Z,h39⟩)))))))
 refine WC.exit (WQ.thenE (WQ.leaveE x27 (oi h).symm (fun heq26=> ?_)))
 subst heq26
 have h:=hK26
 refine WQ.blockH ?_
 obtain rfl:=oi h
 exact Tj ⟨vx27,cx27,hle26,Z,hs26_0,hs26_5,hx27⟩
 rintro ρ25 M25 H25 ⟨vx24,cx24,hle25,rfl,hs25_0,hs25_5,hx24⟩
 obtain ⟨j40,hj40,h⟩:=bnd h
 refine WC.joinE (fun(_:Unit) ρ' M' H'=>M25.le M'∧F=H') j40 ?_ ?_
 have h340:=h
 have h:=hj40
 refine Sr (qM v0 hs25_0 ?_)
 have h0:=h0.mono hle25
 refine qu (Iv (a0.length:Int)) (PO.lenS Tryz.underlying43 Z h0.len) (qm (Iv 0) (Nt (Bk ?_)))
 obtain ⟨e41,he41,hK41⟩:=bnd h
 clear h
 refine WC.loop he41 (fun(x42:Int) ρ' M' H'=>M25.le M'∧cx24::F=H'∧ρ' 5=vx24∧ρ' 22=v0∧ρ' 23=(Iv (a0.length:Int))∧ρ' 24=(Iv x42)) ?_ ?_
 exact⟨lr,Z,hs25_5,Z,Z,Z⟩
 rintro x42 o41 ρ41 M41 H41 h ⟨hle41,rfl,hs41_5,hs41_22,hs41_23,hs41_24⟩
 unfold f_dump_within_l1 at h
 refine Sr (qu (Bv (decide (x42<(a0.length:Int)))) (PO.lss hs41_24 hs41_23) (Nt (Cs (Ch h Z (fun hb43 h=> ?_) (fun hb43 h=> ?_)))))
 refine Ck (Tc (Cs (Bk (Sr ?_))))
 obtain ⟨hg44,h⟩:=grd_i h
 have h0:=h0.mono hle41
 obtain ⟨p45,cs46,hat47,hrc48,hhas49⟩:=h0.at hg44.1 hg44.2 (by decide)
 obtain rfl:=hrc48
 refine qu (.pointer (some p45)) (PO.indexAddr (n:=a0.length) Tryz.underlying43 sz3 hs41_22 hs41_24 hg44.1 hg44.2 hat47) (qu (Iv (rd a0 x42)) (PO.loadM pl3 Z (IM.has0 hhas49)) (qa (Iv (rd a0 x42)) (Ns (qM vx24 hs41_5 (qm (Iv (rd a0 x42)) ?_)))))
 have hx24:=hx24.mono hle41
 refine qu (Iv (mpGet x24 (rd a0 x42))) (PO.lookup (val:=miV) (k:=(rd a0 x42)) 0 Tryz.underlying152 (MKey.int Tryz.underlying3) ze3 Z Z Z hx24) (qu (Bv (decide ((mpGet x24 (rd a0 x42))=0))) (PO.eql Z Z) (Nt (Ch h Z (fun hb51 h=> ?_) (fun hb51 h=> ?_))))
 refine Sr (qa (Bv false) (Nt (Cr (Br (Tr (WQ.leaveR (Sum.inr ()) (oi h).symm (fun heq41=> ?_)))))))
 subst heq41
 have h:=(elimR hK41)
 refine Br (Tr ?_)
 have h:=KK.early h h340
 exact Dr (Rf h [] Z (Rs Z Z) (hle25.trans hle41) ⟨Z,Z⟩)
 exact Ck (Bn (Tc (Cg (qu (Iv (IntKind.i64.wrap (x42+1))) (PO.add hs41_24 Z) (qm (Iv (IntKind.i64.wrap (x42+1))) (Wz (WQ.again (IntKind.i64.wrap (x42+1)) (oi h).symm ⟨hle41,Z,hs41_5,hs41_22,hs41_23,Z⟩)))))))
 refine WC.exit (WQ.thenE (WQ.leaveE (Sum.inl ()) (oi h).symm (fun heq41=> ?_)))
 subst heq41
 have h:=elimL hK41
 exact WQ.blockH (Dr (WQ.thenFE h ⟨hle41,Z⟩))
 rintro _ ρ40 M40 H40 rfl ⟨hle40,rfl⟩
 have h:=(Sum.elim_inl _ _ _).symm.trans h
 exact Sr (qa (Bv true) (Nt (Cr (Rf h [] Z (Rs Z Z) (hle25.trans hle40) ⟨Z,Z⟩))))
noncomputable def f_image_Alive (a0:T_api_Image) (a1:Int):Option Bool:=
 ((f_image_Broker a0 a1).bind fun(r22,r23)=>(((if r23=true then(some (!r22.Fenced))else(some false)):Option Bool).bind fun x30=>(some x30)))
def f_image_Alive_post (a0:T_api_Image) (a1:Int) (v0_0 v0_1 v0_2 v0_3:Value):Bool→Value→IM→HL→Prop:=
 fun(r0:Bool) (v:Value) (M':IM) (H':HL)=>(.bool r0)=v∧H'=[]
theorem f_image_Alive_ok (a0:T_api_Image) (a1:Int) (M:IM) (v0_0 v0_1 v0_2 v0_3:Value) (h0_0:RS kd_api_Broker M v0_0 a0.Brokers) (h0_1:RS kd_api_Topic M v0_1 a0.Topics) (h0_2:RS kd_api_Config M v0_2 a0.Configs) (h0_3:RS kd_api_Done M v0_3 a0.Done) (res:Bool) (h:f_image_Alive a0 a1=some res):
 Tri Tryz.prog 93 #[(a29_ a0 v0_0 v0_1 v0_2 v0_3),(Iv a1)] M [] (f_image_Alive_post a0 a1 v0_0 v0_1 v0_2 v0_3 res):=by
 unfold f_image_Alive at h
 refine Te Tryz.func93 Z Z ?_
 intro F ρ hρ
 refine Sr (We (EO.box (cs:=(l29 a0 v0_0 v0_1 v0_2 v0_3).toArray) (congrArg Value.cells (asE (a29_ a0 v0_0 v0_1 v0_2 v0_3) (hρ 0)))) Z ?_)
 rintro _ _ _ - ⟨rfl,g21,rfl,rfl⟩
 refine qa (Bv false) (Ns (qu (a29_ a0 v0_0 v0_1 v0_2 v0_3) (La (cs:=(l29 a0 v0_0 v0_1 v0_2 v0_3)) 0 ag29 sz29 Z Z Z) (qM (Iv a1) (hρ 1) ?_)))
 obtain ⟨⟨r22,r23⟩,hr24,h⟩:=bnd h
 refine We (Ca co91 (f_image_Broker_ok a0 a1 _ _ _ _ _ h0_0 h0_1 h0_2 h0_3 (r22,r23) hr24) (args2 Z Z)) Z ?_
 rintro _ M25 _ hle26 ⟨_,⟨rfl,rfl⟩,rfl⟩
 refine WL.a0 (qm (.tuple #[(a59_ r22),(Bv r23)]) (qu (a59_ r22) (Xt Z Z) (qu (Bv r23) (Xt Z Z) (We (Al ze59 Z) Z ?_))))
 rintro _ _ _ - ⟨rfl,g29,rfl,rfl⟩
 refine We (Sg (v:=(a59_ r22)) (vl:=(l59 r22)) (arr':=(l59 r22)) Z sz59 Z Z (onb Z) Z Z Z) Z ?_
 rintro _ _ _ - ⟨rfl,rfl⟩
 refine qa (Bv r23) (Nt ?_)
 obtain ⟨x30,hj31,h⟩:=bnd h
 refine Jf (fun(x30:Bool) ρ' M' H'=>M25.le M'∧[(g29, .cells (l59 r22).toArray 59 (0,0))]::[(g21, .cells (l29 a0 v0_0 v0_1 v0_2 v0_3).toArray 29 (0,0))]::F=H'∧ρ' 4=(Bv x30)) x30 ?_ ?_
 have h:=hj31
 refine Cg (qm (Bv r23) (qm (Bv r23) ?_))
 rcases Bi h with⟨hb32,h⟩ |⟨hb32,h⟩
 refine qo 14 hb32 (pt g29 3) (Fa fo59_3 Z Z) (qo 14 hb32 (Bv r22.Fenced) (Lb 0 pl4 Z Z Z) (qo 14 hb32 (Bv (!r22.Fenced)) (PO.not Z) (qu (Bv (!r22.Fenced)) (Pt Z hb32 Z) (qa (Bv (!r22.Fenced)) (Wz ?_)))))
 obtain rfl:=oi h
 exact Tj ⟨lr,Z,Z⟩
 iterate 3 refine Of 14 Z Z hb32 Z ?_
 refine qu (Bv false) (Pf Z hb32 Z) (qa (Bv false) (Wz ?_))
 obtain rfl:=oi h
 exact Tj ⟨lr,Z,Z⟩
 rintro ρ31 M31 H31 ⟨hle31,rfl,hs31_4⟩
 exact Cr (Dr (Dr (Rf h [] Z (Rs Z hs31_4) (hle26.trans hle31) ⟨Z,Z⟩)))
noncomputable def f_dump_part_l0 (a1:T_api_Part) (s_:Int):Option (Int⊕(Unit⊕Unit)):=
 match s_ with
 |x28=>
 (if(decide (x28<([a1.Ids,a1.Isr,a1.Add,a1.Drop].length:Int)))=true then(grd (0≤x28∧x28<[a1.Ids,a1.Isr,a1.Add,a1.Drop].length) ((f_record_Brokers (rd [a1.Ids,a1.Isr,a1.Add,a1.Drop] x28)).bind fun r37=>(if(!r37)=true then(some (Sum.inr (Sum.inr ())))else(some (Sum.inl (IntKind.i64.wrap (x28+(1:Int))))))))else(some (Sum.inr (Sum.inl ()))))
noncomputable def f_dump_part_l1 (a0:T_api_Image) (a1:T_api_Part) (s_:Int):Option (Int⊕(Unit⊕Unit)):=
 match s_ with
 |x45=>
 (if(decide (x45<(a1.Ids.length:Int)))=true then(grd (0≤x45∧x45<a1.Ids.length) ((f_image_Broker a0 (rd a1.Ids x45)).bind fun(r54,r55)=>(if(!r55)=true then(some (Sum.inr (Sum.inr ())))else(some (Sum.inl (IntKind.i64.wrap (x45+(1:Int))))))))else(some (Sum.inr (Sum.inl ()))))
noncomputable def f_dump_part_l2 (a1:T_api_Part) (s_:Int):Option (Int⊕(Unit⊕Unit)):=
 match s_ with
 |x112=>
 (if(decide (x112<(a1.Add.length:Int)))=true then(grd (0≤x112∧x112<a1.Add.length) ((f_dump_within [(rd a1.Add x112)] a1.Drop).bind fun r124=>(if r124=true then(some (Sum.inr (Sum.inr ())))else(some (Sum.inl (IntKind.i64.wrap (x112+(1:Int))))))))else(some (Sum.inr (Sum.inl ()))))
noncomputable def f_dump_part (a0:T_api_Image) (a1:T_api_Part):Option Bool:=
 ((((iter (f_dump_part_l0 a1) (0:Int)).bind (Sum.elim (fun _=>(some (Sum.inl ()))) (fun _=>(((some false)).bind fun r=>some (Sum.inr r))))):Option (Unit⊕Bool)).bind (Sum.elim (fun _=>((((iter (f_dump_part_l1 a0 a1) (0:Int)).bind (Sum.elim (fun _=>(some (Sum.inl ()))) (fun _=>(((some false)).bind fun r=>some (Sum.inr r))))):Option (Unit⊕Bool)).bind (Sum.elim (fun _=>(((if(decide ((a1.Ids.length:Int)=(0:Int)))=true then(some true)else(if(decide ((a1.Isr.length:Int)=(0:Int)))=true then(some true)else(if(decide (a1.Epoch<(0:Int)))=true then(some true)else(some (decide ((1073741824:Int)<a1.Epoch)))))):Option Bool).bind fun x63=>(if x63=true then(some false)else((((f_dump_within a1.Isr a1.Ids).bind fun r71=>(if(!r71)=true then(some true)else((f_dump_within a1.Add a1.Ids).bind fun r77=>(if(!r77)=true then(some true)else((f_dump_within a1.Drop a1.Ids).bind fun r83=>(some (!r83))))))):Option Bool).bind fun x69=>(if x69=true then(some false)else(((if(decide (a1.Leader≠(0:Int)))=true then((f_dump_within [a1.Leader] a1.Isr).bind fun r95=>(if(!r95)=true then(some true)else((f_image_Alive a0 a1.Leader).bind fun r104=>(some (!r104)))))else(some false)):Option Bool).bind fun x89=>(if x89=true then(some false)else((((iter (f_dump_part_l2 a1) (0:Int)).bind (Sum.elim (fun _=>(some (Sum.inl ()))) (fun _=>(((some false)).bind fun r=>some (Sum.inr r))))):Option (Unit⊕Bool)).bind (Sum.elim (fun _=>(some true)) some))))))))) some))) some))
def f_dump_part_post (a0:T_api_Image) (a1:T_api_Part) (v0_0 v0_1 v0_2 v0_3 v1_0 v1_1 v1_4 v1_5:Value):Bool→Value→IM→HL→Prop:=
 fun(r0:Bool) (v:Value) (M':IM) (H':HL)=>(.bool r0)=v∧H'=[]
theorem f_dump_part_ok (a0:T_api_Image) (a1:T_api_Part) (M:IM) (v0_0 v0_1 v0_2 v0_3 v1_0 v1_1 v1_4 v1_5:Value) (h0_0:RS kd_api_Broker M v0_0 a0.Brokers) (h0_1:RS kd_api_Topic M v0_1 a0.Topics) (h0_2:RS kd_api_Config M v0_2 a0.Configs) (h0_3:RS kd_api_Done M v0_3 a0.Done) (h1_0:RS (Kd.int .i64) M v1_0 a1.Ids) (h1_1:RS (Kd.int .i64) M v1_1 a1.Isr) (h1_4:RS (Kd.int .i64) M v1_4 a1.Add) (h1_5:RS (Kd.int .i64) M v1_5 a1.Drop) (res:Bool) (h:f_dump_part a0 a1=some res):
 Tri Tryz.prog 77 #[(a29_ a0 v0_0 v0_1 v0_2 v0_3),(a54_ a1 v1_0 v1_1 v1_4 v1_5)] M [] (f_dump_part_post a0 a1 v0_0 v0_1 v0_2 v0_3 v1_0 v1_1 v1_4 v1_5 res):=by
 unfold f_dump_part at h
 refine Te Tryz.func77 Z Z ?_
 intro F ρ hρ
 refine Sr (We (EO.box (cs:=(l29 a0 v0_0 v0_1 v0_2 v0_3).toArray) (congrArg Value.cells (asE (a29_ a0 v0_0 v0_1 v0_2 v0_3) (hρ 0)))) Z ?_)
 rintro _ _ _ - ⟨rfl,g21,rfl,rfl⟩
 refine We (EO.box (cs:=(l54 a1 v1_0 v1_1 v1_4 v1_5).toArray) (congrArg Value.cells (asE (a54_ a1 v1_0 v1_1 v1_4 v1_5) (hρ 1)))) Z ?_
 rintro _ _ _ - ⟨rfl,g22,rfl,rfl⟩
 refine qa (Bv false) (Nt ?_)
 obtain ⟨j23,hj23,h⟩:=bnd h
 refine WC.joinE (fun(_:Unit) ρ' M' H'=>M.le M'∧[(g22, .cells (l54 a1 v1_0 v1_1 v1_4 v1_5).toArray 54 (0,0))]::[(g21, .cells (l29 a0 v0_0 v0_1 v0_2 v0_3).toArray 29 (0,0))]::F=H'∧ρ' 2=(pt g21 0)∧ρ' 3=(pt g22 0)) j23 ?_ ?_
 have h323:=h
 have h:=hj23
 refine Sr (qu (pt g22 0) (Fa fo54_0 Z Z) (qu v1_0 (Lb 0 pl43 Z Z Z) (qu (pt g22 1) (Fa fo54_1 Z Z) (qu v1_1 (Lb 0 pl43 Z Z Z) (qu (pt g22 4) (Fa fo54_4 Z Z) (qu v1_4 (Lb 0 pl43 Z Z Z) (qu (pt g22 5) (Fa fo54_5 Z Z) (qu v1_5 (Lb 0 pl43 Z Z Z) (We (EO.buildSliceL (cl:=[v1_0,v1_1,v1_4,v1_5]) Tryz.underlying148 iz43 Z (Parts.cons ((congrArg Value.cells (show ev _ _=v1_0 from Z)).trans h1_0.cells) (Parts.cons ((congrArg Value.cells (show ev _ _=v1_1 from Z)).trans h1_1.cells) (Parts.cons ((congrArg Value.cells (show ev _ _=v1_4 from Z)).trans h1_4.cells) (Parts.cons ((congrArg Value.cells (show ev _ _=v1_5 from Z)).trans h1_5.cells) Pz)))) Z) Z ?_)))))))))
 rintro _ _ _ - ⟨rfl,g24,rfl,rfl⟩
 have h26:OwnS (Kd.slice (Kd.int .i64)) M (.slice (some ⟨g24,0,none⟩) 4 4) [a1.Ids,a1.Isr,a1.Add,a1.Drop] [(g24, .cells #[v1_0,v1_1,v1_4,v1_5] 43 (0,0))]:=OwnS.rows (css:=[[v1_0],[v1_1],[v1_4],[v1_5]]) (Rows.cons ⟨_,Z,h1_0⟩ (Rows.cons ⟨_,Z,h1_1⟩ (Rows.cons ⟨_,Z,h1_4⟩ (Rows.cons ⟨_,Z,h1_5⟩ Rows.nil)))) Z Z
 refine qu (Iv ([a1.Ids,a1.Isr,a1.Add,a1.Drop].length:Int)) (PO.lenS Tryz.underlying148 Z h26.len) (qm (Iv 0) (Nt (Bk (WC.f2 (WC.f2 ?_)))))
 obtain ⟨e27,he27,hK27⟩:=bnd h
 clear h
 refine WC.loop he27 (fun(x28:Int) ρ' M' H'=>M.le M'∧[(g22, .cells (l54 a1 v1_0 v1_1 v1_4 v1_5).toArray 54 (0,0))]::[(g21, .cells (l29 a0 v0_0 v0_1 v0_2 v0_3).toArray 29 (0,0))]::[(g24, .cells #[v1_0,v1_1,v1_4,v1_5] 43 (0,0))]::F=H'∧ρ' 2=(pt g21 0)∧ρ' 3=(pt g22 0)∧ρ' 21=(.slice (some ⟨g24,0,none⟩) 4 4)∧ρ' 22=(Iv ([a1.Ids,a1.Isr,a1.Add,a1.Drop].length:Int))∧ρ' 23=(Iv x28)) ?_ ?_
 exact⟨lr,Z,Z,Z,Z,Z,Z⟩
 rintro x28 o27 ρ27 M27 H27 h ⟨hle27,rfl,hs27_2,hs27_3,hs27_21,hs27_22,hs27_23⟩
 unfold f_dump_part_l0 at h
 refine Sr (qu (Bv (decide (x28<([a1.Ids,a1.Isr,a1.Add,a1.Drop].length:Int)))) (PO.lss hs27_23 hs27_22) (Nt (Cs (Ch h Z (fun hb29 h=> ?_) (fun hb29 h=> ?_)))))
 refine Ck (Tc (Cs (Bk (Sr ?_))))
 obtain ⟨hg30,h⟩:=grd_i h
 have h26:=h26.mono hle27
 obtain ⟨p31,cs32,hat33,hrc34,hhas35⟩:=h26.at hg30.1 hg30.2
 obtain ⟨vw36,rfl,hw36⟩:=hrc34
 refine qu (.pointer (some p31)) (PO.indexAddr (n:=[a1.Ids,a1.Isr,a1.Add,a1.Drop].length) Tryz.underlying148 sz43 hs27_21 hs27_23 hg30.1 hg30.2 hat33) (qu vw36 (PO.loadC 2 pl43 Z Z (chunkHas0 hhas35)) (qa vw36 (Ns (qm vw36 ?_))))
 obtain ⟨r37,hr38,h⟩:=bnd h
 refine We (Ca co90 (f_record_Brokers_ok (rd [a1.Ids,a1.Isr,a1.Add,a1.Drop] x28) _ _ hw36 r37 hr38) (args1 Z)) Z ?_
 rintro _ M39 _ hle40 ⟨_,⟨rfl,rfl⟩,rfl⟩
 refine WL.a0 (qu (Bv (!r37)) (PO.not Z) (Nt (Ch h Z (fun hb42 h=> ?_) (fun hb42 h=> ?_))))
 refine Sr (qa (Bv false) (Nt (Cr (Br (Tr (WQ.leaveR (Sum.inr ()) (oi h).symm (fun heq27=> ?_)))))))
 subst heq27
 have h:=(elimR hK27)
 refine Br (Tr ?_)
 have h:=KK.early h h323
 exact Dr (Dr (Dr (Rf h [] Z (Rs Z Z) (hle27.trans hle40) ⟨Z,Z⟩)))
 exact Ck (Bn (Tc (Cg (qu (Iv (IntKind.i64.wrap (x28+1))) (PO.add hs27_23 Z) (qm (Iv (IntKind.i64.wrap (x28+1))) (Wz (WQ.again (IntKind.i64.wrap (x28+1)) (oi h).symm ⟨(hle27.trans hle40),Z,hs27_2,hs27_3,hs27_21,hs27_22,Z⟩)))))))
 refine WC.exit (WQ.thenE (WQ.leaveE (Sum.inl ()) (oi h).symm (fun heq27=> ?_)))
 subst heq27
 have h:=elimL hK27
 exact WQ.blockH (Qb (Dr (WQ.thenFE h ⟨hle27,Z,hs27_2,hs27_3⟩)))
 rintro _ ρ23 M23 H23 rfl ⟨hle23,rfl,hs23_2,hs23_3⟩
 have h:=(Sum.elim_inl _ _ _).symm.trans h
 obtain ⟨j43,hj43,h⟩:=bnd h
 refine WC.joinE (fun(_:Unit) ρ' M' H'=>M23.le M'∧[(g22, .cells (l54 a1 v1_0 v1_1 v1_4 v1_5).toArray 54 (0,0))]::[(g21, .cells (l29 a0 v0_0 v0_1 v0_2 v0_3).toArray 29 (0,0))]::F=H'∧ρ' 2=(pt g21 0)∧ρ' 3=(pt g22 0)) j43 ?_ ?_
 have h343:=h
 have h:=hj43
 refine Sr (qu (pt g22 0) (Fa fo54_0 hs23_3 Z) (qu v1_0 (Lb 0 pl43 Z Z Z) ?_))
 have h1_0:=h1_0.mono hle23
 refine qu (Iv (a1.Ids.length:Int)) (PO.lenS Tryz.underlying43 Z h1_0.len) (qm (Iv 0) (Nt (Bk ?_)))
 obtain ⟨e44,he44,hK44⟩:=bnd h
 clear h
 refine WC.loop he44 (fun(x45:Int) ρ' M' H'=>M23.le M'∧[(g22, .cells (l54 a1 v1_0 v1_1 v1_4 v1_5).toArray 54 (0,0))]::[(g21, .cells (l29 a0 v0_0 v0_1 v0_2 v0_3).toArray 29 (0,0))]::F=H'∧ρ' 2=(pt g21 0)∧ρ' 3=(pt g22 0)∧ρ' 32=v1_0∧ρ' 33=(Iv (a1.Ids.length:Int))∧ρ' 34=(Iv x45)) ?_ ?_
 exact⟨lr,Z,hs23_2,hs23_3,Z,Z,Z⟩
 rintro x45 o44 ρ44 M44 H44 h ⟨hle44,rfl,hs44_2,hs44_3,hs44_32,hs44_33,hs44_34⟩
 unfold f_dump_part_l1 at h
 refine Sr (qu (Bv (decide (x45<(a1.Ids.length:Int)))) (PO.lss hs44_34 hs44_33) (Nt (Cs (Ch h Z (fun hb46 h=> ?_) (fun hb46 h=> ?_)))))
 refine Ck (Tc (Cs (Bk (Sr ?_))))
 obtain ⟨hg47,h⟩:=grd_i h
 have h1_0:=h1_0.mono hle44
 obtain ⟨p48,cs49,hat50,hrc51,hhas52⟩:=h1_0.at hg47.1 hg47.2 (by decide)
 obtain rfl:=hrc51
 refine qu (.pointer (some p48)) (PO.indexAddr (n:=a1.Ids.length) Tryz.underlying43 sz3 hs44_32 hs44_34 hg47.1 hg47.2 hat50) (qu (Iv (rd a1.Ids x45)) (PO.loadM pl3 Z (IM.has0 hhas52)) (qa (Iv (rd a1.Ids x45)) (Ns (qu (a29_ a0 v0_0 v0_1 v0_2 v0_3) (La (cs:=(l29 a0 v0_0 v0_1 v0_2 v0_3)) 1 ag29 sz29 hs44_2 Z Z) (qm (Iv (rd a1.Ids x45)) ?_)))))
 obtain ⟨⟨r54,r55⟩,hr56,h⟩:=bnd h
 have h0_0:=h0_0.mono (hle23.trans hle44)
 have h0_1:=h0_1.mono (hle23.trans hle44)
 have h0_2:=h0_2.mono (hle23.trans hle44)
 have h0_3:=h0_3.mono (hle23.trans hle44)
 refine We (Ca co91 (f_image_Broker_ok a0 (rd a1.Ids x45) _ _ _ _ _ h0_0 h0_1 h0_2 h0_3 (r54,r55) hr56) (args2 Z Z)) Z ?_
 rintro _ M57 _ hle58 ⟨_,⟨rfl,rfl⟩,rfl⟩
 refine WL.a0 (qm (.tuple #[(a59_ r54),(Bv r55)]) (qu (a59_ r54) (Xt Z Z) (qu (Bv r55) (Xt Z Z) (We (Al ze59 Z) Z ?_))))
 rintro _ _ _ - ⟨rfl,g61,rfl,rfl⟩
 refine We (Sg (v:=(a59_ r54)) (vl:=(l59 r54)) (arr':=(l59 r54)) Z sz59 Z Z (onb Z) Z Z Z) Z ?_
 rintro _ _ _ - ⟨rfl,rfl⟩
 refine qa (Bv r55) (Ns (qm (Bv r55) (qu (Bv (!r55)) (PO.not Z) (Nt (Ch h Z (fun hb62 h=> ?_) (fun hb62 h=> ?_))))))
 refine Sr (qa (Bv false) (Nt (Cr (Br (Tr (WQ.leaveR (Sum.inr ()) (oi h).symm (fun heq44=> ?_)))))))
 subst heq44
 have h:=(elimR hK44)
 refine Br (Tr ?_)
 have h:=KK.early h h343
 exact Dr (Dr (Dr (Rf h [] Z (Rs Z Z) ((hle23.trans hle44).trans hle58) ⟨Z,Z⟩)))
 exact Ck (Bn (Tc (Cg (qu (Iv (IntKind.i64.wrap (x45+1))) (PO.add hs44_34 Z) (qm (Iv (IntKind.i64.wrap (x45+1))) (Wz (Dr (WQ.again (IntKind.i64.wrap (x45+1)) (oi h).symm ⟨(hle44.trans hle58),Z,hs44_2,hs44_3,hs44_32,hs44_33,Z⟩))))))))
 refine WC.exit (WQ.thenE (WQ.leaveE (Sum.inl ()) (oi h).symm (fun heq44=> ?_)))
 subst heq44
 have h:=elimL hK44
 exact WQ.blockH (WQ.thenFE h ⟨hle44,Z,hs44_2,hs44_3⟩)
 rintro _ ρ43 M43 H43 rfl ⟨hle43,rfl,hs43_2,hs43_3⟩
 have L43:=hle23.trans hle43
 have h:=(Sum.elim_inl _ _ _).symm.trans h
 refine Cs (Bk ?_)
 obtain ⟨x63,hj64,h⟩:=bnd h
 refine Jf (fun(x63:Bool) ρ' M' H'=>M43.le M'∧[(g22, .cells (l54 a1 v1_0 v1_1 v1_4 v1_5).toArray 54 (0,0))]::[(g21, .cells (l29 a0 v0_0 v0_1 v0_2 v0_3).toArray 29 (0,0))]::F=H'∧ρ' 2=(pt g21 0)∧ρ' 3=(pt g22 0)∧ρ' 47=(Bv x63)) x63 ?_ ?_
 have h:=hj64
 refine Cg (qu (pt g22 0) (Fa fo54_0 hs43_3 Z) (qu v1_0 (Lb 0 pl43 Z Z Z) ?_))
 have h1_0:=h1_0.mono L43
 refine qu (Iv (a1.Ids.length:Int)) (PO.lenS Tryz.underlying43 Z h1_0.len) (qu (Bv (decide ((a1.Ids.length:Int)=(0:Int)))) (PO.eql Z Z) (qm (Bv (decide ((a1.Ids.length:Int)=(0:Int)))) ?_))
 rcases Bi h with⟨hb65,h⟩ |⟨hb65,h⟩
 iterate 4 refine Of 52 Z Z hb65 Z ?_
 refine qu (Bv true) (Pt Z hb65 Z) (qm (Bv true) ?_)
 iterate 3 refine Of 58 Z Z Z Z ?_
 refine qu (Bv true) (Pt Z Z Z) (qm (Bv true) ?_)
 iterate 3 refine Of 63 Z Z Z Z ?_
 refine qu (Bv true) (Pt Z Z Z) (qa (Bv true) (Wz ?_))
 obtain rfl:=oi h
 exact Tj ⟨lr,Z,hs43_2,hs43_3,Z⟩
 refine qo 52 hb65 (pt g22 1) (Fa fo54_1 hs43_3 Z) (qo 52 hb65 v1_1 (Lb 0 pl43 Z Z Z) (On 52 Z Z hb65 ?_))
 have h1_1:=h1_1.mono L43
 refine qu (Iv (a1.Isr.length:Int)) (PO.lenS Tryz.underlying43 Z h1_1.len) (qo 52 hb65 (Bv (decide ((a1.Isr.length:Int)=(0:Int)))) (PO.eql Z Z) (qu (Bv (decide ((a1.Isr.length:Int)=(0:Int)))) (Pf Z hb65 Z) (qm (Bv (decide ((a1.Isr.length:Int)=(0:Int)))) ?_)))
 rcases Bi h with⟨hb66,h⟩ |⟨hb66,h⟩
 iterate 3 refine Of 58 Z Z hb66 Z ?_
 refine qu (Bv true) (Pt Z hb66 Z) (qm (Bv true) ?_)
 iterate 3 refine Of 63 Z Z Z Z ?_
 refine qu (Bv true) (Pt Z Z Z) (qa (Bv true) (Wz ?_))
 obtain rfl:=oi h
 exact Tj ⟨lr,Z,hs43_2,hs43_3,Z⟩
 refine qo 58 hb66 (pt g22 3) (Fa fo54_3 hs43_3 Z) (qo 58 hb66 (Iv a1.Epoch) (Lb 0 pl3 Z Z Z) (qo 58 hb66 (Bv (decide (a1.Epoch<0))) (PO.lss Z Z) (qu (Bv (decide (a1.Epoch<0))) (Pf Z hb66 Z) (qm (Bv (decide (a1.Epoch<0))) ?_))))
 rcases Bi h with⟨hb67,h⟩ |⟨hb67,h⟩
 iterate 3 refine Of 63 Z Z hb67 Z ?_
 refine qu (Bv true) (Pt Z hb67 Z) (qa (Bv true) (Wz ?_))
 obtain rfl:=oi h
 exact Tj ⟨lr,Z,hs43_2,hs43_3,Z⟩
 refine qo 63 hb67 (pt g22 3) (Fa fo54_3 hs43_3 Z) (qo 63 hb67 (Iv a1.Epoch) (Lb 0 pl3 Z Z Z) (qo 63 hb67 (Bv (decide ((1073741824:Int)<a1.Epoch))) (PO.gtr Z Z) (qu (Bv (decide ((1073741824:Int)<a1.Epoch))) (Pf Z hb67 Z) (qa (Bv (decide ((1073741824:Int)<a1.Epoch))) (Wz ?_)))))
 obtain rfl:=oi h
 exact Tj ⟨lr,Z,hs43_2,hs43_3,Z⟩
 rintro ρ64 M64 H64 ⟨hle64,rfl,hs64_2,hs64_3,hs64_47⟩
 have L64:=L43.trans hle64
 refine Ch h hs64_47 (fun hb68 h=> ?_) (fun hb68 h=> ?_)
 exact Sr (qa (Bv false) (Nt (Cr (Br (Tr (Dr (Dr (Rf h [] Z (Rs Z Z) L64 ⟨Z,Z⟩))))))))
 obtain ⟨x69,hj70,h⟩:=bnd h
 refine Jf (fun(x69:Bool) ρ' M' H'=>M64.le M'∧[(g22, .cells (l54 a1 v1_0 v1_1 v1_4 v1_5).toArray 54 (0,0))]::[(g21, .cells (l29 a0 v0_0 v0_1 v0_2 v0_3).toArray 29 (0,0))]::F=H'∧ρ' 2=(pt g21 0)∧ρ' 3=(pt g22 0)∧ρ' 68=(Bv x69)) x69 ?_ ?_
 have h:=hj70
 refine Cg (qu (pt g22 1) (Fa fo54_1 hs64_3 Z) (qu v1_1 (Lb 0 pl43 Z Z Z) (qu (pt g22 0) (Fa fo54_0 hs64_3 Z) (qu v1_0 (Lb 0 pl43 Z Z Z) ?_))))
 obtain ⟨r71,hr72,h⟩:=bnd h
 have h1_1:=h1_1.mono L64
 have h1_0:=h1_0.mono L64
 refine We (Ca co92 (f_dump_within_ok a1.Isr a1.Ids _ _ _ h1_1 h1_0 r71 hr72) (args2 Z Z)) Z ?_
 rintro _ M73 _ hle74 ⟨_,⟨rfl,rfl⟩,rfl⟩
 refine WL.a0 (qu (Bv (!r71)) (PO.not Z) (qm (Bv (!r71)) ?_))
 rcases Bi h with⟨hb76,h⟩ |⟨hb76,h⟩
 iterate 6 refine Of 75 Z Z hb76 Z ?_
 refine qu (Bv true) (Pt Z hb76 Z) (qm (Bv true) ?_)
 iterate 6 refine Of 83 Z Z Z Z ?_
 refine qu (Bv true) (Pt Z Z Z) (qa (Bv true) (Wz ?_))
 obtain rfl:=oi h
 exact Tj ⟨hle74,Z,hs64_2,hs64_3,Z⟩
 refine qo 75 hb76 (pt g22 4) (Fa fo54_4 hs64_3 Z) (qo 75 hb76 v1_4 (Lb 0 pl43 Z Z Z) (qo 75 hb76 (pt g22 0) (Fa fo54_0 hs64_3 Z) (qo 75 hb76 v1_0 (Lb 0 pl43 Z Z Z) (On 75 Z Z hb76 ?_))))
 obtain ⟨r77,hr78,h⟩:=bnd h
 have h1_4:=h1_4.mono (L64.trans hle74)
 have h1_0:=h1_0.mono hle74
 refine We (Ca co92 (f_dump_within_ok a1.Add a1.Ids _ _ _ h1_4 h1_0 r77 hr78) (args2 Z Z)) Z ?_
 rintro _ M79 _ hle80 ⟨_,⟨rfl,rfl⟩,rfl⟩
 refine WL.a0 (qo 75 hb76 (Bv (!r77)) (PO.not Z) (qu (Bv (!r77)) (Pf Z hb76 Z) (qm (Bv (!r77)) ?_)))
 rcases Bi h with⟨hb82,h⟩ |⟨hb82,h⟩
 iterate 6 refine Of 83 Z Z hb82 Z ?_
 refine qu (Bv true) (Pt Z hb82 Z) (qa (Bv true) (Wz ?_))
 obtain rfl:=oi h
 exact Tj ⟨(hle74.trans hle80),Z,hs64_2,hs64_3,Z⟩
 refine qo 83 hb82 (pt g22 5) (Fa fo54_5 hs64_3 Z) (qo 83 hb82 v1_5 (Lb 0 pl43 Z Z Z) (qo 83 hb82 (pt g22 0) (Fa fo54_0 hs64_3 Z) (qo 83 hb82 v1_0 (Lb 0 pl43 Z Z Z) (On 83 Z Z hb82 ?_))))
 obtain ⟨r83,hr84,h⟩:=bnd h
 have h1_5:=h1_5.mono ((L64.trans hle74).trans hle80)
 have h1_0:=h1_0.mono hle80
 refine We (Ca co92 (f_dump_within_ok a1.Drop a1.Ids _ _ _ h1_5 h1_0 r83 hr84) (args2 Z Z)) Z ?_
 rintro _ M85 _ hle86 ⟨_,⟨rfl,rfl⟩,rfl⟩
 refine WL.a0 (qo 83 hb82 (Bv (!r83)) (PO.not Z) (qu (Bv (!r83)) (Pf Z hb82 Z) (qa (Bv (!r83)) (Wz ?_))))
 obtain rfl:=oi h
 exact Tj ⟨((hle74.trans hle80).trans hle86),Z,hs64_2,hs64_3,Z⟩
 rintro ρ70 M70 H70 ⟨hle70,rfl,hs70_2,hs70_3,hs70_68⟩
 have L70:=L64.trans hle70
 refine Ch h hs70_68 (fun hb88 h=> ?_) (fun hb88 h=> ?_)
 exact Sr (qa (Bv false) (Nt (Cr (Br (Tr (Dr (Dr (Rf h [] Z (Rs Z Z) L70 ⟨Z,Z⟩))))))))
 obtain ⟨x89,hj90,h⟩:=bnd h
 refine Jf (fun(x89:Bool) ρ' M' H'=>M70.le M'∧[(g22, .cells (l54 a1 v1_0 v1_1 v1_4 v1_5).toArray 54 (0,0))]::[(g21, .cells (l29 a0 v0_0 v0_1 v0_2 v0_3).toArray 29 (0,0))]::F=H'∧ρ' 3=(pt g22 0)∧ρ' 91=(Bv x89)) x89 ?_ ?_
 have h:=hj90
 refine Cg (qu (pt g22 2) (Fa fo54_2 hs70_3 Z) (qu (Iv a1.Leader) (Lb 0 pl3 Z Z Z) (qu (Bv (decide (a1.Leader≠0))) (PO.neq Z Z) (qm (Bv (decide (a1.Leader≠0))) ?_))))
 rcases Bi h with⟨hb91,h⟩ |⟨hb91,h⟩
 refine qo 95 hb91 (pt g22 2) (Fa fo54_2 hs70_3 Z) (qo 95 hb91 (Iv a1.Leader) (Lb 0 pl3 Z Z Z) (On 95 Z Z hb91 (We (EO.buildSliceL (cl:=[(Iv a1.Leader)]) Tryz.underlying43 iz3 Z (Pc (Iv a1.Leader) Z Z Pz) Z) Z ?_)))
 rintro _ _ _ - ⟨rfl,g92,rfl,rfl⟩
 have h94:OwnS (Kd.int .i64) M70 (.slice (some ⟨g92,0,none⟩) 1 1) [a1.Leader] [(g92, .cells #[(Iv a1.Leader)] 3 (0,0))]:=OwnS.rows (css:=[[(Iv a1.Leader)]]) (Rows.cons Z Rows.nil) Z Z
 refine qo 95 hb91 (pt g22 1) (Fa fo54_1 hs70_3 Z) (qo 95 hb91 v1_1 (Lb 1 pl43 Z Z Z) (On 95 Z Z hb91 ?_))
 obtain ⟨r95,hr96,h⟩:=bnd h
 have h1_1:=h1_1.mono L70
 refine We (Cb co92 (Tri.lend h94.excl fun w0_ H0_ hs0_=>(f_dump_within_ok [a1.Leader] a1.Isr _ _ _ (h94.rs hs0_) (h1_1.mono (IM.le_add _ _)) r95 hr96)) (args2 Z Z)) Z ?_
 rintro _ _ _ hle98 ⟨_,⟨Ml100,Hl101,hll102,rfl,rfl,⟨rfl,rfl⟩⟩,rfl⟩
 have L98:=L70.trans hle98
 refine WL.a1 (qo 95 hb91 (Bv (!r95)) (PO.not Z) (On 95 Z Z hb91 (qm (Bv (!r95)) ?_)))
 rcases Bi h with⟨hb103,h⟩ |⟨hb103,h⟩
 iterate 5 refine Of 103 Z Z hb103 Z ?_
 refine qo 95 hb91 (Bv true) (Pt Z hb103 Z) (qu (Bv true) (Pt Z hb91 Z) (qa (Bv true) (Wz (Dr ?_))))
 obtain rfl:=oi h
 exact Tj ⟨hle98,Z,hs70_3,Z⟩
 refine qo 103 hb103 (a29_ a0 v0_0 v0_1 v0_2 v0_3) (La (cs:=(l29 a0 v0_0 v0_1 v0_2 v0_3)) 2 ag29 sz29 hs70_2 Z Z) (qo 103 hb103 (pt g22 2) (Fa fo54_2 hs70_3 Z) (qo 103 hb103 (Iv a1.Leader) (Lb 1 pl3 Z Z Z) (On 103 Z Z hb103 ?_)))
 obtain ⟨r104,hr105,h⟩:=bnd h
 have h0_0:=h0_0.mono L98
 have h0_1:=h0_1.mono L98
 have h0_2:=h0_2.mono L98
 have h0_3:=h0_3.mono L98
 refine We (Ca co93 (f_image_Alive_ok a0 a1.Leader _ _ _ _ _ h0_0 h0_1 h0_2 h0_3 r104 hr105) (args2 Z Z)) Z ?_
 rintro _ M106 _ hle107 ⟨_,⟨rfl,rfl⟩,rfl⟩
 refine WL.a0 (qo 103 hb103 (Bv (!r104)) (PO.not Z) (qo 95 hb91 (Bv (!r104)) (Pf Z hb103 Z) (qu (Bv (!r104)) (Pt Z hb91 Z) (qa (Bv (!r104)) (Wz (Dr ?_))))))
 obtain rfl:=oi h
 exact Tj ⟨(hle98.trans hle107),Z,hs70_3,Z⟩
 iterate 8 refine Of 95 Z Z hb91 Z ?_
 refine WL.offU 103 Z Z Z (WL.offU 103 Z Z Z (WL.offU 103 Z Z Z (WL.offU 103 Z Z Z (WL.offU 103 Z Z Z (Of 95 Z Z hb91 Z (qu (Bv false) (Pf Z hb91 Z) (qa (Bv false) (Wz ?_))))))))
 obtain rfl:=oi h
 exact Tj ⟨lr,Z,hs70_3,Z⟩
 rintro ρ90 M90 H90 ⟨hle90,rfl,hs90_3,hs90_91⟩
 have L90:=L70.trans hle90
 refine Ch h hs90_91 (fun hb109 h=> ?_) (fun hb109 h=> ?_)
 exact Sr (qa (Bv false) (Nt (Cr (Br (Tr (Dr (Dr (Rf h [] Z (Rs Z Z) L90 ⟨Z,Z⟩))))))))
 refine Ck (Bn (Tc ?_))
 obtain ⟨j110,hj110,h⟩:=bnd h
 refine WC.joinE (fun(_:Unit) ρ' M' H'=>M90.le M'∧[(g22, .cells (l54 a1 v1_0 v1_1 v1_4 v1_5).toArray 54 (0,0))]::[(g21, .cells (l29 a0 v0_0 v0_1 v0_2 v0_3).toArray 29 (0,0))]::F=H') j110 ?_ ?_
 have h3110:=h
 have h:=hj110
 refine Sr (qu (pt g22 4) (Fa fo54_4 hs90_3 Z) (qu v1_4 (Lb 0 pl43 Z Z Z) ?_))
 have h1_4:=h1_4.mono L90
 refine qu (Iv (a1.Add.length:Int)) (PO.lenS Tryz.underlying43 Z h1_4.len) (qm (Iv 0) (Nt (Bk ?_)))
 obtain ⟨e111,he111,hK111⟩:=bnd h
 clear h
 refine WC.loop he111 (fun(x112:Int) ρ' M' H'=>M90.le M'∧[(g22, .cells (l54 a1 v1_0 v1_1 v1_4 v1_5).toArray 54 (0,0))]::[(g21, .cells (l29 a0 v0_0 v0_1 v0_2 v0_3).toArray 29 (0,0))]::F=H'∧ρ' 3=(pt g22 0)∧ρ' 112=v1_4∧ρ' 113=(Iv (a1.Add.length:Int))∧ρ' 114=(Iv x112)) ?_ ?_
 exact⟨lr,Z,hs90_3,Z,Z,Z⟩
 rintro x112 o111 ρ111 M111 H111 h ⟨hle111,rfl,hs111_3,hs111_112,hs111_113,hs111_114⟩
 unfold f_dump_part_l2 at h
 refine Sr (qu (Bv (decide (x112<(a1.Add.length:Int)))) (PO.lss hs111_114 hs111_113) (Nt (Cs (Ch h Z (fun hb113 h=> ?_) (fun hb113 h=> ?_)))))
 refine Ck (Tc (Cs (Bk (Sr ?_))))
 obtain ⟨hg114,h⟩:=grd_i h
 have h1_4:=h1_4.mono hle111
 obtain ⟨p115,cs116,hat117,hrc118,hhas119⟩:=h1_4.at hg114.1 hg114.2 (by decide)
 obtain rfl:=hrc118
 refine qu (.pointer (some p115)) (PO.indexAddr (n:=a1.Add.length) Tryz.underlying43 sz3 hs111_112 hs111_114 hg114.1 hg114.2 hat117) (qu (Iv (rd a1.Add x112)) (PO.loadM pl3 Z (IM.has0 hhas119)) (qa (Iv (rd a1.Add x112)) (Ns (qm (Iv (rd a1.Add x112)) (We (EO.buildSliceL (cl:=[(Iv (rd a1.Add x112))]) Tryz.underlying43 iz3 Z (Pc (Iv (rd a1.Add x112)) Z Z Pz) Z) Z ?_)))))
 rintro _ _ _ - ⟨rfl,g121,rfl,rfl⟩
 have h123:OwnS (Kd.int .i64) M111 (.slice (some ⟨g121,0,none⟩) 1 1) [(rd a1.Add x112)] [(g121, .cells #[(Iv (rd a1.Add x112))] 3 (0,0))]:=OwnS.rows (css:=[[(Iv (rd a1.Add x112))]]) (Rows.cons Z Rows.nil) Z Z
 refine qu (pt g22 5) (Fa fo54_5 hs111_3 Z) (qu v1_5 (Lb 1 pl43 Z Z Z) ?_)
 obtain ⟨r124,hr125,h⟩:=bnd h
 have h1_5:=h1_5.mono (L90.trans hle111)
 refine We (Cb co92 (Tri.lend h123.excl fun w0_ H0_ hs0_=>(f_dump_within_ok [(rd a1.Add x112)] a1.Drop _ _ _ (h123.rs hs0_) (h1_5.mono (IM.le_add _ _)) r124 hr125)) (args2 Z Z)) Z ?_
 rintro _ _ _ hle127 ⟨_,⟨Ml129,Hl130,hll131,rfl,rfl,⟨rfl,rfl⟩⟩,rfl⟩
 refine WL.a1 (Nt (Ch h Z (fun hb132 h=> ?_) (fun hb132 h=> ?_)))
 refine Sr (qa (Bv false) (Nt (Cr (Br (Tr (WQ.leaveR (Sum.inr ()) (oi h).symm (fun heq111=> ?_)))))))
 subst heq111
 have h:=(elimR hK111)
 refine Br (Tr ?_)
 have h:=KK.early h h3110
 exact Dr (Dr (Dr (Rf h [] Z (Rs Z Z) ((L90.trans hle111).trans hle127) ⟨Z,Z⟩)))
 exact Ck (Bn (Tc (Cg (qu (Iv (IntKind.i64.wrap (x112+1))) (PO.add hs111_114 Z) (qm (Iv (IntKind.i64.wrap (x112+1))) (Wz (Dr (WQ.again (IntKind.i64.wrap (x112+1)) (oi h).symm ⟨(hle111.trans hle127),Z,hs111_3,hs111_112,hs111_113,Z⟩))))))))
 refine WC.exit (WQ.thenE (WQ.leaveE (Sum.inl ()) (oi h).symm (fun heq111=> ?_)))
 subst heq111
 have h:=elimL hK111
 exact WQ.blockH (WQ.thenFE h ⟨hle111,Z⟩)
 rintro _ ρ110 M110 H110 rfl ⟨hle110,rfl⟩
 have h:=(Sum.elim_inl _ _ _).symm.trans h
 exact Sr (qa (Bv true) (Nt (Cr (Dr (Dr (Rf h [] Z (Rs Z Z) (L90.trans hle110) ⟨Z,Z⟩))))))
noncomputable def f_fault_Wrap (a0:ByteArray) (a1:Int) (a2:GErr):Option GErr:=
 (if a2.isNil=true then(some GErr.nil)else(some (GErr.fault a0 a1 a2)))
def f_fault_Wrap_post (a0:ByteArray) (a1:Int) (a2:GErr):GErr→Value→IM→HL→Prop:=
 fun(r0:GErr) (v:Value) (M':IM) (H':HL)=>(GV r0)=v∧H'=[]
theorem f_fault_Wrap_ok (a0:ByteArray) (a1:Int) (a2:GErr) (M:IM) (res:GErr) (h:f_fault_Wrap a0 a1 a2=some res):
 Tri Tryz.prog 38 #[(Sv a0),(Iv a1),(GV a2)] M [] (f_fault_Wrap_post a0 a1 a2 res):=by
 unfold f_fault_Wrap at h
 refine Te Tryz.func38 Z Z ?_
 intro F ρ hρ
 refine Sr (qa (GV GErr.nil) (Nt (Cs (Sr (qM (GV a2) (hρ 2) (qu (Bv a2.isNil) (PO.errNil Tryz.underlying33 Z) (Nt (Ch h Z (fun hb21 h=> ?_) (fun hb21 h=> ?_)))))))))
 exact Sr (qa (GV GErr.nil) (Nt (Cr (Tr (Rf h [] Z (Rs Z Z) lr ⟨Z,Z⟩)))))
 exact Ck (Tc (Sr (qM (Sv a0) (hρ 0) (qM (Iv a1) (hρ 1) (qM (GV a2) (hρ 2) (qu (.agg #[(Sv a0),(Iv a1),(GV a2)]) (Bl (cl:=[(Sv a0),(Iv a1),(GV a2)]) ze104 fp104 (Pc (Sv a0) Z Z (Pc (Iv a1) Z Z (Parts.cons ((congrArg Value.cells (show ev _ _=(GV a2) from Z)).trans (GErr.val_cells _ _ _ _)) Pz))) Z) (qu (GV (GErr.fault a0 a1 a2)) (PO.makeInterface cc104 Z) (qa (GV (GErr.fault a0 a1 a2)) (Nt (Cr (Rf h [] Z (Rs Z Z) lr ⟨Z,Z⟩)))))))))))

end Go.Proofs.YtpcbipcdfccnnaaGreat.G
